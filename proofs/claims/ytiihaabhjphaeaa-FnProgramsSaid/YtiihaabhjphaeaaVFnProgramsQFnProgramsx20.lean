/- Printed by a program of the session. Conditions: none. (squeezed). -/
import Derived.Test.YtiihaabhjphaeaaVFnProgramsQFnProgramsx13
import Derived.Test.YtiihaabhjphaeaaVFnProgramsQFnProgramsx19
namespace Go.Proofs.Ytiihaabhjphaeaa.QFnPrograms
set_option maxHeartbeats 8000000
set_option maxRecDepth 100000
open Go.RowKit Go.Proofs.YtiihaabhjphaeaaW.PrintWords Go.Proofs.YtiihaabhjphaeaaW.PrintLast Go.Proofs.YtiihaabhjphaeaaW.PrintMore Go.Proofs.Ytiihaabhjphaeaa.Open Go.Proofs.Ytiihaabhjphaeaa.Sq Go.Proofs.Ytiihaabhjphaeaa
attribute [local go_sem] max2_int min2_int max_two min_two max_three min_three max_four min_four   -- for this text's walks alone
attribute [local go_sem] isSome_set
set_option linter.unusedVariables false
set_option linter.unusedSimpArgs false

mutual
def spec_BuildProgram.j0 : Nat → List (S137) → Int → Int → Int → Int → Int → Bool → Option (Int × Int × Int × (List (S105)) × Bool)
  | 0, _, _, _, _, _, _, _ => none
  | k + 1, x0, x1, x2, x3, x4, x5, x28 => if x28 = true then (some (0, 0, 0, ([] : List (S105)), false)) else ((spec_PiecesOf.f k x0 x3 x4).bind fun t670 => ((spec_l1In.f (t670.length : Int) 1 40).bind fun t673 => (if t673 = true then (spec_BuildProgram.l0 k x0 x1 x2 t670 0 x1 x2 x5 ([] : List (S105))) else (some (0, 0, 0, ([] : List (S105)), false)))))
def spec_BuildProgram.l0 : Nat → List (S137) → Int → Int → List (S102) → Int → Int → Int → Int → List (S105) → Option (Int × Int × Int × (List (S105)) × Bool)
  | 0, _, _, _, _, _, _, _, _, _ => none
  | k + 1, x0, x1, x2, x14, x16, x675000, x675001, x675002, x675003 => if x16 < (x14.length : Int) then (if 0 ≤ x16 then ((spec_LinksAt.f k x0 ((rd_T102 x14 x16).f0)).bind fun t676 => ((spec_l17Tables.f k t676 x1 x2).bind fun t680 => (if x675003.length < 2199023255552 then (spec_BuildProgram.l0 k x0 x1 x2 x14 (wrap64 (x16 + 1)) x675000 x675001 x675002 (x675003 ++ [(⟨(⟨(rd_T102 x14 x16).f0, (rd_T102 x14 x16).f1⟩ : S102), t676, t680⟩ : S105)])) else (none)))) else (none)) else (some (x675000, x675001, x675002, x675003, true))
end
def spec_BuildProgram.f (k : Nat) (l0 : List (S137)) (a1 : Int) (a2 : Int) (a3 : Int) (a4 : Int) (a5 : Int) : Option (Int × Int × Int × (List (S105)) × Bool) := (spec_l17Frame.f a1 a2 a5).bind fun t668 => (if t668 = true then ((spec_IsPlan.f k l0 a1).bind fun t669 => (spec_BuildProgram.j0 k l0 a1 a2 a3 a4 a5 (!t669))) else (spec_BuildProgram.j0 k l0 a1 a2 a3 a4 a5 true))
theorem spec_BuildProgram.mono_l : ∀ k, (∀ y0 y1 y2 y3 y4 y5 y6, LeO (spec_BuildProgram.j0 k y0 y1 y2 y3 y4 y5 y6) (spec_BuildProgram.j0 (k + 1) y0 y1 y2 y3 y4 y5 y6)) ∧ (∀ y0 y1 y2 y3 y4 y5 y6 y7 y8, LeO (spec_BuildProgram.l0 k y0 y1 y2 y3 y4 y5 y6 y7 y8) (spec_BuildProgram.l0 (k + 1) y0 y1 y2 y3 y4 y5 y6 y7 y8))
  | 0 => ⟨fun _ _ _ _ _ _ _ r h => by simp [spec_BuildProgram.j0] at h, fun _ _ _ _ _ _ _ _ _ r h => by simp [spec_BuildProgram.l0] at h⟩
  | k + 1 => by
    obtain ⟨ih0, ih1⟩ := spec_BuildProgram.mono_l k
    refine ⟨?_, ?_⟩
    · intro y0 y1 y2 y3 y4 y5 y6
      unfold spec_BuildProgram.j0
      have m0 := @spec_IsPlan.mono
      have m1 := @spec_LinksAt.mono
      have m2 := @spec_PiecesOf.mono
      have m3 := @spec_l17Tables.mono
      exact mo
    · intro y0 y1 y2 y3 y4 y5 y6 y7 y8
      unfold spec_BuildProgram.l0
      have m0 := @spec_IsPlan.mono
      have m1 := @spec_LinksAt.mono
      have m2 := @spec_PiecesOf.mono
      have m3 := @spec_l17Tables.mono
      exact mo
theorem spec_BuildProgram.mono : ∀ a0 a1 a2 a3 a4 a5 k, LeO (spec_BuildProgram.f k a0 a1 a2 a3 a4 a5) (spec_BuildProgram.f (k + 1) a0 a1 a2 a3 a4 a5) := by
  intro a0 a1 a2 a3 a4 a5 k
  obtain ⟨ih0, ih1⟩ := spec_BuildProgram.mono_l k
  unfold spec_BuildProgram.f
  have m0 := @spec_IsPlan.mono
  have m1 := @spec_LinksAt.mono
  have m2 := @spec_PiecesOf.mono
  have m3 := @spec_l17Tables.mono
  exact mo
def spec_BuildProgram.T11 : Bool × List (List Nat × List Nat) := (true, [([], []), ([0], [0]), ([], []), ([], []), ([2, 3], [2, 3]), ([4], [4]), ([], []), ([], []), ([], []), ([], []), ([7, 8, 9], [7, 8, 9]), ([5, 6, 10], [5, 6, 10]), ([11], [11]), ([1, 12, 10], [1, 12]), ([0, 1, 2, 3, 4, 5, 6, 7, 8, 9, 10, 11, 12, 13], []), ([14, 13, 13, 0, 1, 2, 3, 4, 5, 6, 7, 8, 9, 10, 11, 12, 13], [13, 14])])
def spec_BuildProgram.B11 : List Nat := [0, 1, 0, 0, 12, 28, 0, 0, 0, 0, 896, 2044, 4092, 8191, 16383, 32767]
theorem spec_BuildProgram.tab11 : rtab .any (opsOf Try.f46 11) = spec_BuildProgram.T11 := by kernel_rfl
theorem spec_BuildProgram.bits11 : waitsOk spec_BuildProgram.T11.2 spec_BuildProgram.B11 = true := by kernel_rfl
theorem spec_BuildProgram.calls (k : Nat) (A0 : Option Addr) (c0 : Nat) (l0 : List (S137)) (a1 : Int) (a2 : Int) (a3 : Int) (a4 : Int) (a5 : Int) (r1 : Int) (r2 : Int) (r3 : Int) (r4 : List (S105)) (r5 : Bool) (w : World) (hr0 : Kd.C k137 w A0 l0.length l0) (hc0 : l0.length ≤ c0) (h : spec_BuildProgram.f k l0 a1 a2 a3 a4 a5 = some (r1, r2, r3, r4, r5)) :
    Calls Try.prog 46 #[.slice A0 l0.length c0, .int .i64 a1, .int .i64 a2, .int .i64 a3, .int .i64 a4, .int .i64 a5] w fun e w' => ∃ v3_ : Value, e = .returned (.tuple #[.agg #[.int .i64 r1, .int .i64 r2, .int .i64 r3, v3_], .bool r5]) ∧ Kd.S k105 105 w' w.heap.size (fun _ => True) v3_ r4 ∧ Below w.heap.size w w' := by
 have hu31 := Try.underlying31
 have hu102 := Try.underlying102
 have hu105 := Try.underlying105
 have HR0 := am hr0
 have HC0 := am hc0
 clear hr0 hc0
 have HB := am (Below.refl w.heap.size w)
 have H := h; unfold spec_BuildProgram.f at H
 clear h
 have HC7 := am H
 clear H
 go_enter Try.func46, Try.ntmps46
 go_upto_region 1 with (first | ((with_reducible refine gd 12 rfl ?_); refine bx 12 #[.int .i64 0, .int .i64 0, .int .i64 0, .slice none 0 0] 31 ?_; intro gb667 hg w8 hbox hb; have GW667 := bz w hg; have GE667 := bz w hg; replace HB := bs hb; have BK667 := am hbox; clear hb hbox hg))
 (try simp only [Act.put, List.setIfInBounds_toArray, List.set_cons_zero, List.set_cons_succ])
 go_cut [28] (fun v28 wc => ∃ (kq : Nat) (x28_6 : Bool), v28 = .bool x28_6 ∧ Aside0 (spec_BuildProgram.j0 kq l0 a1 a2 a3 a4 a5 x28_6 = some (r1, r2, r3, r4, r5)) ∧ Aside0 (kq ≤ k) ∧ Aside0 (wc.heap[gb667]? = some (.cells #[.int .i64 0, .int .i64 0, .int .i64 0, (.slice none 0 0)] 31 (0, 0))) ∧ Aside0 (Below w.heap.size w wc))
 case first =>
  have H := HC7.out
  clear HC7
  obtain ⟨t668, A9, H⟩ := bnd H
  obtain rfl | rfl := tt t668
  ·replace H := ip H
   obtain ⟨t669, A11, H⟩ := bnd H
   have H' := am H
   clear H
   go_wp2_with (first | ((with_reducible refine gc 101 rfl ?_); refine gL (some 21) Try.func101 #[.int .i64 a1, .int .i64 a2, .int .i64 a5] ?_; (with_reducible refine (spec_l17Frame.calls a1 a2 a5 true _ A9.out).mono ?_); rintro e w' ⟨rfl, ⟨nd, rfl⟩⟩; refine ⟨_, rfl, ?_⟩) | (go_at_call 113; (with_reducible refine (spec_IsPlan.calls k _ _ l0 a1 t669 _ ?side1 ?side2 A11.out).mono ?_); (case side1 => exact cbw HR0); (case side2 => exact HC0.out); rintro e w12 ⟨rfl, hb⟩; replace BK667 := bb BK667 hb; replace HB := bsw hb; (try clear hb)))
   go_meet
   case rel => exact ⟨_, (!t669), sc, H', ⟨by first | omega | exact Nat.le_refl _⟩, ⟨sk BK667⟩, ⟨sbw⟩⟩
  ·replace H := im H
   have H' := am H
   clear H
   go_wp2_with (first | ((with_reducible refine gc 101 rfl ?_); refine gL (some 21) Try.func101 #[.int .i64 a1, .int .i64 a2, .int .i64 a5] ?_; (with_reducible refine (spec_l17Frame.calls a1 a2 a5 false _ A9.out).mono ?_); rintro e w' ⟨rfl, ⟨nd, rfl⟩⟩; refine ⟨_, rfl, ?_⟩))
   go_meet
   case rel => exact ⟨_, (true), sc, H', ⟨by first | omega | exact Nat.le_refl _⟩, ⟨sk BK667⟩, ⟨sbw⟩⟩
 case rest =>
  clear HC7
  obtain ⟨kq, x28_6, rfl, HA, HJ6, BK667, HB⟩ := hcut
  cases kq with
  | zero => exact absurd HA.out (by simp [spec_BuildProgram.j0])
  | succ kj6 =>
   have H := HA.out
   clear HA
   simp only [spec_BuildProgram.j0] at H
   obtain rfl | rfl := tt x28_6
   ·replace H := ip H
    simp only [Option.some.injEq, Prod.mk.injEq] at H
    obtain ⟨rfl, rfl, rfl, rfl, rfl⟩ := H
    obtain ⟨hcz14_0, hcz14_1, hcz14_2, hcz14_3, hfz14_0, hfz14_1, hfz14_2, hfz14_3⟩ := cc4 BK667
    go_wp2
    refine bodyPost_ret (results_ct rfl _ _ gb667 31 #[.int .i64 0, .int .i64 0, .int .i64 0, .slice none 0 0] (0, 0) _ rfl (sp BK667) Try.underlying31 rfl (by kernel_rfl)) rfl ?_
    exact ⟨_, se, by first | exact Kd.S_nil _ _ _ _ _ | exact Kd.N_nil _ _ _ _ _ | exact Kd.V_nil _ _ _ _ _ | exact Kd.Q_nil _ _ _ _ _ | exact Kd.R_nil _ _ _ _ _, sbw⟩
   ·replace H := im H
    obtain ⟨t670, A15, H⟩ := bnd H
    obtain ⟨t673, A16, H⟩ := bnd H
    obtain rfl | rfl := tt t673
    ·replace H := ip H
     have H' := am H
     clear H
     go_wp2_with (first | ((with_reducible refine gc 114 rfl ?_); refine gL (some 33) Try.func114 #[.slice A0 l0.length c0, .int .i64 a3, .int .i64 a4] ?_; (with_reducible refine (spec_PiecesOf.calls kj6 _ _ l0 a3 a4 t670 _ ?side1 ?side2 A15.out).mono ?_); (case side1 => exact cb HR0); (case side2 => exact HC0.out); rintro e w18 ⟨v671, rfl, ho0, hb⟩; refine ⟨_, rfl, ?_⟩; have HO672 := am (Kd.R_lower ho0 (below_size (sbw))); replace BK667 := bb BK667 hb; replace HB := bsw hb; (try clear hb); (try clear ho0); obtain ⟨Ao19, co19, eo19⟩ := Kd.R_slice HO672.out; subst eo19) | ((with_reducible refine gc 85 rfl ?_); refine gL (some 36) Try.func85 #[.int .i64 (t670.length : Int), .int .i64 1, .int .i64 40] ?_; (with_reducible refine (spec_l1In.calls (t670.length : Int) 1 40 true _ A16.out).mono ?_); rintro e w' ⟨rfl, ⟨nd, rfl⟩⟩; refine ⟨_, rfl, ?_⟩) | ((with_reducible refine gd 15 rfl ?_); refine bx 15 #[.int .i64 0, .int .i64 0, .int .i64 0, .slice none 0 0] 31 ?_; intro gb674 hg w20 hbox hb; replace HO672 := rb HO672 hb; have GW674 := bzw w hg; have GE674 := bzw w hg; replace HB := bsw hb; have BK674 := am hbox; have NB667_674 := nl BK667 hg; have NB674_667 := ng BK667 hg; replace BK667 := bb BK667 hb; clear hb hbox hg; have hnb21 := NB674_667.out; have hnc21 := NB667_674.out; obtain ⟨hcz22_0, hcz22_1, hcz22_2, hcz22_3, hfz22_0, hfz22_1, hfz22_2, hfz22_3⟩ := cc4 BK674))
     go_loopg [16] kj6 (fun kq v16 w' => ∃ (x16_2 : Int) (x675003_2 : List (S105)) (u675003 : Value), v16 = .int .i64 x16_2 ∧ Aside0 (spec_BuildProgram.l0 kq l0 a1 a2 t670 x16_2 a1 a2 a5 x675003_2 = some (r1, r2, r3, r4, r5)) ∧ Aside0 (kq ≤ kj6) ∧ Aside0 (Kd.R k102 102 w' w.heap.size (fun _ => True) (.slice Ao19 t670.length co19) t670) ∧ Aside0 (Kd.S k105 105 w' w.heap.size (fun _ => True) u675003 x675003_2) ∧ Aside0 (w'.heap[gb667]? = some (.cells #[.int .i64 0, .int .i64 0, .int .i64 0, (.slice none 0 0)] 31 (0, 0))) ∧ Aside0 (w'.heap[gb674]? = some (.cells #[.int .i64 a1, .int .i64 a2, .int .i64 a5, u675003] 31 (0, 0))) ∧ Aside0 (Below w.heap.size w w'))
     case atStart => exact ⟨(0), (([] : List (S105))), (.slice none 0 0), sc, H', kk0, ⟨by (with_reducible repeat (first | apply Kd.R_alloc | apply Kd.R_drewN | apply Kd.R_drew)); exact Kd.R_mono (Kd.R_far (p := ⟨gb674, 3, none⟩) (h3 HO672 BK674) (fun _ hk => hk.2) (.slice none 0 0)) (fun _ hk => trivial)⟩, ⟨by first | exact Kd.S_nil _ _ _ _ _ | exact Kd.N_nil _ _ _ _ _ | exact Kd.V_nil _ _ _ _ _ | exact Kd.Q_nil _ _ _ _ _ | exact Kd.R_nil _ _ _ _ _⟩, ⟨sp BK667⟩, ⟨sp BK674⟩, ⟨sbw⟩⟩
     case round =>
      clear H'
      try clear hcz14_0
      try clear hcz14_1
      try clear hcz14_2
      try clear hcz14_3
      try clear hfz14_0
      try clear hfz14_1
      try clear hfz14_2
      try clear hfz14_3
      obtain ⟨x16_2, x675003_2, u675003, rfl, HA, HK2, HO_14, HO_675003, BK667, BK674, HB⟩ := hrel
      cases gk with
      | zero => exact absurd HA.out (by simp [spec_BuildProgram.l0])
      | succ k2 =>
       have H := HA.out
       clear HA
       simp only [spec_BuildProgram.l0] at H
       obtain ⟨c23, H⟩ | ⟨c23, H⟩ := ie_ H
       ·have c23b0 := decide_eq_true c23
        clear c23
        obtain ⟨c24b0, H⟩ := id_ H
        obtain ⟨t676, A25, H⟩ := bnd H
        obtain ⟨t680, A26, H⟩ := bnd H
        obtain ⟨LMc27, H⟩ := il_ H
        obtain ⟨y683, hy683⟩ : ∃ y_ : List (S105), y_ = (x675003_2 ++ [(⟨(⟨(rd_T102 t670 x16_2).f0, (rd_T102 t670 x16_2).f1⟩ : S102), t676, t680⟩ : S105)]) := ⟨_, rfl⟩
        replace H : (spec_BuildProgram.l0 k2 l0 a1 a2 t670 (wrap64 (x16_2 + 1)) a1 a2 a5 y683) = some (r1, r2, r3, r4, r5) := ry hy683 H
        have Ny683 := am hy683
        clear hy683
        have H' := am H
        clear H
        have p675 : 0 ≤ (x16_2 : Int) := sa
        have q675 : x16_2 < (t670.length : Int) := sa
        obtain ⟨ad675, e675, hx675_0, hx675_1⟩ := at_T102 (Kd.R_reads' HO_14.out).2.2 x16_2 p675 q675
        cases e675
        replace p675 := eq_true p675
        replace q675 := eq_true q675
        try go_wp2_with (first | ((with_reducible refine gc 115 rfl ?_); refine gL (some 55) Try.func115 #[.slice A0 l0.length c0, .int .i64 ((rd_T102 t670 x16_2).f0)] ?_; (with_reducible refine (spec_LinksAt.calls k2 _ _ l0 ((rd_T102 t670 x16_2).f0) t676 _ ?side1 ?side2 A25.out).mono ?_); (case side1 => exact cb HR0); (case side2 => exact HC0.out); rintro e w28 ⟨v677, rfl, ho0, hb⟩; refine ⟨_, rfl, ?_⟩; replace HO_14 := rb HO_14 hb; obtain ⟨N_, hN_, OLD_, NEW1_⟩ := Fr.pair (ss HO_675003) ho0 hb (below_size (sbw)); replace HO_675003 := am (Kd.S_elder' (ss HO_675003) (Kd.R_base ho0) hb); have HO678 := am (Kd.R_lower ho0 (below_size (sbw))); replace BK667 := bb BK667 hb; replace BK674 := bb BK674 hb; replace HB := bsw hb; (try clear hb); (try clear ho0)))
        replace HO_14 := am (Kd.R_drew HO_14.out)
        replace HO_675003 := am (Kd.S_drew HO_675003.out)
        replace HO678 := am (Kd.R_drew HO678.out)
        replace NEW1_ := am (Kd.R_drew NEW1_.out)
        replace OLD_ := am (Kd.S_drew OLD_.out)
        replace hN_ : Aside0 (N_ ≤ w28.drew.heap.size) := ⟨hN_.out⟩
        replace BK667 := am (blk_drew BK667.out)
        replace BK674 := am (blk_drew BK674.out)
        replace HB := am (below_drew1 HB.out)
        have p679 : 0 ≤ (x16_2 : Int) := sa
        have q679 : x16_2 < (t670.length : Int) := sa
        obtain ⟨ad679, e679, hx679_0, hx679_1⟩ := at_T102 (Kd.R_reads' HO_14.out).2.2 x16_2 p679 q679
        obtain rfl : ad675 = ad679 := (by injection e679)
        replace p679 := eq_true p679
        replace q679 := eq_true q679
        obtain ⟨Ao30, co30, eo30⟩ := Kd.R_slice HO678.out
        (first | subst eo30 | (injection eo30 with f1_ f2_ f3_; have f4_ := f1_.symm; have f5_ := f3_.symm; clear f1_ f2_ f3_; subst f4_; subst f5_))
        refine start_ (n := 16) (S := fun w' => w'.cell? ⟨gb674, 0, none⟩ = some (.int .i64 a1) ∧ w'.cell? ⟨gb674, 1, none⟩ = some (.int .i64 a2) ∧ w'.cell? ⟨gb674, 2, none⟩ = some (.int .i64 a5) ∧ w'.cell? ⟨gb674, 3, none⟩ = some (u675003) ∧ w'.cell? (ad675.add ((x16_2).toNat * 2)) = some (.int .i64 ((rd_T102 t670 x16_2).f0)) ∧ w'.cell? ⟨(ad675.add ((x16_2).toNat * 2)).block, (ad675.add ((x16_2).toNat * 2)).off + 1, none⟩ = some (.int .i64 ((rd_T102 t670 x16_2).f1))) (ds := [13, 15]) #[false, false, false, false, false, false, false, false, false, false, false, false, false, false, false, false] (by kernel_rfl) rfl rfl ⟨bc0 BK674, bc1 BK674, bc2 BK674, bc3 BK674, hx679_0, hx679_1⟩ (fun hHeld => ?_); refine with_tabW spec_BuildProgram.tab11 spec_BuildProgram.bits11 (fun HT_ HW_ => ?_)
        generalize w28.drew = w29 at hN_ NEW1_ OLD_ HO_14 HO_675003 HO678 BK667 BK674 HB hx679_0 hx679_1 hHeld ⊢
        refine put 0 56 (bt 16 1) HT_ ?_
        refine put 2 58 (bt 16 5) HT_ ?_
        refine put 3 59 (bt 16 13) HT_ ?_
        refine put 4 60 (bt 16 29) HT_ ?_
        refine put 6 62 (bt 16 93) HT_ ?_
        refine put 7 63 (bt 16 221) HT_ ?_
        refine put 8 64 (bt 16 477) HT_ ?_
        refine put 9 65 (bt 16 989) HT_ ?_
        refine tat6 1 57 (bt 16 991) HT_ HW_ hHeld ?_
        refine tat6 5 61 (bt 16 1023) HT_ HW_ hHeld ?_
        refine one_ (i := 10) (N := some 66) (bt 16 2047) rfl rfl (one_of HT_.out (by kernel_rfl)) (by decide) (fun K hK => ?_)
        refine goes_ Try.func116 (by kernel_rfl) rfl #[.slice Ao30 t676.length co30, .int .i64 a1, .int .i64 a2] (by rfl) rfl rfl sl ?_
        with_reducible refine (spec_l17Tables.calls k2 _ _ t676 a1 a2 t680 _ ?side1 ?side2 A26.out).mono ?_
        (case side1 => exact cr HO678)
        (case side2 => exact (Kd.R_reads' HO678.out).2.1)
        rintro e w31 ⟨v681, rfl, ho0, hb⟩
        have HS4_ := (hb.cell (World.block_lt_of_cell? _ _ (hHeld.2.2.2.2.1))).trans (hHeld.2.2.2.2.1)
        have HS5_ := (hb.cell (World.block_lt_of_cell? _ _ (hHeld.2.2.2.2.2))).trans (hHeld.2.2.2.2.2)
        refine ⟨_, rfl, ?_⟩
        replace HO_14 := rb HO_14 hb
        have NEW2_ := Fr.next (Kd.S_R ho0) hN_.out (below_size (sbw))
        replace NEW1_ := rb NEW1_ hb
        replace OLD_ := am (Kd.S_below (ss OLD_) hb)
        replace HO_675003 := am (Kd.S_elder' (ss HO_675003) (Kd.S_base ho0) hb)
        replace HO678 := rb HO678 hb
        have HO682 := am (Kd.S_lower ho0 (below_size (sbw)))
        replace BK667 := bb BK667 hb
        replace BK674 := bb BK674 hb
        replace HB := bsw hb
        (try clear hb)
        (try clear hb2)
        (try clear hk)
        (try clear hi)
        (try clear ho0)
        obtain ⟨Ao32, co32, eo32⟩ := Kd.S_slice HO682.out
        (first | subst eo32 | (injection eo32 with f1_ f2_ f3_; have f4_ := f1_.symm; have f5_ := f3_.symm; clear f1_ f2_ f3_; subst f4_; subst f5_))
        refine hK.out _ _ ⟨bc0 BK674, bc1 BK674, bc2 BK674, bc3 BK674, HS4_, HS5_⟩ (fun hHeld => ?_)
        clear hK K
        refine nm 66 ?_
        refine put 11 67 (bt 16 4095) HT_ ?_
        refine one_ (i := 12) (N := some 68) (bt 16 8191) rfl rfl (one_of HT_.out (by kernel_rfl)) (by decide) (fun K hK => ?_)
        refine value_ (w1 := ?_) (v := ?_) (by rfl) rfl ?_ ?_
        rotate_left 2
        ·go_simp
         constructor
         ·rfl
         ·rfl
        refine hK.out _ _ ⟨(blk_cell (blk_alloc BK674.out _) 0).trans rfl, (blk_cell (blk_alloc BK674.out _) 1).trans rfl, (blk_cell (blk_alloc BK674.out _) 2).trans rfl, (blk_cell (blk_alloc BK674.out _) 3).trans rfl, (World.cell?_alloc_lt _ _ _ (World.block_lt_of_cell? _ _ (hHeld.2.2.2.2.1))).trans (hHeld.2.2.2.2.1), (World.cell?_alloc_lt _ _ _ (World.block_lt_of_cell? _ _ (hHeld.2.2.2.2.2))).trans (hHeld.2.2.2.2.2)⟩ (fun hHeld => ?_)
        clear hK K
        refine nm 68 ?_
        refine last_ (i := 13) (N := some 69) (bt 16 16383) rfl rfl (one_of HT_.out (by kernel_rfl)) (by decide) (fun K hK => ?_)
        refine Kd.S_append_step k105 (w0 := w) w.heap.size (by rfl) (.tmp 57) (.tmp 68) 29 105 (.agg #[(.int .i64 0), (.int .i64 0), (.slice none 0 0), (.slice none 0 0)]) 64 rfl Try.underlying29 info105 rfl (by decide) (by omega) u675003 x675003_2 (⟨(⟨(rd_T102 t670 x16_2).f0, (rd_T102 t670 x16_2).f1⟩ : S102), t676, t680⟩ : S105) [.int .i64 ((rd_T102 t670 x16_2).f0), .int .i64 ((rd_T102 t670 x16_2).f1), .slice Ao30 t676.length co30, .slice Ao32 t680.length co32] (fun _ => True) (fun k_ => N_ ≤ k_) rfl rfl ?aP (fun k_ hk_ => ⟨trivial, Fr.away OLD_ hk_⟩) ?aF ?aO ?aB ?aS ?aL ?_
        (case aP => exact k105_mkM _ _ _ (⟨(⟨(rd_T102 t670 x16_2).f0, (rd_T102 t670 x16_2).f1⟩ : S102), t676, t680⟩ : S105) NEW1_.out NEW2_.out)
        (case aB => exact (sbw))
        (case aF => exact (fun _ _ => trivial))
        (case aO => exact (by (with_reducible repeat (first | apply Kd.S_alloc | apply Kd.S_drewN | apply Kd.S_drew)); exact Kd.S_mono OLD_.out (fun k_ hk => ⟨trivial, fun h_ => by have := hk.2; omega⟩)))
        (case aS => exact (below_size (sbw)))
        (case aL => have := LMc27.out; omega)
        intro v684 w33 ho hb hg hat
        rw [← Ny683.out] at ho
        replace HO_14 := am (Kd.R_over' (sr HO_14) (Kd.S_typed (ss HO_675003)) (by decide) hg)
        replace BK667 := am (blk_grown (g := gb667) (o := .cells #[.int .i64 0, .int .i64 0, .int .i64 0, .slice none 0 0] 31 (0, 0)) (sk BK667) hg (Kd.S_ne HO_675003.out BK667.out (by decide)))
        replace BK674 := am (blk_grown (g := gb674) (o := .cells #[.int .i64 a1, .int .i64 a2, .int .i64 a5, u675003] 31 (0, 0)) (sk BK674) hg (Kd.S_ne HO_675003.out BK674.out (by decide)))
        replace HB := am hb
        have HO685 := am ho
        clear HO_675003 HO678 HO682 ho hb hg hat
        obtain ⟨Ao34, co34, eo34⟩ := Kd.S_slice HO685.out
        (first | subst eo34 | (injection eo34 with f1_ f2_ f3_; have f4_ := f1_.symm; have f5_ := f3_.symm; clear f1_ f2_ f3_; subst f4_; subst f5_))
        refine hK.out _ _ ?_
        clear hK K
        refine nm 69 ?_
        refine put 14 70 (bt 16 32767) HT_ ?_
        refine last_ (i := 15) (N := none) (bt 16 65535) rfl rfl (one_of HT_.out (by kernel_rfl)) (by decide) (fun K hK => ?_)
        have hs35 := bc3 BK674
        have hfs35 := bf BK674 3
        have hns35_0 := NB667_674.out
        have hms35_0 := NB674_667.out
        refine skip_ (w1 := ?_) (by rfl) rfl ?_ ?_
        rotate_left
        ·go_simp
         rfl
        refine hK.out _ _ ?_
        clear hK K
        refine done_ (done_of HT_.out (by kernel_rfl)) ?_
        try go_wp2
        go_roundg k2
        case measure => have := HJ6.out; have := HK2.out; omega
        case rel => exact ⟨(wrap64 (x16_2 + 1)), (y683), (.slice Ao34 y683.length co34), sc, H', ⟨by have := HJ6.out; have := HK2.out; omega⟩, ⟨by (with_reducible repeat (first | apply Kd.R_alloc | apply Kd.R_drewN | apply Kd.R_drew)); exact Kd.R_mono (Kd.R_far (p := ⟨gb674, 3, none⟩) (Kd.R_types HO_14.out BK674.out (by decide)) (fun _ hk => hk.2) (.slice Ao34 y683.length co34)) (fun _ hk => trivial)⟩, ⟨by (with_reducible repeat (first | apply Kd.S_alloc | apply Kd.S_drewN | apply Kd.S_drew)); exact Kd.S_mono (Kd.S_far (p := ⟨gb674, 3, none⟩) (Kd.S_types HO685.out BK674.out (by decide)) (fun _ hk => hk.2) (.slice Ao34 y683.length co34)) (fun _ hk => trivial)⟩, ⟨sp BK667⟩, ⟨sp BK674⟩, ⟨sbw⟩⟩
       ·have c23b0 := decide_eq_false c23
        clear c23
        simp only [Option.some.injEq, Prod.mk.injEq] at H
        obtain ⟨rfl, rfl, rfl, rfl, rfl⟩ := H
        have hnb36 := NB674_667.out
        have hnc36 := NB667_674.out
        obtain ⟨hcz37_0, hcz37_1, hcz37_2, hcz37_3, hfz37_0, hfz37_1, hfz37_2, hfz37_3⟩ := cc4 BK674
        obtain ⟨hcz38_0, hcz38_1, hcz38_2, hcz38_3, hfz38_0, hfz38_1, hfz38_2, hfz38_3⟩ := cc4 BK667
        obtain ⟨Ao39, co39, eo39⟩ := Kd.S_slice HO_675003.out
        subst eo39
        go_wp2
        refine bodyPost_ret (results_ct rfl _ _ gb667 31 #[.int .i64 a1, .int .i64 a2, .int .i64 a5, .slice Ao39 x675003_2.length co39] (0, 0) _ rfl (sp BK667) Try.underlying31 rfl (by kernel_rfl)) rfl ?_
        exact ⟨_, se, by (with_reducible repeat (first | apply Kd.S_alloc | apply Kd.S_drewN | apply Kd.S_drew)); exact Kd.S_mono (Kd.S_far (p := ⟨gb667, 3, none⟩) (Kd.S_far (p := ⟨gb667, 2, none⟩) (Kd.S_far (p := ⟨gb667, 1, none⟩) (Kd.S_far (p := ⟨gb667, 0, none⟩) (Kd.S_types HO_675003.out BK667.out (by decide)) (fun _ hk => hk.2) (.int .i64 a1)) (fun _ hk => hk.2) (.int .i64 a2)) (fun _ hk => hk.2) (.int .i64 a5)) (fun _ hk => hk.2) (.slice Ao39 x675003_2.length co39)) (fun _ hk => trivial), sbw⟩
    ·replace H := im H
     simp only [Option.some.injEq, Prod.mk.injEq] at H
     obtain ⟨rfl, rfl, rfl, rfl, rfl⟩ := H
     go_wp2_with (first | ((with_reducible refine gc 114 rfl ?_); refine gL (some 33) Try.func114 #[.slice A0 l0.length c0, .int .i64 a3, .int .i64 a4] ?_; (with_reducible refine (spec_PiecesOf.calls kj6 _ _ l0 a3 a4 t670 _ ?side1 ?side2 A15.out).mono ?_); (case side1 => exact cb HR0); (case side2 => exact HC0.out); rintro e w40 ⟨v671, rfl, ho0, hb⟩; refine ⟨_, rfl, ?_⟩; have HO672 := am (Kd.R_lower ho0 (below_size (sbw))); replace BK667 := bb BK667 hb; replace HB := bsw hb; (try clear hb); (try clear ho0); obtain ⟨Ao41, co41, eo41⟩ := Kd.R_slice HO672.out; subst eo41) | ((with_reducible refine gc 85 rfl ?_); refine gL (some 36) Try.func85 #[.int .i64 (t670.length : Int), .int .i64 1, .int .i64 40] ?_; (with_reducible refine (spec_l1In.calls (t670.length : Int) 1 40 false _ A16.out).mono ?_); rintro e w' ⟨rfl, ⟨nd, rfl⟩⟩; refine ⟨_, rfl, ?_⟩; obtain ⟨hcz42_0, hcz42_1, hcz42_2, hcz42_3, hfz42_0, hfz42_1, hfz42_2, hfz42_3⟩ := cc4 BK667))
     refine bodyPost_ret (results_ct rfl _ _ gb667 31 #[.int .i64 0, .int .i64 0, .int .i64 0, .slice none 0 0] (0, 0) _ rfl (sp BK667) Try.underlying31 rfl (by kernel_rfl)) rfl ?_
     exact ⟨_, se, by first | exact Kd.S_nil _ _ _ _ _ | exact Kd.N_nil _ _ _ _ _ | exact Kd.V_nil _ _ _ _ _ | exact Kd.Q_nil _ _ _ _ _ | exact Kd.R_nil _ _ _ _ _, sbw⟩

-- NOT PRINTED: function 160 (impl_Link_160)

-- NOT PRINTED: function 117 (impl_Link_117)

-- NOT PRINTED: function 118 (impl_HasLink_1)

def impl_HasLink.hit (x : S134) (a b : Int) : Bool := ((x.f0 == a) && (x.f1 == b)) || ((x.f0 == b) && (x.f1 == a))
theorem impl_HasLink.lit (x : S134) (a b : Int) (gb_a gb_b : Nat) (W : World) (hc_a : W.cell? ⟨gb_a, 0, none⟩ = some (.int .i64 a)) (hc_b : W.cell? ⟨gb_b, 0, none⟩ = some (.int .i64 b)) :
    Calls Try.prog 118 #[.agg #[.int .i64 x.f0, .int .i64 x.f1], .pointer (some ⟨gb_a, 0, none⟩), .pointer (some ⟨gb_b, 0, none⟩)] W fun e w' => e = .returned (.bool (impl_HasLink.hit x a b)) ∧ Below W.heap.size W w' := by
  have hu := Try.underlying134
  have hlt_a := World.block_lt_of_cell? W _ hc_a
  have hlt_b := World.block_lt_of_cell? W _ hc_b
  unfold impl_HasLink.hit
  cases h1 : (x.f0 == a) <;> cases h2 : (x.f1 == b) <;> cases h3 : (x.f0 == b) <;> cases h4 : (x.f1 == a)
  all_goals (
    go_enter Try.func118, Try.ntmps118
    go_wp2_with (first | ((with_reducible refine gd 3 rfl ?_); refine box_event ?hg (N := 3) ?hd (cs := #[.int .i64 x.f0, .int .i64 x.f1]) (t := 134) ?hr ?_; (case hd => rfl); (case hg => rfl); (case hr => first | (go_simp; done) | (go_simp; rfl)); intro gbx hg w3 hbox hb3; subst hg; have hc3_a : w3.cell? ⟨gb_a, 0, none⟩ = some (.int .i64 a) := (hb3.cell hlt_a).trans hc_a; have hc3_b : w3.cell? ⟨gb_b, 0, none⟩ = some (.int .i64 b) := (hb3.cell hlt_b).trans hc_b; have hx0 : w3.cell? ⟨W.heap.size, 0, none⟩ = some (.int .i64 x.f0) := (blk_cell hbox 0).trans rfl; have hx1 : w3.cell? ⟨W.heap.size, 1, none⟩ = some (.int .i64 x.f1) := (blk_cell hbox 1).trans rfl))
    go_ret
    refine ⟨?_, hb3⟩
    first | rfl | (simp_all; done) | (simp at *; simp_all))
def impl_HasLink.go (a : Int) (b : Int) : List S134 → Nat → Int
  | [], _ => -1
  | x :: xs, i => if impl_HasLink.hit x a b = true then (i : Int) else impl_HasLink.go a b xs (i + 1)
theorem impl_HasLink.idx (A0 : Option Addr) (c0 : Nat) (l : List S134) (a b : Int) (gb_a gb_b : Nat) (w : World) (hr : Kd.C k134 w A0 l.length l) (hm : l.length ≤ 4611686018427387904) (hc_a : w.cell? ⟨gb_a, 0, none⟩ = some (.int .i64 a)) (hc_b : w.cell? ⟨gb_b, 0, none⟩ = some (.int .i64 b)) :
    Calls Try.prog 160 #[.slice A0 l.length c0, .func (.func 118) #[] #[.pointer (some ⟨gb_a, 0, none⟩), .pointer (some ⟨gb_b, 0, none⟩)]] w fun e w' => e = .returned (.int .i64 (impl_HasLink.go a b l 0)) ∧ Below w.heap.size w w' := by
  have hu := Try.underlying134
  have hlt_a := World.block_lt_of_cell? w _ hc_a
  have hlt_b := World.block_lt_of_cell? w _ hc_b
  go_enter Try.func160, Try.ntmps160
  go_wp2
  go_loopg [5, 8] l.length (fun gg _ s8 wr => ∃ i : Int, 0 ≤ i ∧ i ≤ (l.length : Int) ∧ (l.length : Int) - i ≤ gg ∧ s8 = .int .i64 i ∧ Aside0 (Below w.heap.size w wr) ∧ Aside0 (impl_HasLink.go a b (l.drop i.toNat) i.toNat = impl_HasLink.go a b l 0))
  case atStart => exact ⟨0, by omega, by omega, by omega, rfl, ⟨Below.refl _ w⟩, ⟨rfl⟩⟩
  case round =>
    obtain ⟨i, hi0, hi1, hg, rfl, BW, HI⟩ := hrel
    by_cases hlt2 : i < (l.length : Int)
    · obtain ⟨ad, e0, hx0, hx1⟩ := at_T134 hr i hi0 hlt2
      cases e0
      replace hx0 := (BW.out.cell (World.block_lt_of_cell? w _ hx0)).trans hx0
      replace hx1 := (BW.out.cell (World.block_lt_of_cell? w _ hx1)).trans hx1
      have hc'_a : wr.cell? ⟨gb_a, 0, none⟩ = some (.int .i64 a) := (BW.out.cell hlt_a).trans hc_a
      have hc'_b : wr.cell? ⟨gb_b, 0, none⟩ = some (.int .i64 b) := (BW.out.cell hlt_b).trans hc_b
      have hcall := impl_HasLink.lit (rd_T134 l i) a b gb_a gb_b wr hc'_a hc'_b
      have hd : l.drop i.toNat = rd_T134 l i :: l.drop (i.toNat + 1) := by
        have hlt3 : i.toNat < l.length := by omega
        rw [List.drop_eq_getElem_cons hlt3, show rd_T134 l i = l.getD i.toNat z134 from rfl, List.getD_eq_getElem?_getD, List.getElem?_eq_getElem hlt3]
        rfl
      cases hq : impl_HasLink.hit (rd_T134 l i) a b with
      | true =>
        rw [hq] at hcall
        go_wp2_with (go_at_call 118; refine hcall.mono ?_; rintro e w' ⟨rfl, hb'⟩)
        go_ret
        refine ⟨?_, below_step BW.out hb'⟩
        rw [← HI.out, hd, impl_HasLink.go, if_pos hq, Int.toNat_of_nonneg hi0]
        rfl
      | false =>
        rw [hq] at hcall
        go_wp2_with (go_at_call 118; refine hcall.mono ?_; rintro e w' ⟨rfl, hb'⟩)
        go_roundg (l.length - (i.toNat + 1))
        case measure => omega
        case rel =>
          refine ⟨i + 1, by omega, by omega, by omega, by go_num, ⟨below_step BW.out hb'⟩, ⟨?_⟩⟩
          rw [← HI.out, hd, impl_HasLink.go, if_neg (by rw [hq]; simp), show (i + 1).toNat = i.toNat + 1 by omega]
    · have : i = (l.length : Int) := by omega
      subst this
      go_wp2
      go_ret
      refine ⟨?_, BW.out⟩
      rw [← HI.out, Int.toNat_natCast, List.drop_length, impl_HasLink.go]
      rfl
theorem impl_HasLink.has (A0 : Option Addr) (c0 : Nat) (l : List S134) (a b : Int) (gb_a gb_b : Nat) (w : World) (hr : Kd.C k134 w A0 l.length l) (hm : l.length ≤ 4611686018427387904) (hc_a : w.cell? ⟨gb_a, 0, none⟩ = some (.int .i64 a)) (hc_b : w.cell? ⟨gb_b, 0, none⟩ = some (.int .i64 b)) :
    Calls Try.prog 117 #[.slice A0 l.length c0, .func (.func 118) #[] #[.pointer (some ⟨gb_a, 0, none⟩), .pointer (some ⟨gb_b, 0, none⟩)]] w fun e w' => e = .returned (.bool (decide (impl_HasLink.go a b l 0 ≥ 0))) ∧ Below w.heap.size w w' := by
  obtain ⟨v, hv⟩ : ∃ v, impl_HasLink.go a b l 0 = v := ⟨_, rfl⟩
  rw [hv]
  go_enter Try.func117, Try.ntmps117
  go_wp2_with (go_at_call 160; refine (impl_HasLink.idx A0 c0 l a b gb_a gb_b _ hr hm hc_a hc_b).mono ?_; rintro e w' ⟨rfl, hb⟩; rw [hv])
  go_ret
  exact ⟨rfl, hb⟩
def impl_HasLink.f (a0_0 : Int) (a0_1 : Int) (a0_2 : Int) (l0_3 : List (S105)) (a1 : Int) (a2 : Int) (a3 : Int) : Option (Bool) := (impl_isIndex.f a1 (l0_3.length : Int)).bind fun q => if q = true then (if 0 ≤ a1 then (if a1 < (l0_3.length : Int) then (if (rd_T105 l0_3 a1).f1.length ≤ 4611686018427387904 then some (decide (impl_HasLink.go a2 a3 (rd_T105 l0_3 a1).f1 0 ≥ 0)) else none) else none) else none) else some false
theorem impl_HasLink.calls (a0_0 : Int) (a0_1 : Int) (a0_2 : Int) (A0_3 : Option Addr) (c0_3 : Nat) (l0_3 : List (S105)) (a1 : Int) (a2 : Int) (a3 : Int) (r : Bool) (w : World) (hr0_3 : Kd.C k105 w A0_3 l0_3.length l0_3) (hc0_3 : l0_3.length ≤ c0_3) (h : impl_HasLink.f a0_0 a0_1 a0_2 l0_3 a1 a2 a3 = some r) :
    Calls Try.prog 47 #[.agg #[.int .i64 a0_0, .int .i64 a0_1, .int .i64 a0_2, .slice A0_3 l0_3.length c0_3], .int .i64 a1, .int .i64 a2, .int .i64 a3] w fun e w' => e = .returned (.bool r) ∧ Below w.heap.size w w' := by
 have hu := Try.underlying31
 have hu2 := Try.underlying105
 unfold impl_HasLink.f at h
 obtain ⟨q, hq, h⟩ := Option.bind_eq_some_iff.mp h
 cases q with
 | false =>
  rw [if_neg (by decide)] at h
  obtain rfl := Option.some.inj h
  go_enter Try.func47, Try.ntmps47
  go_wp2_with (first | ((with_reducible refine gd 4 rfl ?_); refine box_event ?hg (N := 4) ?hd (cs := #[.int .i64 a0_0, .int .i64 a0_1, .int .i64 a0_2, .slice A0_3 l0_3.length c0_3]) (t := 31) ?hr ?_; (case hd => rfl); (case hg => rfl); (case hr => first | (go_simp; done) | (go_simp; rfl)); intro g4 hg4 w4 hbox4 hb4; subst hg4; have hp4 : w4.cell? ⟨w.heap.size, 3, none⟩ = some (.slice A0_3 l0_3.length c0_3) := (blk_cell hbox4 3).trans rfl; have lp4 := World.block_lt_of_cell? w4 _ hp4)  | ((with_reducible refine gd 6 rfl ?_); refine box_event ?hg (N := 6) ?hd (cs := #[.int .i64 a2]) (t := 3) ?hr ?_; (case hd => rfl); (case hg => rfl); (case hr => first | (go_simp; done) | (go_simp; rfl)); intro g6 hg6 w6 hbox6 hb6; subst hg6; have hp6 := (hb6.cell lp4).trans hp4; have lp6 := World.block_lt_of_cell? w6 _ hp6)  | ((with_reducible refine gd 7 rfl ?_); refine box_event ?hg (N := 7) ?hd (cs := #[.int .i64 a3]) (t := 3) ?hr ?_; (case hd => rfl); (case hg => rfl); (case hr => first | (go_simp; done) | (go_simp; rfl)); intro g7 hg7 w7 hbox7 hb7; subst hg7; have hp7 := (hb7.cell lp6).trans hp6)  | (go_at_call 77; refine (impl_isIndex.calls a1 (l0_3.length : Int) false _ hq).mono ?_; rintro e w8 ⟨rfl, hd8⟩; have hw8 : Below w.heap.size w w8 := below_step (below_step (below_step hb4 hb6) hb7) hd8.below))
  go_ret
  exact ⟨rfl, hw8⟩
 | true =>
  rw [if_pos rfl] at h
  by_cases c0 : 0 ≤ a1
  rotate_left
  ·rw [if_neg c0] at h
   cases h
  rw [if_pos c0] at h
  by_cases c1 : a1 < (l0_3.length : Int)
  rotate_left
  ·rw [if_neg c1] at h
   cases h
  rw [if_pos c1] at h
  by_cases c2 : (rd_T105 l0_3 a1).f1.length ≤ 4611686018427387904
  rotate_left
  ·rw [if_neg c2] at h
   cases h
  rw [if_pos c2] at h
  obtain rfl := Option.some.inj h
  obtain ⟨ad, A2, d2, A3, d3, e0, hx0, hx1, hx2, hx3, hl2, hi2, _⟩ := at_T105 hr0_3 a1 c0 c1
  cases e0
  go_enter Try.func47, Try.ntmps47
  go_wp2_with (first | ((with_reducible refine gd 4 rfl ?_); refine box_event ?hg (N := 4) ?hd (cs := #[.int .i64 a0_0, .int .i64 a0_1, .int .i64 a0_2, .slice (some ad) l0_3.length c0_3]) (t := 31) ?hr ?_; (case hd => rfl); (case hg => rfl); (case hr => first | (go_simp; done) | (go_simp; rfl)); intro g4 hg4 w4 hbox4 hb4; subst hg4; have hp4 : w4.cell? ⟨w.heap.size, 3, none⟩ = some (.slice (some ad) l0_3.length c0_3) := (blk_cell hbox4 3).trans rfl; have lp4 := World.block_lt_of_cell? w4 _ hp4)  | ((with_reducible refine gd 6 rfl ?_); refine box_event ?hg (N := 6) ?hd (cs := #[.int .i64 a2]) (t := 3) ?hr ?_; (case hd => rfl); (case hg => rfl); (case hr => first | (go_simp; done) | (go_simp; rfl)); intro g6 hg6 w6 hbox6 hb6; subst hg6; have hp6 := (hb6.cell lp4).trans hp4; have lp6 := World.block_lt_of_cell? w6 _ hp6; have ha6 : w6.cell? ⟨w4.heap.size, 0, none⟩ = some (.int .i64 a2) := (blk_cell hbox6 0).trans rfl; have la6 := World.block_lt_of_cell? w6 _ ha6)  | ((with_reducible refine gd 7 rfl ?_); refine box_event ?hg (N := 7) ?hd (cs := #[.int .i64 a3]) (t := 3) ?hr ?_; (case hd => rfl); (case hg => rfl); (case hr => first | (go_simp; done) | (go_simp; rfl)); intro g7 hg7 w7 hbox7 hb7; subst hg7; have hp7 := (hb7.cell lp6).trans hp6; have ha7 := (hb7.cell la6).trans ha6; have hb_7 : w7.cell? ⟨w6.heap.size, 0, none⟩ = some (.int .i64 a3) := (blk_cell hbox7 0).trans rfl)  | (go_at_call 77; refine (impl_isIndex.calls a1 (l0_3.length : Int) true _ hq).mono ?_; rintro e w8 ⟨rfl, hd8⟩; have hb8 := hd8.below; have hw8 : Below w.heap.size w w8 := below_step (below_step (below_step hb4 hb6) hb7) hb8; have hp8 := (hb8.cell (World.block_lt_of_cell? w7 _ hp7)).trans hp7; have ha8 := (hb8.cell (World.block_lt_of_cell? w7 _ ha7)).trans ha7; have hb_8 := (hb8.cell (World.block_lt_of_cell? w7 _ hb_7)).trans hb_7; have hL8 := (hw8.cell (World.block_lt_of_cell? w _ hx2)).trans hx2)  | (go_at_call 117; refine (impl_HasLink.has A2 d2 (rd_T105 l0_3 a1).f1 a2 a3 _ _ _ (Kd.C_below hi2 hw8) c2 ha8 hb_8).mono ?_; rintro e w9 ⟨rfl, hb9⟩))
  go_ret
  exact ⟨rfl, below_step hw8 hb9⟩

def impl_CanSpeak.l0 : Nat → Int → Int → Int → List (S137) → Int → Int → Option (Bool)
  | 0, _, _, _, _, _, _ => none
  | k + 1, x1, x2, x3, x11, x12, x13 => if x13 < x12 then (if 0 ≤ x13 then (if x13 < (x11.length : Int) then (if ((rd_T137 x11 x13).f0) = (mn x1 x2) then (if ((rd_T137 x11 x13).f1) = (mx x1 x2) then ((impl_spanOf.f ((rd_T137 x11 x13).f0) ((rd_T137 x11 x13).f1) ((rd_T137 x11 x13).f2) ((rd_T137 x11 x13).f3)).bind fun bt688 => ((impl_InSpan.f bt688.1 bt688.2 x3).bind fun t690 => (if t690 = true then (some true) else (impl_CanSpeak.l0 k x1 x2 x3 x11 x12 (wrap64 (x13 + 1)))))) else (impl_CanSpeak.l0 k x1 x2 x3 x11 x12 (wrap64 (x13 + 1)))) else (impl_CanSpeak.l0 k x1 x2 x3 x11 x12 (wrap64 (x13 + 1)))) else (none)) else (none)) else (some false)
def impl_CanSpeak.f (k : Nat) (l0 : List (S137)) (a1 : Int) (a2 : Int) (a3 : Int) : Option (Bool) := impl_CanSpeak.l0 k a1 a2 a3 l0 (l0.length : Int) 0
theorem impl_CanSpeak.mono_l : ∀ k, (∀ y0 y1 y2 y3 y4 y5, LeO (impl_CanSpeak.l0 k y0 y1 y2 y3 y4 y5) (impl_CanSpeak.l0 (k + 1) y0 y1 y2 y3 y4 y5))
  | 0 => fun _ _ _ _ _ _ r h => by simp [impl_CanSpeak.l0] at h
  | k + 1 => by
    have ih0 := impl_CanSpeak.mono_l k
    · intro y0 y1 y2 y3 y4 y5
      unfold impl_CanSpeak.l0
      exact mo
theorem impl_CanSpeak.mono : ∀ a0 a1 a2 a3 k, LeO (impl_CanSpeak.f k a0 a1 a2 a3) (impl_CanSpeak.f (k + 1) a0 a1 a2 a3) := by
  intro a0 a1 a2 a3 k
  have ih0 := impl_CanSpeak.mono_l k
  unfold impl_CanSpeak.f
  exact mo
theorem impl_CanSpeak.calls (k : Nat) (A0 : Option Addr) (c0 : Nat) (l0 : List (S137)) (a1 : Int) (a2 : Int) (a3 : Int) (r : Bool) (w : World) (hr0 : Kd.C k137 w A0 l0.length l0) (hc0 : l0.length ≤ c0) (h : impl_CanSpeak.f k l0 a1 a2 a3 = some r) :
    Calls Try.prog 48 #[.slice A0 l0.length c0, .int .i64 a1, .int .i64 a2, .int .i64 a3] w fun e w' => e = .returned (.bool r) ∧ Below w.heap.size w w' := by
 have hu137 := Try.underlying137
 have HR0 := am hr0
 have HC0 := am hc0
 clear hr0 hc0
 have HB := am (Below.refl w.heap.size w)
 have H := h; unfold impl_CanSpeak.f at H
 clear h
 have H' := am H
 clear H
 go_enter Try.func48, Try.ntmps48
 go_wp2
 go_loopg [13] k (fun kq v13 w' => ∃ (x13_1 : Int), v13 = .int .i64 x13_1 ∧ Aside0 (impl_CanSpeak.l0 kq a1 a2 a3 l0 (l0.length : Int) x13_1 = some r) ∧ Aside0 (kq ≤ k) ∧ Aside0 (Below w.heap.size w w'))
 case atStart => exact ⟨(0), sc, H', kk0, ⟨sb⟩⟩
 case round =>
  clear H'
  obtain ⟨x13_1, rfl, HA, HK1, HB⟩ := hrel
  cases gk with
  | zero => exact absurd HA.out (by simp [impl_CanSpeak.l0])
  | succ k1 =>
   have H := HA.out
   clear HA
   simp only [impl_CanSpeak.l0] at H
   obtain ⟨c5, H⟩ | ⟨c5, H⟩ := ie_ H
   ·have c5b0 := decide_eq_true c5
    clear c5
    obtain ⟨c6b0, H⟩ := id_ H
    obtain ⟨c7b0, H⟩ := id_ H
    obtain ⟨ji8, hji8⟩ : ∃ j_ : Int, (mn a1 a2) = j_ := ⟨_, rfl⟩
    replace H : (if ((rd_T137 l0 x13_1).f0) = (ji8) then (if ((rd_T137 l0 x13_1).f1) = (mx a1 a2) then ((impl_spanOf.f ((rd_T137 l0 x13_1).f0) ((rd_T137 l0 x13_1).f1) ((rd_T137 l0 x13_1).f2) ((rd_T137 l0 x13_1).f3)).bind fun bt688 => ((impl_InSpan.f bt688.1 bt688.2 a3).bind fun t690 => (if t690 = true then (some true) else (impl_CanSpeak.l0 k1 a1 a2 a3 l0 (l0.length : Int) (wrap64 (x13_1 + 1)))))) else (impl_CanSpeak.l0 k1 a1 a2 a3 l0 (l0.length : Int) (wrap64 (x13_1 + 1)))) else (impl_CanSpeak.l0 k1 a1 a2 a3 l0 (l0.length : Int) (wrap64 (x13_1 + 1)))) = some r := by first | (rw [hji8] at H; exact H) | (simp only [hji8] at H ⊢; exact H)
    have hji8_ : (if a2 < a1 then a2 else a1) = ji8 := hji8
    obtain ⟨c9, H⟩ | ⟨c9, H⟩ := ie_ H
    ·have c9b0 : (((rd_T137 l0 x13_1).f0) == (ji8)) = true := beq_iff_eq.mpr c9
     have c9b1 : (((rd_T137 l0 x13_1).f0) != (ji8)) = false := bne_eq_false_iff_eq.mpr c9
     clear c9
     obtain ⟨ji10, hji10⟩ : ∃ j_ : Int, (mx a1 a2) = j_ := ⟨_, rfl⟩
     replace H : (if ((rd_T137 l0 x13_1).f1) = (ji10) then ((impl_spanOf.f ((rd_T137 l0 x13_1).f0) ((rd_T137 l0 x13_1).f1) ((rd_T137 l0 x13_1).f2) ((rd_T137 l0 x13_1).f3)).bind fun bt688 => ((impl_InSpan.f bt688.1 bt688.2 a3).bind fun t690 => (if t690 = true then (some true) else (impl_CanSpeak.l0 k1 a1 a2 a3 l0 (l0.length : Int) (wrap64 (x13_1 + 1)))))) else (impl_CanSpeak.l0 k1 a1 a2 a3 l0 (l0.length : Int) (wrap64 (x13_1 + 1)))) = some r := by first | (rw [hji10] at H; exact H) | (simp only [hji10] at H ⊢; exact H)
     have hji10_ : (if a1 < a2 then a2 else a1) = ji10 := hji10
     obtain ⟨c11, H⟩ | ⟨c11, H⟩ := ie_ H
     ·have c11b0 : (((rd_T137 l0 x13_1).f1) == (ji10)) = true := beq_iff_eq.mpr c11
      have c11b1 : (((rd_T137 l0 x13_1).f1) != (ji10)) = false := bne_eq_false_iff_eq.mpr c11
      clear c11
      obtain ⟨⟨t688, t689⟩, A12, H⟩ := bnd H
      dsimp only at H
      obtain ⟨t690, A13, H⟩ := bnd H
      obtain rfl | rfl := tt t690
      ·replace H := ip H
       obtain rfl := Option.some.inj H
       obtain ⟨p686, q686, ad686, e686, _, _, _, _, hx686_0, hx686_1, hx686_2, hx686_3⟩ := aT_T137 HR0 HB x13_1
       cases e686
       go_wp2_with (first | ((with_reducible refine gd 10 rfl ?_); (try (refine gate_guard (by rfl) ?_; dsimp only)); refine bx 10 #[.int .i64 0, .int .i64 0, .int .i64 0, .int .i64 0] 137 ?_; intro gb687 hg w15 hbox hb; have GW687 := bz w hg; have GE687 := bz w hg; replace HB := bs hb; have BK687 := am hbox; clear hb hbox hg; obtain ⟨hcz16_0, hcz16_1, hcz16_2, hcz16_3, hfz16_0, hfz16_1, hfz16_2, hfz16_3⟩ := cc4 BK687) | (go_at_call 119; (with_reducible refine (impl_spanOf.calls ((rd_T137 l0 x13_1).f0) ((rd_T137 l0 x13_1).f1) ((rd_T137 l0 x13_1).f2) ((rd_T137 l0 x13_1).f3) t688 t689 _ A12.out).mono ?_); rintro e w17 ⟨rfl, hb⟩; replace BK687 := am (blk_below (g := gb687) (o := .cells #[.int .i64 ((rd_T137 l0 x13_1).f0), .int .i64 ((rd_T137 l0 x13_1).f1), .int .i64 ((rd_T137 l0 x13_1).f2), .int .i64 ((rd_T137 l0 x13_1).f3)] 137 (0, 0)) (sp BK687) hb); replace HB := bsw hb; (try clear hb)) | (go_at_call 93; (with_reducible refine (impl_InSpan.calls t688 t689 a3 true _ A13.out).mono ?_); rintro e w18 ⟨rfl, hb⟩; replace BK687 := bb BK687 hb; replace HB := bsw hb; (try clear hb)))
       go_ret
       exact ⟨by first | rfl | (simp [errW_none, errW_some] <;> rfl) | (simp only [← hji8, ← hji10]; first | rfl | (simp [errW_none, errW_some] <;> rfl)) | (simp [*, errW_none, errW_some] <;> rfl), sbw⟩
      ·replace H := im H
       have H' := am H
       clear H
       obtain ⟨p686, q686, ad686, e686, _, _, _, _, hx686_0, hx686_1, hx686_2, hx686_3⟩ := aT_T137 HR0 HB x13_1
       cases e686
       go_wp2_with (first | ((with_reducible refine gd 10 rfl ?_); (try (refine gate_guard (by rfl) ?_; dsimp only)); refine bx 10 #[.int .i64 0, .int .i64 0, .int .i64 0, .int .i64 0] 137 ?_; intro gb687 hg w19 hbox hb; have GW687 := bz w hg; have GE687 := bz w hg; replace HB := bs hb; have BK687 := am hbox; clear hb hbox hg; obtain ⟨hcz20_0, hcz20_1, hcz20_2, hcz20_3, hfz20_0, hfz20_1, hfz20_2, hfz20_3⟩ := cc4 BK687) | (go_at_call 119; (with_reducible refine (impl_spanOf.calls ((rd_T137 l0 x13_1).f0) ((rd_T137 l0 x13_1).f1) ((rd_T137 l0 x13_1).f2) ((rd_T137 l0 x13_1).f3) t688 t689 _ A12.out).mono ?_); rintro e w21 ⟨rfl, hb⟩; replace BK687 := am (blk_below (g := gb687) (o := .cells #[.int .i64 ((rd_T137 l0 x13_1).f0), .int .i64 ((rd_T137 l0 x13_1).f1), .int .i64 ((rd_T137 l0 x13_1).f2), .int .i64 ((rd_T137 l0 x13_1).f3)] 137 (0, 0)) (sp BK687) hb); replace HB := bsw hb; (try clear hb)) | (go_at_call 93; (with_reducible refine (impl_InSpan.calls t688 t689 a3 false _ A13.out).mono ?_); rintro e w22 ⟨rfl, hb⟩; replace BK687 := bb BK687 hb; replace HB := bsw hb; (try clear hb)))
       go_roundg k1
       case measure => have := HK1.out; omega
       case rel => exact ⟨(wrap64 (x13_1 + 1)), sc, H', kk1, ⟨sbw⟩⟩
     ·have c11b0 : (((rd_T137 l0 x13_1).f1) == (ji10)) = false := beq_eq_false_iff_ne.mpr c11
      have c11b1 : (((rd_T137 l0 x13_1).f1) != (ji10)) = true := bne_iff_ne.mpr c11
      have H' := am H
      clear H
      obtain ⟨p686, q686, ad686, e686, _, _, _, _, hx686_0, hx686_1, hx686_2, hx686_3⟩ := aT_T137 HR0 HB x13_1
      cases e686
      go_wp2_with (first | ((with_reducible refine gd 10 rfl ?_); (try (refine gate_guard (by rfl) ?_; dsimp only)); refine bx 10 #[.int .i64 0, .int .i64 0, .int .i64 0, .int .i64 0] 137 ?_; intro gb687 hg w23 hbox hb; have GW687 := bz w hg; have GE687 := bz w hg; replace HB := bs hb; have BK687 := am hbox; clear hb hbox hg; obtain ⟨hcz24_0, hcz24_1, hcz24_2, hcz24_3, hfz24_0, hfz24_1, hfz24_2, hfz24_3⟩ := cc4 BK687))
      go_roundg k1
      case measure => have := HK1.out; omega
      case rel => exact ⟨(wrap64 (x13_1 + 1)), sc, H', kk1, ⟨sbw⟩⟩
    ·have c9b0 : (((rd_T137 l0 x13_1).f0) == (ji8)) = false := beq_eq_false_iff_ne.mpr c9
     have c9b1 : (((rd_T137 l0 x13_1).f0) != (ji8)) = true := bne_iff_ne.mpr c9
     have H' := am H
     clear H
     obtain ⟨p686, q686, ad686, e686, _, _, _, _, hx686_0, hx686_1, hx686_2, hx686_3⟩ := aT_T137 HR0 HB x13_1
     cases e686
     go_wp2_with (first | ((with_reducible refine gd 10 rfl ?_); (try (refine gate_guard (by rfl) ?_; dsimp only)); refine bx 10 #[.int .i64 0, .int .i64 0, .int .i64 0, .int .i64 0] 137 ?_; intro gb687 hg w25 hbox hb; have GW687 := bz w hg; have GE687 := bz w hg; replace HB := bs hb; have BK687 := am hbox; clear hb hbox hg; obtain ⟨hcz26_0, hcz26_1, hcz26_2, hcz26_3, hfz26_0, hfz26_1, hfz26_2, hfz26_3⟩ := cc4 BK687))
     go_roundg k1
     case measure => have := HK1.out; omega
     case rel => exact ⟨(wrap64 (x13_1 + 1)), sc, H', kk1, ⟨sbw⟩⟩
   ·have c5b0 := decide_eq_false c5
    clear c5
    obtain rfl := Option.some.inj H
    go_wp2
    go_ret
    exact ⟨se, sb⟩

end Go.Proofs.Ytiihaabhjphaeaa.QFnPrograms
