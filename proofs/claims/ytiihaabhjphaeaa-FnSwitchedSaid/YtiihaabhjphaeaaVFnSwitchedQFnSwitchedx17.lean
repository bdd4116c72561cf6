/- Printed by a program of the session. Conditions: none. (squeezed). -/
import Derived.Test.YtiihaabhjphaeaaVFnSwitchedFr
import Derived.Test.YtiihaabhjphaeaaVFnSwitchedQFnSwitchedx10
import Derived.Test.YtiihaabhjphaeaaVFnSwitchedQFnSwitchedx16
namespace Go.Proofs.Ytiihaabhjphaeaa.QFnSwitched
set_option maxHeartbeats 8000000
set_option maxRecDepth 100000
open Go.RowKit Go.Proofs.YtiihaabhjphaeaaW.PrintWords Go.Proofs.YtiihaabhjphaeaaW.PrintLast Go.Proofs.YtiihaabhjphaeaaW.PrintMore Go.Proofs.Ytiihaabhjphaeaa.Open Go.Proofs.Ytiihaabhjphaeaa.Sq Go.Proofs.Ytiihaabhjphaeaa
attribute [local go_sem] max2_int min2_int max_two min_two max_three min_three max_four min_four   -- for this text's walks alone
attribute [local go_sem] isSome_set
set_option linter.unusedVariables false
set_option linter.unusedSimpArgs false

theorem a17_1 {P : Prop} (h : P := by have := HK1.out; have := HK2.out; have := HK3.out; have := HJ11.out; omega) : P := h
theorem a17_0 {P : Prop} (h : P := by have := HK1.out; have := HK2.out; have := HK3.out; first | omega | exact Nat.le_refl _) : P := h
mutual
def spec_BuildProgram.j0 : Nat → List (S137) → Int → Int → Int → Int → Int → Bool → Option (Int × Int × Int × (List (S105)) × Bool)
  | 0, _, _, _, _, _, _, _ => none
  | k + 1, x0, x1, x2, x3, x4, x5, x28 => if x28 = true then (some (0, 0, 0, ([] : List (S105)), false)) else ((spec_PiecesOf.f k x0 x3 x4).bind fun t533 => ((spec_l1In.f (t533.length : Int) 1 40).bind fun t536 => (if t536 = true then (spec_BuildProgram.l0 k x0 x1 x2 t533 0 x1 x2 x5 ([] : List (S105))) else (some (0, 0, 0, ([] : List (S105)), false)))))
def spec_BuildProgram.l0 : Nat → List (S137) → Int → Int → List (S102) → Int → Int → Int → Int → List (S105) → Option (Int × Int × Int × (List (S105)) × Bool)
  | 0, _, _, _, _, _, _, _, _, _ => none
  | k + 1, x0, x1, x2, x14, x16, x538000, x538001, x538002, x538003 => if x16 < (x14.length : Int) then (if 0 ≤ x16 then ((spec_LinksAt.f k x0 ((rd_T102 x14 x16).f0)).bind fun t539 => ((spec_l17Tables.f k t539 x1 x2).bind fun t543 => (if x538003.length < 2199023255552 then (spec_BuildProgram.l0 k x0 x1 x2 x14 (wrap64 (x16 + 1)) x538000 x538001 x538002 (x538003 ++ [(⟨(⟨(rd_T102 x14 x16).f0, (rd_T102 x14 x16).f1⟩ : S102), t539, t543⟩ : S105)])) else (none)))) else (none)) else (some (x538000, x538001, x538002, x538003, true))
end
def spec_BuildProgram.f (k : Nat) (l0 : List (S137)) (a1 : Int) (a2 : Int) (a3 : Int) (a4 : Int) (a5 : Int) : Option (Int × Int × Int × (List (S105)) × Bool) := (spec_l17Frame.f a1 a2 a5).bind fun t531 => (if t531 = true then ((spec_IsPlan.f k l0 a1).bind fun t532 => (spec_BuildProgram.j0 k l0 a1 a2 a3 a4 a5 (!t532))) else (spec_BuildProgram.j0 k l0 a1 a2 a3 a4 a5 true))
theorem spec_BuildProgram.mono_l : ∀ k, (∀ y0 y1 y2 y3 y4 y5 y6, LeO (spec_BuildProgram.j0 k y0 y1 y2 y3 y4 y5 y6) (spec_BuildProgram.j0 (k + 1) y0 y1 y2 y3 y4 y5 y6)) ∧ (∀ y0 y1 y2 y3 y4 y5 y6 y7 y8, LeO (spec_BuildProgram.l0 k y0 y1 y2 y3 y4 y5 y6 y7 y8) (spec_BuildProgram.l0 (k + 1) y0 y1 y2 y3 y4 y5 y6 y7 y8))
  | 0 => ⟨fun _ _ _ _ _ _ _ r h => by simp [spec_BuildProgram.j0] at h, fun _ _ _ _ _ _ _ _ _ r h => by simp [spec_BuildProgram.l0] at h⟩
  | k + 1 => by
    obtain ⟨ih0, ih1⟩ := spec_BuildProgram.mono_l k
    refine ⟨?_, ?_⟩
    · intro y0 y1 y2 y3 y4 y5 y6
      unfold spec_BuildProgram.j0
      have m0 := @spec_IsPlan.mono
      have m1 := @spec_LinksAt.mono
      have m2 := @spec_PiecesOf.mono
      have m3 := @spec_l17Tables.mono
      exact mo
    · intro y0 y1 y2 y3 y4 y5 y6 y7 y8
      unfold spec_BuildProgram.l0
      have m0 := @spec_IsPlan.mono
      have m1 := @spec_LinksAt.mono
      have m2 := @spec_PiecesOf.mono
      have m3 := @spec_l17Tables.mono
      exact mo
theorem spec_BuildProgram.mono : ∀ a0 a1 a2 a3 a4 a5 k, LeO (spec_BuildProgram.f k a0 a1 a2 a3 a4 a5) (spec_BuildProgram.f (k + 1) a0 a1 a2 a3 a4 a5) := by
  intro a0 a1 a2 a3 a4 a5 k
  obtain ⟨ih0, ih1⟩ := spec_BuildProgram.mono_l k
  unfold spec_BuildProgram.f
  have m0 := @spec_IsPlan.mono
  have m1 := @spec_LinksAt.mono
  have m2 := @spec_PiecesOf.mono
  have m3 := @spec_l17Tables.mono
  exact mo
def spec_BuildProgram.T11 : Bool × List (List Nat × List Nat) := (true, [([], []), ([0], [0]), ([], []), ([], []), ([2, 3], [2, 3]), ([4], [4]), ([], []), ([], []), ([], []), ([], []), ([7, 8, 9], [7, 8, 9]), ([5, 6, 10], [5, 6, 10]), ([11], [11]), ([1, 12, 10], [1, 12]), ([0, 1, 2, 3, 4, 5, 6, 7, 8, 9, 10, 11, 12, 13], []), ([14, 13, 13, 0, 1, 2, 3, 4, 5, 6, 7, 8, 9, 10, 11, 12, 13], [13, 14])])
def spec_BuildProgram.B11 : List Nat := [0, 1, 0, 0, 12, 28, 0, 0, 0, 0, 896, 2044, 4092, 8191, 16383, 32767]
theorem spec_BuildProgram.tab11 : rtab .any (opsOf Try.f46 11) = spec_BuildProgram.T11 := by kernel_rfl
theorem spec_BuildProgram.bits11 : waitsOk spec_BuildProgram.T11.2 spec_BuildProgram.B11 = true := by kernel_rfl
theorem spec_BuildProgram.calls (k : Nat) (A0 : Option Addr) (c0 : Nat) (l0 : List (S137)) (a1 : Int) (a2 : Int) (a3 : Int) (a4 : Int) (a5 : Int) (r1 : Int) (r2 : Int) (r3 : Int) (r4 : List (S105)) (r5 : Bool) (w : World) (hr0 : Kd.C k137 w A0 l0.length l0) (hc0 : l0.length ≤ c0) (h : spec_BuildProgram.f k l0 a1 a2 a3 a4 a5 = some (r1, r2, r3, r4, r5)) :
    Calls Try.prog 46 #[.slice A0 l0.length c0, .int .i64 a1, .int .i64 a2, .int .i64 a3, .int .i64 a4, .int .i64 a5] w fun e w' => ∃ v3_ : Value, e = .returned (.tuple #[.agg #[.int .i64 r1, .int .i64 r2, .int .i64 r3, v3_], .bool r5]) ∧ Kd.S k105 105 w' w.heap.size (fun _ => True) v3_ r4 ∧ Below w.heap.size w w' := by
 have hu31 := Try.underlying31
 have hu102 := Try.underlying102
 have hu105 := Try.underlying105
 have HR0 := am hr0
 have HC0 := am hc0
 clear hr0 hc0
 have HB := am (Below.refl w.heap.size w)
 have H := h; unfold spec_BuildProgram.f at H
 clear h
 have HC7 := am H
 clear H
 go_enter Try.func46, Try.ntmps46
 go_upto_region 1 with (first | ((with_reducible refine gd 12 rfl ?_); refine bx 12 #[.int .i64 0, .int .i64 0, .int .i64 0, .slice none 0 0] 31 ?_; intro gb530 hg w8 hbox hb; have GW530 := bz w hg; have GE530 := bz w hg; replace HB := bs hb; have BK530 := am hbox; clear hb hbox hg))
 (try simp only [Act.put, List.setIfInBounds_toArray, List.set_cons_zero, List.set_cons_succ])
 go_cut [28] (fun v28 wc => ∃ (kq : Nat) (x28_6 : Bool), v28 = .bool x28_6 ∧ Aside0 (spec_BuildProgram.j0 kq l0 a1 a2 a3 a4 a5 x28_6 = some (r1, r2, r3, r4, r5)) ∧ Aside0 (kq ≤ k) ∧ Aside0 (wc.heap[gb530]? = some (.cells #[.int .i64 0, .int .i64 0, .int .i64 0, (.slice none 0 0)] 31 (0, 0))) ∧ Aside0 (Below w.heap.size w wc))
 case first =>
  have H := HC7.out
  clear HC7
  obtain ⟨t531, A9, H⟩ := bnd H
  obtain rfl | rfl := tt t531
  ·replace H := ip H
   obtain ⟨t532, A11, H⟩ := bnd H
   have H' := am H
   clear H
   go_wp2_with (first | ((with_reducible refine gc 101 rfl ?_); refine gL (some 21) Try.func101 #[.int .i64 a1, .int .i64 a2, .int .i64 a5] ?_; (with_reducible refine (spec_l17Frame.calls a1 a2 a5 true _ A9.out).mono ?_); rintro e w' ⟨rfl, ⟨nd, rfl⟩⟩; refine ⟨_, rfl, ?_⟩) | (go_at_call 113; (with_reducible refine (spec_IsPlan.calls k _ _ l0 a1 t532 _ ?side1 ?side2 A11.out).mono ?_); (case side1 => exact cbw HR0); (case side2 => exact HC0.out); rintro e w12 ⟨rfl, hb⟩; replace BK530 := bb BK530 hb; replace HB := bsw hb; (try clear hb)))
   go_meet
   case rel => exact ⟨_, (!t532), sc, H', ⟨by first | omega | exact Nat.le_refl _⟩, ⟨sk BK530⟩, ⟨sbw⟩⟩
  ·replace H := im H
   have H' := am H
   clear H
   go_wp2_with (first | ((with_reducible refine gc 101 rfl ?_); refine gL (some 21) Try.func101 #[.int .i64 a1, .int .i64 a2, .int .i64 a5] ?_; (with_reducible refine (spec_l17Frame.calls a1 a2 a5 false _ A9.out).mono ?_); rintro e w' ⟨rfl, ⟨nd, rfl⟩⟩; refine ⟨_, rfl, ?_⟩))
   go_meet
   case rel => exact ⟨_, (true), sc, H', ⟨by first | omega | exact Nat.le_refl _⟩, ⟨sk BK530⟩, ⟨sbw⟩⟩
 case rest =>
  clear HC7
  obtain ⟨kq, x28_6, rfl, HA, HJ6, BK530, HB⟩ := hcut
  cases kq with
  | zero => exact absurd HA.out (by simp [spec_BuildProgram.j0])
  | succ kj6 =>
   have H := HA.out
   clear HA
   simp only [spec_BuildProgram.j0] at H
   obtain rfl | rfl := tt x28_6
   ·replace H := ip H
    simp only [Option.some.injEq, Prod.mk.injEq] at H
    obtain ⟨rfl, rfl, rfl, rfl, rfl⟩ := H
    obtain ⟨hcz14_0, hcz14_1, hcz14_2, hcz14_3, hfz14_0, hfz14_1, hfz14_2, hfz14_3⟩ := cc4 BK530
    go_wp2
    refine bodyPost_ret (results_ct rfl _ _ gb530 31 #[.int .i64 0, .int .i64 0, .int .i64 0, .slice none 0 0] (0, 0) _ rfl (sp BK530) Try.underlying31 rfl (by kernel_rfl)) rfl ?_
    exact ⟨_, se, sn, sbw⟩
   ·replace H := im H
    obtain ⟨t533, A15, H⟩ := bnd H
    obtain ⟨t536, A16, H⟩ := bnd H
    obtain rfl | rfl := tt t536
    ·replace H := ip H
     have H' := am H
     clear H
     go_wp2_with (first | ((with_reducible refine gc 114 rfl ?_); refine gL (some 33) Try.func114 #[.slice A0 l0.length c0, .int .i64 a3, .int .i64 a4] ?_; (with_reducible refine (spec_PiecesOf.calls kj6 _ _ l0 a3 a4 t533 _ ?side1 ?side2 A15.out).mono ?_); (case side1 => exact cb HR0); (case side2 => exact HC0.out); rintro e w18 ⟨v534, rfl, ho0, hb⟩; refine ⟨_, rfl, ?_⟩; have HO535 := am (Kd.R_lower ho0 (below_size (sbw))); replace BK530 := bb BK530 hb; replace HB := bsw hb; (try clear hb); (try clear ho0); obtain ⟨Ao19, co19, eo19⟩ := Kd.R_slice HO535.out; subst eo19) | ((with_reducible refine gc 85 rfl ?_); refine gL (some 36) Try.func85 #[.int .i64 (t533.length : Int), .int .i64 1, .int .i64 40] ?_; (with_reducible refine (spec_l1In.calls (t533.length : Int) 1 40 true _ A16.out).mono ?_); rintro e w' ⟨rfl, ⟨nd, rfl⟩⟩; refine ⟨_, rfl, ?_⟩) | ((with_reducible refine gd 15 rfl ?_); refine bx 15 #[.int .i64 0, .int .i64 0, .int .i64 0, .slice none 0 0] 31 ?_; intro gb537 hg w20 hbox hb; replace HO535 := rb HO535 hb; have GW537 := bzw w hg; have GE537 := bzw w hg; replace HB := bsw hb; have BK537 := am hbox; have NB530_537 := nl BK530 hg; have NB537_530 := ng BK530 hg; replace BK530 := bb BK530 hb; clear hb hbox hg; have hnb21 := NB537_530.out; have hnc21 := NB530_537.out; obtain ⟨hcz22_0, hcz22_1, hcz22_2, hcz22_3, hfz22_0, hfz22_1, hfz22_2, hfz22_3⟩ := cc4 BK537))
     go_loopg [16] kj6 (fun kq v16 w' => ∃ (x16_2 : Int) (x538003_2 : List (S105)) (u538003 : Value), v16 = .int .i64 x16_2 ∧ Aside0 (spec_BuildProgram.l0 kq l0 a1 a2 t533 x16_2 a1 a2 a5 x538003_2 = some (r1, r2, r3, r4, r5)) ∧ Aside0 (kq ≤ kj6) ∧ Aside0 (Kd.R k102 102 w' w.heap.size (fun _ => True) (.slice Ao19 t533.length co19) t533) ∧ Aside0 (Kd.S k105 105 w' w.heap.size (fun _ => True) u538003 x538003_2) ∧ Aside0 (w'.heap[gb530]? = some (.cells #[.int .i64 0, .int .i64 0, .int .i64 0, (.slice none 0 0)] 31 (0, 0))) ∧ Aside0 (w'.heap[gb537]? = some (.cells #[.int .i64 a1, .int .i64 a2, .int .i64 a5, u538003] 31 (0, 0))) ∧ Aside0 (Below w.heap.size w w'))
     case atStart => exact ⟨(0), (([] : List (S105))), (.slice none 0 0), sc, H', kk0, ⟨by (with_reducible repeat (first | apply Kd.R_alloc | apply Kd.R_drewN | apply Kd.R_drew)); exact Kd.R_mono (Kd.R_far (p := ⟨gb537, 3, none⟩) (h3 HO535 BK537) (fun _ hk => hk.2) (.slice none 0 0)) (fun _ hk => trivial)⟩, ⟨sn⟩, ⟨sp BK530⟩, ⟨sp BK537⟩, ⟨sbw⟩⟩
     case round =>
      clear H'
      obtain ⟨x16_2, x538003_2, u538003, rfl, HA, HK2, HO_14, HO_538003, BK530, BK537, HB⟩ := hrel
      cases gk with
      | zero => exact absurd HA.out (by simp [spec_BuildProgram.l0])
      | succ k2 =>
       have H := HA.out
       clear HA
       simp only [spec_BuildProgram.l0] at H
       obtain ⟨-, c23b0, H⟩ | ⟨-, c23b0, H⟩ := ic_ H
       ·obtain ⟨c24b0, H⟩ := id_ H
        obtain ⟨t539, A25, H⟩ := bnd H
        obtain ⟨t543, A26, H⟩ := bnd H
        obtain ⟨LMc27, H⟩ := il_ H
        obtain ⟨y546, hy546⟩ : ∃ y_ : List (S105), y_ = (x538003_2 ++ [(⟨(⟨(rd_T102 t533 x16_2).f0, (rd_T102 t533 x16_2).f1⟩ : S102), t539, t543⟩ : S105)]) := ⟨_, rfl⟩
        replace H : (spec_BuildProgram.l0 k2 l0 a1 a2 t533 (wrap64 (x16_2 + 1)) a1 a2 a5 y546) = some (r1, r2, r3, r4, r5) := ry hy546 H
        have Ny546 := am hy546
        clear hy546
        have H' := am H
        clear H
        have p538 : 0 ≤ (x16_2 : Int) := sa
        have q538 : x16_2 < (t533.length : Int) := sa
        obtain ⟨ad538, e538, hx538_0, hx538_1⟩ := at_T102 (Kd.R_reads' HO_14.out).2.2 x16_2 p538 q538
        cases e538
        replace p538 := eq_true p538
        replace q538 := eq_true q538
        try go_wp2_with (first | ((with_reducible refine gc 115 rfl ?_); refine gL (some 55) Try.func115 #[.slice A0 l0.length c0, .int .i64 ((rd_T102 t533 x16_2).f0)] ?_; (with_reducible refine (spec_LinksAt.calls k2 _ _ l0 ((rd_T102 t533 x16_2).f0) t539 _ ?side1 ?side2 A25.out).mono ?_); (case side1 => exact cb HR0); (case side2 => exact HC0.out); rintro e w28 ⟨v540, rfl, ho0, hb⟩; refine ⟨_, rfl, ?_⟩; replace HO_14 := rb HO_14 hb; obtain ⟨N_, hN_, OLD_, NEW1_⟩ := Fr.pair (ss HO_538003) ho0 hb (below_size (sbw)); replace HO_538003 := am (Kd.S_elder' (ss HO_538003) (Kd.R_base ho0) hb); have HO541 := am (Kd.R_lower ho0 (below_size (sbw))); replace BK530 := bb BK530 hb; replace BK537 := bb BK537 hb; replace HB := bsw hb; (try clear hb); (try clear ho0)))
        replace HO_14 := am (Kd.R_drew HO_14.out)
        replace HO_538003 := am (Kd.S_drew HO_538003.out)
        replace HO541 := am (Kd.R_drew HO541.out)
        replace NEW1_ := am (Kd.R_drew NEW1_.out)
        replace OLD_ := am (Kd.S_drew OLD_.out)
        replace hN_ : Aside0 (N_ ≤ w28.drew.heap.size) := ⟨hN_.out⟩
        replace BK530 := am (blk_drew BK530.out)
        replace BK537 := am (blk_drew BK537.out)
        replace HB := am (below_drew1 HB.out)
        have p542 : 0 ≤ (x16_2 : Int) := sa
        have q542 : x16_2 < (t533.length : Int) := sa
        obtain ⟨ad542, e542, hx542_0, hx542_1⟩ := at_T102 (Kd.R_reads' HO_14.out).2.2 x16_2 p542 q542
        obtain rfl : ad538 = ad542 := (by injection e542)
        replace p542 := eq_true p542
        replace q542 := eq_true q542
        obtain ⟨Ao30, co30, eo30⟩ := Kd.R_slice HO541.out
        (first | subst eo30 | (injection eo30 with f1_ f2_ f3_; have f4_ := f1_.symm; have f5_ := f3_.symm; clear f1_ f2_ f3_; subst f4_; subst f5_))
        refine start_ (n := 16) (S := fun w' => w'.cell? ⟨gb537, 0, none⟩ = some (.int .i64 a1) ∧ w'.cell? ⟨gb537, 1, none⟩ = some (.int .i64 a2) ∧ w'.cell? ⟨gb537, 2, none⟩ = some (.int .i64 a5) ∧ w'.cell? ⟨gb537, 3, none⟩ = some (u538003) ∧ w'.cell? (ad538.add ((x16_2).toNat * 2)) = some (.int .i64 ((rd_T102 t533 x16_2).f0)) ∧ w'.cell? ⟨(ad538.add ((x16_2).toNat * 2)).block, (ad538.add ((x16_2).toNat * 2)).off + 1, none⟩ = some (.int .i64 ((rd_T102 t533 x16_2).f1))) (ds := [13, 15]) #[false, false, false, false, false, false, false, false, false, false, false, false, false, false, false, false] (by kernel_rfl) rfl rfl ⟨bc0 BK537, bc1 BK537, bc2 BK537, bc3 BK537, hx542_0, hx542_1⟩ (fun hHeld => ?_); refine with_tabW spec_BuildProgram.tab11 spec_BuildProgram.bits11 (fun HT_ HW_ => ?_)
        generalize w28.drew = w29 at hN_ NEW1_ OLD_ HO_14 HO_538003 HO541 BK530 BK537 HB hx542_0 hx542_1 hHeld ⊢
        refine put 0 56 (bt 16 1) HT_ ?_
        refine put 2 58 (bt 16 5) HT_ ?_
        refine put 3 59 (bt 16 13) HT_ ?_
        refine put 4 60 (bt 16 29) HT_ ?_
        refine put 6 62 (bt 16 93) HT_ ?_
        refine put 7 63 (bt 16 221) HT_ ?_
        refine put 8 64 (bt 16 477) HT_ ?_
        refine put 9 65 (bt 16 989) HT_ ?_
        refine tat6 1 57 (bt 16 991) HT_ HW_ hHeld ?_
        refine tat6 5 61 (bt 16 1023) HT_ HW_ hHeld ?_
        refine on 10 66 (bt 16 2047) HT_ (fun K hK => ?_)
        refine goes_ Try.func116 (by kernel_rfl) rfl #[.slice Ao30 t539.length co30, .int .i64 a1, .int .i64 a2] (by rfl) rfl rfl sl ?_
        with_reducible refine (spec_l17Tables.calls k2 _ _ t539 a1 a2 t543 _ ?side1 ?side2 A26.out).mono ?_
        (case side1 => exact cr HO541)
        (case side2 => exact (Kd.R_reads' HO541.out).2.1)
        rintro e w31 ⟨v544, rfl, ho0, hb⟩
        have HS4_ := (hb.cell (World.block_lt_of_cell? _ _ (hHeld.2.2.2.2.1))).trans (hHeld.2.2.2.2.1)
        have HS5_ := (hb.cell (World.block_lt_of_cell? _ _ (hHeld.2.2.2.2.2))).trans (hHeld.2.2.2.2.2)
        refine ⟨_, rfl, ?_⟩
        replace HO_14 := rb HO_14 hb
        have NEW2_ := Fr.next (Kd.S_R ho0) hN_.out (below_size (sbw))
        replace NEW1_ := rb NEW1_ hb
        replace OLD_ := am (Kd.S_below (ss OLD_) hb)
        replace HO_538003 := am (Kd.S_elder' (ss HO_538003) (Kd.S_base ho0) hb)
        replace HO541 := rb HO541 hb
        have HO545 := am (Kd.S_lower ho0 (below_size (sbw)))
        replace BK530 := bb BK530 hb
        replace BK537 := bb BK537 hb
        replace HB := bsw hb
        (try clear hb)
        (try clear hb2)
        (try clear hk)
        (try clear hi)
        (try clear ho0)
        obtain ⟨Ao32, co32, eo32⟩ := Kd.S_slice HO545.out
        (first | subst eo32 | (injection eo32 with f1_ f2_ f3_; have f4_ := f1_.symm; have f5_ := f3_.symm; clear f1_ f2_ f3_; subst f4_; subst f5_))
        refine hK.out _ _ ⟨bc0 BK537, bc1 BK537, bc2 BK537, bc3 BK537, HS4_, HS5_⟩ (fun hHeld => ?_)
        clear hK K
        refine nm 66 ?_
        refine put 11 67 (bt 16 4095) HT_ ?_
        refine on 12 68 (bt 16 8191) HT_ (fun K hK => ?_)
        refine value_ (w1 := ?_) (v := ?_) (by rfl) rfl ?_ ?_
        rotate_left 2
        ·go_simp
         constructor
         ·rfl
         ·rfl
        refine hK.out _ _ ⟨(blk_cell (blk_alloc BK537.out _) 0).trans rfl, (blk_cell (blk_alloc BK537.out _) 1).trans rfl, (blk_cell (blk_alloc BK537.out _) 2).trans rfl, (blk_cell (blk_alloc BK537.out _) 3).trans rfl, (World.cell?_alloc_lt _ _ _ (World.block_lt_of_cell? _ _ (hHeld.2.2.2.2.1))).trans (hHeld.2.2.2.2.1), (World.cell?_alloc_lt _ _ _ (World.block_lt_of_cell? _ _ (hHeld.2.2.2.2.2))).trans (hHeld.2.2.2.2.2)⟩ (fun hHeld => ?_)
        clear hK K
        refine nm 68 ?_
        refine last_ (i := 13) (N := some 69) (bt 16 16383) rfl rfl (one_of HT_.out (by kernel_rfl)) (by decide) (fun K hK => ?_)
        refine Kd.S_append_step k105 (w0 := w) w.heap.size (by rfl) (.tmp 57) (.tmp 68) 29 105 (.agg #[(.int .i64 0), (.int .i64 0), (.slice none 0 0), (.slice none 0 0)]) 64 rfl Try.underlying29 info105 rfl (by decide) (by omega) u538003 x538003_2 (⟨(⟨(rd_T102 t533 x16_2).f0, (rd_T102 t533 x16_2).f1⟩ : S102), t539, t543⟩ : S105) [.int .i64 ((rd_T102 t533 x16_2).f0), .int .i64 ((rd_T102 t533 x16_2).f1), .slice Ao30 t539.length co30, .slice Ao32 t543.length co32] (fun _ => True) (fun k_ => N_ ≤ k_) rfl rfl ?aP (fun k_ hk_ => ⟨trivial, Fr.away OLD_ hk_⟩) ?aF ?aO ?aB ?aS ?aL ?_
        (case aP => exact k105_mkM _ _ _ (⟨(⟨(rd_T102 t533 x16_2).f0, (rd_T102 t533 x16_2).f1⟩ : S102), t539, t543⟩ : S105) NEW1_.out NEW2_.out)
        (case aB => exact (sbw))
        (case aF => exact (fun _ _ => trivial))
        (case aO => exact (by (with_reducible repeat (first | apply Kd.S_alloc | apply Kd.S_drewN | apply Kd.S_drew)); exact Kd.S_mono OLD_.out (fun k_ hk => ⟨trivial, fun h_ => by have := hk.2; omega⟩)))
        (case aS => exact (below_size (sbw)))
        (case aL => have := LMc27.out; omega)
        intro v547 w33 ho hb hg hat
        rw [← Ny546.out] at ho
        replace HO_14 := am (Kd.R_over' (sr HO_14) (Kd.S_typed (ss HO_538003)) (by decide) hg)
        replace BK530 := am (blk_grown (g := gb530) (o := .cells #[.int .i64 0, .int .i64 0, .int .i64 0, .slice none 0 0] 31 (0, 0)) (sk BK530) hg (Kd.S_ne HO_538003.out BK530.out (by decide)))
        replace BK537 := am (blk_grown (g := gb537) (o := .cells #[.int .i64 a1, .int .i64 a2, .int .i64 a5, u538003] 31 (0, 0)) (sk BK537) hg (Kd.S_ne HO_538003.out BK537.out (by decide)))
        replace HB := am hb
        have HO548 := am ho
        clear HO_538003 HO541 HO545 ho hb hg hat
        obtain ⟨Ao34, co34, eo34⟩ := Kd.S_slice HO548.out
        (first | subst eo34 | (injection eo34 with f1_ f2_ f3_; have f4_ := f1_.symm; have f5_ := f3_.symm; clear f1_ f2_ f3_; subst f4_; subst f5_))
        refine hK.out _ _ ?_
        clear hK K
        refine nm 69 ?_
        refine put 14 70 (bt 16 32767) HT_ ?_
        refine last_ (i := 15) (N := none) (bt 16 65535) rfl rfl (one_of HT_.out (by kernel_rfl)) (by decide) (fun K hK => ?_)
        have hs35 := bc3 BK537
        have hfs35 := bf BK537 3
        have hns35_0 := NB530_537.out
        have hms35_0 := NB537_530.out
        refine skip_ (w1 := ?_) (by rfl) rfl ?_ ?_
        rotate_left
        ·go_simp
         rfl
        refine hK.out _ _ ?_
        clear hK K
        refine done_ (done_of HT_.out (by kernel_rfl)) ?_
        try go_wp2
        go_roundg k2
        case measure => have := HJ6.out; have := HK2.out; omega
        case rel => exact ⟨(wrap64 (x16_2 + 1)), (y546), (.slice Ao34 y546.length co34), sc, H', ⟨by have := HJ6.out; have := HK2.out; omega⟩, ⟨by (with_reducible repeat (first | apply Kd.R_alloc | apply Kd.R_drewN | apply Kd.R_drew)); exact Kd.R_mono (Kd.R_far (p := ⟨gb537, 3, none⟩) (Kd.R_types HO_14.out BK537.out (by decide)) (fun _ hk => hk.2) (.slice Ao34 y546.length co34)) (fun _ hk => trivial)⟩, ⟨by (with_reducible repeat (first | apply Kd.S_alloc | apply Kd.S_drewN | apply Kd.S_drew)); exact Kd.S_mono (Kd.S_far (p := ⟨gb537, 3, none⟩) (Kd.S_types HO548.out BK537.out (by decide)) (fun _ hk => hk.2) (.slice Ao34 y546.length co34)) (fun _ hk => trivial)⟩, ⟨sp BK530⟩, ⟨sp BK537⟩, ⟨sbw⟩⟩
       ·simp only [Option.some.injEq, Prod.mk.injEq] at H
        obtain ⟨rfl, rfl, rfl, rfl, rfl⟩ := H
        have hnb36 := NB537_530.out
        have hnc36 := NB530_537.out
        obtain ⟨hcz37_0, hcz37_1, hcz37_2, hcz37_3, hfz37_0, hfz37_1, hfz37_2, hfz37_3⟩ := cc4 BK537
        obtain ⟨hcz38_0, hcz38_1, hcz38_2, hcz38_3, hfz38_0, hfz38_1, hfz38_2, hfz38_3⟩ := cc4 BK530
        obtain ⟨Ao39, co39, eo39⟩ := Kd.S_slice HO_538003.out
        subst eo39
        go_wp2
        refine bodyPost_ret (results_ct rfl _ _ gb530 31 #[.int .i64 a1, .int .i64 a2, .int .i64 a5, .slice Ao39 x538003_2.length co39] (0, 0) _ rfl (sp BK530) Try.underlying31 rfl (by kernel_rfl)) rfl ?_
        exact ⟨_, se, by (with_reducible repeat (first | apply Kd.S_alloc | apply Kd.S_drewN | apply Kd.S_drew)); exact Kd.S_mono (Kd.S_far (p := ⟨gb530, 3, none⟩) (Kd.S_far (p := ⟨gb530, 2, none⟩) (Kd.S_far (p := ⟨gb530, 1, none⟩) (Kd.S_far (p := ⟨gb530, 0, none⟩) (Kd.S_types HO_538003.out BK530.out (by decide)) (fun _ hk => hk.2) (.int .i64 a1)) (fun _ hk => hk.2) (.int .i64 a2)) (fun _ hk => hk.2) (.int .i64 a5)) (fun _ hk => hk.2) (.slice Ao39 x538003_2.length co39)) (fun _ hk => trivial), sbw⟩
    ·replace H := im H
     simp only [Option.some.injEq, Prod.mk.injEq] at H
     obtain ⟨rfl, rfl, rfl, rfl, rfl⟩ := H
     go_wp2_with (first | ((with_reducible refine gc 114 rfl ?_); refine gL (some 33) Try.func114 #[.slice A0 l0.length c0, .int .i64 a3, .int .i64 a4] ?_; (with_reducible refine (spec_PiecesOf.calls kj6 _ _ l0 a3 a4 t533 _ ?side1 ?side2 A15.out).mono ?_); (case side1 => exact cb HR0); (case side2 => exact HC0.out); rintro e w40 ⟨v534, rfl, ho0, hb⟩; refine ⟨_, rfl, ?_⟩; have HO535 := am (Kd.R_lower ho0 (below_size (sbw))); replace BK530 := bb BK530 hb; replace HB := bsw hb; (try clear hb); (try clear ho0); obtain ⟨Ao41, co41, eo41⟩ := Kd.R_slice HO535.out; subst eo41) | ((with_reducible refine gc 85 rfl ?_); refine gL (some 36) Try.func85 #[.int .i64 (t533.length : Int), .int .i64 1, .int .i64 40] ?_; (with_reducible refine (spec_l1In.calls (t533.length : Int) 1 40 false _ A16.out).mono ?_); rintro e w' ⟨rfl, ⟨nd, rfl⟩⟩; refine ⟨_, rfl, ?_⟩; obtain ⟨hcz42_0, hcz42_1, hcz42_2, hcz42_3, hfz42_0, hfz42_1, hfz42_2, hfz42_3⟩ := cc4 BK530))
     refine bodyPost_ret (results_ct rfl _ _ gb530 31 #[.int .i64 0, .int .i64 0, .int .i64 0, .slice none 0 0] (0, 0) _ rfl (sp BK530) Try.underlying31 rfl (by kernel_rfl)) rfl ?_
     exact ⟨_, se, sn, sbw⟩

mutual
def spec_l11Plan.l0 : Nat → Int → Int → List (S137) → Int → List Int → Int → Int → Option ((List (S137)) × Int × Int)
  | 0, _, _, _, _, _, _, _ => none
  | k + 1, x1, x2, x7, x8, x1000, x1001, x1002 => if x8 < x1 then (spec_l11Plan.l1 k x1 x2 x7 x8 (wrap64 (x8 + 1)) x1000 x1001 x1002) else (some (x7, x1001, x1002))
def spec_l11Plan.l1 : Nat → Int → Int → List (S137) → Int → Int → List Int → Int → Int → Option ((List (S137)) × Int × Int)
  | 0, _, _, _, _, _, _, _, _ => none
  | k + 1, x1, x2, x7, x8, x9, x1000, x1001, x1002 => if x9 < x1 then ((spec_l1Below.f x1000 x1001 x1002 5).bind fun bt552 => ((spec_l1Below.f x1000 bt552.2.1 bt552.2.2 3).bind fun bt555 => (spec_l11Plan.l2 k x1 x2 x7 x8 x9 bt552.1 bt555.1 x1000 bt555.2.1 bt555.2.2))) else (spec_l11Plan.l0 k x1 x2 x7 (wrap64 (x8 + 1)) x1000 x1001 x1002)
def spec_l11Plan.l2 : Nat → Int → Int → List (S137) → Int → Int → Int → Int → List Int → Int → Int → Option ((List (S137)) × Int × Int)
  | 0, _, _, _, _, _, _, _, _, _, _ => none
  | k + 1, x1, x2, x7, x8, x9, x10, x11, x1000, x1001, x1002 => if x11 > 0 then (spec_l11Plan.j3 k x1 x2 x7 x8 x9 x10 x11 (decide (x10 < x2)) x1000 x1001 x1002) else (spec_l11Plan.j3 k x1 x2 x7 x8 x9 x10 x11 false x1000 x1001 x1002)
def spec_l11Plan.j3 : Nat → Int → Int → List (S137) → Int → Int → Int → Int → Bool → List Int → Int → Int → Option ((List (S137)) × Int × Int)
  | 0, _, _, _, _, _, _, _, _, _, _, _ => none
  | k + 1, x1, x2, x7, x8, x9, x10, x11, x36, x1000, x1001, x1002 => if x36 = true then ((spec_l1Below.f x1000 x1001 x1002 9).bind fun bt558 => ((spec_Min.f x2 (wrap64 ((wrap64 (x10 + 2)) + bt558.1))).bind fun t561 => (if x7.length < 4398046511104 then ((spec_l1Below.f x1000 bt558.2.1 bt558.2.2 6).bind fun bt565 => (spec_l11Plan.l2 k x1 x2 (x7 ++ [(⟨x8, x9, x10, t561⟩ : S137)]) x8 x9 (wrap64 ((wrap64 (t561 + 1)) + bt565.1)) (wrap64 (x11 - 1)) x1000 bt565.2.1 bt565.2.2)) else (none)))) else (spec_l11Plan.l1 k x1 x2 x7 x8 (wrap64 (x9 + 1)) x1000 x1001 x1002)
end
def spec_l11Plan.f (k : Nat) (s0_0 : List Int) (s0_1 : Int) (s0_2 : Int) (a1 : Int) (a2 : Int) : Option ((List (S137)) × Int × Int) := spec_l11Plan.l0 k a1 a2 (([] : List (S137))) 0 s0_0 s0_1 s0_2
theorem spec_l11Plan.mono_l : ∀ k, (∀ y0 y1 y2 y3 y4 y5 y6, LeO (spec_l11Plan.l0 k y0 y1 y2 y3 y4 y5 y6) (spec_l11Plan.l0 (k + 1) y0 y1 y2 y3 y4 y5 y6)) ∧ (∀ y0 y1 y2 y3 y4 y5 y6 y7, LeO (spec_l11Plan.l1 k y0 y1 y2 y3 y4 y5 y6 y7) (spec_l11Plan.l1 (k + 1) y0 y1 y2 y3 y4 y5 y6 y7)) ∧ (∀ y0 y1 y2 y3 y4 y5 y6 y7 y8 y9, LeO (spec_l11Plan.l2 k y0 y1 y2 y3 y4 y5 y6 y7 y8 y9) (spec_l11Plan.l2 (k + 1) y0 y1 y2 y3 y4 y5 y6 y7 y8 y9)) ∧ (∀ y0 y1 y2 y3 y4 y5 y6 y7 y8 y9 y10, LeO (spec_l11Plan.j3 k y0 y1 y2 y3 y4 y5 y6 y7 y8 y9 y10) (spec_l11Plan.j3 (k + 1) y0 y1 y2 y3 y4 y5 y6 y7 y8 y9 y10))
  | 0 => ⟨fun _ _ _ _ _ _ _ r h => by simp [spec_l11Plan.l0] at h, fun _ _ _ _ _ _ _ _ r h => by simp [spec_l11Plan.l1] at h, fun _ _ _ _ _ _ _ _ _ _ r h => by simp [spec_l11Plan.l2] at h, fun _ _ _ _ _ _ _ _ _ _ _ r h => by simp [spec_l11Plan.j3] at h⟩
  | k + 1 => by
    obtain ⟨ih0, ih1, ih2, ih3⟩ := spec_l11Plan.mono_l k
    refine ⟨?_, ?_, ?_, ?_⟩
    · intro y0 y1 y2 y3 y4 y5 y6
      unfold spec_l11Plan.l0
      exact mo
    · intro y0 y1 y2 y3 y4 y5 y6 y7
      unfold spec_l11Plan.l1
      exact mo
    · intro y0 y1 y2 y3 y4 y5 y6 y7 y8 y9
      unfold spec_l11Plan.l2
      exact mo
    · intro y0 y1 y2 y3 y4 y5 y6 y7 y8 y9 y10
      unfold spec_l11Plan.j3
      exact mo
theorem spec_l11Plan.mono : ∀ a0 a1 a2 a3 a4 k, LeO (spec_l11Plan.f k a0 a1 a2 a3 a4) (spec_l11Plan.f (k + 1) a0 a1 a2 a3 a4) := by
  intro a0 a1 a2 a3 a4 k
  obtain ⟨ih0, ih1, ih2, ih3⟩ := spec_l11Plan.mono_l k
  unfold spec_l11Plan.f
  exact mo
theorem spec_l11Plan.calls (k : Nat) (g : Nat) (s0_0 : List Int) (s0_1 : Int) (s0_2 : Int) (a1 : Int) (a2 : Int) (r1 : List (S137)) (r2 : Int) (r3 : Int) (w0 w : World) (hI : IsS152 w0 w g s0_0 s0_1 s0_2) (hB : Below w0.heap.size w0 w) (h : spec_l11Plan.f k s0_0 s0_1 s0_2 a1 a2 = some (r1, r2, r3)) :
    Calls Try.prog 106 #[.pointer (some ⟨g, 0, none⟩), .int .i64 a1, .int .i64 a2] w fun e w' => ∃ v0_ : Value, e = .returned (v0_) ∧ Kd.R k137 137 w' w.heap.size (fun _ => True) v0_ r1 ∧ IsS152 w0 w' g s0_0 r2 r3 ∧ Below w0.heap.size w0 w' ∧ KeepBut w w' g none := by
 have hu137 := Try.underlying137
 have HI0 := am hI
 have HK := am (KeepBut.refl w g none)
 have HL := am hB.size
 clear hI
 have HW0 := am hB.size
 have HB := am hB
 clear hB
 have H := h; unfold spec_l11Plan.f at H
 clear h
 obtain ⟨y549, hy549⟩ : ∃ y_ : List (S137), y_ = (([] : List (S137))) := ⟨_, rfl⟩
 replace H : (spec_l11Plan.l0 k a1 a2 y549 0 s0_0 s0_1 s0_2) = some (r1, r2, r3) := ry hy549 H
 have Ny549 := am hy549
 clear hy549
 have H' := am H
 clear H
 go_enter Try.func106, Try.ntmps106
 go_wp2_with (first | ((with_reducible refine gd 13 rfl ?_); refine Kd.R_lit k137 _ 137 ?hg (N := 13) ?hd (xs := ([] : List (S137))) (inner := []) (ok := fun _ => True) (okp := fun _ => True) ?hr ?hp (fun _ hk => hk) trivial (Below.refl _ _) (Nat.le_refl _) (by simp) ?_; (case hd => rfl); (case hg => rfl); (case hr => first | (go_simp; done) | (go_simp; rfl)); (case hp => exact (Reps.none _ _)); intro v550 w4 ho5 hb hg_ hnew_; clear hg_ hnew_; (first | rw [← Ny549.out] at ho5 | (simp only [Int.reduceToNat] at ho5; rw [← Ny549.out] at ho5)); have HO551 := am (Kd.R_lower ho5 (keep_size (w := w) (g := g) (row := none) (by exact kp HK))); replace HK := am (KeepBut.trans (by exact kp HK) (KeepBut.of_below hb g none) (.inl rfl)); replace HB := am (below_step (by exact sj152 HB HI0) hb); replace HI0 := am (IsS152.below (by exact si152 HI0) hb); clear hb ho5))
 go_loopg [7, 8] k (fun kq v7 v8 w' => ∃ (x7_1 : List (S137)) (x8_1 : Int) (x1001_1 : Int) (x1002_1 : Int), v8 = .int .i64 x8_1 ∧ Aside0 (spec_l11Plan.l0 kq a1 a2 x7_1 x8_1 s0_0 x1001_1 x1002_1 = some (r1, r2, r3)) ∧ Aside0 (kq ≤ k) ∧ Aside0 (Kd.R k137 137 w' w.heap.size (fun _ => True) v7 x7_1) ∧ Aside0 (IsS152 w0 w' g s0_0 x1001_1 x1002_1) ∧ Aside0 (KeepBut w w' g none) ∧ Aside0 (Below w0.heap.size w0 w'))
 case atStart => exact ⟨(y549), (0), (s0_1), (s0_2), sc, H', kk0, ⟨sr HO551⟩, ⟨by exact si152 HI0⟩, ⟨by exact kp HK⟩, ⟨by exact sj152 HB HI0⟩⟩
 case round =>
  clear H'
  obtain ⟨x7_1, x8_1, x1001_1, x1002_1, rfl, HA, HK1, HO_7, HI0, HK, HB⟩ := hrel
  cases gk with
  | zero => exact absurd HA.out (by simp [spec_l11Plan.l0])
  | succ k1 =>
   have H := HA.out
   clear HA
   simp only [spec_l11Plan.l0] at H
   obtain ⟨-, c6b0, H⟩ | ⟨-, c6b0, H⟩ := ic_ H
   ·have H' := am H
    clear H
    go_wp2
    go_loopg [7, 9] k1 (fun kq v7 v9 w' => ∃ (x7_2 : List (S137)) (x9_2 : Int) (x1001_2 : Int) (x1002_2 : Int), v9 = .int .i64 x9_2 ∧ Aside0 (spec_l11Plan.l1 kq a1 a2 x7_2 x8_1 x9_2 s0_0 x1001_2 x1002_2 = some (r1, r2, r3)) ∧ Aside0 (kq ≤ k1) ∧ Aside0 (Kd.R k137 137 w' w.heap.size (fun _ => True) v7 x7_2) ∧ Aside0 (IsS152 w0 w' g s0_0 x1001_2 x1002_2) ∧ Aside0 (KeepBut w w' g none) ∧ Aside0 (Below w0.heap.size w0 w'))
    case atStart => exact ⟨(x7_1), (wrap64 (x8_1 + 1)), (x1001_1), (x1002_1), sc, H', kk0, ⟨sr HO_7⟩, ⟨by exact si152 HI0⟩, ⟨by exact kp HK⟩, ⟨by exact sj152 HB HI0⟩⟩
    case round =>
     clear H'
     try clear c6
     try clear c6b0
     obtain ⟨x7_2, x9_2, x1001_2, x1002_2, rfl, HA, HK2, HO_7, HI0, HK, HB⟩ := hrel
     cases gk with
     | zero => exact absurd HA.out (by simp [spec_l11Plan.l1])
     | succ k2 =>
      have H := HA.out
      clear HA
      simp only [spec_l11Plan.l1] at H
      obtain ⟨-, c7b0, H⟩ | ⟨-, c7b0, H⟩ := ic_ H
      ·obtain ⟨⟨t552, t553, t554⟩, A8, H⟩ := bnd H
       try dsimp only at H
       obtain ⟨⟨t555, t556, t557⟩, A9, H⟩ := bnd H
       try dsimp only at H
       have H' := am H
       clear H
       go_wp2_with (first | ((with_reducible refine gc 76 rfl ?_); refine gL (some 27) Try.func76 #[.pointer (some ⟨g, 0, none⟩), .int .i64 5] ?_; (with_reducible refine (spec_l1Below.calls g s0_0 x1001_2 x1002_2 5 t552 t553 t554 w0 _ ?side1 ?side2 A8.out).mono ?_); (case side1 => exact si152 HI0); (case side2 => exact sj152 HB HI0); rintro e w10 ⟨rfl, hi, hb, hk⟩; refine ⟨_, rfl, ?_⟩; replace HO_7 := am (Kd.R_mono (Kd.R_keep (IsS152.apart (show IsS152 w0 _ g s0_0 x1001_2 x1002_2 from by exact si152 HI0) (sr HO_7) (by decide)) hk (fun _ h => h.2)) (fun _ h => h.1)); replace HK := am (KeepBut.trans (by exact kp HK) hk (.inl rfl)); replace HB := am hb; replace HI0 := am hi; (try clear hb); (try clear hk); (try clear hi)) | ((with_reducible refine gc 76 rfl ?_); refine gL (some 29) Try.func76 #[.pointer (some ⟨g, 0, none⟩), .int .i64 3] ?_; (with_reducible refine (spec_l1Below.calls g s0_0 t553 t554 3 t555 t556 t557 w0 _ ?side1 ?side2 A9.out).mono ?_); (case side1 => exact si152 HI0); (case side2 => exact sj152 HB HI0); rintro e w11 ⟨rfl, hi, hb, hk⟩; refine ⟨_, rfl, ?_⟩; replace HO_7 := am (Kd.R_mono (Kd.R_keep (IsS152.apart (show IsS152 w0 _ g s0_0 t553 t554 from by exact si152 HI0) (sr HO_7) (by decide)) hk (fun _ h => h.2)) (fun _ h => h.1)); replace HK := am (KeepBut.trans (by exact kp HK) hk (.inl rfl)); replace HB := am hb; replace HI0 := am hi; (try clear hb); (try clear hk); (try clear hi)))
       go_loopg [7, 10, 11] k2 (fun kq v7 v10 v11 w' => ∃ (x7_3 : List (S137)) (x10_3 : Int) (x11_3 : Int) (x1001_3 : Int) (x1002_3 : Int), v10 = .int .i64 x10_3 ∧ v11 = .int .i64 x11_3 ∧ Aside0 (spec_l11Plan.l2 kq a1 a2 x7_3 x8_1 x9_2 x10_3 x11_3 s0_0 x1001_3 x1002_3 = some (r1, r2, r3)) ∧ Aside0 (kq ≤ k2) ∧ Aside0 (Kd.R k137 137 w' w.heap.size (fun _ => True) v7 x7_3) ∧ Aside0 (IsS152 w0 w' g s0_0 x1001_3 x1002_3) ∧ Aside0 (KeepBut w w' g none) ∧ Aside0 (Below w0.heap.size w0 w'))
       case atStart => exact ⟨(x7_2), (t552), (t555), (t556), (t557), sc, sc, H', kk0, ⟨sr HO_7⟩, ⟨by exact si152 HI0⟩, ⟨by exact kp HK⟩, ⟨by exact sj152 HB HI0⟩⟩
       case round =>
        clear H'
        try clear c6
        try clear c6b0
        try clear c7
        try clear c7b0
        obtain ⟨x7_3, x10_3, x11_3, x1001_3, x1002_3, rfl, rfl, HA, HK3, HO_7, HI0, HK, HB⟩ := hrel
        cases gk with
        | zero => exact absurd HA.out (by simp [spec_l11Plan.l2])
        | succ k3 =>
         have H := HA.out
         clear HA
         simp only [spec_l11Plan.l2] at H
         have HC12 := am H
         clear H
         go_upto_region 10 with (fail)
         go_cut [36] (fun v36 wc => ∃ (kq : Nat) (x36_11 : Bool), v36 = .bool x36_11 ∧ Aside0 (spec_l11Plan.j3 kq a1 a2 x7_3 x8_1 x9_2 x10_3 x11_3 x36_11 s0_0 x1001_3 x1002_3 = some (r1, r2, r3)) ∧ Aside0 (kq ≤ k3) ∧ Aside0 (Kd.R k137 137 wc w.heap.size (fun _ => True) u7 x7_3) ∧ Aside0 (IsS152 w0 wc g s0_0 x1001_3 x1002_3) ∧ Aside0 (KeepBut w wc g none) ∧ Aside0 (Below w0.heap.size w0 wc))
         case first =>
          have H := HC12.out
          clear HC12
          obtain ⟨-, c13b0, H⟩ | ⟨-, c13b0, H⟩ := ic_ H
          ·(first | rw [c13b0] | (simp only [i64_w, i32_w]; rw [c13b0]) | rw [c13b1] | skip)
           have H' := am H
           clear H
           go_wp2
           go_meet
           case rel => exact ⟨_, (decide (x10_3 < a2)), sc, H', ⟨a17_0⟩, ⟨sr HO_7⟩, ⟨by exact si152 HI0⟩, ⟨by exact kp HK⟩, ⟨by exact sj152 HB HI0⟩⟩
          ·(first | rw [c13b0] | (simp only [i64_w, i32_w]; rw [c13b0]) | rw [c13b1] | skip)
           have H' := am H
           clear H
           go_wp2
           go_meet
           case rel => exact ⟨_, (false), sc, H', ⟨a17_0⟩, ⟨sr HO_7⟩, ⟨by exact si152 HI0⟩, ⟨by exact kp HK⟩, ⟨by exact sj152 HB HI0⟩⟩
         case rest =>
          clear HC12
          try clear c6
          try clear c6b0
          try clear c7
          try clear c7b0
          obtain ⟨kq, x36_11, rfl, HA, HJ11, HO_7, HI0, HK, HB⟩ := hcut
          cases kq with
          | zero => exact absurd HA.out (by simp [spec_l11Plan.j3])
          | succ kj11 =>
           have H := HA.out
           clear HA
           simp only [spec_l11Plan.j3] at H
           obtain rfl | rfl := tt x36_11
           ·replace H := ip H
            obtain ⟨⟨t558, t559, t560⟩, A15, H⟩ := bnd H
            try dsimp only at H
            obtain ⟨t561, A16, H⟩ := bnd H
            obtain ⟨LMc17, H⟩ := il_ H
            obtain ⟨y562, hy562⟩ : ∃ y_ : List (S137), y_ = (x7_3 ++ [(⟨x8_1, x9_2, x10_3, t561⟩ : S137)]) := ⟨_, rfl⟩
            replace H : ((spec_l1Below.f s0_0 t559 t560 6).bind fun bt565 => (spec_l11Plan.l2 kj11 a1 a2 y562 x8_1 x9_2 (wrap64 ((wrap64 (t561 + 1)) + bt565.1)) (wrap64 (x11_3 - 1)) s0_0 bt565.2.1 bt565.2.2)) = some (r1, r2, r3) := ry hy562 H
            have Ny562 := am hy562
            clear hy562
            obtain ⟨⟨t565, t566, t567⟩, A18, H⟩ := bnd H
            try dsimp only at H
            have H' := am H
            clear H
            go_wp2_with (first | ((with_reducible refine gc 76 rfl ?_); refine gL (some 43) Try.func76 #[.pointer (some ⟨g, 0, none⟩), .int .i64 9] ?_; (with_reducible refine (spec_l1Below.calls g s0_0 x1001_3 x1002_3 9 t558 t559 t560 w0 _ ?side1 ?side2 A15.out).mono ?_); (case side1 => exact si152 HI0); (case side2 => exact sj152 HB HI0); rintro e w19 ⟨rfl, hi, hb, hk⟩; refine ⟨_, rfl, ?_⟩; replace HO_7 := am (Kd.R_mono (Kd.R_keep (IsS152.apart (show IsS152 w0 _ g s0_0 x1001_3 x1002_3 from by exact si152 HI0) (sr HO_7) (by decide)) hk (fun _ h => h.2)) (fun _ h => h.1)); replace HK := am (KeepBut.trans (by exact kp HK) hk (.inl rfl)); replace HB := am hb; replace HI0 := am hi; (try clear hb); (try clear hk); (try clear hi)) | ((with_reducible refine gc 139 rfl ?_); refine gL (some 45) Try.func139 #[.int .i64 a2, .int .i64 (wrap64 ((wrap64 (x10_3 + 2)) + t558))] ?_; (with_reducible refine (spec_Min.calls a2 (wrap64 ((wrap64 (x10_3 + 2)) + t558)) t561 _ A16.out).mono ?_); rintro e w' ⟨rfl, ⟨nd, rfl⟩⟩; refine ⟨_, rfl, ?_⟩) | ((with_reducible refine gate_builtin (b := .append) (xs := #[.tmp 46, .tmp 52]) rfl ?_); at_builtin; refine Kd.R_append k137 w.heap.size rfl (.tmp 46) (.tmp 52) 59 137 (.agg #[(.int .i64 0), (.int .i64 0), (.int .i64 0), (.int .i64 0)]) 32 rfl Try.underlying59 info137 rfl (by decide) (by omega) u7 x7_3 (⟨x8_1, x9_2, x10_3, t561⟩ : S137) [.int .i64 x8_1, .int .i64 x9_2, .int .i64 x10_3, .int .i64 t561] (fun _ => True) (fun _ => False) rfl rfl ?aP (fun _ hk => hk.elim) ?aF ?aO (Below.refl _ _) ?aS ?aL ?_; (case aP => exact k137_mkM _ _ _ (⟨x8_1, x9_2, x10_3, t561⟩ : S137)); (case aF => exact (fun _ _ => trivial)); (case aO => exact (sr HO_7)); (case aS => exact (keep_size (w := w) (g := g) (row := none) (by exact kp HK))); (case aL => have := LMc17.out; omega); intro v563 w20 ho hb hg hat; rw [← Ny562.out] at ho; replace HB := am (below_weaken (by exact sj152 HB HI0) HL.out hb); replace HI0 := am (IsS152.grown (by exact si152 HI0) hg (IsS152.own_ne HI0.out HO_7.out (by decide))); replace HK := am (KeepBut.trans (by exact kp HK) (KeepBut.of_grown hg g) (Kd.R_base2 HO_7.out)); have HO564 := am ho; clear HO_7; clear ho hb hg hat) | ((with_reducible refine gc 76 rfl ?_); refine gL (some 57) Try.func76 #[.pointer (some ⟨g, 0, none⟩), .int .i64 6] ?_; (with_reducible refine (spec_l1Below.calls g s0_0 t559 t560 6 t565 t566 t567 w0 _ ?side1 ?side2 A18.out).mono ?_); (case side1 => exact si152 HI0); (case side2 => exact sj152 HB HI0); rintro e w21 ⟨rfl, hi, hb, hk⟩; refine ⟨_, rfl, ?_⟩; replace HO564 := am (Kd.R_mono (Kd.R_keep (IsS152.apart (show IsS152 w0 _ g s0_0 t559 t560 from by exact si152 HI0) (sr HO564) (by decide)) hk (fun _ h => h.2)) (fun _ h => h.1)); replace HK := am (KeepBut.trans (by exact kp HK) hk (.inl rfl)); replace HB := am hb; replace HI0 := am hi; (try clear hb); (try clear hk); (try clear hi)))
            go_roundg kj11
            case measure => have := HK1.out; have := HK2.out; have := HK3.out; have := HJ11.out; omega
            case rel => exact ⟨(y562), (wrap64 ((wrap64 (t561 + 1)) + t565)), (wrap64 (x11_3 - 1)), (t566), (t567), sc, sc, H', ⟨a17_1⟩, ⟨sr HO564⟩, ⟨by exact si152 HI0⟩, ⟨by exact kp HK⟩, ⟨by exact sj152 HB HI0⟩⟩
           ·replace H := im H
            have H' := am H
            clear H
            go_wp2
            go_roundg kj11
            case measure => have := HK1.out; have := HK2.out; have := HK3.out; have := HJ11.out; omega
            case rel => exact ⟨(x7_3), (wrap64 (x9_2 + 1)), (x1001_3), (x1002_3), sc, H', ⟨a17_1⟩, ⟨sr HO_7⟩, ⟨by exact si152 HI0⟩, ⟨by exact kp HK⟩, ⟨by exact sj152 HB HI0⟩⟩
      ·have H' := am H
       clear H
       go_wp2
       go_roundg k2
       case measure => have := HK1.out; have := HK2.out; omega
       case rel => exact ⟨(x7_2), (wrap64 (x8_1 + 1)), (x1001_2), (x1002_2), sc, H', kk2, ⟨sr HO_7⟩, ⟨by exact si152 HI0⟩, ⟨by exact kp HK⟩, ⟨by exact sj152 HB HI0⟩⟩
   ·simp only [Option.some.injEq, Prod.mk.injEq] at H
    obtain ⟨rfl, rfl, rfl⟩ := H
    go_wp2
    go_ret
    exact ⟨_, se, sr HO_7, by exact si152 HI0, by exact sj152 HB HI0, by exact kp HK⟩

end Go.Proofs.Ytiihaabhjphaeaa.QFnSwitched
