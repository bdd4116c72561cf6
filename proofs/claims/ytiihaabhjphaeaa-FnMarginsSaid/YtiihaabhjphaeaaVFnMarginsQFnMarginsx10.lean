/- Printed by a program of the session. Conditions: none. (squeezed). -/
import Derived.Test.YtiihaabhjphaeaaVFnMarginsFr
import Derived.Test.YtiihaabhjphaeaaVFnMarginsQFnMarginsx3
import Derived.Test.YtiihaabhjphaeaaVFnMarginsQFnMarginsx9
namespace Go.Proofs.Ytiihaabhjphaeaa.QFnMargins
set_option maxHeartbeats 8000000
set_option maxRecDepth 100000
open Go.RowKit Go.Proofs.YtiihaabhjphaeaaW.PrintWords Go.Proofs.YtiihaabhjphaeaaW.PrintLast Go.Proofs.YtiihaabhjphaeaaW.PrintMore Go.Proofs.Ytiihaabhjphaeaa.Open Go.Proofs.Ytiihaabhjphaeaa.Sq Go.Proofs.Ytiihaabhjphaeaa
attribute [local go_sem] max2_int min2_int max_two min_two max_three min_three max_four min_four   -- for this text's walks alone
attribute [local go_sem] isSome_set
set_option linter.unusedVariables false
set_option linter.unusedSimpArgs false

mutual
def spec_BuildProgram.j0 : Nat → List (S137) → Int → Int → Int → Int → Int → Bool → Option (Int × Int × Int × (List (S105)) × Bool)
  | 0, _, _, _, _, _, _, _ => none
  | k + 1, x0, x1, x2, x3, x4, x5, x28 => if x28 = true then (some (0, 0, 0, ([] : List (S105)), false)) else ((spec_PiecesOf.f k x0 x3 x4).bind fun t329 => ((spec_l1In.f (t329.length : Int) 1 40).bind fun t332 => (if t332 = true then (spec_BuildProgram.l0 k x0 x1 x2 t329 0 x1 x2 x5 ([] : List (S105))) else (some (0, 0, 0, ([] : List (S105)), false)))))
def spec_BuildProgram.l0 : Nat → List (S137) → Int → Int → List (S102) → Int → Int → Int → Int → List (S105) → Option (Int × Int × Int × (List (S105)) × Bool)
  | 0, _, _, _, _, _, _, _, _, _ => none
  | k + 1, x0, x1, x2, x14, x16, x334000, x334001, x334002, x334003 => if x16 < (x14.length : Int) then (if 0 ≤ x16 then ((spec_LinksAt.f k x0 ((rd_T102 x14 x16).f0)).bind fun t335 => ((spec_l17Tables.f k t335 x1 x2).bind fun t339 => (if x334003.length < 2199023255552 then (spec_BuildProgram.l0 k x0 x1 x2 x14 (wrap64 (x16 + 1)) x334000 x334001 x334002 (x334003 ++ [(⟨(⟨(rd_T102 x14 x16).f0, (rd_T102 x14 x16).f1⟩ : S102), t335, t339⟩ : S105)])) else (none)))) else (none)) else (some (x334000, x334001, x334002, x334003, true))
end
def spec_BuildProgram.f (k : Nat) (l0 : List (S137)) (a1 : Int) (a2 : Int) (a3 : Int) (a4 : Int) (a5 : Int) : Option (Int × Int × Int × (List (S105)) × Bool) := (spec_l17Frame.f a1 a2 a5).bind fun t327 => (if t327 = true then ((spec_IsPlan.f k l0 a1).bind fun t328 => (spec_BuildProgram.j0 k l0 a1 a2 a3 a4 a5 (!t328))) else (spec_BuildProgram.j0 k l0 a1 a2 a3 a4 a5 true))
theorem spec_BuildProgram.mono_l : ∀ k, (∀ y0 y1 y2 y3 y4 y5 y6, LeO (spec_BuildProgram.j0 k y0 y1 y2 y3 y4 y5 y6) (spec_BuildProgram.j0 (k + 1) y0 y1 y2 y3 y4 y5 y6)) ∧ (∀ y0 y1 y2 y3 y4 y5 y6 y7 y8, LeO (spec_BuildProgram.l0 k y0 y1 y2 y3 y4 y5 y6 y7 y8) (spec_BuildProgram.l0 (k + 1) y0 y1 y2 y3 y4 y5 y6 y7 y8))
  | 0 => ⟨fun _ _ _ _ _ _ _ r h => by simp [spec_BuildProgram.j0] at h, fun _ _ _ _ _ _ _ _ _ r h => by simp [spec_BuildProgram.l0] at h⟩
  | k + 1 => by
    obtain ⟨ih0, ih1⟩ := spec_BuildProgram.mono_l k
    refine ⟨?_, ?_⟩
    · intro y0 y1 y2 y3 y4 y5 y6
      unfold spec_BuildProgram.j0
      have m0 := @spec_IsPlan.mono
      have m1 := @spec_LinksAt.mono
      have m2 := @spec_PiecesOf.mono
      have m3 := @spec_l17Tables.mono
      exact mo
    · intro y0 y1 y2 y3 y4 y5 y6 y7 y8
      unfold spec_BuildProgram.l0
      have m0 := @spec_IsPlan.mono
      have m1 := @spec_LinksAt.mono
      have m2 := @spec_PiecesOf.mono
      have m3 := @spec_l17Tables.mono
      exact mo
theorem spec_BuildProgram.mono : ∀ a0 a1 a2 a3 a4 a5 k, LeO (spec_BuildProgram.f k a0 a1 a2 a3 a4 a5) (spec_BuildProgram.f (k + 1) a0 a1 a2 a3 a4 a5) := by
  intro a0 a1 a2 a3 a4 a5 k
  obtain ⟨ih0, ih1⟩ := spec_BuildProgram.mono_l k
  unfold spec_BuildProgram.f
  have m0 := @spec_IsPlan.mono
  have m1 := @spec_LinksAt.mono
  have m2 := @spec_PiecesOf.mono
  have m3 := @spec_l17Tables.mono
  exact mo
def spec_BuildProgram.T11 : Bool × List (List Nat × List Nat) := (true, [([], []), ([0], [0]), ([], []), ([], []), ([2, 3], [2, 3]), ([4], [4]), ([], []), ([], []), ([], []), ([], []), ([7, 8, 9], [7, 8, 9]), ([5, 6, 10], [5, 6, 10]), ([11], [11]), ([1, 12, 10], [1, 12]), ([0, 1, 2, 3, 4, 5, 6, 7, 8, 9, 10, 11, 12, 13], []), ([14, 13, 13, 0, 1, 2, 3, 4, 5, 6, 7, 8, 9, 10, 11, 12, 13], [13, 14])])
def spec_BuildProgram.B11 : List Nat := [0, 1, 0, 0, 12, 28, 0, 0, 0, 0, 896, 2044, 4092, 8191, 16383, 32767]
theorem spec_BuildProgram.tab11 : rtab .any (opsOf Try.f46 11) = spec_BuildProgram.T11 := by kernel_rfl
theorem spec_BuildProgram.bits11 : waitsOk spec_BuildProgram.T11.2 spec_BuildProgram.B11 = true := by kernel_rfl
theorem spec_BuildProgram.calls (k : Nat) (A0 : Option Addr) (c0 : Nat) (l0 : List (S137)) (a1 : Int) (a2 : Int) (a3 : Int) (a4 : Int) (a5 : Int) (r1 : Int) (r2 : Int) (r3 : Int) (r4 : List (S105)) (r5 : Bool) (w : World) (hr0 : Kd.C k137 w A0 l0.length l0) (hc0 : l0.length ≤ c0) (h : spec_BuildProgram.f k l0 a1 a2 a3 a4 a5 = some (r1, r2, r3, r4, r5)) :
    Calls Try.prog 46 #[.slice A0 l0.length c0, .int .i64 a1, .int .i64 a2, .int .i64 a3, .int .i64 a4, .int .i64 a5] w fun e w' => ∃ v3_ : Value, e = .returned (.tuple #[.agg #[.int .i64 r1, .int .i64 r2, .int .i64 r3, v3_], .bool r5]) ∧ Kd.S k105 105 w' w.heap.size (fun _ => True) v3_ r4 ∧ Below w.heap.size w w' := by
 have hu31 := Try.underlying31
 have hu102 := Try.underlying102
 have hu105 := Try.underlying105
 have HR0 := am hr0
 have HC0 := am hc0
 clear hr0 hc0
 have HB := am (Below.refl w.heap.size w)
 have H : ((spec_l17Frame.f a1 a2 a5).bind fun t327 => (if t327 = true then ((spec_IsPlan.f k l0 a1).bind fun t328 => (spec_BuildProgram.j0 k l0 a1 a2 a3 a4 a5 (!t328))) else (spec_BuildProgram.j0 k l0 a1 a2 a3 a4 a5 true))) = some (r1, r2, r3, r4, r5) := h
 clear h
 have HC7 := am H
 clear H
 go_enter Try.func46, Try.ntmps46
 go_upto_region 1 with (first | ((with_reducible refine gd 12 rfl ?_); refine bx 12 #[.int .i64 0, .int .i64 0, .int .i64 0, .slice none 0 0] 31 ?_; intro gb326 hg w8 hbox hb; have GW326 := bz w hg; have GE326 := bz w hg; replace HB := bs hb; have BK326 := am hbox; clear hb hbox hg))
 (try simp only [Act.put, List.setIfInBounds_toArray, List.set_cons_zero, List.set_cons_succ])
 go_cut [28] (fun v28 wc => ∃ (kq : Nat) (x28_6 : Bool), v28 = .bool x28_6 ∧ Aside0 (spec_BuildProgram.j0 kq l0 a1 a2 a3 a4 a5 x28_6 = some (r1, r2, r3, r4, r5)) ∧ Aside0 (kq ≤ k) ∧ Aside0 (wc.heap[gb326]? = some (.cells #[.int .i64 0, .int .i64 0, .int .i64 0, (.slice none 0 0)] 31 (0, 0))) ∧ Aside0 (Below w.heap.size w wc))
 case first =>
  have H := HC7.out
  clear HC7
  obtain ⟨t327, A9, H⟩ := bnd H
  obtain rfl | rfl := tt t327
  ·replace H := ip H
   obtain ⟨t328, A11, H⟩ := bnd H
   have H' := am H
   clear H
   go_wp2_with (first | ((with_reducible refine gc 101 rfl ?_); refine gL (some 21) Try.func101 #[.int .i64 a1, .int .i64 a2, .int .i64 a5] ?_; (with_reducible refine (spec_l17Frame.calls a1 a2 a5 true _ A9.out).mono ?_); rintro e w' ⟨rfl, ⟨nd, rfl⟩⟩; refine ⟨_, rfl, ?_⟩) | (go_at_call 113; (with_reducible refine (spec_IsPlan.calls k _ _ l0 a1 t328 _ ?side1 ?side2 A11.out).mono ?_); (case side1 => exact cbw HR0); (case side2 => exact HC0.out); rintro e w12 ⟨rfl, hb⟩; replace BK326 := bb BK326 hb; replace HB := bsw hb; (try clear hb); (try clear hb2); (try clear hk); (try clear hi)))
   go_meet
   case rel => exact ⟨_, (!t328), sc, H', ⟨by first | omega | exact Nat.le_refl _⟩, ⟨sk BK326⟩, ⟨sbw⟩⟩
  ·replace H := im H
   have H' := am H
   clear H
   go_wp2_with (first | ((with_reducible refine gc 101 rfl ?_); refine gL (some 21) Try.func101 #[.int .i64 a1, .int .i64 a2, .int .i64 a5] ?_; (with_reducible refine (spec_l17Frame.calls a1 a2 a5 false _ A9.out).mono ?_); rintro e w' ⟨rfl, ⟨nd, rfl⟩⟩; refine ⟨_, rfl, ?_⟩))
   go_meet
   case rel => exact ⟨_, (true), sc, H', ⟨by first | omega | exact Nat.le_refl _⟩, ⟨sk BK326⟩, ⟨sbw⟩⟩
 case rest =>
  clear HC7
  obtain ⟨kq, x28_6, rfl, HA, HJ6, BK326, HB⟩ := hcut
  cases kq with
  | zero => exact absurd HA.out (by simp [spec_BuildProgram.j0])
  | succ kj6 =>
   have H := HA.out
   clear HA
   simp only [spec_BuildProgram.j0] at H
   obtain rfl | rfl := tt x28_6
   ·replace H := ip H
    simp only [Option.some.injEq, Prod.mk.injEq] at H
    obtain ⟨rfl, rfl, rfl, rfl, rfl⟩ := H
    obtain ⟨hcz14_0, hcz14_1, hcz14_2, hcz14_3, hfz14_0, hfz14_1, hfz14_2, hfz14_3⟩ := cc4 BK326
    go_wp2
    refine bodyPost_ret (results_ct rfl _ _ gb326 31 #[.int .i64 0, .int .i64 0, .int .i64 0, .slice none 0 0] (0, 0) _ rfl (sp BK326) Try.underlying31 rfl (by kernel_rfl)) rfl ?_
    exact ⟨_, se, by first | exact Kd.S_nil _ _ _ _ _ | exact Kd.N_nil _ _ _ _ _ | exact Kd.V_nil _ _ _ _ _ | exact Kd.Q_nil _ _ _ _ _ | exact Kd.R_nil _ _ _ _ _, sbw⟩
   ·replace H := im H
    obtain ⟨t329, A15, H⟩ := bnd H
    obtain ⟨t332, A16, H⟩ := bnd H
    obtain rfl | rfl := tt t332
    ·replace H := ip H
     have H' := am H
     clear H
     go_wp2_with (first | ((with_reducible refine gc 114 rfl ?_); refine gL (some 33) Try.func114 #[.slice A0 l0.length c0, .int .i64 a3, .int .i64 a4] ?_; (with_reducible refine (spec_PiecesOf.calls kj6 _ _ l0 a3 a4 t329 _ ?side1 ?side2 A15.out).mono ?_); (case side1 => exact cb HR0); (case side2 => exact HC0.out); rintro e w18 ⟨v330, rfl, ho0, hb⟩; refine ⟨_, rfl, ?_⟩; have HO331 := am (Kd.R_lower ho0 (below_size (sbw))); replace BK326 := bb BK326 hb; replace HB := bsw hb; (try clear hb); (try clear hb2); (try clear hk); (try clear hi); (try clear ho0); obtain ⟨Ao19, co19, eo19⟩ := Kd.R_slice HO331.out; subst eo19) | ((with_reducible refine gc 85 rfl ?_); refine gL (some 36) Try.func85 #[.int .i64 (t329.length : Int), .int .i64 1, .int .i64 40] ?_; (with_reducible refine (spec_l1In.calls (t329.length : Int) 1 40 true _ A16.out).mono ?_); rintro e w' ⟨rfl, ⟨nd, rfl⟩⟩; refine ⟨_, rfl, ?_⟩) | ((with_reducible refine gd 15 rfl ?_); refine bx 15 #[.int .i64 0, .int .i64 0, .int .i64 0, .slice none 0 0] 31 ?_; intro gb333 hg w20 hbox hb; replace HO331 := rb HO331 hb; have GW333 := bzw w hg; have GE333 := bzw w hg; replace HB := bsw hb; have BK333 := am hbox; have NB326_333 := nl BK326 hg; have NB333_326 := ng BK326 hg; replace BK326 := bb BK326 hb; clear hb hbox hg; have hnb21 := NB333_326.out; have hnc21 := NB326_333.out; obtain ⟨hcz22_0, hcz22_1, hcz22_2, hcz22_3, hfz22_0, hfz22_1, hfz22_2, hfz22_3⟩ := cc4 BK333))
     go_loopg [16] kj6 (fun kq v16 w' => ∃ (x16_2 : Int) (x334003_2 : List (S105)) (u334003 : Value), v16 = .int .i64 x16_2 ∧ Aside0 (spec_BuildProgram.l0 kq l0 a1 a2 t329 x16_2 a1 a2 a5 x334003_2 = some (r1, r2, r3, r4, r5)) ∧ Aside0 (kq ≤ kj6) ∧ Aside0 (Kd.R k102 102 w' w.heap.size (fun _ => True) (.slice Ao19 t329.length co19) t329) ∧ Aside0 (Kd.S k105 105 w' w.heap.size (fun _ => True) u334003 x334003_2) ∧ Aside0 (w'.heap[gb326]? = some (.cells #[.int .i64 0, .int .i64 0, .int .i64 0, (.slice none 0 0)] 31 (0, 0))) ∧ Aside0 (w'.heap[gb333]? = some (.cells #[.int .i64 a1, .int .i64 a2, .int .i64 a5, u334003] 31 (0, 0))) ∧ Aside0 (Below w.heap.size w w'))
     case atStart => exact ⟨(0), (([] : List (S105))), (.slice none 0 0), sc, H', kk0, ⟨by (with_reducible repeat (first | apply Kd.R_alloc | apply Kd.R_drewN | apply Kd.R_drew)); exact Kd.R_mono (Kd.R_far (p := ⟨gb333, 3, none⟩) (h3 HO331 BK333) (fun _ hk => hk.2) (.slice none 0 0)) (fun _ hk => trivial)⟩, ⟨by first | exact Kd.S_nil _ _ _ _ _ | exact Kd.N_nil _ _ _ _ _ | exact Kd.V_nil _ _ _ _ _ | exact Kd.Q_nil _ _ _ _ _ | exact Kd.R_nil _ _ _ _ _⟩, ⟨sp BK326⟩, ⟨sp BK333⟩, ⟨sbw⟩⟩
     case round =>
      clear H'
      try clear hcz14_0
      try clear hcz14_1
      try clear hcz14_2
      try clear hcz14_3
      try clear hfz14_0
      try clear hfz14_1
      try clear hfz14_2
      try clear hfz14_3
      obtain ⟨x16_2, x334003_2, u334003, rfl, HA, HK2, HO_14, HO_334003, BK326, BK333, HB⟩ := hrel
      cases gk with
      | zero => exact absurd HA.out (by simp [spec_BuildProgram.l0])
      | succ k2 =>
       have H := HA.out
       clear HA
       simp only [spec_BuildProgram.l0] at H
       obtain ⟨c23, H⟩ | ⟨c23, H⟩ := ie_ H
       ·have c23b0 := decide_eq_true c23
        clear c23
        obtain ⟨c24b0, H⟩ := id_ H
        obtain ⟨t335, A25, H⟩ := bnd H
        obtain ⟨t339, A26, H⟩ := bnd H
        obtain ⟨LMc27, H⟩ := il_ H
        obtain ⟨y342, hy342⟩ : ∃ y_ : List (S105), y_ = (x334003_2 ++ [(⟨(⟨(rd_T102 t329 x16_2).f0, (rd_T102 t329 x16_2).f1⟩ : S102), t335, t339⟩ : S105)]) := ⟨_, rfl⟩
        replace H : (spec_BuildProgram.l0 k2 l0 a1 a2 t329 (wrap64 (x16_2 + 1)) a1 a2 a5 y342) = some (r1, r2, r3, r4, r5) := ry hy342 H
        have Ny342 := am hy342
        clear hy342
        have H' := am H
        clear H
        have p334 : 0 ≤ (x16_2 : Int) := sa
        have q334 : x16_2 < (t329.length : Int) := sa
        obtain ⟨ad334, e334, hx334_0, hx334_1⟩ := at_T102 (Kd.R_reads' HO_14.out).2.2 x16_2 p334 q334
        cases e334
        replace p334 := eq_true p334
        replace q334 := eq_true q334
        try go_wp2_with (first | ((with_reducible refine gc 115 rfl ?_); refine gL (some 55) Try.func115 #[.slice A0 l0.length c0, .int .i64 ((rd_T102 t329 x16_2).f0)] ?_; (with_reducible refine (spec_LinksAt.calls k2 _ _ l0 ((rd_T102 t329 x16_2).f0) t335 _ ?side1 ?side2 A25.out).mono ?_); (case side1 => exact cb HR0); (case side2 => exact HC0.out); rintro e w28 ⟨v336, rfl, ho0, hb⟩; refine ⟨_, rfl, ?_⟩; replace HO_14 := rb HO_14 hb; obtain ⟨N_, hN_, OLD_, NEW1_⟩ := Fr.pair (ss HO_334003) ho0 hb (below_size (sbw)); replace HO_334003 := am (Kd.S_elder' (ss HO_334003) (Kd.R_base ho0) hb); have HO337 := am (Kd.R_lower ho0 (below_size (sbw))); replace BK326 := bb BK326 hb; replace BK333 := bb BK333 hb; replace HB := bsw hb; (try clear hb); (try clear hb2); (try clear hk); (try clear hi); (try clear ho0)))
        replace HO_14 := am (Kd.R_drew HO_14.out)
        replace HO_334003 := am (Kd.S_drew HO_334003.out)
        replace HO337 := am (Kd.R_drew HO337.out)
        replace NEW1_ := am (Kd.R_drew NEW1_.out)
        replace OLD_ := am (Kd.S_drew OLD_.out)
        replace hN_ : Aside0 (N_ ≤ w28.drew.heap.size) := ⟨hN_.out⟩
        replace BK326 := am (blk_drew BK326.out)
        replace BK333 := am (blk_drew BK333.out)
        replace HB := am (below_drew1 HB.out)
        have p338 : 0 ≤ (x16_2 : Int) := sa
        have q338 : x16_2 < (t329.length : Int) := sa
        obtain ⟨ad338, e338, hx338_0, hx338_1⟩ := at_T102 (Kd.R_reads' HO_14.out).2.2 x16_2 p338 q338
        obtain rfl : ad334 = ad338 := (by injection e338)
        replace p338 := eq_true p338
        replace q338 := eq_true q338
        obtain ⟨Ao30, co30, eo30⟩ := Kd.R_slice HO337.out
        (first | subst eo30 | (injection eo30 with f1_ f2_ f3_; have f4_ := f1_.symm; have f5_ := f3_.symm; clear f1_ f2_ f3_; subst f4_; subst f5_))
        refine start_ (n := 16) (S := fun w' => w'.cell? ⟨gb333, 0, none⟩ = some (.int .i64 a1) ∧ w'.cell? ⟨gb333, 1, none⟩ = some (.int .i64 a2) ∧ w'.cell? ⟨gb333, 2, none⟩ = some (.int .i64 a5) ∧ w'.cell? ⟨gb333, 3, none⟩ = some (u334003) ∧ w'.cell? (ad334.add ((x16_2).toNat * 2)) = some (.int .i64 ((rd_T102 t329 x16_2).f0)) ∧ w'.cell? ⟨(ad334.add ((x16_2).toNat * 2)).block, (ad334.add ((x16_2).toNat * 2)).off + 1, none⟩ = some (.int .i64 ((rd_T102 t329 x16_2).f1))) (ds := [13, 15]) #[false, false, false, false, false, false, false, false, false, false, false, false, false, false, false, false] (by kernel_rfl) rfl rfl ⟨bc0 BK333, bc1 BK333, bc2 BK333, bc3 BK333, hx338_0, hx338_1⟩ (fun hHeld => ?_); refine with_tabW spec_BuildProgram.tab11 spec_BuildProgram.bits11 (fun HT_ HW_ => ?_)
        generalize w28.drew = w29 at hN_ NEW1_ OLD_ HO_14 HO_334003 HO337 BK326 BK333 HB hx338_0 hx338_1 hHeld ⊢
        refine put 0 56 (bt 16 1) HT_ ?_
        refine put 2 58 (bt 16 5) HT_ ?_
        refine put 3 59 (bt 16 13) HT_ ?_
        refine put 4 60 (bt 16 29) HT_ ?_
        refine put 6 62 (bt 16 93) HT_ ?_
        refine put 7 63 (bt 16 221) HT_ ?_
        refine put 8 64 (bt 16 477) HT_ ?_
        refine put 9 65 (bt 16 989) HT_ ?_
        refine tat6 1 57 (bt 16 991) HT_ HW_ hHeld ?_
        refine tat6 5 61 (bt 16 1023) HT_ HW_ hHeld ?_
        refine one_ (i := 10) (N := some 66) (bt 16 2047) rfl rfl (one_of HT_.out (by kernel_rfl)) (by decide) (fun K hK => ?_)
        refine goes_ Try.func116 (by kernel_rfl) rfl #[.slice Ao30 t335.length co30, .int .i64 a1, .int .i64 a2] (by rfl) rfl rfl sl ?_
        with_reducible refine (spec_l17Tables.calls k2 _ _ t335 a1 a2 t339 _ ?side1 ?side2 A26.out).mono ?_
        (case side1 => exact cr HO337)
        (case side2 => exact (Kd.R_reads' HO337.out).2.1)
        rintro e w31 ⟨v340, rfl, ho0, hb⟩
        have HS4_ := (hb.cell (World.block_lt_of_cell? _ _ (hHeld.2.2.2.2.1))).trans (hHeld.2.2.2.2.1)
        have HS5_ := (hb.cell (World.block_lt_of_cell? _ _ (hHeld.2.2.2.2.2))).trans (hHeld.2.2.2.2.2)
        refine ⟨_, rfl, ?_⟩
        replace HO_14 := rb HO_14 hb
        have NEW2_ := Fr.next (Kd.S_R ho0) hN_.out (below_size (sbw))
        replace NEW1_ := rb NEW1_ hb
        replace OLD_ := am (Kd.S_below (ss OLD_) hb)
        replace HO_334003 := am (Kd.S_elder' (ss HO_334003) (Kd.S_base ho0) hb)
        replace HO337 := rb HO337 hb
        have HO341 := am (Kd.S_lower ho0 (below_size (sbw)))
        replace BK326 := bb BK326 hb
        replace BK333 := bb BK333 hb
        replace HB := bsw hb
        (try clear hb)
        (try clear hb2)
        (try clear hk)
        (try clear hi)
        (try clear ho0)
        obtain ⟨Ao32, co32, eo32⟩ := Kd.S_slice HO341.out
        (first | subst eo32 | (injection eo32 with f1_ f2_ f3_; have f4_ := f1_.symm; have f5_ := f3_.symm; clear f1_ f2_ f3_; subst f4_; subst f5_))
        refine hK.out _ _ ⟨bc0 BK333, bc1 BK333, bc2 BK333, bc3 BK333, HS4_, HS5_⟩ (fun hHeld => ?_)
        clear hK K
        refine nm 66 ?_
        refine put 11 67 (bt 16 4095) HT_ ?_
        refine one_ (i := 12) (N := some 68) (bt 16 8191) rfl rfl (one_of HT_.out (by kernel_rfl)) (by decide) (fun K hK => ?_)
        refine value_ (w1 := ?_) (v := ?_) (by rfl) rfl ?_ ?_
        rotate_left 2
        ·go_simp
         constructor
         ·rfl
         ·rfl
        refine hK.out _ _ ⟨(blk_cell (blk_alloc BK333.out _) 0).trans rfl, (blk_cell (blk_alloc BK333.out _) 1).trans rfl, (blk_cell (blk_alloc BK333.out _) 2).trans rfl, (blk_cell (blk_alloc BK333.out _) 3).trans rfl, (World.cell?_alloc_lt _ _ _ (World.block_lt_of_cell? _ _ (hHeld.2.2.2.2.1))).trans (hHeld.2.2.2.2.1), (World.cell?_alloc_lt _ _ _ (World.block_lt_of_cell? _ _ (hHeld.2.2.2.2.2))).trans (hHeld.2.2.2.2.2)⟩ (fun hHeld => ?_)
        clear hK K
        refine nm 68 ?_
        refine last_ (i := 13) (N := some 69) (bt 16 16383) rfl rfl (one_of HT_.out (by kernel_rfl)) (by decide) (fun K hK => ?_)
        refine Kd.S_append_step k105 (w0 := w) w.heap.size (by rfl) (.tmp 57) (.tmp 68) 29 105 (.agg #[(.int .i64 0), (.int .i64 0), (.slice none 0 0), (.slice none 0 0)]) 64 rfl Try.underlying29 info105 rfl (by decide) (by omega) u334003 x334003_2 (⟨(⟨(rd_T102 t329 x16_2).f0, (rd_T102 t329 x16_2).f1⟩ : S102), t335, t339⟩ : S105) [.int .i64 ((rd_T102 t329 x16_2).f0), .int .i64 ((rd_T102 t329 x16_2).f1), .slice Ao30 t335.length co30, .slice Ao32 t339.length co32] (fun _ => True) (fun k_ => N_ ≤ k_) rfl rfl ?aP (fun k_ hk_ => ⟨trivial, Fr.away OLD_ hk_⟩) ?aF ?aO ?aB ?aS ?aL ?_
        (case aP => exact k105_mkM _ _ _ (⟨(⟨(rd_T102 t329 x16_2).f0, (rd_T102 t329 x16_2).f1⟩ : S102), t335, t339⟩ : S105) NEW1_.out NEW2_.out)
        (case aB => exact (sbw))
        (case aF => exact (fun _ _ => trivial))
        (case aO => exact (by (with_reducible repeat (first | apply Kd.S_alloc | apply Kd.S_drewN | apply Kd.S_drew)); exact Kd.S_mono OLD_.out (fun k_ hk => ⟨trivial, fun h_ => by have := hk.2; omega⟩)))
        (case aS => exact (below_size (sbw)))
        (case aL => have := LMc27.out; omega)
        intro v343 w33 ho hb hg hat
        rw [← Ny342.out] at ho
        replace HO_14 := am (Kd.R_over' (sr HO_14) (Kd.S_typed (ss HO_334003)) (by decide) hg)
        replace BK326 := am (blk_grown (g := gb326) (o := .cells #[.int .i64 0, .int .i64 0, .int .i64 0, .slice none 0 0] 31 (0, 0)) (sk BK326) hg (Kd.S_ne HO_334003.out BK326.out (by decide)))
        replace BK333 := am (blk_grown (g := gb333) (o := .cells #[.int .i64 a1, .int .i64 a2, .int .i64 a5, u334003] 31 (0, 0)) (sk BK333) hg (Kd.S_ne HO_334003.out BK333.out (by decide)))
        replace HB := am hb
        have HO344 := am ho
        clear HO_334003 HO337 HO341 ho hb hg hat
        obtain ⟨Ao34, co34, eo34⟩ := Kd.S_slice HO344.out
        (first | subst eo34 | (injection eo34 with f1_ f2_ f3_; have f4_ := f1_.symm; have f5_ := f3_.symm; clear f1_ f2_ f3_; subst f4_; subst f5_))
        refine hK.out _ _ ?_
        clear hK K
        refine nm 69 ?_
        refine put 14 70 (bt 16 32767) HT_ ?_
        refine last_ (i := 15) (N := none) (bt 16 65535) rfl rfl (one_of HT_.out (by kernel_rfl)) (by decide) (fun K hK => ?_)
        have hs35 := bc3 BK333
        have hfs35 := bf BK333 3
        have hns35_0 := NB326_333.out
        have hms35_0 := NB333_326.out
        refine skip_ (w1 := ?_) (by rfl) rfl ?_ ?_
        rotate_left
        ·go_simp
         rfl
        refine hK.out _ _ ?_
        clear hK K
        refine done_ (done_of HT_.out (by kernel_rfl)) ?_
        try go_wp2
        go_roundg k2
        case measure => have := HJ6.out; have := HK2.out; omega
        case rel => exact ⟨(wrap64 (x16_2 + 1)), (y342), (.slice Ao34 y342.length co34), sc, H', ⟨by have := HJ6.out; have := HK2.out; omega⟩, ⟨by (with_reducible repeat (first | apply Kd.R_alloc | apply Kd.R_drewN | apply Kd.R_drew)); exact Kd.R_mono (Kd.R_far (p := ⟨gb333, 3, none⟩) (Kd.R_types HO_14.out BK333.out (by decide)) (fun _ hk => hk.2) (.slice Ao34 y342.length co34)) (fun _ hk => trivial)⟩, ⟨by (with_reducible repeat (first | apply Kd.S_alloc | apply Kd.S_drewN | apply Kd.S_drew)); exact Kd.S_mono (Kd.S_far (p := ⟨gb333, 3, none⟩) (Kd.S_types HO344.out BK333.out (by decide)) (fun _ hk => hk.2) (.slice Ao34 y342.length co34)) (fun _ hk => trivial)⟩, ⟨sp BK326⟩, ⟨sp BK333⟩, ⟨sbw⟩⟩
       ·have c23b0 := decide_eq_false c23
        clear c23
        simp only [Option.some.injEq, Prod.mk.injEq] at H
        obtain ⟨rfl, rfl, rfl, rfl, rfl⟩ := H
        have hnb36 := NB333_326.out
        have hnc36 := NB326_333.out
        obtain ⟨hcz37_0, hcz37_1, hcz37_2, hcz37_3, hfz37_0, hfz37_1, hfz37_2, hfz37_3⟩ := cc4 BK333
        obtain ⟨hcz38_0, hcz38_1, hcz38_2, hcz38_3, hfz38_0, hfz38_1, hfz38_2, hfz38_3⟩ := cc4 BK326
        obtain ⟨Ao39, co39, eo39⟩ := Kd.S_slice HO_334003.out
        subst eo39
        go_wp2
        refine bodyPost_ret (results_ct rfl _ _ gb326 31 #[.int .i64 a1, .int .i64 a2, .int .i64 a5, .slice Ao39 x334003_2.length co39] (0, 0) _ rfl (sp BK326) Try.underlying31 rfl (by kernel_rfl)) rfl ?_
        exact ⟨_, se, by (with_reducible repeat (first | apply Kd.S_alloc | apply Kd.S_drewN | apply Kd.S_drew)); exact Kd.S_mono (Kd.S_far (p := ⟨gb326, 3, none⟩) (Kd.S_far (p := ⟨gb326, 2, none⟩) (Kd.S_far (p := ⟨gb326, 1, none⟩) (Kd.S_far (p := ⟨gb326, 0, none⟩) (Kd.S_types HO_334003.out BK326.out (by decide)) (fun _ hk => hk.2) (.int .i64 a1)) (fun _ hk => hk.2) (.int .i64 a2)) (fun _ hk => hk.2) (.int .i64 a5)) (fun _ hk => hk.2) (.slice Ao39 x334003_2.length co39)) (fun _ hk => trivial), sbw⟩
    ·replace H := im H
     simp only [Option.some.injEq, Prod.mk.injEq] at H
     obtain ⟨rfl, rfl, rfl, rfl, rfl⟩ := H
     go_wp2_with (first | ((with_reducible refine gc 114 rfl ?_); refine gL (some 33) Try.func114 #[.slice A0 l0.length c0, .int .i64 a3, .int .i64 a4] ?_; (with_reducible refine (spec_PiecesOf.calls kj6 _ _ l0 a3 a4 t329 _ ?side1 ?side2 A15.out).mono ?_); (case side1 => exact cb HR0); (case side2 => exact HC0.out); rintro e w40 ⟨v330, rfl, ho0, hb⟩; refine ⟨_, rfl, ?_⟩; have HO331 := am (Kd.R_lower ho0 (below_size (sbw))); replace BK326 := bb BK326 hb; replace HB := bsw hb; (try clear hb); (try clear hb2); (try clear hk); (try clear hi); (try clear ho0); obtain ⟨Ao41, co41, eo41⟩ := Kd.R_slice HO331.out; subst eo41) | ((with_reducible refine gc 85 rfl ?_); refine gL (some 36) Try.func85 #[.int .i64 (t329.length : Int), .int .i64 1, .int .i64 40] ?_; (with_reducible refine (spec_l1In.calls (t329.length : Int) 1 40 false _ A16.out).mono ?_); rintro e w' ⟨rfl, ⟨nd, rfl⟩⟩; refine ⟨_, rfl, ?_⟩; obtain ⟨hcz42_0, hcz42_1, hcz42_2, hcz42_3, hfz42_0, hfz42_1, hfz42_2, hfz42_3⟩ := cc4 BK326))
     refine bodyPost_ret (results_ct rfl _ _ gb326 31 #[.int .i64 0, .int .i64 0, .int .i64 0, .slice none 0 0] (0, 0) _ rfl (sp BK326) Try.underlying31 rfl (by kernel_rfl)) rfl ?_
     exact ⟨_, se, by first | exact Kd.S_nil _ _ _ _ _ | exact Kd.N_nil _ _ _ _ _ | exact Kd.V_nil _ _ _ _ _ | exact Kd.Q_nil _ _ _ _ _ | exact Kd.R_nil _ _ _ _ _, sbw⟩

mutual
def spec_l11Plan.l0 : Nat → Int → Int → List (S137) → Int → List Int → Int → Int → Option ((List (S137)) × Int × Int)
  | 0, _, _, _, _, _, _, _ => none
  | k + 1, x1, x2, x7, x8, x1000, x1001, x1002 => if x8 < x1 then (spec_l11Plan.l1 k x1 x2 x7 x8 (wrap64 (x8 + 1)) x1000 x1001 x1002) else (some (x7, x1001, x1002))
def spec_l11Plan.l1 : Nat → Int → Int → List (S137) → Int → Int → List Int → Int → Int → Option ((List (S137)) × Int × Int)
  | 0, _, _, _, _, _, _, _, _ => none
  | k + 1, x1, x2, x7, x8, x9, x1000, x1001, x1002 => if x9 < x1 then ((spec_l1Below.f x1000 x1001 x1002 5).bind fun bt348 => ((spec_l1Below.f x1000 bt348.2.1 bt348.2.2 3).bind fun bt351 => (spec_l11Plan.l2 k x1 x2 x7 x8 x9 bt348.1 bt351.1 x1000 bt351.2.1 bt351.2.2))) else (spec_l11Plan.l0 k x1 x2 x7 (wrap64 (x8 + 1)) x1000 x1001 x1002)
def spec_l11Plan.l2 : Nat → Int → Int → List (S137) → Int → Int → Int → Int → List Int → Int → Int → Option ((List (S137)) × Int × Int)
  | 0, _, _, _, _, _, _, _, _, _, _ => none
  | k + 1, x1, x2, x7, x8, x9, x10, x11, x1000, x1001, x1002 => if x11 > 0 then (spec_l11Plan.j3 k x1 x2 x7 x8 x9 x10 x11 (decide (x10 < x2)) x1000 x1001 x1002) else (spec_l11Plan.j3 k x1 x2 x7 x8 x9 x10 x11 false x1000 x1001 x1002)
def spec_l11Plan.j3 : Nat → Int → Int → List (S137) → Int → Int → Int → Int → Bool → List Int → Int → Int → Option ((List (S137)) × Int × Int)
  | 0, _, _, _, _, _, _, _, _, _, _, _ => none
  | k + 1, x1, x2, x7, x8, x9, x10, x11, x36, x1000, x1001, x1002 => if x36 = true then ((spec_l1Below.f x1000 x1001 x1002 9).bind fun bt354 => ((spec_Min.f x2 (wrap64 ((wrap64 (x10 + 2)) + bt354.1))).bind fun t357 => (if x7.length < 4398046511104 then ((spec_l1Below.f x1000 bt354.2.1 bt354.2.2 6).bind fun bt361 => (spec_l11Plan.l2 k x1 x2 (x7 ++ [(⟨x8, x9, x10, t357⟩ : S137)]) x8 x9 (wrap64 ((wrap64 (t357 + 1)) + bt361.1)) (wrap64 (x11 - 1)) x1000 bt361.2.1 bt361.2.2)) else (none)))) else (spec_l11Plan.l1 k x1 x2 x7 x8 (wrap64 (x9 + 1)) x1000 x1001 x1002)
end
def spec_l11Plan.f (k : Nat) (s0_0 : List Int) (s0_1 : Int) (s0_2 : Int) (a1 : Int) (a2 : Int) : Option ((List (S137)) × Int × Int) := spec_l11Plan.l0 k a1 a2 (([] : List (S137))) 0 s0_0 s0_1 s0_2
theorem spec_l11Plan.mono_l : ∀ k, (∀ y0 y1 y2 y3 y4 y5 y6, LeO (spec_l11Plan.l0 k y0 y1 y2 y3 y4 y5 y6) (spec_l11Plan.l0 (k + 1) y0 y1 y2 y3 y4 y5 y6)) ∧ (∀ y0 y1 y2 y3 y4 y5 y6 y7, LeO (spec_l11Plan.l1 k y0 y1 y2 y3 y4 y5 y6 y7) (spec_l11Plan.l1 (k + 1) y0 y1 y2 y3 y4 y5 y6 y7)) ∧ (∀ y0 y1 y2 y3 y4 y5 y6 y7 y8 y9, LeO (spec_l11Plan.l2 k y0 y1 y2 y3 y4 y5 y6 y7 y8 y9) (spec_l11Plan.l2 (k + 1) y0 y1 y2 y3 y4 y5 y6 y7 y8 y9)) ∧ (∀ y0 y1 y2 y3 y4 y5 y6 y7 y8 y9 y10, LeO (spec_l11Plan.j3 k y0 y1 y2 y3 y4 y5 y6 y7 y8 y9 y10) (spec_l11Plan.j3 (k + 1) y0 y1 y2 y3 y4 y5 y6 y7 y8 y9 y10))
  | 0 => ⟨fun _ _ _ _ _ _ _ r h => by simp [spec_l11Plan.l0] at h, fun _ _ _ _ _ _ _ _ r h => by simp [spec_l11Plan.l1] at h, fun _ _ _ _ _ _ _ _ _ _ r h => by simp [spec_l11Plan.l2] at h, fun _ _ _ _ _ _ _ _ _ _ _ r h => by simp [spec_l11Plan.j3] at h⟩
  | k + 1 => by
    obtain ⟨ih0, ih1, ih2, ih3⟩ := spec_l11Plan.mono_l k
    refine ⟨?_, ?_, ?_, ?_⟩
    · intro y0 y1 y2 y3 y4 y5 y6
      unfold spec_l11Plan.l0
      exact mo
    · intro y0 y1 y2 y3 y4 y5 y6 y7
      unfold spec_l11Plan.l1
      exact mo
    · intro y0 y1 y2 y3 y4 y5 y6 y7 y8 y9
      unfold spec_l11Plan.l2
      exact mo
    · intro y0 y1 y2 y3 y4 y5 y6 y7 y8 y9 y10
      unfold spec_l11Plan.j3
      exact mo
theorem spec_l11Plan.mono : ∀ a0 a1 a2 a3 a4 k, LeO (spec_l11Plan.f k a0 a1 a2 a3 a4) (spec_l11Plan.f (k + 1) a0 a1 a2 a3 a4) := by
  intro a0 a1 a2 a3 a4 k
  obtain ⟨ih0, ih1, ih2, ih3⟩ := spec_l11Plan.mono_l k
  unfold spec_l11Plan.f
  exact mo
theorem spec_l11Plan.calls (k : Nat) (g : Nat) (s0_0 : List Int) (s0_1 : Int) (s0_2 : Int) (a1 : Int) (a2 : Int) (r1 : List (S137)) (r2 : Int) (r3 : Int) (w0 w : World) (hI : IsS152 w0 w g s0_0 s0_1 s0_2) (hB : Below w0.heap.size w0 w) (h : spec_l11Plan.f k s0_0 s0_1 s0_2 a1 a2 = some (r1, r2, r3)) :
    Calls Try.prog 106 #[.pointer (some ⟨g, 0, none⟩), .int .i64 a1, .int .i64 a2] w fun e w' => ∃ v0_ : Value, e = .returned (v0_) ∧ Kd.R k137 137 w' w.heap.size (fun _ => True) v0_ r1 ∧ IsS152 w0 w' g s0_0 r2 r3 ∧ Below w0.heap.size w0 w' ∧ KeepBut w w' g none := by
 have hu137 := Try.underlying137
 have HI0 := am hI
 have HK := am (KeepBut.refl w g none)
 have HL := am hB.size
 clear hI
 have HW0 := am hB.size
 have HB := am hB
 clear hB
 have H : (spec_l11Plan.l0 k a1 a2 (([] : List (S137))) 0 s0_0 s0_1 s0_2) = some (r1, r2, r3) := h
 clear h
 obtain ⟨y345, hy345⟩ : ∃ y_ : List (S137), y_ = (([] : List (S137))) := ⟨_, rfl⟩
 replace H : (spec_l11Plan.l0 k a1 a2 y345 0 s0_0 s0_1 s0_2) = some (r1, r2, r3) := ry hy345 H
 have Ny345 := am hy345
 clear hy345
 have H' := am H
 clear H
 go_enter Try.func106, Try.ntmps106
 go_wp2_with (first | ((with_reducible refine gd 13 rfl ?_); refine Kd.R_lit k137 _ 137 ?hg (N := 13) ?hd (xs := ([] : List (S137))) (inner := []) (ok := fun _ => True) (okp := fun _ => True) ?hr ?hp (fun _ hk => hk) trivial (Below.refl _ _) (Nat.le_refl _) (by simp) ?_; (case hd => rfl); (case hg => rfl); (case hr => first | (go_simp; done) | (go_simp; rfl)); (case hp => exact (Reps.none _ _)); intro v346 w4 ho5 hb hg_ hnew_; clear hg_ hnew_; (first | rw [← Ny345.out] at ho5 | (simp only [Int.reduceToNat] at ho5; rw [← Ny345.out] at ho5)); have HO347 := am (Kd.R_lower ho5 (keep_size (w := w) (g := g) (row := none) (by repeat (first | (with_reducible first | exact HK.out | apply KeepBut.set_ | apply keep_drewN | apply keep_drew | apply keep_alloc) | exact HK.out)))); replace HK := am (KeepBut.trans (by repeat (first | (with_reducible first | exact HK.out | apply KeepBut.set_ | apply keep_drewN | apply keep_drew | apply keep_alloc) | exact HK.out)) (KeepBut.of_below hb g none) (.inl rfl)); replace HB := am (below_step (by repeat (first | (with_reducible first | exact HB.out | apply below_alloc | apply pw_below_drewN | apply below_drew1 | refine below_set ?_ (IsS152.ge HI0.out)) | exact HB.out)) hb); replace HI0 := am (IsS152.below (by repeat (first | (with_reducible first | exact HI0.out | apply IsS152.alloc | apply IsS152.drewN | apply IsS152.drew | apply IsS152.set_1 | apply IsS152.set_2) | exact HI0.out)) hb); clear hb ho5))
 go_loopg [7, 8] k (fun kq v7 v8 w' => ∃ (x7_1 : List (S137)) (x8_1 : Int) (x1001_1 : Int) (x1002_1 : Int), v8 = .int .i64 x8_1 ∧ Aside0 (spec_l11Plan.l0 kq a1 a2 x7_1 x8_1 s0_0 x1001_1 x1002_1 = some (r1, r2, r3)) ∧ Aside0 (kq ≤ k) ∧ Aside0 (Kd.R k137 137 w' w.heap.size (fun _ => True) v7 x7_1) ∧ Aside0 (IsS152 w0 w' g s0_0 x1001_1 x1002_1) ∧ Aside0 (KeepBut w w' g none) ∧ Aside0 (Below w0.heap.size w0 w'))
 case atStart => exact ⟨(y345), (0), (s0_1), (s0_2), sc, H', kk0, ⟨sr HO347⟩, ⟨by repeat (first | (with_reducible first | exact HI0.out | apply IsS152.alloc | apply IsS152.drewN | apply IsS152.drew | apply IsS152.set_1 | apply IsS152.set_2) | exact HI0.out)⟩, ⟨by repeat (first | (with_reducible first | exact HK.out | apply KeepBut.set_ | apply keep_drewN | apply keep_drew | apply keep_alloc) | exact HK.out)⟩, ⟨by repeat (first | (with_reducible first | exact HB.out | apply below_alloc | apply pw_below_drewN | apply below_drew1 | refine below_set ?_ (IsS152.ge HI0.out)) | exact HB.out)⟩⟩
 case round =>
  clear H'
  obtain ⟨x7_1, x8_1, x1001_1, x1002_1, rfl, HA, HK1, HO_7, HI0, HK, HB⟩ := hrel
  cases gk with
  | zero => exact absurd HA.out (by simp [spec_l11Plan.l0])
  | succ k1 =>
   have H := HA.out
   clear HA
   simp only [spec_l11Plan.l0] at H
   obtain ⟨c6, H⟩ | ⟨c6, H⟩ := ie_ H
   ·have c6b0 := decide_eq_true c6
    clear c6
    have H' := am H
    clear H
    go_wp2
    go_loopg [7, 9] k1 (fun kq v7 v9 w' => ∃ (x7_2 : List (S137)) (x9_2 : Int) (x1001_2 : Int) (x1002_2 : Int), v9 = .int .i64 x9_2 ∧ Aside0 (spec_l11Plan.l1 kq a1 a2 x7_2 x8_1 x9_2 s0_0 x1001_2 x1002_2 = some (r1, r2, r3)) ∧ Aside0 (kq ≤ k1) ∧ Aside0 (Kd.R k137 137 w' w.heap.size (fun _ => True) v7 x7_2) ∧ Aside0 (IsS152 w0 w' g s0_0 x1001_2 x1002_2) ∧ Aside0 (KeepBut w w' g none) ∧ Aside0 (Below w0.heap.size w0 w'))
    case atStart => exact ⟨(x7_1), (wrap64 (x8_1 + 1)), (x1001_1), (x1002_1), sc, H', kk0, ⟨sr HO_7⟩, ⟨by repeat (first | (with_reducible first | exact HI0.out | apply IsS152.alloc | apply IsS152.drewN | apply IsS152.drew | apply IsS152.set_1 | apply IsS152.set_2) | exact HI0.out)⟩, ⟨by repeat (first | (with_reducible first | exact HK.out | apply KeepBut.set_ | apply keep_drewN | apply keep_drew | apply keep_alloc) | exact HK.out)⟩, ⟨by repeat (first | (with_reducible first | exact HB.out | apply below_alloc | apply pw_below_drewN | apply below_drew1 | refine below_set ?_ (IsS152.ge HI0.out)) | exact HB.out)⟩⟩
    case round =>
     clear H'
     try clear c6
     try clear c6b0
     obtain ⟨x7_2, x9_2, x1001_2, x1002_2, rfl, HA, HK2, HO_7, HI0, HK, HB⟩ := hrel
     cases gk with
     | zero => exact absurd HA.out (by simp [spec_l11Plan.l1])
     | succ k2 =>
      have H := HA.out
      clear HA
      simp only [spec_l11Plan.l1] at H
      obtain ⟨c7, H⟩ | ⟨c7, H⟩ := ie_ H
      ·have c7b0 := decide_eq_true c7
       clear c7
       obtain ⟨⟨t348, t349, t350⟩, A8, H⟩ := bnd H
       replace H : ((spec_l1Below.f s0_0 t349 t350 3).bind fun bt351 => (spec_l11Plan.l2 k2 a1 a2 x7_2 x8_1 x9_2 t348 bt351.1 s0_0 bt351.2.1 bt351.2.2)) = some (r1, r2, r3) := H
       obtain ⟨⟨t351, t352, t353⟩, A9, H⟩ := bnd H
       replace H : (spec_l11Plan.l2 k2 a1 a2 x7_2 x8_1 x9_2 t348 t351 s0_0 t352 t353) = some (r1, r2, r3) := H
       have H' := am H
       clear H
       go_wp2_with (first | ((with_reducible refine gc 76 rfl ?_); refine gL (some 27) Try.func76 #[.pointer (some ⟨g, 0, none⟩), .int .i64 5] ?_; (with_reducible refine (spec_l1Below.calls g s0_0 x1001_2 x1002_2 5 t348 t349 t350 w0 _ ?side1 ?side2 A8.out).mono ?_); (case side1 => repeat (first | (with_reducible first | exact HI0.out | apply IsS152.alloc | apply IsS152.drewN | apply IsS152.drew | apply IsS152.set_1 | apply IsS152.set_2) | exact HI0.out)); (case side2 => repeat (first | (with_reducible first | exact HB.out | apply below_alloc | apply pw_below_drewN | apply below_drew1 | refine below_set ?_ (IsS152.ge HI0.out)) | exact HB.out)); rintro e w10 ⟨rfl, hi, hb, hk⟩; refine ⟨_, rfl, ?_⟩; replace HO_7 := am (Kd.R_mono (Kd.R_keep (IsS152.apart (show IsS152 w0 _ g s0_0 x1001_2 x1002_2 from by repeat (first | (with_reducible first | exact HI0.out | apply IsS152.alloc | apply IsS152.drewN | apply IsS152.drew | apply IsS152.set_1 | apply IsS152.set_2) | exact HI0.out)) (sr HO_7) (by decide)) hk (fun _ h => h.2)) (fun _ h => h.1)); replace HK := am (KeepBut.trans (by repeat (first | (with_reducible first | exact HK.out | apply KeepBut.set_ | apply keep_drewN | apply keep_drew | apply keep_alloc) | exact HK.out)) hk (.inl rfl)); replace HB := am hb; replace HI0 := am hi; (try clear hb); (try clear hb2); (try clear hk); (try clear hi)) | ((with_reducible refine gc 76 rfl ?_); refine gL (some 29) Try.func76 #[.pointer (some ⟨g, 0, none⟩), .int .i64 3] ?_; (with_reducible refine (spec_l1Below.calls g s0_0 t349 t350 3 t351 t352 t353 w0 _ ?side1 ?side2 A9.out).mono ?_); (case side1 => repeat (first | (with_reducible first | exact HI0.out | apply IsS152.alloc | apply IsS152.drewN | apply IsS152.drew | apply IsS152.set_1 | apply IsS152.set_2) | exact HI0.out)); (case side2 => repeat (first | (with_reducible first | exact HB.out | apply below_alloc | apply pw_below_drewN | apply below_drew1 | refine below_set ?_ (IsS152.ge HI0.out)) | exact HB.out)); rintro e w11 ⟨rfl, hi, hb, hk⟩; refine ⟨_, rfl, ?_⟩; replace HO_7 := am (Kd.R_mono (Kd.R_keep (IsS152.apart (show IsS152 w0 _ g s0_0 t349 t350 from by repeat (first | (with_reducible first | exact HI0.out | apply IsS152.alloc | apply IsS152.drewN | apply IsS152.drew | apply IsS152.set_1 | apply IsS152.set_2) | exact HI0.out)) (sr HO_7) (by decide)) hk (fun _ h => h.2)) (fun _ h => h.1)); replace HK := am (KeepBut.trans (by repeat (first | (with_reducible first | exact HK.out | apply KeepBut.set_ | apply keep_drewN | apply keep_drew | apply keep_alloc) | exact HK.out)) hk (.inl rfl)); replace HB := am hb; replace HI0 := am hi; (try clear hb); (try clear hb2); (try clear hk); (try clear hi)))
       go_loopg [7, 10, 11] k2 (fun kq v7 v10 v11 w' => ∃ (x7_3 : List (S137)) (x10_3 : Int) (x11_3 : Int) (x1001_3 : Int) (x1002_3 : Int), v10 = .int .i64 x10_3 ∧ v11 = .int .i64 x11_3 ∧ Aside0 (spec_l11Plan.l2 kq a1 a2 x7_3 x8_1 x9_2 x10_3 x11_3 s0_0 x1001_3 x1002_3 = some (r1, r2, r3)) ∧ Aside0 (kq ≤ k2) ∧ Aside0 (Kd.R k137 137 w' w.heap.size (fun _ => True) v7 x7_3) ∧ Aside0 (IsS152 w0 w' g s0_0 x1001_3 x1002_3) ∧ Aside0 (KeepBut w w' g none) ∧ Aside0 (Below w0.heap.size w0 w'))
       case atStart => exact ⟨(x7_2), (t348), (t351), (t352), (t353), sc, sc, H', kk0, ⟨sr HO_7⟩, ⟨by repeat (first | (with_reducible first | exact HI0.out | apply IsS152.alloc | apply IsS152.drewN | apply IsS152.drew | apply IsS152.set_1 | apply IsS152.set_2) | exact HI0.out)⟩, ⟨by repeat (first | (with_reducible first | exact HK.out | apply KeepBut.set_ | apply keep_drewN | apply keep_drew | apply keep_alloc) | exact HK.out)⟩, ⟨by repeat (first | (with_reducible first | exact HB.out | apply below_alloc | apply pw_below_drewN | apply below_drew1 | refine below_set ?_ (IsS152.ge HI0.out)) | exact HB.out)⟩⟩
       case round =>
        clear H'
        try clear c6
        try clear c6b0
        try clear c7
        try clear c7b0
        obtain ⟨x7_3, x10_3, x11_3, x1001_3, x1002_3, rfl, rfl, HA, HK3, HO_7, HI0, HK, HB⟩ := hrel
        cases gk with
        | zero => exact absurd HA.out (by simp [spec_l11Plan.l2])
        | succ k3 =>
         have H := HA.out
         clear HA
         simp only [spec_l11Plan.l2] at H
         have HC12 := am H
         clear H
         go_upto_region 10 with (fail)
         go_cut [36] (fun v36 wc => ∃ (kq : Nat) (x36_11 : Bool), v36 = .bool x36_11 ∧ Aside0 (spec_l11Plan.j3 kq a1 a2 x7_3 x8_1 x9_2 x10_3 x11_3 x36_11 s0_0 x1001_3 x1002_3 = some (r1, r2, r3)) ∧ Aside0 (kq ≤ k3) ∧ Aside0 (Kd.R k137 137 wc w.heap.size (fun _ => True) u7 x7_3) ∧ Aside0 (IsS152 w0 wc g s0_0 x1001_3 x1002_3) ∧ Aside0 (KeepBut w wc g none) ∧ Aside0 (Below w0.heap.size w0 wc))
         case first =>
          have H := HC12.out
          clear HC12
          obtain ⟨c13, H⟩ | ⟨c13, H⟩ := ie_ H
          ·have c13b0 := decide_eq_true c13
           clear c13
           (first | rw [c13b0] | (simp only [i64_w, i32_w]; rw [c13b0]) | rw [c13b1] | skip)
           have H' := am H
           clear H
           go_wp2
           go_meet
           case rel => exact ⟨_, (decide (x10_3 < a2)), sc, H', ⟨by have := HK1.out; have := HK2.out; have := HK3.out; first | omega | exact Nat.le_refl _⟩, ⟨sr HO_7⟩, ⟨by repeat (first | (with_reducible first | exact HI0.out | apply IsS152.alloc | apply IsS152.drewN | apply IsS152.drew | apply IsS152.set_1 | apply IsS152.set_2) | exact HI0.out)⟩, ⟨by repeat (first | (with_reducible first | exact HK.out | apply KeepBut.set_ | apply keep_drewN | apply keep_drew | apply keep_alloc) | exact HK.out)⟩, ⟨by repeat (first | (with_reducible first | exact HB.out | apply below_alloc | apply pw_below_drewN | apply below_drew1 | refine below_set ?_ (IsS152.ge HI0.out)) | exact HB.out)⟩⟩
          ·have c13b0 := decide_eq_false c13
           clear c13
           (first | rw [c13b0] | (simp only [i64_w, i32_w]; rw [c13b0]) | rw [c13b1] | skip)
           have H' := am H
           clear H
           go_wp2
           go_meet
           case rel => exact ⟨_, (false), sc, H', ⟨by have := HK1.out; have := HK2.out; have := HK3.out; first | omega | exact Nat.le_refl _⟩, ⟨sr HO_7⟩, ⟨by repeat (first | (with_reducible first | exact HI0.out | apply IsS152.alloc | apply IsS152.drewN | apply IsS152.drew | apply IsS152.set_1 | apply IsS152.set_2) | exact HI0.out)⟩, ⟨by repeat (first | (with_reducible first | exact HK.out | apply KeepBut.set_ | apply keep_drewN | apply keep_drew | apply keep_alloc) | exact HK.out)⟩, ⟨by repeat (first | (with_reducible first | exact HB.out | apply below_alloc | apply pw_below_drewN | apply below_drew1 | refine below_set ?_ (IsS152.ge HI0.out)) | exact HB.out)⟩⟩
         case rest =>
          clear HC12
          try clear c6
          try clear c6b0
          try clear c7
          try clear c7b0
          try clear c13
          try clear c13b0
          obtain ⟨kq, x36_11, rfl, HA, HJ11, HO_7, HI0, HK, HB⟩ := hcut
          cases kq with
          | zero => exact absurd HA.out (by simp [spec_l11Plan.j3])
          | succ kj11 =>
           have H := HA.out
           clear HA
           simp only [spec_l11Plan.j3] at H
           obtain rfl | rfl := tt x36_11
           ·replace H := ip H
            obtain ⟨⟨t354, t355, t356⟩, A15, H⟩ := bnd H
            replace H : ((spec_Min.f a2 (wrap64 ((wrap64 (x10_3 + 2)) + t354))).bind fun t357 => (if x7_3.length < 4398046511104 then ((spec_l1Below.f s0_0 t355 t356 6).bind fun bt361 => (spec_l11Plan.l2 kj11 a1 a2 (x7_3 ++ [(⟨x8_1, x9_2, x10_3, t357⟩ : S137)]) x8_1 x9_2 (wrap64 ((wrap64 (t357 + 1)) + bt361.1)) (wrap64 (x11_3 - 1)) s0_0 bt361.2.1 bt361.2.2)) else (none))) = some (r1, r2, r3) := H
            obtain ⟨t357, A16, H⟩ := bnd H
            obtain ⟨LMc17, H⟩ := il_ H
            obtain ⟨y358, hy358⟩ : ∃ y_ : List (S137), y_ = (x7_3 ++ [(⟨x8_1, x9_2, x10_3, t357⟩ : S137)]) := ⟨_, rfl⟩
            replace H : ((spec_l1Below.f s0_0 t355 t356 6).bind fun bt361 => (spec_l11Plan.l2 kj11 a1 a2 y358 x8_1 x9_2 (wrap64 ((wrap64 (t357 + 1)) + bt361.1)) (wrap64 (x11_3 - 1)) s0_0 bt361.2.1 bt361.2.2)) = some (r1, r2, r3) := ry hy358 H
            have Ny358 := am hy358
            clear hy358
            obtain ⟨⟨t361, t362, t363⟩, A18, H⟩ := bnd H
            replace H : (spec_l11Plan.l2 kj11 a1 a2 y358 x8_1 x9_2 (wrap64 ((wrap64 (t357 + 1)) + t361)) (wrap64 (x11_3 - 1)) s0_0 t362 t363) = some (r1, r2, r3) := H
            have H' := am H
            clear H
            go_wp2_with (first | ((with_reducible refine gc 76 rfl ?_); refine gL (some 43) Try.func76 #[.pointer (some ⟨g, 0, none⟩), .int .i64 9] ?_; (with_reducible refine (spec_l1Below.calls g s0_0 x1001_3 x1002_3 9 t354 t355 t356 w0 _ ?side1 ?side2 A15.out).mono ?_); (case side1 => repeat (first | (with_reducible first | exact HI0.out | apply IsS152.alloc | apply IsS152.drewN | apply IsS152.drew | apply IsS152.set_1 | apply IsS152.set_2) | exact HI0.out)); (case side2 => repeat (first | (with_reducible first | exact HB.out | apply below_alloc | apply pw_below_drewN | apply below_drew1 | refine below_set ?_ (IsS152.ge HI0.out)) | exact HB.out)); rintro e w19 ⟨rfl, hi, hb, hk⟩; refine ⟨_, rfl, ?_⟩; replace HO_7 := am (Kd.R_mono (Kd.R_keep (IsS152.apart (show IsS152 w0 _ g s0_0 x1001_3 x1002_3 from by repeat (first | (with_reducible first | exact HI0.out | apply IsS152.alloc | apply IsS152.drewN | apply IsS152.drew | apply IsS152.set_1 | apply IsS152.set_2) | exact HI0.out)) (sr HO_7) (by decide)) hk (fun _ h => h.2)) (fun _ h => h.1)); replace HK := am (KeepBut.trans (by repeat (first | (with_reducible first | exact HK.out | apply KeepBut.set_ | apply keep_drewN | apply keep_drew | apply keep_alloc) | exact HK.out)) hk (.inl rfl)); replace HB := am hb; replace HI0 := am hi; (try clear hb); (try clear hb2); (try clear hk); (try clear hi)) | ((with_reducible refine gc 139 rfl ?_); refine gL (some 45) Try.func139 #[.int .i64 a2, .int .i64 (wrap64 ((wrap64 (x10_3 + 2)) + t354))] ?_; (with_reducible refine (spec_Min.calls a2 (wrap64 ((wrap64 (x10_3 + 2)) + t354)) t357 _ A16.out).mono ?_); rintro e w' ⟨rfl, ⟨nd, rfl⟩⟩; refine ⟨_, rfl, ?_⟩) | ((with_reducible refine gate_builtin (b := .append) (xs := #[.tmp 46, .tmp 52]) rfl ?_); at_builtin; refine Kd.R_append k137 w.heap.size rfl (.tmp 46) (.tmp 52) 59 137 (.agg #[(.int .i64 0), (.int .i64 0), (.int .i64 0), (.int .i64 0)]) 32 rfl Try.underlying59 info137 rfl (by decide) (by omega) u7 x7_3 (⟨x8_1, x9_2, x10_3, t357⟩ : S137) [.int .i64 x8_1, .int .i64 x9_2, .int .i64 x10_3, .int .i64 t357] (fun _ => True) (fun _ => False) rfl rfl ?aP (fun _ hk => hk.elim) ?aF ?aO (Below.refl _ _) ?aS ?aL ?_; (case aP => exact k137_mkM _ _ _ (⟨x8_1, x9_2, x10_3, t357⟩ : S137)); (case aF => exact (fun _ _ => trivial)); (case aO => exact (sr HO_7)); (case aS => exact (keep_size (w := w) (g := g) (row := none) (by repeat (first | (with_reducible first | exact HK.out | apply KeepBut.set_ | apply keep_drewN | apply keep_drew | apply keep_alloc) | exact HK.out)))); (case aL => have := LMc17.out; omega); intro v359 w20 ho hb hg hat; rw [← Ny358.out] at ho; replace HB := am (below_weaken (by repeat (first | (with_reducible first | exact HB.out | apply below_alloc | apply pw_below_drewN | apply below_drew1 | refine below_set ?_ (IsS152.ge HI0.out)) | exact HB.out)) HL.out hb); replace HI0 := am (IsS152.grown (by repeat (first | (with_reducible first | exact HI0.out | apply IsS152.alloc | apply IsS152.drewN | apply IsS152.drew | apply IsS152.set_1 | apply IsS152.set_2) | exact HI0.out)) hg (IsS152.own_ne HI0.out HO_7.out (by decide))); replace HK := am (KeepBut.trans (by repeat (first | (with_reducible first | exact HK.out | apply KeepBut.set_ | apply keep_drewN | apply keep_drew | apply keep_alloc) | exact HK.out)) (KeepBut.of_grown hg g) (Kd.R_base2 HO_7.out)); have HO360 := am ho; clear HO_7; clear ho hb hg hat) | ((with_reducible refine gc 76 rfl ?_); refine gL (some 57) Try.func76 #[.pointer (some ⟨g, 0, none⟩), .int .i64 6] ?_; (with_reducible refine (spec_l1Below.calls g s0_0 t355 t356 6 t361 t362 t363 w0 _ ?side1 ?side2 A18.out).mono ?_); (case side1 => repeat (first | (with_reducible first | exact HI0.out | apply IsS152.alloc | apply IsS152.drewN | apply IsS152.drew | apply IsS152.set_1 | apply IsS152.set_2) | exact HI0.out)); (case side2 => repeat (first | (with_reducible first | exact HB.out | apply below_alloc | apply pw_below_drewN | apply below_drew1 | refine below_set ?_ (IsS152.ge HI0.out)) | exact HB.out)); rintro e w21 ⟨rfl, hi, hb, hk⟩; refine ⟨_, rfl, ?_⟩; replace HO360 := am (Kd.R_mono (Kd.R_keep (IsS152.apart (show IsS152 w0 _ g s0_0 t355 t356 from by repeat (first | (with_reducible first | exact HI0.out | apply IsS152.alloc | apply IsS152.drewN | apply IsS152.drew | apply IsS152.set_1 | apply IsS152.set_2) | exact HI0.out)) (sr HO360) (by decide)) hk (fun _ h => h.2)) (fun _ h => h.1)); replace HK := am (KeepBut.trans (by repeat (first | (with_reducible first | exact HK.out | apply KeepBut.set_ | apply keep_drewN | apply keep_drew | apply keep_alloc) | exact HK.out)) hk (.inl rfl)); replace HB := am hb; replace HI0 := am hi; (try clear hb); (try clear hb2); (try clear hk); (try clear hi)))
            go_roundg kj11
            case measure => have := HK1.out; have := HK2.out; have := HK3.out; have := HJ11.out; omega
            case rel => exact ⟨(y358), (wrap64 ((wrap64 (t357 + 1)) + t361)), (wrap64 (x11_3 - 1)), (t362), (t363), sc, sc, H', ⟨by have := HK1.out; have := HK2.out; have := HK3.out; have := HJ11.out; omega⟩, ⟨sr HO360⟩, ⟨by repeat (first | (with_reducible first | exact HI0.out | apply IsS152.alloc | apply IsS152.drewN | apply IsS152.drew | apply IsS152.set_1 | apply IsS152.set_2) | exact HI0.out)⟩, ⟨by repeat (first | (with_reducible first | exact HK.out | apply KeepBut.set_ | apply keep_drewN | apply keep_drew | apply keep_alloc) | exact HK.out)⟩, ⟨by repeat (first | (with_reducible first | exact HB.out | apply below_alloc | apply pw_below_drewN | apply below_drew1 | refine below_set ?_ (IsS152.ge HI0.out)) | exact HB.out)⟩⟩
           ·replace H := im H
            have H' := am H
            clear H
            go_wp2
            go_roundg kj11
            case measure => have := HK1.out; have := HK2.out; have := HK3.out; have := HJ11.out; omega
            case rel => exact ⟨(x7_3), (wrap64 (x9_2 + 1)), (x1001_3), (x1002_3), sc, H', ⟨by have := HK1.out; have := HK2.out; have := HK3.out; have := HJ11.out; omega⟩, ⟨sr HO_7⟩, ⟨by repeat (first | (with_reducible first | exact HI0.out | apply IsS152.alloc | apply IsS152.drewN | apply IsS152.drew | apply IsS152.set_1 | apply IsS152.set_2) | exact HI0.out)⟩, ⟨by repeat (first | (with_reducible first | exact HK.out | apply KeepBut.set_ | apply keep_drewN | apply keep_drew | apply keep_alloc) | exact HK.out)⟩, ⟨by repeat (first | (with_reducible first | exact HB.out | apply below_alloc | apply pw_below_drewN | apply below_drew1 | refine below_set ?_ (IsS152.ge HI0.out)) | exact HB.out)⟩⟩
      ·have c7b0 := decide_eq_false c7
       clear c7
       have H' := am H
       clear H
       go_wp2
       go_roundg k2
       case measure => have := HK1.out; have := HK2.out; omega
       case rel => exact ⟨(x7_2), (wrap64 (x8_1 + 1)), (x1001_2), (x1002_2), sc, H', kk2, ⟨sr HO_7⟩, ⟨by repeat (first | (with_reducible first | exact HI0.out | apply IsS152.alloc | apply IsS152.drewN | apply IsS152.drew | apply IsS152.set_1 | apply IsS152.set_2) | exact HI0.out)⟩, ⟨by repeat (first | (with_reducible first | exact HK.out | apply KeepBut.set_ | apply keep_drewN | apply keep_drew | apply keep_alloc) | exact HK.out)⟩, ⟨by repeat (first | (with_reducible first | exact HB.out | apply below_alloc | apply pw_below_drewN | apply below_drew1 | refine below_set ?_ (IsS152.ge HI0.out)) | exact HB.out)⟩⟩
   ·have c6b0 := decide_eq_false c6
    clear c6
    simp only [Option.some.injEq, Prod.mk.injEq] at H
    obtain ⟨rfl, rfl, rfl⟩ := H
    go_wp2
    go_ret
    exact ⟨_, se, sr HO_7, by repeat (first | (with_reducible first | exact HI0.out | apply IsS152.alloc | apply IsS152.drewN | apply IsS152.drew | apply IsS152.set_1 | apply IsS152.set_2) | exact HI0.out), by repeat (first | (with_reducible first | exact HB.out | apply below_alloc | apply pw_below_drewN | apply below_drew1 | refine below_set ?_ (IsS152.ge HI0.out)) | exact HB.out), by repeat (first | (with_reducible first | exact HK.out | apply KeepBut.set_ | apply keep_drewN | apply keep_drew | apply keep_alloc) | exact HK.out)⟩

end Go.Proofs.Ytiihaabhjphaeaa.QFnMargins
