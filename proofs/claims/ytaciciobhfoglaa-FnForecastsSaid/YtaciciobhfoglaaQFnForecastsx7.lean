/- What the Go functions of the law FnForecasts come to, as Lean functions, and that they do: by a program of the session, out of the kit's printer. Conditions: none. (squeezed). -/
import Derived.Test.YtaciciobhfoglaaSq
import Derived.Test.YtaciciobhfoglaaQFnForecastsx0
import Derived.Test.YtaciciobhfoglaaQFnForecastsx1
import Derived.Test.YtaciciobhfoglaaQFnForecastsx2
import Derived.Test.YtaciciobhfoglaaQFnForecastsx5
import Derived.Test.YtaciciobhfoglaaQFnForecastsx6
namespace Go.Proofs.Ytaciciobhfoglaa.QFnForecasts
open Go.RowKit Go.Proofs.YtaciciobhfoglaaW.PrintWords Go.Proofs.YtaciciobhfoglaaW.PrintLast Go.Proofs.YtaciciobhfoglaaW.PrintMore Go.Proofs.Ytaciciobhfoglaa.Open Go.Proofs.Ytaciciobhfoglaa.Sq
attribute [local go_sem] max2_int min2_int max_two min_two max_three min_three max_four min_four   -- for this text's walks alone
attribute [local go_sem] isSome_set
set_option linter.unusedVariables false
set_option linter.unusedSimpArgs false

/-! ### impl_SafeSends: function 57 -/
mutual
def impl_SafeSends.j0 : Nat → List (S100) → Int → Int → Int → List Int → Bool → Int → Int → Int → Int → Int → Int → Option (List Int)
  | 0, _, _, _, _, _, _, _, _, _, _, _, _ => none
  | k + 1, x1, x2, x3, x4, x11, x31, x358000, x358001, x358002, x358003, x358004, x358005 => if x31 = true then (some x11) else ((impl_needs.f k x358000 x358001 x358002 x358003 x358004 x358005 x1 x2 x3).bind fun t363 => (impl_SafeSends.l0 k x1 x2 x3 x4 x11 t363 x2 x358000 x358001 x358002 x358003 x358004 x358005))
def impl_SafeSends.l0 : Nat → List (S100) → Int → Int → Int → List Int → List Int → Int → Int → Int → Int → Int → Int → Int → Option (List Int)
  | 0, _, _, _, _, _, _, _, _, _, _, _, _, _ => none
  | k + 1, x1, x2, x3, x4, x11, x12, x13, x358000, x358001, x358002, x358003, x358004, x358005 => if x13 < x3 then (if 0 ≤ (wrap64 (x13 - x2)) then (if (wrap64 (x13 - x2)) < (x12.length : Int) then ((impl_SendsLeft.f k x358000 x358001 x358002 x358003 x358004 x358005 (rd x12 (wrap64 (x13 - x2)))).bind fun t367 => ((impl_InSpans.f k x1 x13).bind fun t368 => ((impl_TickBattery.f x358000 x358001 x358002 x358003 x358004 x358005 t368 (mn x4 t367)).bind fun bt369 => (if x11.length < 17592186044416 then (impl_SafeSends.l0 k x1 x2 x3 x4 (x11 ++ [mn x4 t367]) x12 (wrap64 (x13 + 1)) bt369.1 bt369.2.1 bt369.2.2.1 bt369.2.2.2.1 bt369.2.2.2.2.1 bt369.2.2.2.2.2) else (none))))) else (none)) else (none)) else (some x11)
end
def impl_SafeSends.f (k : Nat) (a0_0 : Int) (a0_1 : Int) (a0_2 : Int) (a0_3 : Int) (a0_4 : Int) (a0_5 : Int) (l1 : List (S100)) (a2 : Int) (a3 : Int) (a4 : Int) : Option (List Int) := (some (([] : List Int) : List Int)).bind fun y358 => ((impl_IsFeasible.f k a0_0 a0_1 a0_2 a0_3 a0_4 a0_5 l1 a2 a3).bind fun t361 => (if t361 = true then (if a2 ≥ a3 then (impl_SafeSends.j0 k l1 a2 a3 a4 y358 true a0_0 a0_1 a0_2 a0_3 a0_4 a0_5) else ((impl_InRange.f a4 0 100).bind fun t362 => (impl_SafeSends.j0 k l1 a2 a3 a4 y358 (!t362) a0_0 a0_1 a0_2 a0_3 a0_4 a0_5))) else (impl_SafeSends.j0 k l1 a2 a3 a4 y358 true a0_0 a0_1 a0_2 a0_3 a0_4 a0_5)))
theorem impl_SafeSends.mono_l : ∀ k, (∀ y0 y1 y2 y3 y4 y5 y6 y7 y8 y9 y10 y11, LeO (impl_SafeSends.j0 k y0 y1 y2 y3 y4 y5 y6 y7 y8 y9 y10 y11) (impl_SafeSends.j0 (k + 1) y0 y1 y2 y3 y4 y5 y6 y7 y8 y9 y10 y11)) ∧ (∀ y0 y1 y2 y3 y4 y5 y6 y7 y8 y9 y10 y11 y12, LeO (impl_SafeSends.l0 k y0 y1 y2 y3 y4 y5 y6 y7 y8 y9 y10 y11 y12) (impl_SafeSends.l0 (k + 1) y0 y1 y2 y3 y4 y5 y6 y7 y8 y9 y10 y11 y12))
  | 0 => ⟨fun _ _ _ _ _ _ _ _ _ _ _ _ r h => by simp [impl_SafeSends.j0] at h, fun _ _ _ _ _ _ _ _ _ _ _ _ _ r h => by simp [impl_SafeSends.l0] at h⟩
  | k + 1 => by
    obtain ⟨ih0, ih1⟩ := impl_SafeSends.mono_l k
    refine ⟨?_, ?_⟩
    · intro y0 y1 y2 y3 y4 y5 y6 y7 y8 y9 y10 y11
      unfold impl_SafeSends.j0
      have m0 := @impl_InSpans.mono
      have m1 := @impl_IsFeasible.mono
      have m2 := @impl_SendsLeft.mono
      have m3 := @impl_needs.mono
      exact mo
    · intro y0 y1 y2 y3 y4 y5 y6 y7 y8 y9 y10 y11 y12
      unfold impl_SafeSends.l0
      have m0 := @impl_InSpans.mono
      have m1 := @impl_IsFeasible.mono
      have m2 := @impl_SendsLeft.mono
      have m3 := @impl_needs.mono
      exact mo
theorem impl_SafeSends.mono : ∀ a0 a1 a2 a3 a4 a5 a6 a7 a8 a9 k, LeO (impl_SafeSends.f k a0 a1 a2 a3 a4 a5 a6 a7 a8 a9) (impl_SafeSends.f (k + 1) a0 a1 a2 a3 a4 a5 a6 a7 a8 a9) := by
  intro a0 a1 a2 a3 a4 a5 a6 a7 a8 a9 k
  obtain ⟨ih0, ih1⟩ := impl_SafeSends.mono_l k
  unfold impl_SafeSends.f
  have m0 := @impl_InSpans.mono
  have m1 := @impl_IsFeasible.mono
  have m2 := @impl_SendsLeft.mono
  have m3 := @impl_needs.mono
  exact mo
def impl_SafeSends.T8 : Bool × List (List Nat × List Nat) := (true, [([], []), ([], []), ([], []), ([], []), ([], []), ([3, 4], [3, 4]), ([2, 5], [2, 5]), ([6], [6]), ([1, 7], [1, 7]), ([0, 8], [0, 8]), ([9, 8, 0, 1, 2, 3, 4, 5, 6, 7, 8, 9], [9])])
def impl_SafeSends.B8 : List Nat := [0, 0, 0, 0, 0, 24, 60, 124, 254, 511, 1023]
theorem impl_SafeSends.tab8 : rtab .any (opsOf Try.f57 8) = impl_SafeSends.T8 := by kernel_rfl
theorem impl_SafeSends.bits8 : waitsOk impl_SafeSends.T8.2 impl_SafeSends.B8 = true := by kernel_rfl
set_option maxHeartbeats 8000000 in
set_option maxRecDepth 100000 in
theorem impl_SafeSends.calls (k : Nat) (a0_0 : Int) (a0_1 : Int) (a0_2 : Int) (a0_3 : Int) (a0_4 : Int) (a0_5 : Int) (A1 : Option Addr) (c1 : Nat) (l1 : List (S100)) (a2 : Int) (a3 : Int) (a4 : Int) (r : List Int) (w : World) (hr1 : Kd.C k100 w A1 l1.length l1) (hc1 : l1.length ≤ c1) (h : impl_SafeSends.f k a0_0 a0_1 a0_2 a0_3 a0_4 a0_5 l1 a2 a3 a4 = some r) :
    Calls Try.prog 57 #[.agg #[.int .i64 a0_0, .int .i64 a0_1, .int .i64 a0_2, .int .i64 a0_3, .int .i64 a0_4, .int .i64 a0_5], .slice A1 l1.length c1, .int .i64 a2, .int .i64 a3, .int .i64 a4] w fun e w' => ∃ v0_ : Value, e = .returned (v0_) ∧ Kd.R (Kd.int .i64) 3 w' w.heap.size (fun _ => True) v0_ r ∧ Below w.heap.size w w' := by
 have hu27 := Try.underlying27
 have HR1 := Aside0.mk hr1
 have HC1 := Aside0.mk hc1
 clear hr1 hc1
 have HB := Aside0.mk (Below.refl w.heap.size w)
 have H : ((some (([] : List Int) : List Int)).bind fun y358 => ((impl_IsFeasible.f k a0_0 a0_1 a0_2 a0_3 a0_4 a0_5 l1 a2 a3).bind fun t361 => (if t361 = true then (if a2 ≥ a3 then (impl_SafeSends.j0 k l1 a2 a3 a4 y358 true a0_0 a0_1 a0_2 a0_3 a0_4 a0_5) else ((impl_InRange.f a4 0 100).bind fun t362 => (impl_SafeSends.j0 k l1 a2 a3 a4 y358 (!t362) a0_0 a0_1 a0_2 a0_3 a0_4 a0_5))) else (impl_SafeSends.j0 k l1 a2 a3 a4 y358 true a0_0 a0_1 a0_2 a0_3 a0_4 a0_5)))) = some r := h
 clear h
 obtain ⟨y358, hy358⟩ : ∃ y_ : List Int, y_ = (([] : List Int)) := ⟨_, rfl⟩
 replace H : ((impl_IsFeasible.f k a0_0 a0_1 a0_2 a0_3 a0_4 a0_5 l1 a2 a3).bind fun t361 => (if t361 = true then (if a2 ≥ a3 then (impl_SafeSends.j0 k l1 a2 a3 a4 y358 true a0_0 a0_1 a0_2 a0_3 a0_4 a0_5) else ((impl_InRange.f a4 0 100).bind fun t362 => (impl_SafeSends.j0 k l1 a2 a3 a4 y358 (!t362) a0_0 a0_1 a0_2 a0_3 a0_4 a0_5))) else (impl_SafeSends.j0 k l1 a2 a3 a4 y358 true a0_0 a0_1 a0_2 a0_3 a0_4 a0_5))) = some r := by first | (rw [hy358]; with_reducible exact H) | (have H2_ := (Option.bind_some _ _).symm.trans H; rw [hy358]; with_reducible exact H2_) | (have H2_ := (Option.bind_some _ _).symm.trans H; with_reducible exact H2_) | with_reducible exact H | (rw [hy358]; exact H) | exact H
 have Ny358 := Aside0.mk hy358
 clear hy358
 have HC6 := Aside0.mk H
 clear H
 go_enter Try.func57, Try.ntmps57
 go_upto_region 2 with (first | ((with_reducible refine gate_dst (N := 5) rfl ?_); refine bx 5 #[.int .i64 a0_0, .int .i64 a0_1, .int .i64 a0_2, .int .i64 a0_3, .int .i64 a0_4, .int .i64 a0_5] 27 ?_; intro gb357 hg w7 hbox hb; have GW357 := bz w hg; have GE357 := bz w hg; replace HB := bs hb; have BK357 := Aside0.mk hbox; clear hb hbox hg) | ((with_reducible refine gate_dst (N := 15) rfl ?_); refine Kd.R_lit (Kd.int .i64) _ 3 ?hg (N := 15) ?hd (xs := ([] : List Int)) (inner := []) (ok := fun _ => True) (okp := fun _ => True) ?hr ?hp (fun _ hk => hk) trivial (Below.refl _ _) (Nat.le_refl _) (by simp) ?_; (case hd => rfl); (case hg => rfl); (case hr => first | (go_simp; done) | (go_simp; rfl)); (case hp => exact (Reps.none _ _)); intro v359 w8 ho9 hb hg_ hnew_; clear hg_ hnew_; (first | rw [← Ny358.out] at ho9 | (simp only [Int.reduceToNat] at ho9; rw [← Ny358.out] at ho9)); have HO360 := Aside0.mk (Kd.R_lower ho9 (below_size (sbw))); replace BK357 := bb BK357 hb; replace HB := bsw hb; clear hb ho9))
 (try simp only [Act.put, List.setIfInBounds_toArray, List.set_cons_zero, List.set_cons_succ])
 go_cut [31] (fun v31 wc => ∃ (kq : Nat) (x31_5 : Bool), v31 = .bool x31_5 ∧ Aside0 (impl_SafeSends.j0 kq l1 a2 a3 a4 y358 x31_5 a0_0 a0_1 a0_2 a0_3 a0_4 a0_5 = some r) ∧ Aside0 (kq ≤ k) ∧ Aside0 (Kd.R (Kd.int .i64) 3 wc w.heap.size (fun _ => True) v359 y358) ∧ Aside0 (wc.heap[gb357]? = some (.cells #[.int .i64 a0_0, .int .i64 a0_1, .int .i64 a0_2, .int .i64 a0_3, .int .i64 a0_4, .int .i64 a0_5] 27 (0, 0))) ∧ Aside0 (Below w.heap.size w wc))
 case first =>
  have H := HC6.out
  clear HC6
  obtain ⟨t361, A10, H⟩ := bnd H
  obtain rfl | rfl := tt t361
  ·replace H := ip H
   obtain ⟨c12, H⟩ | ⟨c12, H⟩ := ie_ H
   ·have c12b0 := decide_eq_true c12
    clear c12
    (first | rw [c12b0] | (simp only [i64_w, i32_w]; rw [c12b0]) | skip)
    have H' := Aside0.mk H
    clear H
    obtain ⟨hcz13_0, hcz13_1, hcz13_2, hcz13_3, hcz13_4, hcz13_5, hfz13_0, hfz13_1, hfz13_2, hfz13_3, hfz13_4, hfz13_5⟩ := cc6 BK357
    go_wp2_with (first | ((with_reducible refine gate_callee (f := 19) rfl ?_); refine gL (some 20) Try.func19 #[.agg #[.int .i64 a0_0, .int .i64 a0_1, .int .i64 a0_2, .int .i64 a0_3, .int .i64 a0_4, .int .i64 a0_5], .slice A1 l1.length c1, .int .i64 a2, .int .i64 a3] ?_; (with_reducible refine (impl_IsFeasible.calls k a0_0 a0_1 a0_2 a0_3 a0_4 a0_5 _ _ l1 a2 a3 true _ ?side1 ?side2 A10.out).mono ?_); (case side1 => exact cb HR1); (case side2 => exact HC1.out); rintro e w14 ⟨rfl, hb⟩; refine ⟨_, rfl, ?_⟩; replace HO360 := Aside0.mk (Kd.R_below (sr HO360) hb); replace BK357 := bb BK357 hb; replace HB := bsw hb; (try clear hb); (try clear hb2); (try clear hk); (try clear hi)))
    go_meet
    case rel => exact ⟨_, (true), sc, H', ⟨by first | omega | exact Nat.le_refl _⟩, ⟨sr HO360⟩, ⟨sk BK357⟩, ⟨sbw⟩⟩
   ·have c12b0 := decide_eq_false c12
    clear c12
    (first | rw [c12b0] | (simp only [i64_w, i32_w]; rw [c12b0]) | skip)
    obtain ⟨t362, A15, H⟩ := bnd H
    have H' := Aside0.mk H
    clear H
    obtain ⟨hcz16_0, hcz16_1, hcz16_2, hcz16_3, hcz16_4, hcz16_5, hfz16_0, hfz16_1, hfz16_2, hfz16_3, hfz16_4, hfz16_5⟩ := cc6 BK357
    go_wp2_with (first | ((with_reducible refine gate_callee (f := 19) rfl ?_); refine gL (some 20) Try.func19 #[.agg #[.int .i64 a0_0, .int .i64 a0_1, .int .i64 a0_2, .int .i64 a0_3, .int .i64 a0_4, .int .i64 a0_5], .slice A1 l1.length c1, .int .i64 a2, .int .i64 a3] ?_; (with_reducible refine (impl_IsFeasible.calls k a0_0 a0_1 a0_2 a0_3 a0_4 a0_5 _ _ l1 a2 a3 true _ ?side1 ?side2 A10.out).mono ?_); (case side1 => exact cb HR1); (case side2 => exact HC1.out); rintro e w17 ⟨rfl, hb⟩; refine ⟨_, rfl, ?_⟩; replace HO360 := Aside0.mk (Kd.R_below (sr HO360) hb); replace BK357 := bb BK357 hb; replace HB := bsw hb; (try clear hb); (try clear hb2); (try clear hk); (try clear hi)) | (go_at_call 96; (with_reducible refine (impl_InRange.calls a4 0 100 t362 _ A15.out).mono ?_); rintro e w' ⟨rfl, ⟨nd, rfl⟩⟩))
    go_meet
    case rel => exact ⟨_, (!t362), sc, H', ⟨by first | omega | exact Nat.le_refl _⟩, ⟨sr HO360⟩, ⟨sk BK357⟩, ⟨sbw⟩⟩
  ·replace H := im H
   have H' := Aside0.mk H
   clear H
   obtain ⟨hcz18_0, hcz18_1, hcz18_2, hcz18_3, hcz18_4, hcz18_5, hfz18_0, hfz18_1, hfz18_2, hfz18_3, hfz18_4, hfz18_5⟩ := cc6 BK357
   go_wp2_with (first | ((with_reducible refine gate_callee (f := 19) rfl ?_); refine gL (some 20) Try.func19 #[.agg #[.int .i64 a0_0, .int .i64 a0_1, .int .i64 a0_2, .int .i64 a0_3, .int .i64 a0_4, .int .i64 a0_5], .slice A1 l1.length c1, .int .i64 a2, .int .i64 a3] ?_; (with_reducible refine (impl_IsFeasible.calls k a0_0 a0_1 a0_2 a0_3 a0_4 a0_5 _ _ l1 a2 a3 false _ ?side1 ?side2 A10.out).mono ?_); (case side1 => exact cb HR1); (case side2 => exact HC1.out); rintro e w19 ⟨rfl, hb⟩; refine ⟨_, rfl, ?_⟩; replace HO360 := Aside0.mk (Kd.R_below (sr HO360) hb); replace BK357 := bb BK357 hb; replace HB := bsw hb; (try clear hb); (try clear hb2); (try clear hk); (try clear hi)))
   go_meet
   case rel => exact ⟨_, (true), sc, H', ⟨by first | omega | exact Nat.le_refl _⟩, ⟨sr HO360⟩, ⟨sk BK357⟩, ⟨sbw⟩⟩
 case rest =>
  clear HC6
  try clear c1
  try clear c12
  try clear c12b0
  try clear hcz13_0
  try clear hcz13_1
  try clear hcz13_2
  try clear hcz13_3
  try clear hcz13_4
  try clear hcz13_5
  try clear hcz16_0
  try clear hcz16_1
  try clear hcz16_2
  try clear hcz16_3
  try clear hcz16_4
  try clear hcz16_5
  try clear hcz18_0
  try clear hcz18_1
  try clear hcz18_2
  try clear hcz18_3
  try clear hcz18_4
  try clear hcz18_5
  try clear hfz13_0
  try clear hfz13_1
  try clear hfz13_2
  try clear hfz13_3
  try clear hfz13_4
  try clear hfz13_5
  try clear hfz16_0
  try clear hfz16_1
  try clear hfz16_2
  try clear hfz16_3
  try clear hfz16_4
  try clear hfz16_5
  try clear hfz18_0
  try clear hfz18_1
  try clear hfz18_2
  try clear hfz18_3
  try clear hfz18_4
  try clear hfz18_5
  obtain ⟨kq, x31_5, rfl, HA, HJ5, HO_11, BK357, HB⟩ := hcut
  cases kq with
  | zero => exact absurd HA.out (by simp [impl_SafeSends.j0])
  | succ kj5 =>
   have H := HA.out
   clear HA
   simp only [impl_SafeSends.j0] at H
   obtain rfl | rfl := tt x31_5
   ·replace H := ip H
    obtain rfl := Option.some.inj H
    go_wp2
    go_ret
    exact ⟨_, se, sr HO_11, sbw⟩
   ·replace H := im H
    obtain ⟨t363, A21, H⟩ := bnd H
    have H' := Aside0.mk H
    clear H
    obtain ⟨hcz22_0, hcz22_1, hcz22_2, hcz22_3, hcz22_4, hcz22_5, hfz22_0, hfz22_1, hfz22_2, hfz22_3, hfz22_4, hfz22_5⟩ := cc6 BK357
    go_wp2_with (first | ((with_reducible refine gate_callee (f := 72) rfl ?_); refine gL (some 37) Try.func72 #[.agg #[.int .i64 a0_0, .int .i64 a0_1, .int .i64 a0_2, .int .i64 a0_3, .int .i64 a0_4, .int .i64 a0_5], .slice A1 l1.length c1, .int .i64 a2, .int .i64 a3] ?_; (with_reducible refine (impl_needs.calls kj5 a0_0 a0_1 a0_2 a0_3 a0_4 a0_5 _ _ l1 a2 a3 t363 _ ?side1 ?side2 A21.out).mono ?_); (case side1 => exact cb HR1); (case side2 => exact HC1.out); rintro e w23 ⟨v364, rfl, ho0, hb⟩; refine ⟨_, rfl, ?_⟩; have HO365 := Aside0.mk (Kd.R_lower (Kd.R_new' ho0 (Kd.R_lt (sr HO_11))) (below_size (sbw))); replace HO_11 := Aside0.mk (Kd.R_elder' (sr HO_11) (Kd.R_base ho0) hb); replace BK357 := bb BK357 hb; replace HB := bsw hb; (try clear hb); (try clear hb2); (try clear hk); (try clear hi); (try clear ho0)))
    go_loopg [11, 13] kj5 (fun kq v11 v13 w' => ∃ (x11_2 : List Int) (x13_2 : Int) (x358000_2 : Int) (x358001_2 : Int) (x358002_2 : Int) (x358003_2 : Int) (x358004_2 : Int) (x358005_2 : Int), v13 = .int .i64 x13_2 ∧ Aside0 (impl_SafeSends.l0 kq l1 a2 a3 a4 x11_2 t363 x13_2 x358000_2 x358001_2 x358002_2 x358003_2 x358004_2 x358005_2 = some r) ∧ Aside0 (kq ≤ kj5) ∧ Aside0 (Kd.R (Kd.int .i64) 3 w' w.heap.size (fun k_ => some k_ ≠ (v364 : Value).ownBlock) v11 x11_2) ∧ Aside0 (Kd.R (Kd.int .i64) 3 w' w.heap.size (fun k_ => some k_ ≠ (v11 : Value).ownBlock) v364 t363) ∧ Aside0 (w'.heap[gb357]? = some (.cells #[.int .i64 x358000_2, .int .i64 x358001_2, .int .i64 x358002_2, .int .i64 x358003_2, .int .i64 x358004_2, .int .i64 x358005_2] 27 (0, 0))) ∧ Aside0 (Below w.heap.size w w'))
    case atStart => exact ⟨(y358), (a2), (a0_0), (a0_1), (a0_2), (a0_3), (a0_4), (a0_5), sc, H', kk0, ⟨by (with_reducible repeat (first | apply Kd.R_alloc | apply Kd.R_drewN | apply Kd.R_drew)); exact Kd.R_mono HO_11.out (fun _ hk => hk.2)⟩, ⟨by (with_reducible repeat (first | apply Kd.R_alloc | apply Kd.R_drewN | apply Kd.R_drew)); exact Kd.R_mono HO365.out (fun _ hk => hk.2)⟩, ⟨sk BK357⟩, ⟨sbw⟩⟩
    case round =>
     clear H'
     try clear c1
     try clear c12
     try clear c12b0
     try clear hcz13_0
     try clear hcz13_1
     try clear hcz13_2
     try clear hcz13_3
     try clear hcz13_4
     try clear hcz13_5
     try clear hcz16_0
     try clear hcz16_1
     try clear hcz16_2
     try clear hcz16_3
     try clear hcz16_4
     try clear hcz16_5
     try clear hcz18_0
     try clear hcz18_1
     try clear hcz18_2
     try clear hcz18_3
     try clear hcz18_4
     try clear hcz18_5
     try clear hcz22_0
     try clear hcz22_1
     try clear hcz22_2
     try clear hcz22_3
     try clear hcz22_4
     try clear hcz22_5
     try clear hfz13_0
     try clear hfz13_1
     try clear hfz13_2
     try clear hfz13_3
     try clear hfz13_4
     try clear hfz13_5
     try clear hfz16_0
     try clear hfz16_1
     try clear hfz16_2
     try clear hfz16_3
     try clear hfz16_4
     try clear hfz16_5
     try clear hfz18_0
     try clear hfz18_1
     try clear hfz18_2
     try clear hfz18_3
     try clear hfz18_4
     try clear hfz18_5
     try clear hfz22_0
     try clear hfz22_1
     try clear hfz22_2
     try clear hfz22_3
     try clear hfz22_4
     try clear hfz22_5
     obtain ⟨x11_2, x13_2, x358000_2, x358001_2, x358002_2, x358003_2, x358004_2, x358005_2, rfl, HA, HK2, HO_11, HO_12, BK357, HB⟩ := hrel
     cases gk with
     | zero => exact absurd HA.out (by simp [impl_SafeSends.l0])
     | succ k2 =>
      have H := HA.out
      clear HA
      simp only [impl_SafeSends.l0] at H
      obtain ⟨c24, H⟩ | ⟨c24, H⟩ := ie_ H
      ·have c24b0 := decide_eq_true c24
       clear c24
       obtain ⟨ji25, hji25⟩ : ∃ j_ : Int, (wrap64 (x13_2 - a2)) = j_ := ⟨_, rfl⟩
       replace H : (if 0 ≤ (ji25) then (if (ji25) < (t363.length : Int) then ((impl_SendsLeft.f k2 x358000_2 x358001_2 x358002_2 x358003_2 x358004_2 x358005_2 (rd t363 (ji25))).bind fun t367 => ((impl_InSpans.f k2 l1 x13_2).bind fun t368 => ((impl_TickBattery.f x358000_2 x358001_2 x358002_2 x358003_2 x358004_2 x358005_2 t368 (mn a4 t367)).bind fun bt369 => (if x11_2.length < 17592186044416 then (impl_SafeSends.l0 k2 l1 a2 a3 a4 (x11_2 ++ [mn a4 t367]) t363 (wrap64 (x13_2 + 1)) bt369.1 bt369.2.1 bt369.2.2.1 bt369.2.2.2.1 bt369.2.2.2.2.1 bt369.2.2.2.2.2) else (none))))) else (none)) else (none)) = some r := by first | (rw [hji25] at H; exact H) | (simp only [hji25] at H ⊢; exact H)
       have hji25w : (IntKind.i64.wrap (x13_2 - a2)) = ji25 := (i64_w _).trans hji25
       obtain ⟨c26b0, H⟩ := id_ H
       obtain ⟨c27b0, H⟩ := id_ H
       obtain ⟨t367, A28, H⟩ := bnd H
       obtain ⟨ji29, hji29⟩ : ∃ j_ : Int, (mn a4 t367) = j_ := ⟨_, rfl⟩
       replace H : ((impl_InSpans.f k2 l1 x13_2).bind fun t368 => ((impl_TickBattery.f x358000_2 x358001_2 x358002_2 x358003_2 x358004_2 x358005_2 t368 (ji29)).bind fun bt369 => (if x11_2.length < 17592186044416 then (impl_SafeSends.l0 k2 l1 a2 a3 a4 (x11_2 ++ [ji29]) t363 (wrap64 (x13_2 + 1)) bt369.1 bt369.2.1 bt369.2.2.1 bt369.2.2.2.1 bt369.2.2.2.2.1 bt369.2.2.2.2.2) else (none)))) = some r := by first | (rw [hji29] at H; exact H) | (simp only [hji29] at H ⊢; exact H)
       (try rw [hji29] at A28)
       have hji29_ : (if t367 < a4 then t367 else a4) = ji29 := hji29
       obtain ⟨t368, A30, H⟩ := bnd H
       obtain ⟨⟨t369, t370, t371, t372, t373, t374⟩, A31, H⟩ := bnd H
       replace H : (if x11_2.length < 17592186044416 then (impl_SafeSends.l0 k2 l1 a2 a3 a4 (x11_2 ++ [ji29]) t363 (wrap64 (x13_2 + 1)) t369 t370 t371 t372 t373 t374) else (none)) = some r := H
       obtain ⟨LMc32, H⟩ := il_ H
       obtain ⟨y375, hy375⟩ : ∃ y_ : List Int, y_ = (x11_2 ++ [ji29]) := ⟨_, rfl⟩
       replace H : (impl_SafeSends.l0 k2 l1 a2 a3 a4 y375 t363 (wrap64 (x13_2 + 1)) t369 t370 t371 t372 t373 t374) = some r := by first | (rw [hy375]; with_reducible exact H) | (have H2_ := (Option.bind_some _ _).symm.trans H; rw [hy375]; with_reducible exact H2_) | (have H2_ := (Option.bind_some _ _).symm.trans H; with_reducible exact H2_) | with_reducible exact H | (rw [hy375]; exact H) | exact H
       have Ny375 := Aside0.mk hy375
       clear hy375
       have H' := Aside0.mk H
       clear H
       try go_wp2
       replace HO_11 := Aside0.mk (Kd.R_drew HO_11.out)
       replace HO_12 := Aside0.mk (Kd.R_drew HO_12.out)
       replace BK357 := Aside0.mk (blk_drew BK357.out)
       replace HB := Aside0.mk (below_drew1 HB.out)
       obtain ⟨Ao34, co34, eo34⟩ := Kd.R_slice HO_12.out
       (first | subst eo34 | (injection eo34 with f1_ f2_ f3_; have f4_ := f1_.symm; have f5_ := f3_.symm; clear f1_ f2_ f3_; subst f4_; subst f5_))
       have p366 : 0 ≤ ((ji25) : Int) := sa
       have q366 : (ji25) < (t363.length : Int) := sa
       obtain ⟨ad366, e366, hx366_0⟩ := Kd.at_int (Kd.R_reads' HO_12.out).2.2 (ji25) p366 q366
       cases e366
       replace p366 := eq_true p366
       replace q366 := eq_true q366
       refine start_ (n := 11) (S := fun w' => w'.cell? ⟨gb357, 0, none⟩ = some (.int .i64 x358000_2) ∧ w'.cell? ⟨gb357, 1, none⟩ = some (.int .i64 x358001_2) ∧ w'.cell? ⟨gb357, 2, none⟩ = some (.int .i64 x358002_2) ∧ w'.cell? ⟨gb357, 3, none⟩ = some (.int .i64 x358003_2) ∧ w'.cell? ⟨gb357, 4, none⟩ = some (.int .i64 x358004_2) ∧ w'.cell? ⟨gb357, 5, none⟩ = some (.int .i64 x358005_2) ∧ w'.cell? (ad366.add ((ji25)).toNat) = some (.int .i64 (rd t363 (ji25)))) (ds := []) #[false, false, false, false, false, false, false, false, false, false, false] (by kernel_rfl) rfl rfl ⟨bc0 BK357, bc1 BK357, bc2 BK357, bc3 BK357, bc4 BK357, bc5 BK357, hx366_0⟩ (fun hHeld => ?_); refine with_tabW impl_SafeSends.tab8 impl_SafeSends.bits8 (fun HT_ HW_ => ?_)
       generalize wr.drew = w33 at HO_11 HO_12 BK357 HB hx366_0 hHeld ⊢
       refine put 0 44 #[true, false, false, false, false, false, false, false, false, false, false] HT_ ?_
       refine put 2 46 #[true, false, true, false, false, false, false, false, false, false, false] HT_ ?_
       refine put 3 47 #[true, false, true, true, false, false, false, false, false, false, false] HT_ ?_
       refine put 4 48 #[true, false, true, true, true, false, false, false, false, false, false] HT_ ?_
       refine put 5 49 #[true, false, true, true, true, true, false, false, false, false, false] HT_ ?_
       refine put 6 50 #[true, false, true, true, true, true, true, false, false, false, false] HT_ ?_
       refine tat7 1 45 #[true, true, true, true, true, true, true, false, false, false, false] HT_ HW_ hHeld ?_
       refine tat7 7 51 #[true, true, true, true, true, true, true, true, false, false, false] HT_ HW_ hHeld ?_
       refine one_ (i := 8) (N := some 52) #[true, true, true, true, true, true, true, true, true, false, false] rfl rfl (one_of HT_.out (by kernel_rfl)) (by decide) (fun K hK => ?_)
       refine goes_ Try.func60 (by kernel_rfl) rfl #[.agg #[.int .i64 x358000_2, .int .i64 x358001_2, .int .i64 x358002_2, .int .i64 x358003_2, .int .i64 x358004_2, .int .i64 x358005_2], .int .i64 (rd t363 (ji25))] (by rfl) rfl rfl (by (try simp only [List.map_toArray, List.map_cons, List.map_nil]); first | done | (simp only [hji25]; rfl) | rfl | (simp only [List.length_drop, List.length_take]; rfl)) ?_
       with_reducible refine (impl_SendsLeft.calls k2 x358000_2 x358001_2 x358002_2 x358003_2 x358004_2 x358005_2 (rd t363 (ji25)) t367 _ A28.out).mono ?_
       rintro e w35 ⟨rfl, hb⟩
       have HS6_ := (hb.cell (World.block_lt_of_cell? _ _ (hHeld.2.2.2.2.2.2))).trans (hHeld.2.2.2.2.2.2)
       refine ⟨_, rfl, ?_⟩
       replace HO_11 := Aside0.mk (Kd.R_below (sr HO_11) hb)
       replace HO_12 := Aside0.mk (Kd.R_below (sr HO_12) hb)
       replace BK357 := bb BK357 hb
       replace HB := bsw hb
       (try clear hb)
       (try clear hb2)
       (try clear hk)
       (try clear hi)
       refine hK.out _ _ ⟨bc0 BK357, bc1 BK357, bc2 BK357, bc3 BK357, bc4 BK357, bc5 BK357, HS6_⟩ (fun hHeld => ?_)
       clear hK K
       refine norm_ (a' := ?_) ?_ ?_
       rotate_left
       ·show Act.put _ (some 52) _ = _
        simp only [Act.put, List.setIfInBounds_toArray, List.set_cons_zero, List.set_cons_succ, i64_w, i32_w]
        rfl
       refine put 9 53 #[true, true, true, true, true, true, true, true, true, true, false] HT_ ?_
       refine put 10 14 #[true, true, true, true, true, true, true, true, true, true, true] HT_ ?_
       refine done_ (done_of HT_.out (by kernel_rfl)) ?_
       try go_wp2
       replace HO_11 := Aside0.mk (Kd.R_drew HO_11.out)
       replace HO_12 := Aside0.mk (Kd.R_drew HO_12.out)
       replace BK357 := Aside0.mk (blk_drew BK357.out)
       replace HB := Aside0.mk (below_drew1 HB.out)
       refine start_ (n := 7) (S := fun w' => w'.cell? ⟨gb357, 0, none⟩ = some (.int .i64 x358000_2) ∧ w'.cell? ⟨gb357, 1, none⟩ = some (.int .i64 x358001_2) ∧ w'.cell? ⟨gb357, 2, none⟩ = some (.int .i64 x358002_2) ∧ w'.cell? ⟨gb357, 3, none⟩ = some (.int .i64 x358003_2) ∧ w'.cell? ⟨gb357, 4, none⟩ = some (.int .i64 x358004_2) ∧ w'.cell? ⟨gb357, 5, none⟩ = some (.int .i64 x358005_2)) (ds := [6]) #[false, false, false, false, false, false, false] (by kernel_rfl) rfl rfl ⟨bc0 BK357, bc1 BK357, bc2 BK357, bc3 BK357, bc4 BK357, bc5 BK357⟩ (fun hHeld => ?_)
       generalize w35.drew = w36 at HO_11 HO_12 BK357 HB hHeld ⊢
       refine pu 1 55 #[false, true, false, false, false, false, false] ?_
       refine pu 2 56 #[false, true, true, false, false, false, false] ?_
       refine pu 4 58 #[false, true, true, false, true, false, false] ?_
       refine ta6 0 54 #[true, true, true, false, true, false, false] hHeld ?_
       refine one_ (i := 3) (N := some 57) #[true, true, true, true, true, false, false] rfl rfl (by kernel_rfl) (by decide) (fun K hK => ?_)
       refine goes_ Try.func54 (by kernel_rfl) rfl #[.slice A1 l1.length c1, .int .i64 x13_2] (by rfl) rfl rfl sl ?_
       with_reducible refine (impl_InSpans.calls k2 _ _ l1 x13_2 t368 _ ?side1 ?side2 A30.out).mono ?_
       (case side1 => exact cb HR1)
       (case side2 => exact HC1.out)
       rintro e w37 ⟨rfl, hb⟩
       refine ⟨_, rfl, ?_⟩
       replace HO_11 := Aside0.mk (Kd.R_below (sr HO_11) hb)
       replace HO_12 := Aside0.mk (Kd.R_below (sr HO_12) hb)
       replace BK357 := bb BK357 hb
       replace HB := bsw hb
       (try clear hb)
       (try clear hb2)
       (try clear hk)
       (try clear hi)
       refine hK.out _ _ ⟨bc0 BK357, bc1 BK357, bc2 BK357, bc3 BK357, bc4 BK357, bc5 BK357⟩ (fun hHeld => ?_)
       clear hK K
       refine norm_ (a' := ?_) ?_ ?_
       rotate_left
       ·show Act.put _ (some 57) _ = _
        simp only [Act.put, List.setIfInBounds_toArray, List.set_cons_zero, List.set_cons_succ, i64_w, i32_w]
        rfl
       refine one_ (i := 5) (N := some 59) #[true, true, true, true, true, true, false] rfl rfl (by kernel_rfl) (by decide) (fun K hK => ?_)
       refine goes_ Try.func53 (by kernel_rfl) rfl #[.agg #[.int .i64 x358000_2, .int .i64 x358001_2, .int .i64 x358002_2, .int .i64 x358003_2, .int .i64 x358004_2, .int .i64 x358005_2], .bool t368, .int .i64 ji29] (by rfl) rfl rfl (by (try simp only [List.map_toArray, List.map_cons, List.map_nil]); first | done | (simp only [hji29]; rfl) | rfl | (simp only [List.length_drop, List.length_take]; rfl)) ?_
       with_reducible refine (impl_TickBattery.calls x358000_2 x358001_2 x358002_2 x358003_2 x358004_2 x358005_2 t368 ji29 t369 t370 t371 t372 t373 t374 _ A31.out).mono ?_
       rintro e w38 ⟨rfl, hb⟩
       refine ⟨_, rfl, ?_⟩
       replace HO_11 := Aside0.mk (Kd.R_below (sr HO_11) hb)
       replace HO_12 := Aside0.mk (Kd.R_below (sr HO_12) hb)
       replace BK357 := bb BK357 hb
       replace HB := bsw hb
       (try clear hb)
       (try clear hb2)
       (try clear hk)
       (try clear hi)
       refine hK.out _ _ ⟨bc0 BK357, bc1 BK357, bc2 BK357, bc3 BK357, bc4 BK357, bc5 BK357⟩ (fun hHeld => ?_)
       clear hK K
       refine norm_ (a' := ?_) ?_ ?_
       rotate_left
       ·show Act.put _ (some 59) _ = _
        simp only [Act.put, List.setIfInBounds_toArray, List.set_cons_zero, List.set_cons_succ, i64_w, i32_w]
        rfl
       refine last_ (i := 6) (N := none) #[true, true, true, true, true, true, true] rfl rfl (by kernel_rfl) (by decide) (fun K hK => ?_)
       obtain ⟨hs39, hfs39⟩ := cc1 BK357
       have hs40 := bc1 BK357
       have hfs40 := bf BK357 1
       have hs41 := bc2 BK357
       have hfs41 := bf BK357 2
       have hs42 := bc3 BK357
       have hfs42 := bf BK357 3
       have hs43 := bc4 BK357
       have hfs43 := bf BK357 4
       have hs44 := bc5 BK357
       have hfs44 := bf BK357 5
       refine skip_ (w1 := ?_) (by rfl) rfl ?_ ?_
       rotate_left
       ·go_simp
        rfl
       refine hK.out _ _ ?_
       clear hK K
       refine done_ (by kernel_rfl) ?_
       try go_wp2_with (first | ((with_reducible refine gate_builtin (b := .append) (xs := #[.tmp 60, .tmp 62]) rfl ?_); at_builtin; refine Kd.R_append (Kd.int .i64) (w0 := w) w.heap.size rfl (.tmp 60) (.tmp 62) 37 3 (.int .i64 0) 8 rfl Try.underlying37 info3 rfl (by decide) (by omega) u11 x11_2 ji29 [.int .i64 ji29] (fun k_ => some k_ ≠ (.slice (some ad366) t363.length co34 : Value).ownBlock) (fun _ => False) rfl (by first | (go_simp; done) | (go_simp; rfl)) ?aP (fun _ hk => hk.elim) ?aF ?aO ?aB ?aS ?aL ?_; (case aP => exact rfl); (case aB => exact (sbw)); (case aF => exact (fun k_ hk => Kd.fresh' (Kd.R_lt (by (with_reducible repeat (first | apply Kd.R_alloc | apply Kd.R_drewN | apply Kd.R_drew)); exact (Kd.R_mono (Kd.R_far (p := ⟨gb357, 5, none⟩) (Kd.R_far (p := ⟨gb357, 4, none⟩) (Kd.R_far (p := ⟨gb357, 3, none⟩) (Kd.R_far (p := ⟨gb357, 2, none⟩) (Kd.R_far (p := ⟨gb357, 1, none⟩) (Kd.R_far (p := ⟨gb357, 0, none⟩) (Kd.R_types HO_12.out BK357.out (by decide)) (fun _ hk => hk.2) (.int .i64 t369)) (fun _ hk => hk.2) (.int .i64 t370)) (fun _ hk => hk.2) (.int .i64 t371)) (fun _ hk => hk.2) (.int .i64 t372)) (fun _ hk => hk.2) (.int .i64 t373)) (fun _ hk => hk.2) (.int .i64 t374)) (fun _ h_ => h_.1)))) k_ hk)); (case aO => exact (by (with_reducible repeat (first | apply Kd.R_alloc | apply Kd.R_drewN | apply Kd.R_drew)); exact Kd.R_mono (Kd.R_far (p := ⟨gb357, 5, none⟩) (Kd.R_far (p := ⟨gb357, 4, none⟩) (Kd.R_far (p := ⟨gb357, 3, none⟩) (Kd.R_far (p := ⟨gb357, 2, none⟩) (Kd.R_far (p := ⟨gb357, 1, none⟩) (Kd.R_far (p := ⟨gb357, 0, none⟩) (Kd.R_types HO_11.out BK357.out (by decide)) (fun _ hk => hk.2) (.int .i64 t369)) (fun _ hk => hk.2) (.int .i64 t370)) (fun _ hk => hk.2) (.int .i64 t371)) (fun _ hk => hk.2) (.int .i64 t372)) (fun _ hk => hk.2) (.int .i64 t373)) (fun _ hk => hk.2) (.int .i64 t374)) (fun _ hk => hk.1))); (case aS => exact (below_size (sbw))); (case aL => have := LMc32.out; omega); intro v376 w45 ho hb hg hat; rw [← Ny375.out] at ho; replace HO_12 := Aside0.mk (Kd.R_after (ok := (fun _ => True)) (by (with_reducible repeat (first | apply Kd.R_alloc | apply Kd.R_drewN | apply Kd.R_drew)); exact Kd.R_mono (Kd.R_far (p := ⟨gb357, 5, none⟩) (Kd.R_far (p := ⟨gb357, 4, none⟩) (Kd.R_far (p := ⟨gb357, 3, none⟩) (Kd.R_far (p := ⟨gb357, 2, none⟩) (Kd.R_far (p := ⟨gb357, 1, none⟩) (Kd.R_far (p := ⟨gb357, 0, none⟩) (Kd.R_types HO_12.out BK357.out (by decide)) (fun _ hk => hk.2) (.int .i64 t369)) (fun _ hk => hk.2) (.int .i64 t370)) (fun _ hk => hk.2) (.int .i64 t371)) (fun _ hk => hk.2) (.int .i64 t372)) (fun _ hk => hk.2) (.int .i64 t373)) (fun _ hk => hk.2) (.int .i64 t374)) (fun _ hk => ⟨trivial, hk.1⟩)) hg hat); replace BK357 := Aside0.mk (blk_grown (g := gb357) (o := .cells #[.int .i64 t369, .int .i64 t370, .int .i64 t371, .int .i64 t372, .int .i64 t373, .int .i64 t374] 27 (0, 0)) (sp BK357) hg (Kd.R_ne HO_11.out BK357.out (by decide))); replace HB := Aside0.mk hb; have HO377 := Aside0.mk ho; clear HO_11; clear ho hb hg hat))
       go_roundg k2
       case measure => have := HJ5.out; have := HK2.out; omega
       case rel => exact ⟨(y375), (wrap64 (x13_2 + 1)), (t369), (t370), (t371), (t372), (t373), (t374), sc, H', ⟨by have := HJ5.out; have := HK2.out; omega⟩, ⟨sr HO377⟩, ⟨by (with_reducible repeat (first | apply Kd.R_alloc | apply Kd.R_drewN | apply Kd.R_drew)); exact Kd.R_mono HO_12.out (fun _ hk => hk.2)⟩, ⟨sk BK357⟩, ⟨sbw⟩⟩
      ·have c24b0 := decide_eq_false c24
       clear c24
       obtain rfl := Option.some.inj H
       go_wp2
       go_ret
       exact ⟨_, se, by (with_reducible repeat (first | apply Kd.R_alloc | apply Kd.R_drewN | apply Kd.R_drew)); exact Kd.R_mono HO_11.out (fun _ hk => trivial), sbw⟩

/-! ### spec_l23Sends: function 101 -/
def spec_l23Sends.l0 : Nat → List Int → Int → List Int → Int → Int → Option (List Int × Int × Int)
  | 0, _, _, _, _, _ => none
  | k + 1, x3, x4, x1000, x1001, x1002 => if x4 > 0 then ((spec_l1Int.f x1000 x1001 x1002 (([0, 0, 1, 2, 5, (-1)] : List Int))).bind fun bt387 => (if x3.length < 17592186044416 then (spec_l23Sends.l0 k (x3 ++ [bt387.1]) (wrap64 (x4 - 1)) x1000 bt387.2.1 bt387.2.2) else (none))) else (some (x3, x1001, x1002))
def spec_l23Sends.f (k : Nat) (s0_0 : List Int) (s0_1 : Int) (s0_2 : Int) : Option (List Int × Int × Int) := (spec_l1Below.f s0_0 s0_1 s0_2 9).bind fun bt381 => (spec_l23Sends.l0 k (([] : List Int)) bt381.1 s0_0 bt381.2.1 bt381.2.2)
theorem spec_l23Sends.mono_l : ∀ k, (∀ y0 y1 y2 y3 y4, LeO (spec_l23Sends.l0 k y0 y1 y2 y3 y4) (spec_l23Sends.l0 (k + 1) y0 y1 y2 y3 y4))
  | 0 => fun _ _ _ _ _ r h => by simp [spec_l23Sends.l0] at h
  | k + 1 => by
    have ih0 := spec_l23Sends.mono_l k
    · intro y0 y1 y2 y3 y4
      unfold spec_l23Sends.l0
      exact mo
theorem spec_l23Sends.mono : ∀ a0 a1 a2 k, LeO (spec_l23Sends.f k a0 a1 a2) (spec_l23Sends.f (k + 1) a0 a1 a2) := by
  intro a0 a1 a2 k
  have ih0 := spec_l23Sends.mono_l k
  unfold spec_l23Sends.f
  exact mo
set_option maxHeartbeats 8000000 in
set_option maxRecDepth 100000 in
theorem spec_l23Sends.calls (k : Nat) (g : Nat) (s0_0 : List Int) (s0_1 : Int) (s0_2 : Int) (r1 : List Int) (r2 : Int) (r3 : Int) (w0 w : World) (hI : IsS143 w0 w g s0_0 s0_1 s0_2) (hB : Below w0.heap.size w0 w) (h : spec_l23Sends.f k s0_0 s0_1 s0_2 = some (r1, r2, r3)) :
    Calls Try.prog 101 #[.pointer (some ⟨g, 0, none⟩)] w fun e w' => ∃ v0_ : Value, e = .returned (v0_) ∧ Kd.R (Kd.int .i64) 3 w' w.heap.size (fun _ => True) v0_ r1 ∧ IsS143 w0 w' g s0_0 r2 r3 ∧ Below w0.heap.size w0 w' ∧ KeepBut w w' g none := by
 have HI0 := Aside0.mk hI
 have HK := Aside0.mk (KeepBut.refl w g none)
 have HL := Aside0.mk hB.size
 clear hI
 have HW0 := Aside0.mk hB.size
 have HB := Aside0.mk hB
 clear hB
 have H : ((spec_l1Below.f s0_0 s0_1 s0_2 9).bind fun bt381 => (spec_l23Sends.l0 k (([] : List Int)) bt381.1 s0_0 bt381.2.1 bt381.2.2)) = some (r1, r2, r3) := h
 clear h
 obtain ⟨y378, hy378⟩ : ∃ y_ : List Int, y_ = (([] : List Int)) := ⟨_, rfl⟩
 replace H : ((spec_l1Below.f s0_0 s0_1 s0_2 9).bind fun bt381 => (spec_l23Sends.l0 k y378 bt381.1 s0_0 bt381.2.1 bt381.2.2)) = some (r1, r2, r3) := by first | (rw [hy378]; with_reducible exact H) | (have H2_ := (Option.bind_some _ _).symm.trans H; rw [hy378]; with_reducible exact H2_) | (have H2_ := (Option.bind_some _ _).symm.trans H; with_reducible exact H2_) | with_reducible exact H | (rw [hy378]; exact H) | exact H
 have Ny378 := Aside0.mk hy378
 clear hy378
 obtain ⟨⟨t381, t382, t383⟩, A2, H⟩ := bnd H
 replace H : (spec_l23Sends.l0 k y378 t381 s0_0 t382 t383) = some (r1, r2, r3) := H
 have H' := Aside0.mk H
 clear H
 go_enter Try.func101, Try.ntmps101
 go_wp2_with (first | ((with_reducible refine gate_dst (N := 5) rfl ?_); refine Kd.R_lit (Kd.int .i64) _ 3 ?hg (N := 5) ?hd (xs := ([] : List Int)) (inner := []) (ok := fun _ => True) (okp := fun _ => True) ?hr ?hp (fun _ hk => hk) trivial (Below.refl _ _) (Nat.le_refl _) (by simp) ?_; (case hd => rfl); (case hg => rfl); (case hr => first | (go_simp; done) | (go_simp; rfl)); (case hp => exact (Reps.none _ _)); intro v379 w3 ho4 hb hg_ hnew_; clear hg_ hnew_; (first | rw [← Ny378.out] at ho4 | (simp only [Int.reduceToNat] at ho4; rw [← Ny378.out] at ho4)); have HO380 := Aside0.mk (Kd.R_lower ho4 (keep_size (w := w) (g := g) (row := none) (by repeat (first | (with_reducible first | exact HK.out | apply KeepBut.set_ | apply keep_drewN | apply keep_drew | apply keep_alloc) | exact HK.out)))); replace HK := Aside0.mk (KeepBut.trans (by repeat (first | (with_reducible first | exact HK.out | apply KeepBut.set_ | apply keep_drewN | apply keep_drew | apply keep_alloc) | exact HK.out)) (KeepBut.of_below hb g none) (.inl rfl)); replace HB := Aside0.mk (below_step (by repeat (first | (with_reducible first | exact HB.out | apply below_alloc | apply pw_below_drewN | apply below_drew1 | refine below_set ?_ (IsS143.ge HI0.out)) | exact HB.out)) hb); replace HI0 := Aside0.mk (IsS143.below (by repeat (first | (with_reducible first | exact HI0.out | apply IsS143.alloc | apply IsS143.drewN | apply IsS143.drew | apply IsS143.set_1 | apply IsS143.set_2) | exact HI0.out)) hb); clear hb ho4) | ((with_reducible refine gate_callee (f := 90) rfl ?_); refine gL (some 7) Try.func90 #[.pointer (some ⟨g, 0, none⟩), .int .i64 9] ?_; (with_reducible refine (spec_l1Below.calls g s0_0 s0_1 s0_2 9 t381 t382 t383 w0 _ ?side1 ?side2 A2.out).mono ?_); (case side1 => repeat (first | (with_reducible first | exact HI0.out | apply IsS143.alloc | apply IsS143.drewN | apply IsS143.drew | apply IsS143.set_1 | apply IsS143.set_2) | exact HI0.out)); (case side2 => repeat (first | (with_reducible first | exact HB.out | apply below_alloc | apply pw_below_drewN | apply below_drew1 | refine below_set ?_ (IsS143.ge HI0.out)) | exact HB.out)); rintro e w5 ⟨rfl, hi, hb, hk⟩; refine ⟨_, rfl, ?_⟩; replace HO380 := Aside0.mk (Kd.R_mono (Kd.R_keep (IsS143.apart (show IsS143 w0 _ g s0_0 s0_1 s0_2 from by repeat (first | (with_reducible first | exact HI0.out | apply IsS143.alloc | apply IsS143.drewN | apply IsS143.drew | apply IsS143.set_1 | apply IsS143.set_2) | exact HI0.out)) (sr HO380) (by decide)) hk (fun _ h => h.2)) (fun _ h => h.1)); replace HK := Aside0.mk (KeepBut.trans (by repeat (first | (with_reducible first | exact HK.out | apply KeepBut.set_ | apply keep_drewN | apply keep_drew | apply keep_alloc) | exact HK.out)) hk (.inl rfl)); replace HB := Aside0.mk hb; replace HI0 := Aside0.mk hi; (try clear hb); (try clear hb2); (try clear hk); (try clear hi)))
 go_loopg [3, 4] k (fun kq v3 v4 w' => ∃ (x3_1 : List Int) (x4_1 : Int) (x1001_1 : Int) (x1002_1 : Int), v4 = .int .i64 x4_1 ∧ Aside0 (spec_l23Sends.l0 kq x3_1 x4_1 s0_0 x1001_1 x1002_1 = some (r1, r2, r3)) ∧ Aside0 (kq ≤ k) ∧ Aside0 (Kd.R (Kd.int .i64) 3 w' w.heap.size (fun _ => True) v3 x3_1) ∧ Aside0 (IsS143 w0 w' g s0_0 x1001_1 x1002_1) ∧ Aside0 (KeepBut w w' g none) ∧ Aside0 (Below w0.heap.size w0 w'))
 case atStart => exact ⟨(y378), (t381), (t382), (t383), sc, H', kk0, ⟨sr HO380⟩, ⟨by repeat (first | (with_reducible first | exact HI0.out | apply IsS143.alloc | apply IsS143.drewN | apply IsS143.drew | apply IsS143.set_1 | apply IsS143.set_2) | exact HI0.out)⟩, ⟨by repeat (first | (with_reducible first | exact HK.out | apply KeepBut.set_ | apply keep_drewN | apply keep_drew | apply keep_alloc) | exact HK.out)⟩, ⟨by repeat (first | (with_reducible first | exact HB.out | apply below_alloc | apply pw_below_drewN | apply below_drew1 | refine below_set ?_ (IsS143.ge HI0.out)) | exact HB.out)⟩⟩
 case round =>
  clear H'
  obtain ⟨x3_1, x4_1, x1001_1, x1002_1, rfl, HA, HK1, HO_3, HI0, HK, HB⟩ := hrel
  cases gk with
  | zero => exact absurd HA.out (by simp [spec_l23Sends.l0])
  | succ k1 =>
   have H := HA.out
   clear HA
   simp only [spec_l23Sends.l0] at H
   obtain ⟨c6, H⟩ | ⟨c6, H⟩ := ie_ H
   ·have c6b0 := decide_eq_true c6
    clear c6
    obtain ⟨y384, hy384⟩ : ∃ y_ : List Int, y_ = (([0, 0, 1, 2, 5, (-1)] : List Int)) := ⟨_, rfl⟩
    replace H : ((spec_l1Int.f s0_0 x1001_1 x1002_1 y384).bind fun bt387 => (if x3_1.length < 17592186044416 then (spec_l23Sends.l0 k1 (x3_1 ++ [bt387.1]) (wrap64 (x4_1 - 1)) s0_0 bt387.2.1 bt387.2.2) else (none))) = some (r1, r2, r3) := by first | (rw [hy384]; with_reducible exact H) | (have H2_ := (Option.bind_some _ _).symm.trans H; rw [hy384]; with_reducible exact H2_) | (have H2_ := (Option.bind_some _ _).symm.trans H; with_reducible exact H2_) | with_reducible exact H | (rw [hy384]; exact H) | exact H
    have Ny384 := Aside0.mk hy384
    clear hy384
    obtain ⟨⟨t387, t388, t389⟩, A7, H⟩ := bnd H
    replace H : (if x3_1.length < 17592186044416 then (spec_l23Sends.l0 k1 (x3_1 ++ [t387]) (wrap64 (x4_1 - 1)) s0_0 t388 t389) else (none)) = some (r1, r2, r3) := H
    obtain ⟨LMc8, H⟩ := il_ H
    obtain ⟨y390, hy390⟩ : ∃ y_ : List Int, y_ = (x3_1 ++ [t387]) := ⟨_, rfl⟩
    replace H : (spec_l23Sends.l0 k1 y390 (wrap64 (x4_1 - 1)) s0_0 t388 t389) = some (r1, r2, r3) := by first | (rw [hy390]; with_reducible exact H) | (have H2_ := (Option.bind_some _ _).symm.trans H; rw [hy390]; with_reducible exact H2_) | (have H2_ := (Option.bind_some _ _).symm.trans H; with_reducible exact H2_) | with_reducible exact H | (rw [hy390]; exact H) | exact H
    have Ny390 := Aside0.mk hy390
    clear hy390
    have H' := Aside0.mk H
    clear H
    go_wp2_with (first | ((with_reducible refine gate_dst (N := 14) rfl ?_); refine Kd.R_lit (Kd.int .i64) _ 3 ?hg (N := 14) ?hd (xs := ([0, 0, 1, 2, 5, (-1)] : List Int)) (inner := [.int .i64 0, .int .i64 0, .int .i64 1, .int .i64 2, .int .i64 5, .int .i64 (-1)]) (ok := fun _ => True) (okp := fun _ => True) ?hr ?hp (fun _ hk => hk) trivial (Below.refl _ _) (Nat.le_refl _) (by simp) ?_; (case hd => rfl); (case hg => rfl); (case hr => first | (go_simp; done) | (go_simp; rfl)); (case hp => exact (Reps.one (show Kd.M (Kd.int .i64) _ _ _ 0 [.int .i64 0] from rfl) (Reps.one (show Kd.M (Kd.int .i64) _ _ _ 0 [.int .i64 0] from rfl) (Reps.one (show Kd.M (Kd.int .i64) _ _ _ 1 [.int .i64 1] from rfl) (Reps.one (show Kd.M (Kd.int .i64) _ _ _ 2 [.int .i64 2] from rfl) (Reps.one (show Kd.M (Kd.int .i64) _ _ _ 5 [.int .i64 5] from rfl) (Reps.one (show Kd.M (Kd.int .i64) _ _ _ (-1) [.int .i64 (-1)] from rfl) (Reps.none _ _)))))))); intro v385 w9 ho10 hb hg_ hnew_; clear hg_ hnew_; (first | rw [← Ny384.out] at ho10 | (simp only [Int.reduceToNat] at ho10; rw [← Ny384.out] at ho10)); have HO386 := Aside0.mk (Kd.R_lower (Kd.R_new' ho10 (Kd.R_lt (sr HO_3))) (keep_size (w := w) (g := g) (row := none) (by repeat (first | (with_reducible first | exact HK.out | apply KeepBut.set_ | apply keep_drewN | apply keep_drew | apply keep_alloc) | exact HK.out)))); replace HO_3 := Aside0.mk (Kd.R_elder' (sr HO_3) (Kd.R_base ho10) hb); replace HK := Aside0.mk (KeepBut.trans (by repeat (first | (with_reducible first | exact HK.out | apply KeepBut.set_ | apply keep_drewN | apply keep_drew | apply keep_alloc) | exact HK.out)) (KeepBut.of_below hb g none) (.inl rfl)); replace HB := Aside0.mk (below_step (by repeat (first | (with_reducible first | exact HB.out | apply below_alloc | apply pw_below_drewN | apply below_drew1 | refine below_set ?_ (IsS143.ge HI0.out)) | exact HB.out)) hb); replace HI0 := Aside0.mk (IsS143.below (by repeat (first | (with_reducible first | exact HI0.out | apply IsS143.alloc | apply IsS143.drewN | apply IsS143.drew | apply IsS143.set_1 | apply IsS143.set_2) | exact HI0.out)) hb); clear hb ho10; obtain ⟨Ao11, co11, eo11⟩ := Kd.R_slice HO386.out; subst eo11) | ((with_reducible refine gate_callee (f := 98) rfl ?_); refine gL (some 15) Try.func98 #[.pointer (some ⟨g, 0, none⟩), .slice Ao11 y384.length co11] ?_; (with_reducible refine (spec_l1Int.calls g s0_0 x1001_1 x1002_1 _ _ y384 t387 t388 t389 w0 _ ?side1 ?side2 ?side3 ?side4 ?side5 A7.out).mono ?_); (case side1 => repeat (first | (with_reducible first | exact HI0.out | apply IsS143.alloc | apply IsS143.drewN | apply IsS143.drew | apply IsS143.set_1 | apply IsS143.set_2) | exact HI0.out)); (case side2 => repeat (first | (with_reducible first | exact HB.out | apply below_alloc | apply pw_below_drewN | apply below_drew1 | refine below_set ?_ (IsS143.ge HI0.out)) | exact HB.out)); (case side3 => repeat (first | exact (Kd.R_reads' HO386.out).2.2 | (with_reducible refine Kd.C_alloc ?_ _) | (with_reducible refine Kd.C_drewN ?_ _) | (with_reducible refine Kd.C_drew ?_))); (case side4 => exact (Kd.R_reads' HO386.out).2.1); (case side5 => exact far_slice (IsS143.own_ne HI0.out HO386.out (by decide))); rintro e w12 ⟨rfl, hi, hb, hk⟩; refine ⟨_, rfl, ?_⟩; replace HO_3 := Aside0.mk (Kd.R_mono (Kd.R_keep (IsS143.apart (show IsS143 w0 _ g s0_0 x1001_1 x1002_1 from by repeat (first | (with_reducible first | exact HI0.out | apply IsS143.alloc | apply IsS143.drewN | apply IsS143.drew | apply IsS143.set_1 | apply IsS143.set_2) | exact HI0.out)) (sr HO_3) (by decide)) hk (fun _ h => h.2)) (fun _ h => h.1)); replace HO386 := Aside0.mk (Kd.R_mono (Kd.R_keep (IsS143.apart (show IsS143 w0 _ g s0_0 x1001_1 x1002_1 from by repeat (first | (with_reducible first | exact HI0.out | apply IsS143.alloc | apply IsS143.drewN | apply IsS143.drew | apply IsS143.set_1 | apply IsS143.set_2) | exact HI0.out)) (sr HO386) (by decide)) hk (fun _ h => h.2)) (fun _ h => h.1)); replace HK := Aside0.mk (KeepBut.trans (by repeat (first | (with_reducible first | exact HK.out | apply KeepBut.set_ | apply keep_drewN | apply keep_drew | apply keep_alloc) | exact HK.out)) hk (.inl rfl)); replace HB := Aside0.mk hb; replace HI0 := Aside0.mk hi; (try clear hb); (try clear hb2); (try clear hk); (try clear hi)) | ((with_reducible refine gate_builtin (b := .append) (xs := #[.tmp 12, .tmp 16]) rfl ?_); at_builtin; refine Kd.R_append (Kd.int .i64) w.heap.size rfl (.tmp 12) (.tmp 16) 37 3 (.int .i64 0) 8 rfl Try.underlying37 info3 rfl (by decide) (by omega) u3 x3_1 t387 [.int .i64 t387] (fun k_ => some k_ ≠ (.slice Ao11 y384.length co11 : Value).ownBlock) (fun _ => False) rfl rfl ?aP (fun _ hk => hk.elim) ?aF ?aO (Below.refl _ _) ?aS ?aL ?_; (case aP => exact rfl); (case aF => exact (fun k_ hk => Kd.fresh' (Kd.R_lt (sr HO386)) k_ hk)); (case aO => exact (by (with_reducible repeat (first | apply Kd.R_alloc | apply Kd.R_drewN | apply Kd.R_drew)); exact Kd.R_mono HO_3.out (fun _ hk => hk.2))); (case aS => exact (keep_size (w := w) (g := g) (row := none) (by repeat (first | (with_reducible first | exact HK.out | apply KeepBut.set_ | apply keep_drewN | apply keep_drew | apply keep_alloc) | exact HK.out)))); (case aL => have := LMc8.out; omega); intro v391 w13 ho hb hg hat; rw [← Ny390.out] at ho; replace HO386 := Aside0.mk (Kd.R_after (ok := (fun _ => True)) (sr HO386) hg hat); replace HB := Aside0.mk (below_weaken (by repeat (first | (with_reducible first | exact HB.out | apply below_alloc | apply pw_below_drewN | apply below_drew1 | refine below_set ?_ (IsS143.ge HI0.out)) | exact HB.out)) HL.out hb); replace HI0 := Aside0.mk (IsS143.grown (by repeat (first | (with_reducible first | exact HI0.out | apply IsS143.alloc | apply IsS143.drewN | apply IsS143.drew | apply IsS143.set_1 | apply IsS143.set_2) | exact HI0.out)) hg (IsS143.own_ne HI0.out HO_3.out (by decide))); replace HK := Aside0.mk (KeepBut.trans (by repeat (first | (with_reducible first | exact HK.out | apply KeepBut.set_ | apply keep_drewN | apply keep_drew | apply keep_alloc) | exact HK.out)) (KeepBut.of_grown hg g) (Kd.R_base2 HO_3.out)); have HO392 := Aside0.mk ho; clear HO_3; clear ho hb hg hat))
    go_roundg k1
    case measure => have := HK1.out; omega
    case rel => exact ⟨(y390), (wrap64 (x4_1 - 1)), (t388), (t389), sc, H', kk1, ⟨by (with_reducible repeat (first | apply Kd.R_alloc | apply Kd.R_drewN | apply Kd.R_drew)); exact Kd.R_mono HO392.out (fun _ hk => trivial)⟩, ⟨by repeat (first | (with_reducible first | exact HI0.out | apply IsS143.alloc | apply IsS143.drewN | apply IsS143.drew | apply IsS143.set_1 | apply IsS143.set_2) | exact HI0.out)⟩, ⟨by repeat (first | (with_reducible first | exact HK.out | apply KeepBut.set_ | apply keep_drewN | apply keep_drew | apply keep_alloc) | exact HK.out)⟩, ⟨by repeat (first | (with_reducible first | exact HB.out | apply below_alloc | apply pw_below_drewN | apply below_drew1 | refine below_set ?_ (IsS143.ge HI0.out)) | exact HB.out)⟩⟩
   ·have c6b0 := decide_eq_false c6
    clear c6
    simp only [Option.some.injEq, Prod.mk.injEq] at H
    obtain ⟨rfl, rfl, rfl⟩ := H
    go_wp2
    go_ret
    exact ⟨_, se, sr HO_3, by repeat (first | (with_reducible first | exact HI0.out | apply IsS143.alloc | apply IsS143.drewN | apply IsS143.drew | apply IsS143.set_1 | apply IsS143.set_2) | exact HI0.out), by repeat (first | (with_reducible first | exact HB.out | apply below_alloc | apply pw_below_drewN | apply below_drew1 | refine below_set ?_ (IsS143.ge HI0.out)) | exact HB.out), by repeat (first | (with_reducible first | exact HK.out | apply KeepBut.set_ | apply keep_drewN | apply keep_drew | apply keep_alloc) | exact HK.out)⟩

end Go.Proofs.Ytaciciobhfoglaa.QFnForecasts
