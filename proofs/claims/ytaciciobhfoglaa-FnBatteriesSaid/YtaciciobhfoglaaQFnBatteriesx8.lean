/- What the Go functions of the law FnBatteries come to, as Lean functions, and that they do: by a program of the session, out of the kit's printer. Conditions: none. (squeezed). -/
import Derived.Test.YtaciciobhfoglaaSq
import Derived.Test.YtaciciobhfoglaaQFnBatteriesx0
import Derived.Test.YtaciciobhfoglaaQFnBatteriesx2
import Derived.Test.YtaciciobhfoglaaQFnBatteriesx5
import Derived.Test.YtaciciobhfoglaaQFnBatteriesx6
import Derived.Test.YtaciciobhfoglaaQFnBatteriesx7
namespace Go.Proofs.Ytaciciobhfoglaa.QFnBatteries
open Go.RowKit Go.Proofs.YtaciciobhfoglaaW.PrintWords Go.Proofs.YtaciciobhfoglaaW.PrintLast Go.Proofs.YtaciciobhfoglaaW.PrintMore Go.Proofs.Ytaciciobhfoglaa.Open Go.Proofs.Ytaciciobhfoglaa.Sq
attribute [local go_sem] max2_int min2_int max_two min_two max_three min_three max_four min_four   -- for this text's walks alone
attribute [local go_sem] isSome_set
set_option linter.unusedVariables false
set_option linter.unusedSimpArgs false

/-! ### laws_FnBatteries: function 10 -/
mutual
def laws_FnBatteries.l0 : Nat → List Int → List (S100) → Int → Int → Int → Int → Int → Int → Int → Int → Option (Bool)
  | 0, _, _, _, _, _, _, _, _, _, _ => none
  | k + 1, x0, x4, x6, x7, x363000, x363001, x363002, x363003, x363004, x363005 => if x7 < x6 then ((impl_NeedAt.f k x363000 x363001 x363002 x363003 x363004 x363005 x4 x7 x6).bind fun t366 => ((impl_MaySend.f x363000 x363001 x363002 x363003 x363004 x363005 t366).bind fun t367 => (if t367 = true then ((laws_at.f x0 x7).bind fun t368 => (laws_FnBatteries.j1 k x0 x4 x6 x7 0 ((Int.tmod t368 2) == 0) x363000 x363001 x363002 x363003 x363004 x363005)) else (laws_FnBatteries.j1 k x0 x4 x6 x7 0 false x363000 x363001 x363002 x363003 x363004 x363005)))) else (some true)
def laws_FnBatteries.j1 : Nat → List Int → List (S100) → Int → Int → Int → Bool → Int → Int → Int → Int → Int → Int → Option (Bool)
  | 0, _, _, _, _, _, _, _, _, _, _, _, _ => none
  | k + 1, x0, x4, x6, x7, x8, x54, x363000, x363001, x363002, x363003, x363004, x363005 => if x54 = true then (laws_FnBatteries.j2 k x0 x4 x6 x7 1 x363000 x363001 x363002 x363003 x363004 x363005) else (laws_FnBatteries.j2 k x0 x4 x6 x7 x8 x363000 x363001 x363002 x363003 x363004 x363005)
def laws_FnBatteries.j2 : Nat → List Int → List (S100) → Int → Int → Int → Int → Int → Int → Int → Int → Int → Option (Bool)
  | 0, _, _, _, _, _, _, _, _, _, _, _ => none
  | k + 1, x0, x4, x6, x7, x8, x363000, x363001, x363002, x363003, x363004, x363005 => (impl_InSpans.f k x4 x7).bind fun t369 => ((impl_TickBattery.f x363000 x363001 x363002 x363003 x363004 x363005 t369 x8).bind fun bt370 => ((impl_NeedAt.f k bt370.1 bt370.2.1 bt370.2.2.1 bt370.2.2.2.1 bt370.2.2.2.2.1 bt370.2.2.2.2.2 x4 (wrap64 (x7 + 1)) x6).bind fun t376 => (if bt370.1 < (wrap64 (bt370.2.2.1 + t376)) then (some false) else ((impl_IsBattery.f bt370.1 bt370.2.1 bt370.2.2.1 bt370.2.2.2.1 bt370.2.2.2.2.1 bt370.2.2.2.2.2).bind fun t377 => (if t377 = true then (laws_FnBatteries.l0 k x0 x4 x6 (wrap64 (x7 + 1)) bt370.1 bt370.2.1 bt370.2.2.1 bt370.2.2.2.1 bt370.2.2.2.2.1 bt370.2.2.2.2.2) else (some false))))))
end
def laws_FnBatteries.f (k : Nat) (l0 : List Int) : Option (Bool) := (laws_big.f l0).bind fun t350 => (if t350 = true then (some true) else ((spec_DrawIsFeasible.f k l0).bind fun bt351 => ((impl_IsFeasible.f k bt351.1 bt351.2.1 bt351.2.2.1 bt351.2.2.2.1 bt351.2.2.2.2.1 bt351.2.2.2.2.2.1 bt351.2.2.2.2.2.2.1 bt351.2.2.2.2.2.2.2.1 bt351.2.2.2.2.2.2.2.2).bind fun t363 => ((spec_IsFeasible.f k bt351.1 bt351.2.1 bt351.2.2.1 bt351.2.2.2.1 bt351.2.2.2.2.1 bt351.2.2.2.2.2.1 bt351.2.2.2.2.2.2.1 bt351.2.2.2.2.2.2.2.1 bt351.2.2.2.2.2.2.2.2).bind fun t364 => (if (t363 != t364) = true then (some false) else ((impl_IsFeasible.f k bt351.1 bt351.2.1 bt351.2.2.1 bt351.2.2.2.1 bt351.2.2.2.2.1 bt351.2.2.2.2.2.1 bt351.2.2.2.2.2.2.1 bt351.2.2.2.2.2.2.2.1 bt351.2.2.2.2.2.2.2.2).bind fun t365 => (if t365 = true then (laws_FnBatteries.l0 k l0 bt351.2.2.2.2.2.2.1 bt351.2.2.2.2.2.2.2.2 bt351.2.2.2.2.2.2.2.1 bt351.1 bt351.2.1 bt351.2.2.1 bt351.2.2.2.1 bt351.2.2.2.2.1 bt351.2.2.2.2.2.1) else (some true))))))))
theorem laws_FnBatteries.mono_l : ∀ k, (∀ y0 y1 y2 y3 y4 y5 y6 y7 y8 y9, LeO (laws_FnBatteries.l0 k y0 y1 y2 y3 y4 y5 y6 y7 y8 y9) (laws_FnBatteries.l0 (k + 1) y0 y1 y2 y3 y4 y5 y6 y7 y8 y9)) ∧ (∀ y0 y1 y2 y3 y4 y5 y6 y7 y8 y9 y10 y11, LeO (laws_FnBatteries.j1 k y0 y1 y2 y3 y4 y5 y6 y7 y8 y9 y10 y11) (laws_FnBatteries.j1 (k + 1) y0 y1 y2 y3 y4 y5 y6 y7 y8 y9 y10 y11)) ∧ (∀ y0 y1 y2 y3 y4 y5 y6 y7 y8 y9 y10, LeO (laws_FnBatteries.j2 k y0 y1 y2 y3 y4 y5 y6 y7 y8 y9 y10) (laws_FnBatteries.j2 (k + 1) y0 y1 y2 y3 y4 y5 y6 y7 y8 y9 y10))
  | 0 => ⟨fun _ _ _ _ _ _ _ _ _ _ r h => by simp [laws_FnBatteries.l0] at h, fun _ _ _ _ _ _ _ _ _ _ _ _ r h => by simp [laws_FnBatteries.j1] at h, fun _ _ _ _ _ _ _ _ _ _ _ r h => by simp [laws_FnBatteries.j2] at h⟩
  | k + 1 => by
    obtain ⟨ih0, ih1, ih2⟩ := laws_FnBatteries.mono_l k
    refine ⟨?_, ?_, ?_⟩
    · intro y0 y1 y2 y3 y4 y5 y6 y7 y8 y9
      unfold laws_FnBatteries.l0
      have m0 := @impl_InSpans.mono
      have m1 := @impl_IsFeasible.mono
      have m2 := @impl_NeedAt.mono
      have m3 := @spec_DrawIsFeasible.mono
      have m4 := @spec_IsFeasible.mono
      exact mo
    · intro y0 y1 y2 y3 y4 y5 y6 y7 y8 y9 y10 y11
      unfold laws_FnBatteries.j1
      have m0 := @impl_InSpans.mono
      have m1 := @impl_IsFeasible.mono
      have m2 := @impl_NeedAt.mono
      have m3 := @spec_DrawIsFeasible.mono
      have m4 := @spec_IsFeasible.mono
      exact mo
    · intro y0 y1 y2 y3 y4 y5 y6 y7 y8 y9 y10
      unfold laws_FnBatteries.j2
      have m0 := @impl_InSpans.mono
      have m1 := @impl_IsFeasible.mono
      have m2 := @impl_NeedAt.mono
      have m3 := @spec_DrawIsFeasible.mono
      have m4 := @spec_IsFeasible.mono
      exact mo
theorem laws_FnBatteries.mono : ∀ a0 k, LeO (laws_FnBatteries.f k a0) (laws_FnBatteries.f (k + 1) a0) := by
  intro a0 k
  obtain ⟨ih0, ih1, ih2⟩ := laws_FnBatteries.mono_l k
  unfold laws_FnBatteries.f
  have m0 := @impl_InSpans.mono
  have m1 := @impl_IsFeasible.mono
  have m2 := @impl_NeedAt.mono
  have m3 := @spec_DrawIsFeasible.mono
  have m4 := @spec_IsFeasible.mono
  exact mo
def laws_FnBatteries.T4 : Bool × List (List Nat × List Nat) := (true, [([], []), ([], []), ([], []), ([], []), ([0, 1, 2, 3], [0, 1, 2, 3]), ([], []), ([], []), ([], []), ([], []), ([5, 6, 7, 8, 4], [5, 6, 7, 8]), ([4, 9], [4, 9])])
def laws_FnBatteries.B4 : List Nat := [0, 0, 0, 0, 15, 0, 0, 0, 0, 511, 1023]
theorem laws_FnBatteries.tab4 : rtab .any (opsOf Try.f10 4) = laws_FnBatteries.T4 := by kernel_rfl
theorem laws_FnBatteries.bits4 : waitsOk laws_FnBatteries.T4.2 laws_FnBatteries.B4 = true := by kernel_rfl
def laws_FnBatteries.T12 : Bool × List (List Nat × List Nat) := (true, [([], []), ([], []), ([], []), ([], []), ([], []), ([1, 2, 3, 4], [1, 2, 3, 4]), ([0, 5, 5], [0, 5]), ([6, 6], [6]), ([7], [7]), ([7], [7]), ([8, 9, 7, 7], [7, 8, 9]), ([10, 7], [7, 10]), ([11, 7], [7, 11]), ([7, 12], [7, 12])])
def laws_FnBatteries.B12 : List Nat := [0, 0, 0, 0, 0, 30, 63, 127, 255, 255, 1023, 2047, 4095, 8191]
theorem laws_FnBatteries.tab12 : rtab .any (opsOf Try.f10 12) = laws_FnBatteries.T12 := by kernel_rfl
theorem laws_FnBatteries.bits12 : waitsOk laws_FnBatteries.T12.2 laws_FnBatteries.B12 = true := by kernel_rfl
def laws_FnBatteries.T15 : Bool × List (List Nat × List Nat) := (true, [([], []), ([0], [0]), ([], []), ([2], [2]), ([], []), ([], []), ([], []), ([6], [6]), ([], []), ([4, 5, 7, 8], [4, 5, 7, 8]), ([3, 9], [3, 9]), ([1, 10], [1, 10]), ([11, 9], [11]), ([12], [12]), ([13, 12, 12], [12, 13]), ([14, 12], [12, 14]), ([12, 15], [12, 15])])
def laws_FnBatteries.B15 : List Nat := [0, 1, 0, 4, 0, 0, 0, 64, 0, 496, 1020, 2047, 4095, 8191, 16383, 32767, 65535]
theorem laws_FnBatteries.tab15 : rtab .any (opsOf Try.f10 15) = laws_FnBatteries.T15 := by kernel_rfl
theorem laws_FnBatteries.bits15 : waitsOk laws_FnBatteries.T15.2 laws_FnBatteries.B15 = true := by kernel_rfl
set_option maxHeartbeats 8000000 in
set_option maxRecDepth 100000 in
theorem laws_FnBatteries.calls (k : Nat) (A0 : Option Addr) (c0 : Nat) (l0 : List Int) (r : Bool) (w : World) (hr0 : Kd.C (Kd.int .u8) w A0 l0.length l0) (hc0 : l0.length ≤ c0) (h : laws_FnBatteries.f k l0 = some r) :
    Calls Try.prog 10 #[.slice A0 l0.length c0] w fun e w' => e = .returned (.bool r) ∧ Below w.heap.size w w' := by
 have hu27 := Try.underlying27
 have HR0 := Aside0.mk hr0
 have HC0 := Aside0.mk hc0
 clear hr0 hc0
 have HB := Aside0.mk (Below.refl w.heap.size w)
 have H : ((laws_big.f l0).bind fun t350 => (if t350 = true then (some true) else ((spec_DrawIsFeasible.f k l0).bind fun bt351 => ((impl_IsFeasible.f k bt351.1 bt351.2.1 bt351.2.2.1 bt351.2.2.2.1 bt351.2.2.2.2.1 bt351.2.2.2.2.2.1 bt351.2.2.2.2.2.2.1 bt351.2.2.2.2.2.2.2.1 bt351.2.2.2.2.2.2.2.2).bind fun t363 => ((spec_IsFeasible.f k bt351.1 bt351.2.1 bt351.2.2.1 bt351.2.2.2.1 bt351.2.2.2.2.1 bt351.2.2.2.2.2.1 bt351.2.2.2.2.2.2.1 bt351.2.2.2.2.2.2.2.1 bt351.2.2.2.2.2.2.2.2).bind fun t364 => (if (t363 != t364) = true then (some false) else ((impl_IsFeasible.f k bt351.1 bt351.2.1 bt351.2.2.1 bt351.2.2.2.1 bt351.2.2.2.2.1 bt351.2.2.2.2.2.1 bt351.2.2.2.2.2.2.1 bt351.2.2.2.2.2.2.2.1 bt351.2.2.2.2.2.2.2.2).bind fun t365 => (if t365 = true then (laws_FnBatteries.l0 k l0 bt351.2.2.2.2.2.2.1 bt351.2.2.2.2.2.2.2.2 bt351.2.2.2.2.2.2.2.1 bt351.1 bt351.2.1 bt351.2.2.1 bt351.2.2.2.1 bt351.2.2.2.2.1 bt351.2.2.2.2.2.1) else (some true))))))))) = some r := h
 clear h
 obtain ⟨t350, A2, H⟩ := bnd H
 obtain rfl | rfl := tt t350
 ·replace H := ip H
  obtain rfl := Option.some.inj H
  go_enter Try.func10, Try.ntmps10
  go_wp2_with (first | ((with_reducible refine gate_callee (f := 34) rfl ?_); refine gL (some 10) Try.func34 #[.slice A0 l0.length c0] ?_; (with_reducible refine (laws_big.calls _ _ l0 true _ ?side1 ?side2 A2.out).mono ?_); (case side1 => repeat (first | exact HR0.out | (with_reducible refine Kd.C_alloc ?_ _) | (with_reducible refine Kd.C_drewN ?_ _) | (with_reducible refine Kd.C_drew ?_))); (case side2 => exact HC0.out); rintro e w' ⟨rfl, ⟨nd, rfl⟩⟩; refine ⟨_, rfl, ?_⟩))
  go_ret
  exact ⟨se, sb⟩
 ·replace H := im H
  obtain ⟨⟨t351, t352, t353, t354, t355, t356, t357, t360, t361⟩, A4, H⟩ := bnd H
  replace H : ((impl_IsFeasible.f k t351 t352 t353 t354 t355 t356 t357 t360 t361).bind fun t363 => ((spec_IsFeasible.f k t351 t352 t353 t354 t355 t356 t357 t360 t361).bind fun t364 => (if (t363 != t364) = true then (some false) else ((impl_IsFeasible.f k t351 t352 t353 t354 t355 t356 t357 t360 t361).bind fun t365 => (if t365 = true then (laws_FnBatteries.l0 k l0 t357 t361 t360 t351 t352 t353 t354 t355 t356) else (some true)))))) = some r := H
  obtain ⟨t363, A5, H⟩ := bnd H
  obtain ⟨t364, A6, H⟩ := bnd H
  obtain ⟨c7, H⟩ | ⟨c7, H⟩ := ie_ H
  ·have c7b0 : (t363 != t364) = true := c7
   (try (have c7b1 : decide (t363 = t364) = false := by simpa using c7))
   (try (have c7b2 : (t363 == t364) = false := by simpa using c7))
   (try (have c7b3 : ¬ (t363 = t364) := by simpa using c7))
   clear c7
   obtain rfl := Option.some.inj H
   go_enter Try.func10, Try.ntmps10
   try go_wp2_with (first | ((with_reducible refine gate_callee (f := 34) rfl ?_); refine gL (some 10) Try.func34 #[.slice A0 l0.length c0] ?_; (with_reducible refine (laws_big.calls _ _ l0 false _ ?side1 ?side2 A2.out).mono ?_); (case side1 => repeat (first | exact HR0.out | (with_reducible refine Kd.C_alloc ?_ _) | (with_reducible refine Kd.C_drewN ?_ _) | (with_reducible refine Kd.C_drew ?_))); (case side2 => exact HC0.out); rintro e w' ⟨rfl, ⟨nd, rfl⟩⟩; refine ⟨_, rfl, ?_⟩) | ((with_reducible refine gate_callee (f := 49) rfl ?_); refine gL (some 13) Try.func49 #[.slice A0 l0.length c0] ?_; (with_reducible refine (spec_DrawIsFeasible.calls k _ _ l0 t351 t352 t353 t354 t355 t356 t357 t360 t361 _ ?side1 ?side2 A4.out).mono ?_); (case side1 => repeat (first | exact HR0.out | (with_reducible refine Kd.C_alloc ?_ _) | (with_reducible refine Kd.C_drewN ?_ _) | (with_reducible refine Kd.C_drew ?_))); (case side2 => exact HC0.out); rintro e w8 ⟨v358, rfl, ho0, hb⟩; refine ⟨_, rfl, ?_⟩; have HO359 := Aside0.mk (Kd.R_lower ho0 (below_size (sb))); replace HB := bs hb; (try clear hb); (try clear hb2); (try clear hk); (try clear hi); (try clear ho0)) | ((with_reducible refine gate_dst (N := 3) rfl ?_); refine bx 3 #[.int .i64 0, .int .i64 0, .int .i64 0, .int .i64 0, .int .i64 0, .int .i64 0] 27 ?_; intro gb362 hg w9 hbox hb; replace HO359 := Aside0.mk (Kd.R_below (sr HO359) hb); have GW362 := bz w hg; have GE362 := bz w hg; replace HB := bs hb; have BK362 := Aside0.mk hbox; clear hb hbox hg; obtain ⟨hcz10_0, hcz10_1, hcz10_2, hcz10_3, hcz10_4, hcz10_5, hfz10_0, hfz10_1, hfz10_2, hfz10_3, hfz10_4, hfz10_5⟩ := cc6 BK362))
   have n0_ : Aside0 (Kd.R k100 100 ((((((w9.setCell ⟨gb362, 0, none⟩ (.int .i64 t351)).setCell ⟨gb362, 1, none⟩ (.int .i64 t352)).setCell ⟨gb362, 2, none⟩ (.int .i64 t353)).setCell ⟨gb362, 3, none⟩ (.int .i64 t354)).setCell ⟨gb362, 4, none⟩ (.int .i64 t355)).setCell ⟨gb362, 5, none⟩ (.int .i64 t356)) w.heap.size (fun _ => True) v358 t357) := ⟨by (with_reducible repeat (first | apply Kd.R_alloc | apply Kd.R_drewN | apply Kd.R_drew)); exact Kd.R_mono (Kd.R_far (p := ⟨gb362, 5, none⟩) (Kd.R_far (p := ⟨gb362, 4, none⟩) (Kd.R_far (p := ⟨gb362, 3, none⟩) (Kd.R_far (p := ⟨gb362, 2, none⟩) (Kd.R_far (p := ⟨gb362, 1, none⟩) (Kd.R_far (p := ⟨gb362, 0, none⟩) (Kd.R_types HO359.out BK362.out (by decide)) (fun _ hk => hk.2) (.int .i64 t351)) (fun _ hk => hk.2) (.int .i64 t352)) (fun _ hk => hk.2) (.int .i64 t353)) (fun _ hk => hk.2) (.int .i64 t354)) (fun _ hk => hk.2) (.int .i64 t355)) (fun _ hk => hk.2) (.int .i64 t356)) (fun _ hk => trivial)⟩
   have n1_ : Aside0 (((((((w9.setCell ⟨gb362, 0, none⟩ (.int .i64 t351)).setCell ⟨gb362, 1, none⟩ (.int .i64 t352)).setCell ⟨gb362, 2, none⟩ (.int .i64 t353)).setCell ⟨gb362, 3, none⟩ (.int .i64 t354)).setCell ⟨gb362, 4, none⟩ (.int .i64 t355)).setCell ⟨gb362, 5, none⟩ (.int .i64 t356)).heap[gb362]? = some (.cells #[.int .i64 t351, .int .i64 t352, .int .i64 t353, .int .i64 t354, .int .i64 t355, .int .i64 t356] 27 (0, 0))) := ⟨sp BK362⟩
   have n2_ : Aside0 (Below w.heap.size w ((((((w9.setCell ⟨gb362, 0, none⟩ (.int .i64 t351)).setCell ⟨gb362, 1, none⟩ (.int .i64 t352)).setCell ⟨gb362, 2, none⟩ (.int .i64 t353)).setCell ⟨gb362, 3, none⟩ (.int .i64 t354)).setCell ⟨gb362, 4, none⟩ (.int .i64 t355)).setCell ⟨gb362, 5, none⟩ (.int .i64 t356))) := ⟨sbw⟩
   (try clear HO359)
   (try clear BK362)
   (try clear HB)
   generalize ((((((w9.setCell ⟨gb362, 0, none⟩ (.int .i64 t351)).setCell ⟨gb362, 1, none⟩ (.int .i64 t352)).setCell ⟨gb362, 2, none⟩ (.int .i64 t353)).setCell ⟨gb362, 3, none⟩ (.int .i64 t354)).setCell ⟨gb362, 4, none⟩ (.int .i64 t355)).setCell ⟨gb362, 5, none⟩ (.int .i64 t356)) = w11 at n0_ n1_ n2_ ⊢
   have HO359 := n0_
   have BK362 := n1_
   have HB := n2_
   clear n0_ n1_ n2_
   replace HO359 := Aside0.mk (Kd.R_drew HO359.out)
   replace BK362 := Aside0.mk (blk_drew BK362.out)
   replace HB := Aside0.mk (below_drew1 HB.out)
   obtain ⟨Ao13, co13, eo13⟩ := Kd.R_slice HO359.out
   (first | subst eo13 | (injection eo13 with f1_ f2_ f3_; have f4_ := f1_.symm; have f5_ := f3_.symm; clear f1_ f2_ f3_; subst f4_; subst f5_))
   refine start_ (n := 11) (S := fun w' => w'.cell? ⟨gb362, 0, none⟩ = some (.int .i64 t351) ∧ w'.cell? ⟨gb362, 1, none⟩ = some (.int .i64 t352) ∧ w'.cell? ⟨gb362, 2, none⟩ = some (.int .i64 t353) ∧ w'.cell? ⟨gb362, 3, none⟩ = some (.int .i64 t354) ∧ w'.cell? ⟨gb362, 4, none⟩ = some (.int .i64 t355) ∧ w'.cell? ⟨gb362, 5, none⟩ = some (.int .i64 t356)) (ds := []) #[false, false, false, false, false, false, false, false, false, false, false] (by kernel_rfl) rfl rfl ⟨bc0 BK362, bc1 BK362, bc2 BK362, bc3 BK362, bc4 BK362, bc5 BK362⟩ (fun hHeld => ?_); refine with_tabW laws_FnBatteries.tab4 laws_FnBatteries.bits4 (fun HT_ HW_ => ?_)
   generalize w11.drew = w12 at HO359 BK362 HB hHeld ⊢
   refine put 1 19 #[false, true, false, false, false, false, false, false, false, false, false] HT_ ?_
   refine put 2 20 #[false, true, true, false, false, false, false, false, false, false, false] HT_ ?_
   refine put 3 21 #[false, true, true, true, false, false, false, false, false, false, false] HT_ ?_
   refine put 6 24 #[false, true, true, true, false, false, true, false, false, false, false] HT_ ?_
   refine put 7 25 #[false, true, true, true, false, false, true, true, false, false, false] HT_ ?_
   refine put 8 26 #[false, true, true, true, false, false, true, true, true, false, false] HT_ ?_
   refine tat6 0 18 #[true, true, true, true, false, false, true, true, true, false, false] HT_ HW_ hHeld ?_
   refine tat6 5 23 #[true, true, true, true, false, true, true, true, true, false, false] HT_ HW_ hHeld ?_
   refine one_ (i := 4) (N := some 22) #[true, true, true, true, true, true, true, true, true, false, false] rfl rfl (one_of HT_.out (by kernel_rfl)) (by decide) (fun K hK => ?_)
   refine goes_ Try.func19 (by kernel_rfl) rfl #[.agg #[.int .i64 t351, .int .i64 t352, .int .i64 t353, .int .i64 t354, .int .i64 t355, .int .i64 t356], .slice Ao13 t357.length co13, .int .i64 t360, .int .i64 t361] (by rfl) rfl rfl sl ?_
   with_reducible refine (impl_IsFeasible.calls k t351 t352 t353 t354 t355 t356 _ _ t357 t360 t361 t363 _ ?side1 ?side2 A5.out).mono ?_
   (case side1 => repeat (first | exact (Kd.R_reads' HO359.out).2.2 | (with_reducible refine Kd.C_alloc ?_ _) | (with_reducible refine Kd.C_drewN ?_ _) | (with_reducible refine Kd.C_drew ?_)))
   (case side2 => exact (Kd.R_reads' HO359.out).2.1)
   rintro e w14 ⟨rfl, hb⟩
   refine ⟨_, rfl, ?_⟩
   replace HO359 := Aside0.mk (Kd.R_below (sr HO359) hb)
   replace BK362 := bb BK362 hb
   replace HB := bsw hb
   (try clear hb)
   (try clear hb2)
   (try clear hk)
   (try clear hi)
   refine hK.out _ _ ⟨bc0 BK362, bc1 BK362, bc2 BK362, bc3 BK362, bc4 BK362, bc5 BK362⟩ (fun hHeld => ?_)
   clear hK K
   refine norm_ (a' := ?_) ?_ ?_
   rotate_left
   ·show Act.put _ (some 22) _ = _
    simp only [Act.put, List.setIfInBounds_toArray, List.set_cons_zero, List.set_cons_succ, i64_w, i32_w]
    rfl
   refine one_ (i := 9) (N := some 27) #[true, true, true, true, true, true, true, true, true, true, false] rfl rfl (one_of HT_.out (by kernel_rfl)) (by decide) (fun K hK => ?_)
   refine goes_ Try.func16 (by kernel_rfl) rfl #[.agg #[.int .i64 t351, .int .i64 t352, .int .i64 t353, .int .i64 t354, .int .i64 t355, .int .i64 t356], .slice Ao13 t357.length co13, .int .i64 t360, .int .i64 t361] (by rfl) rfl rfl sl ?_
   with_reducible refine (spec_IsFeasible.calls k t351 t352 t353 t354 t355 t356 _ _ t357 t360 t361 t364 _ ?side1 ?side2 A6.out).mono ?_
   (case side1 => repeat (first | exact (Kd.R_reads' HO359.out).2.2 | (with_reducible refine Kd.C_alloc ?_ _) | (with_reducible refine Kd.C_drewN ?_ _) | (with_reducible refine Kd.C_drew ?_)))
   (case side2 => exact (Kd.R_reads' HO359.out).2.1)
   rintro e w15 ⟨rfl, hb⟩
   refine ⟨_, rfl, ?_⟩
   replace HO359 := Aside0.mk (Kd.R_below (sr HO359) hb)
   replace BK362 := bb BK362 hb
   replace HB := bsw hb
   (try clear hb)
   (try clear hb2)
   (try clear hk)
   (try clear hi)
   refine hK.out _ _ ⟨bc0 BK362, bc1 BK362, bc2 BK362, bc3 BK362, bc4 BK362, bc5 BK362⟩ (fun hHeld => ?_)
   clear hK K
   refine norm_ (a' := ?_) ?_ ?_
   rotate_left
   ·show Act.put _ (some 27) _ = _
    simp only [Act.put, List.setIfInBounds_toArray, List.set_cons_zero, List.set_cons_succ, i64_w, i32_w]
    rfl
   refine put 10 28 #[true, true, true, true, true, true, true, true, true, true, true] HT_ ?_
   refine done_ (done_of HT_.out (by kernel_rfl)) ?_
   try go_wp2
   go_ret
   exact ⟨se, sbw⟩
  ·have c7b0 : (t363 != t364) = false := by simpa using c7
   (try (have c7b1 : decide (t363 = t364) = true := by simpa using c7))
   (try (have c7b2 : (t363 == t364) = true := by simpa using c7))
   clear c7
   obtain ⟨t365, A16, H⟩ := bnd H
   obtain rfl | rfl := tt t365
   ·replace H := ip H
    have H' := Aside0.mk H
    clear H
    go_enter Try.func10, Try.ntmps10
    try go_wp2_with (first | ((with_reducible refine gate_callee (f := 34) rfl ?_); refine gL (some 10) Try.func34 #[.slice A0 l0.length c0] ?_; (with_reducible refine (laws_big.calls _ _ l0 false _ ?side1 ?side2 A2.out).mono ?_); (case side1 => repeat (first | exact HR0.out | (with_reducible refine Kd.C_alloc ?_ _) | (with_reducible refine Kd.C_drewN ?_ _) | (with_reducible refine Kd.C_drew ?_))); (case side2 => exact HC0.out); rintro e w' ⟨rfl, ⟨nd, rfl⟩⟩; refine ⟨_, rfl, ?_⟩) | ((with_reducible refine gate_callee (f := 49) rfl ?_); refine gL (some 13) Try.func49 #[.slice A0 l0.length c0] ?_; (with_reducible refine (spec_DrawIsFeasible.calls k _ _ l0 t351 t352 t353 t354 t355 t356 t357 t360 t361 _ ?side1 ?side2 A4.out).mono ?_); (case side1 => repeat (first | exact HR0.out | (with_reducible refine Kd.C_alloc ?_ _) | (with_reducible refine Kd.C_drewN ?_ _) | (with_reducible refine Kd.C_drew ?_))); (case side2 => exact HC0.out); rintro e w18 ⟨v358, rfl, ho0, hb⟩; refine ⟨_, rfl, ?_⟩; have HO359 := Aside0.mk (Kd.R_lower ho0 (below_size (sb))); replace HB := bs hb; (try clear hb); (try clear hb2); (try clear hk); (try clear hi); (try clear ho0)) | ((with_reducible refine gate_dst (N := 3) rfl ?_); refine bx 3 #[.int .i64 0, .int .i64 0, .int .i64 0, .int .i64 0, .int .i64 0, .int .i64 0] 27 ?_; intro gb362 hg w19 hbox hb; replace HO359 := Aside0.mk (Kd.R_below (sr HO359) hb); have GW362 := bz w hg; have GE362 := bz w hg; replace HB := bs hb; have BK362 := Aside0.mk hbox; clear hb hbox hg; obtain ⟨hcz20_0, hcz20_1, hcz20_2, hcz20_3, hcz20_4, hcz20_5, hfz20_0, hfz20_1, hfz20_2, hfz20_3, hfz20_4, hfz20_5⟩ := cc6 BK362))
    have n0_ : Aside0 (Kd.R k100 100 ((((((w19.setCell ⟨gb362, 0, none⟩ (.int .i64 t351)).setCell ⟨gb362, 1, none⟩ (.int .i64 t352)).setCell ⟨gb362, 2, none⟩ (.int .i64 t353)).setCell ⟨gb362, 3, none⟩ (.int .i64 t354)).setCell ⟨gb362, 4, none⟩ (.int .i64 t355)).setCell ⟨gb362, 5, none⟩ (.int .i64 t356)) w.heap.size (fun _ => True) v358 t357) := ⟨by (with_reducible repeat (first | apply Kd.R_alloc | apply Kd.R_drewN | apply Kd.R_drew)); exact Kd.R_mono (Kd.R_far (p := ⟨gb362, 5, none⟩) (Kd.R_far (p := ⟨gb362, 4, none⟩) (Kd.R_far (p := ⟨gb362, 3, none⟩) (Kd.R_far (p := ⟨gb362, 2, none⟩) (Kd.R_far (p := ⟨gb362, 1, none⟩) (Kd.R_far (p := ⟨gb362, 0, none⟩) (Kd.R_types HO359.out BK362.out (by decide)) (fun _ hk => hk.2) (.int .i64 t351)) (fun _ hk => hk.2) (.int .i64 t352)) (fun _ hk => hk.2) (.int .i64 t353)) (fun _ hk => hk.2) (.int .i64 t354)) (fun _ hk => hk.2) (.int .i64 t355)) (fun _ hk => hk.2) (.int .i64 t356)) (fun _ hk => trivial)⟩
    have n1_ : Aside0 (((((((w19.setCell ⟨gb362, 0, none⟩ (.int .i64 t351)).setCell ⟨gb362, 1, none⟩ (.int .i64 t352)).setCell ⟨gb362, 2, none⟩ (.int .i64 t353)).setCell ⟨gb362, 3, none⟩ (.int .i64 t354)).setCell ⟨gb362, 4, none⟩ (.int .i64 t355)).setCell ⟨gb362, 5, none⟩ (.int .i64 t356)).heap[gb362]? = some (.cells #[.int .i64 t351, .int .i64 t352, .int .i64 t353, .int .i64 t354, .int .i64 t355, .int .i64 t356] 27 (0, 0))) := ⟨sp BK362⟩
    have n2_ : Aside0 (Below w.heap.size w ((((((w19.setCell ⟨gb362, 0, none⟩ (.int .i64 t351)).setCell ⟨gb362, 1, none⟩ (.int .i64 t352)).setCell ⟨gb362, 2, none⟩ (.int .i64 t353)).setCell ⟨gb362, 3, none⟩ (.int .i64 t354)).setCell ⟨gb362, 4, none⟩ (.int .i64 t355)).setCell ⟨gb362, 5, none⟩ (.int .i64 t356))) := ⟨sbw⟩
    (try clear HO359)
    (try clear BK362)
    (try clear HB)
    generalize ((((((w19.setCell ⟨gb362, 0, none⟩ (.int .i64 t351)).setCell ⟨gb362, 1, none⟩ (.int .i64 t352)).setCell ⟨gb362, 2, none⟩ (.int .i64 t353)).setCell ⟨gb362, 3, none⟩ (.int .i64 t354)).setCell ⟨gb362, 4, none⟩ (.int .i64 t355)).setCell ⟨gb362, 5, none⟩ (.int .i64 t356)) = w21 at n0_ n1_ n2_ ⊢
    have HO359 := n0_
    have BK362 := n1_
    have HB := n2_
    clear n0_ n1_ n2_
    replace HO359 := Aside0.mk (Kd.R_drew HO359.out)
    replace BK362 := Aside0.mk (blk_drew BK362.out)
    replace HB := Aside0.mk (below_drew1 HB.out)
    obtain ⟨Ao23, co23, eo23⟩ := Kd.R_slice HO359.out
    (first | subst eo23 | (injection eo23 with f1_ f2_ f3_; have f4_ := f1_.symm; have f5_ := f3_.symm; clear f1_ f2_ f3_; subst f4_; subst f5_))
    refine start_ (n := 11) (S := fun w' => w'.cell? ⟨gb362, 0, none⟩ = some (.int .i64 t351) ∧ w'.cell? ⟨gb362, 1, none⟩ = some (.int .i64 t352) ∧ w'.cell? ⟨gb362, 2, none⟩ = some (.int .i64 t353) ∧ w'.cell? ⟨gb362, 3, none⟩ = some (.int .i64 t354) ∧ w'.cell? ⟨gb362, 4, none⟩ = some (.int .i64 t355) ∧ w'.cell? ⟨gb362, 5, none⟩ = some (.int .i64 t356)) (ds := []) #[false, false, false, false, false, false, false, false, false, false, false] (by kernel_rfl) rfl rfl ⟨bc0 BK362, bc1 BK362, bc2 BK362, bc3 BK362, bc4 BK362, bc5 BK362⟩ (fun hHeld => ?_); refine with_tabW laws_FnBatteries.tab4 laws_FnBatteries.bits4 (fun HT_ HW_ => ?_)
    generalize w21.drew = w22 at HO359 BK362 HB hHeld ⊢
    refine put 1 19 #[false, true, false, false, false, false, false, false, false, false, false] HT_ ?_
    refine put 2 20 #[false, true, true, false, false, false, false, false, false, false, false] HT_ ?_
    refine put 3 21 #[false, true, true, true, false, false, false, false, false, false, false] HT_ ?_
    refine put 6 24 #[false, true, true, true, false, false, true, false, false, false, false] HT_ ?_
    refine put 7 25 #[false, true, true, true, false, false, true, true, false, false, false] HT_ ?_
    refine put 8 26 #[false, true, true, true, false, false, true, true, true, false, false] HT_ ?_
    refine tat6 0 18 #[true, true, true, true, false, false, true, true, true, false, false] HT_ HW_ hHeld ?_
    refine tat6 5 23 #[true, true, true, true, false, true, true, true, true, false, false] HT_ HW_ hHeld ?_
    refine one_ (i := 4) (N := some 22) #[true, true, true, true, true, true, true, true, true, false, false] rfl rfl (one_of HT_.out (by kernel_rfl)) (by decide) (fun K hK => ?_)
    refine goes_ Try.func19 (by kernel_rfl) rfl #[.agg #[.int .i64 t351, .int .i64 t352, .int .i64 t353, .int .i64 t354, .int .i64 t355, .int .i64 t356], .slice Ao23 t357.length co23, .int .i64 t360, .int .i64 t361] (by rfl) rfl rfl sl ?_
    with_reducible refine (impl_IsFeasible.calls k t351 t352 t353 t354 t355 t356 _ _ t357 t360 t361 t363 _ ?side1 ?side2 A5.out).mono ?_
    (case side1 => repeat (first | exact (Kd.R_reads' HO359.out).2.2 | (with_reducible refine Kd.C_alloc ?_ _) | (with_reducible refine Kd.C_drewN ?_ _) | (with_reducible refine Kd.C_drew ?_)))
    (case side2 => exact (Kd.R_reads' HO359.out).2.1)
    rintro e w24 ⟨rfl, hb⟩
    refine ⟨_, rfl, ?_⟩
    replace HO359 := Aside0.mk (Kd.R_below (sr HO359) hb)
    replace BK362 := bb BK362 hb
    replace HB := bsw hb
    (try clear hb)
    (try clear hb2)
    (try clear hk)
    (try clear hi)
    refine hK.out _ _ ⟨bc0 BK362, bc1 BK362, bc2 BK362, bc3 BK362, bc4 BK362, bc5 BK362⟩ (fun hHeld => ?_)
    clear hK K
    refine norm_ (a' := ?_) ?_ ?_
    rotate_left
    ·show Act.put _ (some 22) _ = _
     simp only [Act.put, List.setIfInBounds_toArray, List.set_cons_zero, List.set_cons_succ, i64_w, i32_w]
     rfl
    refine one_ (i := 9) (N := some 27) #[true, true, true, true, true, true, true, true, true, true, false] rfl rfl (one_of HT_.out (by kernel_rfl)) (by decide) (fun K hK => ?_)
    refine goes_ Try.func16 (by kernel_rfl) rfl #[.agg #[.int .i64 t351, .int .i64 t352, .int .i64 t353, .int .i64 t354, .int .i64 t355, .int .i64 t356], .slice Ao23 t357.length co23, .int .i64 t360, .int .i64 t361] (by rfl) rfl rfl sl ?_
    with_reducible refine (spec_IsFeasible.calls k t351 t352 t353 t354 t355 t356 _ _ t357 t360 t361 t364 _ ?side1 ?side2 A6.out).mono ?_
    (case side1 => repeat (first | exact (Kd.R_reads' HO359.out).2.2 | (with_reducible refine Kd.C_alloc ?_ _) | (with_reducible refine Kd.C_drewN ?_ _) | (with_reducible refine Kd.C_drew ?_)))
    (case side2 => exact (Kd.R_reads' HO359.out).2.1)
    rintro e w25 ⟨rfl, hb⟩
    refine ⟨_, rfl, ?_⟩
    replace HO359 := Aside0.mk (Kd.R_below (sr HO359) hb)
    replace BK362 := bb BK362 hb
    replace HB := bsw hb
    (try clear hb)
    (try clear hb2)
    (try clear hk)
    (try clear hi)
    refine hK.out _ _ ⟨bc0 BK362, bc1 BK362, bc2 BK362, bc3 BK362, bc4 BK362, bc5 BK362⟩ (fun hHeld => ?_)
    clear hK K
    refine norm_ (a' := ?_) ?_ ?_
    rotate_left
    ·show Act.put _ (some 27) _ = _
     simp only [Act.put, List.setIfInBounds_toArray, List.set_cons_zero, List.set_cons_succ, i64_w, i32_w]
     rfl
    refine put 10 28 #[true, true, true, true, true, true, true, true, true, true, true] HT_ ?_
    refine done_ (done_of HT_.out (by kernel_rfl)) ?_
    obtain ⟨hcz26_0, hcz26_1, hcz26_2, hcz26_3, hcz26_4, hcz26_5, hfz26_0, hfz26_1, hfz26_2, hfz26_3, hfz26_4, hfz26_5⟩ := cc6 BK362
    try go_wp2_with (first | ((with_reducible refine gate_callee (f := 19) rfl ?_); refine gL (some 33) Try.func19 #[.agg #[.int .i64 t351, .int .i64 t352, .int .i64 t353, .int .i64 t354, .int .i64 t355, .int .i64 t356], .slice Ao23 t357.length co23, .int .i64 t360, .int .i64 t361] ?_; (with_reducible refine (impl_IsFeasible.calls k t351 t352 t353 t354 t355 t356 _ _ t357 t360 t361 true _ ?side1 ?side2 A16.out).mono ?_); (case side1 => repeat (first | exact (Kd.R_reads' HO359.out).2.2 | (with_reducible refine Kd.C_alloc ?_ _) | (with_reducible refine Kd.C_drewN ?_ _) | (with_reducible refine Kd.C_drew ?_))); (case side2 => exact (Kd.R_reads' HO359.out).2.1); rintro e w27 ⟨rfl, hb⟩; refine ⟨_, rfl, ?_⟩; replace HO359 := Aside0.mk (Kd.R_below (sr HO359) hb); replace BK362 := bb BK362 hb; replace HB := bsw hb; (try clear hb); (try clear hb2); (try clear hk); (try clear hi)))
    go_loopg [7] k (fun kq v7 w' => ∃ (x7_1 : Int) (x363000_1 : Int) (x363001_1 : Int) (x363002_1 : Int) (x363003_1 : Int) (x363004_1 : Int) (x363005_1 : Int), v7 = .int .i64 x7_1 ∧ Aside0 (laws_FnBatteries.l0 kq l0 t357 t361 x7_1 x363000_1 x363001_1 x363002_1 x363003_1 x363004_1 x363005_1 = some r) ∧ Aside0 (kq ≤ k) ∧ Aside0 (Kd.R k100 100 w' w.heap.size (fun _ => True) (.slice Ao23 t357.length co23) t357) ∧ Aside0 (w'.heap[gb362]? = some (.cells #[.int .i64 x363000_1, .int .i64 x363001_1, .int .i64 x363002_1, .int .i64 x363003_1, .int .i64 x363004_1, .int .i64 x363005_1] 27 (0, 0))) ∧ Aside0 (Below w.heap.size w w'))
    case atStart => exact ⟨(t360), (t351), (t352), (t353), (t354), (t355), (t356), sc, H', kk0, ⟨sr HO359⟩, ⟨sk BK362⟩, ⟨sbw⟩⟩
    case round =>
     clear H'
     try clear c7
     try clear c7b0
     try clear c7b1
     try clear c7b2
     try clear hcz26_0
     try clear hcz26_1
     try clear hcz26_2
     try clear hcz26_3
     try clear hcz26_4
     try clear hcz26_5
     try clear hfz26_0
     try clear hfz26_1
     try clear hfz26_2
     try clear hfz26_3
     try clear hfz26_4
     try clear hfz26_5
     obtain ⟨x7_1, x363000_1, x363001_1, x363002_1, x363003_1, x363004_1, x363005_1, rfl, HA, HK1, HO_4, BK362, HB⟩ := hrel
     cases gk with
     | zero => exact absurd HA.out (by simp [laws_FnBatteries.l0])
     | succ k1 =>
      have H := HA.out
      clear HA
      simp only [laws_FnBatteries.l0] at H
      obtain ⟨c28, H⟩ | ⟨c28, H⟩ := ie_ H
      ·have c28b0 := decide_eq_true c28
       clear c28
       have HC29 := Aside0.mk H
       clear H
       go_upto_region 12 with (fail)
       go_cut [54] (fun v54 wc => ∃ (kq : Nat) (x54_28 : Bool), v54 = .bool x54_28 ∧ Aside0 (laws_FnBatteries.j1 kq l0 t357 t361 x7_1 0 x54_28 x363000_1 x363001_1 x363002_1 x363003_1 x363004_1 x363005_1 = some r) ∧ Aside0 (kq ≤ k1) ∧ Aside0 (Kd.R k100 100 wc w.heap.size (fun _ => True) (.slice Ao23 t357.length co23) t357) ∧ Aside0 (wc.heap[gb362]? = some (.cells #[.int .i64 x363000_1, .int .i64 x363001_1, .int .i64 x363002_1, .int .i64 x363003_1, .int .i64 x363004_1, .int .i64 x363005_1] 27 (0, 0))) ∧ Aside0 (Below w.heap.size w wc))
       case first =>
        have H := HC29.out
        clear HC29
        obtain ⟨t366, A30, H⟩ := bnd H
        obtain ⟨t367, A31, H⟩ := bnd H
        obtain rfl | rfl := tt t367
        ·replace H := ip H
         obtain ⟨t368, A33, H⟩ := bnd H
         have H' := Aside0.mk H
         clear H
         try go_wp2
         replace HO_4 := Aside0.mk (Kd.R_drew HO_4.out)
         replace BK362 := Aside0.mk (blk_drew BK362.out)
         replace HB := Aside0.mk (below_drew1 HB.out)
         refine start_ (n := 14) (S := fun w' => w'.cell? ⟨gb362, 0, none⟩ = some (.int .i64 x363000_1) ∧ w'.cell? ⟨gb362, 1, none⟩ = some (.int .i64 x363001_1) ∧ w'.cell? ⟨gb362, 2, none⟩ = some (.int .i64 x363002_1) ∧ w'.cell? ⟨gb362, 3, none⟩ = some (.int .i64 x363003_1) ∧ w'.cell? ⟨gb362, 4, none⟩ = some (.int .i64 x363004_1) ∧ w'.cell? ⟨gb362, 5, none⟩ = some (.int .i64 x363005_1)) (ds := []) #[false, false, false, false, false, false, false, false, false, false, false, false, false, false] (by kernel_rfl) rfl rfl ⟨bc0 BK362, bc1 BK362, bc2 BK362, bc3 BK362, bc4 BK362, bc5 BK362⟩ (fun hHeld => ?_); refine with_tabW laws_FnBatteries.tab12 laws_FnBatteries.bits12 (fun HT_ HW_ => ?_)
         generalize wr.drew = w34 at HO_4 BK362 HB hHeld ⊢
         refine put 2 43 #[false, false, true, false, false, false, false, false, false, false, false, false, false, false] HT_ ?_
         refine put 3 44 #[false, false, true, true, false, false, false, false, false, false, false, false, false, false] HT_ ?_
         refine put 4 45 #[false, false, true, true, true, false, false, false, false, false, false, false, false, false] HT_ ?_
         refine tat6 0 41 #[true, false, true, true, true, false, false, false, false, false, false, false, false, false] HT_ HW_ hHeld ?_
         refine tat6 1 42 #[true, true, true, true, true, false, false, false, false, false, false, false, false, false] HT_ HW_ hHeld ?_
         refine one_ (i := 5) (N := some 46) #[true, true, true, true, true, true, false, false, false, false, false, false, false, false] rfl rfl (one_of HT_.out (by kernel_rfl)) (by decide) (fun K hK => ?_)
         refine goes_ Try.func51 (by kernel_rfl) rfl #[.agg #[.int .i64 x363000_1, .int .i64 x363001_1, .int .i64 x363002_1, .int .i64 x363003_1, .int .i64 x363004_1, .int .i64 x363005_1], .slice Ao23 t357.length co23, .int .i64 x7_1, .int .i64 t361] (by rfl) rfl rfl sl ?_
         with_reducible refine (impl_NeedAt.calls k1 x363000_1 x363001_1 x363002_1 x363003_1 x363004_1 x363005_1 _ _ t357 x7_1 t361 t366 _ ?side1 ?side2 A30.out).mono ?_
         (case side1 => repeat (first | exact (Kd.R_reads' HO_4.out).2.2 | (with_reducible refine Kd.C_alloc ?_ _) | (with_reducible refine Kd.C_drewN ?_ _) | (with_reducible refine Kd.C_drew ?_)))
         (case side2 => exact (Kd.R_reads' HO_4.out).2.1)
         rintro e w35 ⟨rfl, hb⟩
         refine ⟨_, rfl, ?_⟩
         replace HO_4 := Aside0.mk (Kd.R_below (sr HO_4) hb)
         replace BK362 := bb BK362 hb
         replace HB := bsw hb
         (try clear hb)
         (try clear hb2)
         (try clear hk)
         (try clear hi)
         refine hK.out _ _ ⟨bc0 BK362, bc1 BK362, bc2 BK362, bc3 BK362, bc4 BK362, bc5 BK362⟩ (fun hHeld => ?_)
         clear hK K
         refine norm_ (a' := ?_) ?_ ?_
         rotate_left
         ·show Act.put _ (some 46) _ = _
          simp only [Act.put, List.setIfInBounds_toArray, List.set_cons_zero, List.set_cons_succ, i64_w, i32_w]
          rfl
         refine one_ (i := 6) (N := some 47) #[true, true, true, true, true, true, true, false, false, false, false, false, false, false] rfl rfl (one_of HT_.out (by kernel_rfl)) (by decide) (fun K hK => ?_)
         refine goes_ Try.func50 (by kernel_rfl) rfl #[.agg #[.int .i64 x363000_1, .int .i64 x363001_1, .int .i64 x363002_1, .int .i64 x363003_1, .int .i64 x363004_1, .int .i64 x363005_1], .int .i64 t366] (by rfl) rfl rfl sl ?_
         with_reducible refine (impl_MaySend.calls x363000_1 x363001_1 x363002_1 x363003_1 x363004_1 x363005_1 t366 true _ A31.out).mono ?_
         rintro e w36 ⟨rfl, hb⟩
         refine ⟨_, rfl, ?_⟩
         replace HO_4 := Aside0.mk (Kd.R_below (sr HO_4) hb)
         replace BK362 := bb BK362 hb
         replace HB := bsw hb
         (try clear hb)
         (try clear hb2)
         (try clear hk)
         (try clear hi)
         refine hK.out _ _ ⟨bc0 BK362, bc1 BK362, bc2 BK362, bc3 BK362, bc4 BK362, bc5 BK362⟩ (fun hHeld => ?_)
         clear hK K
         refine norm_ (a' := ?_) ?_ ?_
         rotate_left
         ·show Act.put _ (some 47) _ = _
          simp only [Act.put, List.setIfInBounds_toArray, List.set_cons_zero, List.set_cons_succ, i64_w, i32_w]
          rfl
         refine put 7 48 #[true, true, true, true, true, true, true, true, false, false, false, false, false, false] HT_ ?_
         refine put 8 49 #[true, true, true, true, true, true, true, true, true, false, false, false, false, false] HT_ ?_
         refine put 9 50 #[true, true, true, true, true, true, true, true, true, true, false, false, false, false] HT_ ?_
         refine one_ (i := 10) (N := some 51) #[true, true, true, true, true, true, true, true, true, true, true, false, false, false] rfl rfl (one_of HT_.out (by kernel_rfl)) (by decide) (fun K hK => ?_)
         refine goes_ Try.func52 (by kernel_rfl) rfl #[.slice A0 l0.length c0, .int .i64 x7_1] (by rfl) rfl rfl sl ?_
         with_reducible refine (laws_at.calls _ _ l0 x7_1 t368 _ ?side1 ?side2 A33.out).mono ?_
         (case side1 => exact cb HR0)
         (case side2 => exact HC0.out)
         rintro e w' ⟨rfl, ⟨nd, rfl⟩⟩
         refine ⟨_, rfl, ?_⟩
         refine hK.out _ _ ⟨bc0 BK362, bc1 BK362, bc2 BK362, bc3 BK362, bc4 BK362, bc5 BK362⟩ (fun hHeld => ?_)
         clear hK K
         refine norm_ (a' := ?_) ?_ ?_
         rotate_left
         ·show Act.put _ (some 51) _ = _
          simp only [Act.put, List.setIfInBounds_toArray, List.set_cons_zero, List.set_cons_succ, i64_w, i32_w]
          rfl
         refine put 11 52 #[true, true, true, true, true, true, true, true, true, true, true, true, false, false] HT_ ?_
         refine put 12 53 #[true, true, true, true, true, true, true, true, true, true, true, true, true, false] HT_ ?_
         refine put 13 54 #[true, true, true, true, true, true, true, true, true, true, true, true, true, true] HT_ ?_
         refine done_ (done_of HT_.out (by kernel_rfl)) ?_
         try go_wp2
         go_meet
         case rel => exact ⟨_, (((Int.tmod t368 2) == 0)), sc, H', ⟨by have := HK1.out; first | omega | exact Nat.le_refl _⟩, ⟨sr HO_4⟩, ⟨sk BK362⟩, ⟨sbw⟩⟩
        ·replace H := im H
         have H' := Aside0.mk H
         clear H
         try go_wp2
         replace HO_4 := Aside0.mk (Kd.R_drew HO_4.out)
         replace BK362 := Aside0.mk (blk_drew BK362.out)
         replace HB := Aside0.mk (below_drew1 HB.out)
         refine start_ (n := 14) (S := fun w' => w'.cell? ⟨gb362, 0, none⟩ = some (.int .i64 x363000_1) ∧ w'.cell? ⟨gb362, 1, none⟩ = some (.int .i64 x363001_1) ∧ w'.cell? ⟨gb362, 2, none⟩ = some (.int .i64 x363002_1) ∧ w'.cell? ⟨gb362, 3, none⟩ = some (.int .i64 x363003_1) ∧ w'.cell? ⟨gb362, 4, none⟩ = some (.int .i64 x363004_1) ∧ w'.cell? ⟨gb362, 5, none⟩ = some (.int .i64 x363005_1)) (ds := []) #[false, false, false, false, false, false, false, false, false, false, false, false, false, false] (by kernel_rfl) rfl rfl ⟨bc0 BK362, bc1 BK362, bc2 BK362, bc3 BK362, bc4 BK362, bc5 BK362⟩ (fun hHeld => ?_); refine with_tabW laws_FnBatteries.tab12 laws_FnBatteries.bits12 (fun HT_ HW_ => ?_)
         generalize wr.drew = w37 at HO_4 BK362 HB hHeld ⊢
         refine put 2 43 #[false, false, true, false, false, false, false, false, false, false, false, false, false, false] HT_ ?_
         refine put 3 44 #[false, false, true, true, false, false, false, false, false, false, false, false, false, false] HT_ ?_
         refine put 4 45 #[false, false, true, true, true, false, false, false, false, false, false, false, false, false] HT_ ?_
         refine tat6 0 41 #[true, false, true, true, true, false, false, false, false, false, false, false, false, false] HT_ HW_ hHeld ?_
         refine tat6 1 42 #[true, true, true, true, true, false, false, false, false, false, false, false, false, false] HT_ HW_ hHeld ?_
         refine one_ (i := 5) (N := some 46) #[true, true, true, true, true, true, false, false, false, false, false, false, false, false] rfl rfl (one_of HT_.out (by kernel_rfl)) (by decide) (fun K hK => ?_)
         refine goes_ Try.func51 (by kernel_rfl) rfl #[.agg #[.int .i64 x363000_1, .int .i64 x363001_1, .int .i64 x363002_1, .int .i64 x363003_1, .int .i64 x363004_1, .int .i64 x363005_1], .slice Ao23 t357.length co23, .int .i64 x7_1, .int .i64 t361] (by rfl) rfl rfl sl ?_
         with_reducible refine (impl_NeedAt.calls k1 x363000_1 x363001_1 x363002_1 x363003_1 x363004_1 x363005_1 _ _ t357 x7_1 t361 t366 _ ?side1 ?side2 A30.out).mono ?_
         (case side1 => repeat (first | exact (Kd.R_reads' HO_4.out).2.2 | (with_reducible refine Kd.C_alloc ?_ _) | (with_reducible refine Kd.C_drewN ?_ _) | (with_reducible refine Kd.C_drew ?_)))
         (case side2 => exact (Kd.R_reads' HO_4.out).2.1)
         rintro e w38 ⟨rfl, hb⟩
         refine ⟨_, rfl, ?_⟩
         replace HO_4 := Aside0.mk (Kd.R_below (sr HO_4) hb)
         replace BK362 := bb BK362 hb
         replace HB := bsw hb
         (try clear hb)
         (try clear hb2)
         (try clear hk)
         (try clear hi)
         refine hK.out _ _ ⟨bc0 BK362, bc1 BK362, bc2 BK362, bc3 BK362, bc4 BK362, bc5 BK362⟩ (fun hHeld => ?_)
         clear hK K
         refine norm_ (a' := ?_) ?_ ?_
         rotate_left
         ·show Act.put _ (some 46) _ = _
          simp only [Act.put, List.setIfInBounds_toArray, List.set_cons_zero, List.set_cons_succ, i64_w, i32_w]
          rfl
         refine one_ (i := 6) (N := some 47) #[true, true, true, true, true, true, true, false, false, false, false, false, false, false] rfl rfl (one_of HT_.out (by kernel_rfl)) (by decide) (fun K hK => ?_)
         refine goes_ Try.func50 (by kernel_rfl) rfl #[.agg #[.int .i64 x363000_1, .int .i64 x363001_1, .int .i64 x363002_1, .int .i64 x363003_1, .int .i64 x363004_1, .int .i64 x363005_1], .int .i64 t366] (by rfl) rfl rfl sl ?_
         with_reducible refine (impl_MaySend.calls x363000_1 x363001_1 x363002_1 x363003_1 x363004_1 x363005_1 t366 false _ A31.out).mono ?_
         rintro e w39 ⟨rfl, hb⟩
         refine ⟨_, rfl, ?_⟩
         replace HO_4 := Aside0.mk (Kd.R_below (sr HO_4) hb)
         replace BK362 := bb BK362 hb
         replace HB := bsw hb
         (try clear hb)
         (try clear hb2)
         (try clear hk)
         (try clear hi)
         refine hK.out _ _ ⟨bc0 BK362, bc1 BK362, bc2 BK362, bc3 BK362, bc4 BK362, bc5 BK362⟩ (fun hHeld => ?_)
         clear hK K
         refine norm_ (a' := ?_) ?_ ?_
         rotate_left
         ·show Act.put _ (some 47) _ = _
          simp only [Act.put, List.setIfInBounds_toArray, List.set_cons_zero, List.set_cons_succ, i64_w, i32_w]
          rfl
         refine put 7 48 #[true, true, true, true, true, true, true, true, false, false, false, false, false, false] HT_ ?_
         refine pure_ (i := 8) (N := some 49) (v := undef) (a' := ?_) #[true, true, true, true, true, true, true, true, true, false, false, false, false, false] rfl rfl (any_of HT_.out (by kernel_rfl)) (fun _ _ _ h => h) (Or.inr ⟨by rfl, rfl⟩) ?_ ?_
         rotate_left
         ·simp only [Act.put, List.setIfInBounds_toArray, List.set_cons_zero, List.set_cons_succ, i64_w, i32_w]
          rfl
         refine pure_ (i := 9) (N := some 50) (v := undef) (a' := ?_) #[true, true, true, true, true, true, true, true, true, true, false, false, false, false] rfl rfl (any_of HT_.out (by kernel_rfl)) (fun _ _ _ h => h) (Or.inr ⟨by rfl, rfl⟩) ?_ ?_
         rotate_left
         ·simp only [Act.put, List.setIfInBounds_toArray, List.set_cons_zero, List.set_cons_succ, i64_w, i32_w]
          rfl
         refine pure_ (i := 10) (N := some 51) (v := undef) (a' := ?_) #[true, true, true, true, true, true, true, true, true, true, true, false, false, false] rfl rfl (any_of HT_.out (by kernel_rfl)) (fun _ _ _ h => h) (Or.inr ⟨by rfl, rfl⟩) ?_ ?_
         rotate_left
         ·simp only [Act.put, List.setIfInBounds_toArray, List.set_cons_zero, List.set_cons_succ, i64_w, i32_w]
          rfl
         refine pure_ (i := 11) (N := some 52) (v := undef) (a' := ?_) #[true, true, true, true, true, true, true, true, true, true, true, true, false, false] rfl rfl (any_of HT_.out (by kernel_rfl)) (fun _ _ _ h => h) (Or.inr ⟨by rfl, rfl⟩) ?_ ?_
         rotate_left
         ·simp only [Act.put, List.setIfInBounds_toArray, List.set_cons_zero, List.set_cons_succ, i64_w, i32_w]
          rfl
         refine pure_ (i := 12) (N := some 53) (v := undef) (a' := ?_) #[true, true, true, true, true, true, true, true, true, true, true, true, true, false] rfl rfl (any_of HT_.out (by kernel_rfl)) (fun _ _ _ h => h) (Or.inr ⟨by rfl, rfl⟩) ?_ ?_
         rotate_left
         ·simp only [Act.put, List.setIfInBounds_toArray, List.set_cons_zero, List.set_cons_succ, i64_w, i32_w]
          rfl
         refine put 13 54 #[true, true, true, true, true, true, true, true, true, true, true, true, true, true] HT_ ?_
         refine done_ (done_of HT_.out (by kernel_rfl)) ?_
         try go_wp2
         go_meet
         case rel => exact ⟨_, (false), sc, H', ⟨by have := HK1.out; first | omega | exact Nat.le_refl _⟩, ⟨sr HO_4⟩, ⟨sk BK362⟩, ⟨sbw⟩⟩
       case rest =>
        clear HC29
        try clear c7
        try clear c7b0
        try clear c7b1
        try clear c7b2
        try clear c28
        try clear c28b0
        try clear hcz26_0
        try clear hcz26_1
        try clear hcz26_2
        try clear hcz26_3
        try clear hcz26_4
        try clear hcz26_5
        try clear hfz26_0
        try clear hfz26_1
        try clear hfz26_2
        try clear hfz26_3
        try clear hfz26_4
        try clear hfz26_5
        obtain ⟨kq, x54_28, rfl, HA, HJ28, HO_4, BK362, HB⟩ := hcut
        cases kq with
        | zero => exact absurd HA.out (by simp [laws_FnBatteries.j1])
        | succ kj28 =>
         have H := HA.out
         clear HA
         simp only [laws_FnBatteries.j1] at H
         have HC40 := Aside0.mk H
         clear H
         go_upto_if 54 with (fail)
         go_cut [8] (fun v8 wc => ∃ (kq : Nat) (x8_39 : Int), v8 = .int .i64 x8_39 ∧ Aside0 (laws_FnBatteries.j2 kq l0 t357 t361 x7_1 x8_39 x363000_1 x363001_1 x363002_1 x363003_1 x363004_1 x363005_1 = some r) ∧ Aside0 (kq ≤ kj28) ∧ Aside0 (Kd.R k100 100 wc w.heap.size (fun _ => True) (.slice Ao23 t357.length co23) t357) ∧ Aside0 (wc.heap[gb362]? = some (.cells #[.int .i64 x363000_1, .int .i64 x363001_1, .int .i64 x363002_1, .int .i64 x363003_1, .int .i64 x363004_1, .int .i64 x363005_1] 27 (0, 0))) ∧ Aside0 (Below w.heap.size w wc))
         case first =>
          have H := HC40.out
          clear HC40
          obtain rfl | rfl := tt x54_28
          ·replace H := ip H
           have H' := Aside0.mk H
           clear H
           go_wp2
           go_meet
           case rel => exact ⟨_, (1), sc, H', ⟨by have := HK1.out; have := HJ28.out; first | omega | exact Nat.le_refl _⟩, ⟨sr HO_4⟩, ⟨sk BK362⟩, ⟨sbw⟩⟩
          ·replace H := im H
           have H' := Aside0.mk H
           clear H
           go_wp2
           go_meet
           case rel => exact ⟨_, (0), sc, H', ⟨by have := HK1.out; have := HJ28.out; first | omega | exact Nat.le_refl _⟩, ⟨sr HO_4⟩, ⟨sk BK362⟩, ⟨sbw⟩⟩
         case rest =>
          clear HC40
          try clear c7
          try clear c7b0
          try clear c7b1
          try clear c7b2
          try clear c28
          try clear c28b0
          try clear hcz26_0
          try clear hcz26_1
          try clear hcz26_2
          try clear hcz26_3
          try clear hcz26_4
          try clear hcz26_5
          try clear hfz26_0
          try clear hfz26_1
          try clear hfz26_2
          try clear hfz26_3
          try clear hfz26_4
          try clear hfz26_5
          obtain ⟨kq, x8_39, rfl, HA, HJ39, HO_4, BK362, HB⟩ := hcut
          cases kq with
          | zero => exact absurd HA.out (by simp [laws_FnBatteries.j2])
          | succ kj39 =>
           have H := HA.out
           clear HA
           simp only [laws_FnBatteries.j2] at H
           obtain ⟨t369, A42, H⟩ := bnd H
           obtain ⟨⟨t370, t371, t372, t373, t374, t375⟩, A43, H⟩ := bnd H
           replace H : ((impl_NeedAt.f kj39 t370 t371 t372 t373 t374 t375 t357 (wrap64 (x7_1 + 1)) t361).bind fun t376 => (if t370 < (wrap64 (t372 + t376)) then (some false) else ((impl_IsBattery.f t370 t371 t372 t373 t374 t375).bind fun t377 => (if t377 = true then (laws_FnBatteries.l0 kj39 l0 t357 t361 (wrap64 (x7_1 + 1)) t370 t371 t372 t373 t374 t375) else (some false))))) = some r := H
           obtain ⟨t376, A44, H⟩ := bnd H
           obtain ⟨c45, H⟩ | ⟨c45, H⟩ := ie_ H
           ·have c45b0 := decide_eq_true c45
            clear c45
            obtain rfl := Option.some.inj H
            try go_wp2
            replace HO_4 := Aside0.mk (Kd.R_drew HO_4.out)
            replace BK362 := Aside0.mk (blk_drew BK362.out)
            replace HB := Aside0.mk (below_drew1 HB.out)
            refine start_ (n := 7) (S := fun w' => w'.cell? ⟨gb362, 0, none⟩ = some (.int .i64 x363000_1) ∧ w'.cell? ⟨gb362, 1, none⟩ = some (.int .i64 x363001_1) ∧ w'.cell? ⟨gb362, 2, none⟩ = some (.int .i64 x363002_1) ∧ w'.cell? ⟨gb362, 3, none⟩ = some (.int .i64 x363003_1) ∧ w'.cell? ⟨gb362, 4, none⟩ = some (.int .i64 x363004_1) ∧ w'.cell? ⟨gb362, 5, none⟩ = some (.int .i64 x363005_1)) (ds := [6]) #[false, false, false, false, false, false, false] (by kernel_rfl) rfl rfl ⟨bc0 BK362, bc1 BK362, bc2 BK362, bc3 BK362, bc4 BK362, bc5 BK362⟩ (fun hHeld => ?_)
            generalize wc.drew = w46 at HO_4 BK362 HB hHeld ⊢
            refine pu 1 56 #[false, true, false, false, false, false, false] ?_
            refine pu 2 57 #[false, true, true, false, false, false, false] ?_
            refine pu 4 59 #[false, true, true, false, true, false, false] ?_
            refine ta6 0 55 #[true, true, true, false, true, false, false] hHeld ?_
            refine one_ (i := 3) (N := some 58) #[true, true, true, true, true, false, false] rfl rfl (by kernel_rfl) (by decide) (fun K hK => ?_)
            refine goes_ Try.func54 (by kernel_rfl) rfl #[.slice Ao23 t357.length co23, .int .i64 x7_1] (by rfl) rfl rfl sl ?_
            with_reducible refine (impl_InSpans.calls kj39 _ _ t357 x7_1 t369 _ ?side1 ?side2 A42.out).mono ?_
            (case side1 => repeat (first | exact (Kd.R_reads' HO_4.out).2.2 | (with_reducible refine Kd.C_alloc ?_ _) | (with_reducible refine Kd.C_drewN ?_ _) | (with_reducible refine Kd.C_drew ?_)))
            (case side2 => exact (Kd.R_reads' HO_4.out).2.1)
            rintro e w47 ⟨rfl, hb⟩
            refine ⟨_, rfl, ?_⟩
            replace HO_4 := Aside0.mk (Kd.R_below (sr HO_4) hb)
            replace BK362 := bb BK362 hb
            replace HB := bsw hb
            (try clear hb)
            (try clear hb2)
            (try clear hk)
            (try clear hi)
            refine hK.out _ _ ⟨bc0 BK362, bc1 BK362, bc2 BK362, bc3 BK362, bc4 BK362, bc5 BK362⟩ (fun hHeld => ?_)
            clear hK K
            refine norm_ (a' := ?_) ?_ ?_
            rotate_left
            ·show Act.put _ (some 58) _ = _
             simp only [Act.put, List.setIfInBounds_toArray, List.set_cons_zero, List.set_cons_succ, i64_w, i32_w]
             rfl
            refine one_ (i := 5) (N := some 60) #[true, true, true, true, true, true, false] rfl rfl (by kernel_rfl) (by decide) (fun K hK => ?_)
            refine goes_ Try.func53 (by kernel_rfl) rfl #[.agg #[.int .i64 x363000_1, .int .i64 x363001_1, .int .i64 x363002_1, .int .i64 x363003_1, .int .i64 x363004_1, .int .i64 x363005_1], .bool t369, .int .i64 x8_39] (by rfl) rfl rfl sl ?_
            with_reducible refine (impl_TickBattery.calls x363000_1 x363001_1 x363002_1 x363003_1 x363004_1 x363005_1 t369 x8_39 t370 t371 t372 t373 t374 t375 _ A43.out).mono ?_
            rintro e w48 ⟨rfl, hb⟩
            refine ⟨_, rfl, ?_⟩
            replace HO_4 := Aside0.mk (Kd.R_below (sr HO_4) hb)
            replace BK362 := bb BK362 hb
            replace HB := bsw hb
            (try clear hb)
            (try clear hb2)
            (try clear hk)
            (try clear hi)
            refine hK.out _ _ ⟨bc0 BK362, bc1 BK362, bc2 BK362, bc3 BK362, bc4 BK362, bc5 BK362⟩ (fun hHeld => ?_)
            clear hK K
            refine norm_ (a' := ?_) ?_ ?_
            rotate_left
            ·show Act.put _ (some 60) _ = _
             simp only [Act.put, List.setIfInBounds_toArray, List.set_cons_zero, List.set_cons_succ, i64_w, i32_w]
             rfl
            refine last_ (i := 6) (N := none) #[true, true, true, true, true, true, true] rfl rfl (by kernel_rfl) (by decide) (fun K hK => ?_)
            obtain ⟨hs49, hfs49⟩ := cc1 BK362
            have hs50 := bc1 BK362
            have hfs50 := bf BK362 1
            have hs51 := bc2 BK362
            have hfs51 := bf BK362 2
            have hs52 := bc3 BK362
            have hfs52 := bf BK362 3
            have hs53 := bc4 BK362
            have hfs53 := bf BK362 4
            have hs54 := bc5 BK362
            have hfs54 := bf BK362 5
            refine skip_ (w1 := ?_) (by rfl) rfl ?_ ?_
            rotate_left
            ·go_simp
             rfl
            refine hK.out _ _ ?_
            clear hK K
            refine done_ (by kernel_rfl) ?_
            try go_wp2
            have n0_ : Aside0 (Kd.R k100 100 ((((((w48.setCell ⟨gb362, 0, none⟩ (.int .i64 t370)).setCell ⟨gb362, 1, none⟩ (.int .i64 t371)).setCell ⟨gb362, 2, none⟩ (.int .i64 t372)).setCell ⟨gb362, 3, none⟩ (.int .i64 t373)).setCell ⟨gb362, 4, none⟩ (.int .i64 t374)).setCell ⟨gb362, 5, none⟩ (.int .i64 t375)) w.heap.size (fun _ => True) (.slice Ao23 t357.length co23) t357) := ⟨by (with_reducible repeat (first | apply Kd.R_alloc | apply Kd.R_drewN | apply Kd.R_drew)); exact Kd.R_mono (Kd.R_far (p := ⟨gb362, 5, none⟩) (Kd.R_far (p := ⟨gb362, 4, none⟩) (Kd.R_far (p := ⟨gb362, 3, none⟩) (Kd.R_far (p := ⟨gb362, 2, none⟩) (Kd.R_far (p := ⟨gb362, 1, none⟩) (Kd.R_far (p := ⟨gb362, 0, none⟩) (Kd.R_types HO_4.out BK362.out (by decide)) (fun _ hk => hk.2) (.int .i64 t370)) (fun _ hk => hk.2) (.int .i64 t371)) (fun _ hk => hk.2) (.int .i64 t372)) (fun _ hk => hk.2) (.int .i64 t373)) (fun _ hk => hk.2) (.int .i64 t374)) (fun _ hk => hk.2) (.int .i64 t375)) (fun _ hk => trivial)⟩
            have n1_ : Aside0 (((((((w48.setCell ⟨gb362, 0, none⟩ (.int .i64 t370)).setCell ⟨gb362, 1, none⟩ (.int .i64 t371)).setCell ⟨gb362, 2, none⟩ (.int .i64 t372)).setCell ⟨gb362, 3, none⟩ (.int .i64 t373)).setCell ⟨gb362, 4, none⟩ (.int .i64 t374)).setCell ⟨gb362, 5, none⟩ (.int .i64 t375)).heap[gb362]? = some (.cells #[.int .i64 t370, .int .i64 t371, .int .i64 t372, .int .i64 t373, .int .i64 t374, .int .i64 t375] 27 (0, 0))) := ⟨sp BK362⟩
            have n2_ : Aside0 (Below w.heap.size w ((((((w48.setCell ⟨gb362, 0, none⟩ (.int .i64 t370)).setCell ⟨gb362, 1, none⟩ (.int .i64 t371)).setCell ⟨gb362, 2, none⟩ (.int .i64 t372)).setCell ⟨gb362, 3, none⟩ (.int .i64 t373)).setCell ⟨gb362, 4, none⟩ (.int .i64 t374)).setCell ⟨gb362, 5, none⟩ (.int .i64 t375))) := ⟨sbw⟩
            (try clear HO_4)
            (try clear BK362)
            (try clear HB)
            generalize ((((((w48.setCell ⟨gb362, 0, none⟩ (.int .i64 t370)).setCell ⟨gb362, 1, none⟩ (.int .i64 t371)).setCell ⟨gb362, 2, none⟩ (.int .i64 t372)).setCell ⟨gb362, 3, none⟩ (.int .i64 t373)).setCell ⟨gb362, 4, none⟩ (.int .i64 t374)).setCell ⟨gb362, 5, none⟩ (.int .i64 t375)) = w55 at n0_ n1_ n2_ ⊢
            have HO_4 := n0_
            have BK362 := n1_
            have HB := n2_
            clear n0_ n1_ n2_
            replace HO_4 := Aside0.mk (Kd.R_drew HO_4.out)
            replace BK362 := Aside0.mk (blk_drew BK362.out)
            replace HB := Aside0.mk (below_drew1 HB.out)
            refine start_ (n := 17) (S := fun w' => w'.cell? ⟨gb362, 0, none⟩ = some (.int .i64 t370) ∧ w'.cell? ⟨gb362, 1, none⟩ = some (.int .i64 t371) ∧ w'.cell? ⟨gb362, 2, none⟩ = some (.int .i64 t372) ∧ w'.cell? ⟨gb362, 3, none⟩ = some (.int .i64 t373) ∧ w'.cell? ⟨gb362, 4, none⟩ = some (.int .i64 t374) ∧ w'.cell? ⟨gb362, 5, none⟩ = some (.int .i64 t375)) (ds := []) #[false, false, false, false, false, false, false, false, false, false, false, false, false, false, false, false, false] (by kernel_rfl) rfl rfl ⟨bc0 BK362, bc1 BK362, bc2 BK362, bc3 BK362, bc4 BK362, bc5 BK362⟩ (fun hHeld => ?_); refine with_tabW laws_FnBatteries.tab15 laws_FnBatteries.bits15 (fun HT_ HW_ => ?_)
            generalize w55.drew = w56 at HO_4 BK362 HB hHeld ⊢
            refine put 0 61 #[true, false, false, false, false, false, false, false, false, false, false, false, false, false, false, false, false] HT_ ?_
            refine put 2 63 #[true, false, true, false, false, false, false, false, false, false, false, false, false, false, false, false, false] HT_ ?_
            refine put 5 66 #[true, false, true, false, false, true, false, false, false, false, false, false, false, false, false, false, false] HT_ ?_
            refine put 6 67 #[true, false, true, false, false, true, true, false, false, false, false, false, false, false, false, false, false] HT_ ?_
            refine put 7 68 #[true, false, true, false, false, true, true, true, false, false, false, false, false, false, false, false, false] HT_ ?_
            refine put 8 69 #[true, false, true, false, false, true, true, true, true, false, false, false, false, false, false, false, false] HT_ ?_
            refine tat6 1 62 #[true, true, true, false, false, true, true, true, true, false, false, false, false, false, false, false, false] HT_ HW_ hHeld ?_
            refine tat6 3 64 #[true, true, true, true, false, true, true, true, true, false, false, false, false, false, false, false, false] HT_ HW_ hHeld ?_
            refine tat6 4 65 #[true, true, true, true, true, true, true, true, true, false, false, false, false, false, false, false, false] HT_ HW_ hHeld ?_
            refine one_ (i := 9) (N := some 70) #[true, true, true, true, true, true, true, true, true, true, false, false, false, false, false, false, false] rfl rfl (one_of HT_.out (by kernel_rfl)) (by decide) (fun K hK => ?_)
            refine goes_ Try.func51 (by kernel_rfl) rfl #[.agg #[.int .i64 t370, .int .i64 t371, .int .i64 t372, .int .i64 t373, .int .i64 t374, .int .i64 t375], .slice Ao23 t357.length co23, .int .i64 (wrap64 (x7_1 + 1)), .int .i64 t361] (by rfl) rfl rfl sl ?_
            with_reducible refine (impl_NeedAt.calls kj39 t370 t371 t372 t373 t374 t375 _ _ t357 (wrap64 (x7_1 + 1)) t361 t376 _ ?side1 ?side2 A44.out).mono ?_
            (case side1 => repeat (first | exact (Kd.R_reads' HO_4.out).2.2 | (with_reducible refine Kd.C_alloc ?_ _) | (with_reducible refine Kd.C_drewN ?_ _) | (with_reducible refine Kd.C_drew ?_)))
            (case side2 => exact (Kd.R_reads' HO_4.out).2.1)
            rintro e w57 ⟨rfl, hb⟩
            refine ⟨_, rfl, ?_⟩
            replace HO_4 := Aside0.mk (Kd.R_below (sr HO_4) hb)
            replace BK362 := bb BK362 hb
            replace HB := bsw hb
            (try clear hb)
            (try clear hb2)
            (try clear hk)
            (try clear hi)
            refine hK.out _ _ ⟨bc0 BK362, bc1 BK362, bc2 BK362, bc3 BK362, bc4 BK362, bc5 BK362⟩ (fun hHeld => ?_)
            clear hK K
            refine norm_ (a' := ?_) ?_ ?_
            rotate_left
            ·show Act.put _ (some 70) _ = _
             simp only [Act.put, List.setIfInBounds_toArray, List.set_cons_zero, List.set_cons_succ, i64_w, i32_w]
             rfl
            refine put 10 71 #[true, true, true, true, true, true, true, true, true, true, true, false, false, false, false, false, false] HT_ ?_
            refine put 11 72 #[true, true, true, true, true, true, true, true, true, true, true, true, false, false, false, false, false] HT_ ?_
            refine put 12 73 #[true, true, true, true, true, true, true, true, true, true, true, true, true, false, false, false, false] HT_ ?_
            refine pure_ (i := 13) (N := some 74) (v := undef) (a' := ?_) #[true, true, true, true, true, true, true, true, true, true, true, true, true, true, false, false, false] rfl rfl (any_of HT_.out (by kernel_rfl)) (fun _ _ _ h => h) (Or.inr ⟨by rfl, rfl⟩) ?_ ?_
            rotate_left
            ·simp only [Act.put, List.setIfInBounds_toArray, List.set_cons_zero, List.set_cons_succ, i64_w, i32_w]
             rfl
            refine pure_ (i := 14) (N := some 75) (v := undef) (a' := ?_) #[true, true, true, true, true, true, true, true, true, true, true, true, true, true, true, false, false] rfl rfl (any_of HT_.out (by kernel_rfl)) (fun _ _ _ h => h) (Or.inr ⟨by rfl, rfl⟩) ?_ ?_
            rotate_left
            ·simp only [Act.put, List.setIfInBounds_toArray, List.set_cons_zero, List.set_cons_succ, i64_w, i32_w]
             rfl
            refine pure_ (i := 15) (N := some 76) (v := undef) (a' := ?_) #[true, true, true, true, true, true, true, true, true, true, true, true, true, true, true, true, false] rfl rfl (any_of HT_.out (by kernel_rfl)) (fun _ _ _ h => h) (Or.inr ⟨by rfl, rfl⟩) ?_ ?_
            rotate_left
            ·simp only [Act.put, List.setIfInBounds_toArray, List.set_cons_zero, List.set_cons_succ, i64_w, i32_w]
             rfl
            refine put 16 77 #[true, true, true, true, true, true, true, true, true, true, true, true, true, true, true, true, true] HT_ ?_
            refine done_ (done_of HT_.out (by kernel_rfl)) ?_
            try go_wp2
            go_ret
            exact ⟨se, sbw⟩
           ·have c45b0 := decide_eq_false c45
            clear c45
            obtain ⟨t377, A58, H⟩ := bnd H
            obtain rfl | rfl := tt t377
            ·replace H := ip H
             have H' := Aside0.mk H
             clear H
             try go_wp2
             replace HO_4 := Aside0.mk (Kd.R_drew HO_4.out)
             replace BK362 := Aside0.mk (blk_drew BK362.out)
             replace HB := Aside0.mk (below_drew1 HB.out)
             refine start_ (n := 7) (S := fun w' => w'.cell? ⟨gb362, 0, none⟩ = some (.int .i64 x363000_1) ∧ w'.cell? ⟨gb362, 1, none⟩ = some (.int .i64 x363001_1) ∧ w'.cell? ⟨gb362, 2, none⟩ = some (.int .i64 x363002_1) ∧ w'.cell? ⟨gb362, 3, none⟩ = some (.int .i64 x363003_1) ∧ w'.cell? ⟨gb362, 4, none⟩ = some (.int .i64 x363004_1) ∧ w'.cell? ⟨gb362, 5, none⟩ = some (.int .i64 x363005_1)) (ds := [6]) #[false, false, false, false, false, false, false] (by kernel_rfl) rfl rfl ⟨bc0 BK362, bc1 BK362, bc2 BK362, bc3 BK362, bc4 BK362, bc5 BK362⟩ (fun hHeld => ?_)
             generalize wc.drew = w60 at HO_4 BK362 HB hHeld ⊢
             refine pu 1 56 #[false, true, false, false, false, false, false] ?_
             refine pu 2 57 #[false, true, true, false, false, false, false] ?_
             refine pu 4 59 #[false, true, true, false, true, false, false] ?_
             refine ta6 0 55 #[true, true, true, false, true, false, false] hHeld ?_
             refine one_ (i := 3) (N := some 58) #[true, true, true, true, true, false, false] rfl rfl (by kernel_rfl) (by decide) (fun K hK => ?_)
             refine goes_ Try.func54 (by kernel_rfl) rfl #[.slice Ao23 t357.length co23, .int .i64 x7_1] (by rfl) rfl rfl sl ?_
             with_reducible refine (impl_InSpans.calls kj39 _ _ t357 x7_1 t369 _ ?side1 ?side2 A42.out).mono ?_
             (case side1 => repeat (first | exact (Kd.R_reads' HO_4.out).2.2 | (with_reducible refine Kd.C_alloc ?_ _) | (with_reducible refine Kd.C_drewN ?_ _) | (with_reducible refine Kd.C_drew ?_)))
             (case side2 => exact (Kd.R_reads' HO_4.out).2.1)
             rintro e w61 ⟨rfl, hb⟩
             refine ⟨_, rfl, ?_⟩
             replace HO_4 := Aside0.mk (Kd.R_below (sr HO_4) hb)
             replace BK362 := bb BK362 hb
             replace HB := bsw hb
             (try clear hb)
             (try clear hb2)
             (try clear hk)
             (try clear hi)
             refine hK.out _ _ ⟨bc0 BK362, bc1 BK362, bc2 BK362, bc3 BK362, bc4 BK362, bc5 BK362⟩ (fun hHeld => ?_)
             clear hK K
             refine norm_ (a' := ?_) ?_ ?_
             rotate_left
             ·show Act.put _ (some 58) _ = _
              simp only [Act.put, List.setIfInBounds_toArray, List.set_cons_zero, List.set_cons_succ, i64_w, i32_w]
              rfl
             refine one_ (i := 5) (N := some 60) #[true, true, true, true, true, true, false] rfl rfl (by kernel_rfl) (by decide) (fun K hK => ?_)
             refine goes_ Try.func53 (by kernel_rfl) rfl #[.agg #[.int .i64 x363000_1, .int .i64 x363001_1, .int .i64 x363002_1, .int .i64 x363003_1, .int .i64 x363004_1, .int .i64 x363005_1], .bool t369, .int .i64 x8_39] (by rfl) rfl rfl sl ?_
             with_reducible refine (impl_TickBattery.calls x363000_1 x363001_1 x363002_1 x363003_1 x363004_1 x363005_1 t369 x8_39 t370 t371 t372 t373 t374 t375 _ A43.out).mono ?_
             rintro e w62 ⟨rfl, hb⟩
             refine ⟨_, rfl, ?_⟩
             replace HO_4 := Aside0.mk (Kd.R_below (sr HO_4) hb)
             replace BK362 := bb BK362 hb
             replace HB := bsw hb
             (try clear hb)
             (try clear hb2)
             (try clear hk)
             (try clear hi)
             refine hK.out _ _ ⟨bc0 BK362, bc1 BK362, bc2 BK362, bc3 BK362, bc4 BK362, bc5 BK362⟩ (fun hHeld => ?_)
             clear hK K
             refine norm_ (a' := ?_) ?_ ?_
             rotate_left
             ·show Act.put _ (some 60) _ = _
              simp only [Act.put, List.setIfInBounds_toArray, List.set_cons_zero, List.set_cons_succ, i64_w, i32_w]
              rfl
             refine last_ (i := 6) (N := none) #[true, true, true, true, true, true, true] rfl rfl (by kernel_rfl) (by decide) (fun K hK => ?_)
             obtain ⟨hs63, hfs63⟩ := cc1 BK362
             have hs64 := bc1 BK362
             have hfs64 := bf BK362 1
             have hs65 := bc2 BK362
             have hfs65 := bf BK362 2
             have hs66 := bc3 BK362
             have hfs66 := bf BK362 3
             have hs67 := bc4 BK362
             have hfs67 := bf BK362 4
             have hs68 := bc5 BK362
             have hfs68 := bf BK362 5
             refine skip_ (w1 := ?_) (by rfl) rfl ?_ ?_
             rotate_left
             ·go_simp
              rfl
             refine hK.out _ _ ?_
             clear hK K
             refine done_ (by kernel_rfl) ?_
             try go_wp2
             have n0_ : Aside0 (Kd.R k100 100 ((((((w62.setCell ⟨gb362, 0, none⟩ (.int .i64 t370)).setCell ⟨gb362, 1, none⟩ (.int .i64 t371)).setCell ⟨gb362, 2, none⟩ (.int .i64 t372)).setCell ⟨gb362, 3, none⟩ (.int .i64 t373)).setCell ⟨gb362, 4, none⟩ (.int .i64 t374)).setCell ⟨gb362, 5, none⟩ (.int .i64 t375)) w.heap.size (fun _ => True) (.slice Ao23 t357.length co23) t357) := ⟨by (with_reducible repeat (first | apply Kd.R_alloc | apply Kd.R_drewN | apply Kd.R_drew)); exact Kd.R_mono (Kd.R_far (p := ⟨gb362, 5, none⟩) (Kd.R_far (p := ⟨gb362, 4, none⟩) (Kd.R_far (p := ⟨gb362, 3, none⟩) (Kd.R_far (p := ⟨gb362, 2, none⟩) (Kd.R_far (p := ⟨gb362, 1, none⟩) (Kd.R_far (p := ⟨gb362, 0, none⟩) (Kd.R_types HO_4.out BK362.out (by decide)) (fun _ hk => hk.2) (.int .i64 t370)) (fun _ hk => hk.2) (.int .i64 t371)) (fun _ hk => hk.2) (.int .i64 t372)) (fun _ hk => hk.2) (.int .i64 t373)) (fun _ hk => hk.2) (.int .i64 t374)) (fun _ hk => hk.2) (.int .i64 t375)) (fun _ hk => trivial)⟩
             have n1_ : Aside0 (((((((w62.setCell ⟨gb362, 0, none⟩ (.int .i64 t370)).setCell ⟨gb362, 1, none⟩ (.int .i64 t371)).setCell ⟨gb362, 2, none⟩ (.int .i64 t372)).setCell ⟨gb362, 3, none⟩ (.int .i64 t373)).setCell ⟨gb362, 4, none⟩ (.int .i64 t374)).setCell ⟨gb362, 5, none⟩ (.int .i64 t375)).heap[gb362]? = some (.cells #[.int .i64 t370, .int .i64 t371, .int .i64 t372, .int .i64 t373, .int .i64 t374, .int .i64 t375] 27 (0, 0))) := ⟨sp BK362⟩
             have n2_ : Aside0 (Below w.heap.size w ((((((w62.setCell ⟨gb362, 0, none⟩ (.int .i64 t370)).setCell ⟨gb362, 1, none⟩ (.int .i64 t371)).setCell ⟨gb362, 2, none⟩ (.int .i64 t372)).setCell ⟨gb362, 3, none⟩ (.int .i64 t373)).setCell ⟨gb362, 4, none⟩ (.int .i64 t374)).setCell ⟨gb362, 5, none⟩ (.int .i64 t375))) := ⟨sbw⟩
             (try clear HO_4)
             (try clear BK362)
             (try clear HB)
             generalize ((((((w62.setCell ⟨gb362, 0, none⟩ (.int .i64 t370)).setCell ⟨gb362, 1, none⟩ (.int .i64 t371)).setCell ⟨gb362, 2, none⟩ (.int .i64 t372)).setCell ⟨gb362, 3, none⟩ (.int .i64 t373)).setCell ⟨gb362, 4, none⟩ (.int .i64 t374)).setCell ⟨gb362, 5, none⟩ (.int .i64 t375)) = w69 at n0_ n1_ n2_ ⊢
             have HO_4 := n0_
             have BK362 := n1_
             have HB := n2_
             clear n0_ n1_ n2_
             replace HO_4 := Aside0.mk (Kd.R_drew HO_4.out)
             replace BK362 := Aside0.mk (blk_drew BK362.out)
             replace HB := Aside0.mk (below_drew1 HB.out)
             refine start_ (n := 17) (S := fun w' => w'.cell? ⟨gb362, 0, none⟩ = some (.int .i64 t370) ∧ w'.cell? ⟨gb362, 1, none⟩ = some (.int .i64 t371) ∧ w'.cell? ⟨gb362, 2, none⟩ = some (.int .i64 t372) ∧ w'.cell? ⟨gb362, 3, none⟩ = some (.int .i64 t373) ∧ w'.cell? ⟨gb362, 4, none⟩ = some (.int .i64 t374) ∧ w'.cell? ⟨gb362, 5, none⟩ = some (.int .i64 t375)) (ds := []) #[false, false, false, false, false, false, false, false, false, false, false, false, false, false, false, false, false] (by kernel_rfl) rfl rfl ⟨bc0 BK362, bc1 BK362, bc2 BK362, bc3 BK362, bc4 BK362, bc5 BK362⟩ (fun hHeld => ?_); refine with_tabW laws_FnBatteries.tab15 laws_FnBatteries.bits15 (fun HT_ HW_ => ?_)
             generalize w69.drew = w70 at HO_4 BK362 HB hHeld ⊢
             refine put 0 61 #[true, false, false, false, false, false, false, false, false, false, false, false, false, false, false, false, false] HT_ ?_
             refine put 2 63 #[true, false, true, false, false, false, false, false, false, false, false, false, false, false, false, false, false] HT_ ?_
             refine put 5 66 #[true, false, true, false, false, true, false, false, false, false, false, false, false, false, false, false, false] HT_ ?_
             refine put 6 67 #[true, false, true, false, false, true, true, false, false, false, false, false, false, false, false, false, false] HT_ ?_
             refine put 7 68 #[true, false, true, false, false, true, true, true, false, false, false, false, false, false, false, false, false] HT_ ?_
             refine put 8 69 #[true, false, true, false, false, true, true, true, true, false, false, false, false, false, false, false, false] HT_ ?_
             refine tat6 1 62 #[true, true, true, false, false, true, true, true, true, false, false, false, false, false, false, false, false] HT_ HW_ hHeld ?_
             refine tat6 3 64 #[true, true, true, true, false, true, true, true, true, false, false, false, false, false, false, false, false] HT_ HW_ hHeld ?_
             refine tat6 4 65 #[true, true, true, true, true, true, true, true, true, false, false, false, false, false, false, false, false] HT_ HW_ hHeld ?_
             refine one_ (i := 9) (N := some 70) #[true, true, true, true, true, true, true, true, true, true, false, false, false, false, false, false, false] rfl rfl (one_of HT_.out (by kernel_rfl)) (by decide) (fun K hK => ?_)
             refine goes_ Try.func51 (by kernel_rfl) rfl #[.agg #[.int .i64 t370, .int .i64 t371, .int .i64 t372, .int .i64 t373, .int .i64 t374, .int .i64 t375], .slice Ao23 t357.length co23, .int .i64 (wrap64 (x7_1 + 1)), .int .i64 t361] (by rfl) rfl rfl sl ?_
             with_reducible refine (impl_NeedAt.calls kj39 t370 t371 t372 t373 t374 t375 _ _ t357 (wrap64 (x7_1 + 1)) t361 t376 _ ?side1 ?side2 A44.out).mono ?_
             (case side1 => repeat (first | exact (Kd.R_reads' HO_4.out).2.2 | (with_reducible refine Kd.C_alloc ?_ _) | (with_reducible refine Kd.C_drewN ?_ _) | (with_reducible refine Kd.C_drew ?_)))
             (case side2 => exact (Kd.R_reads' HO_4.out).2.1)
             rintro e w71 ⟨rfl, hb⟩
             refine ⟨_, rfl, ?_⟩
             replace HO_4 := Aside0.mk (Kd.R_below (sr HO_4) hb)
             replace BK362 := bb BK362 hb
             replace HB := bsw hb
             (try clear hb)
             (try clear hb2)
             (try clear hk)
             (try clear hi)
             refine hK.out _ _ ⟨bc0 BK362, bc1 BK362, bc2 BK362, bc3 BK362, bc4 BK362, bc5 BK362⟩ (fun hHeld => ?_)
             clear hK K
             refine norm_ (a' := ?_) ?_ ?_
             rotate_left
             ·show Act.put _ (some 70) _ = _
              simp only [Act.put, List.setIfInBounds_toArray, List.set_cons_zero, List.set_cons_succ, i64_w, i32_w]
              rfl
             refine put 10 71 #[true, true, true, true, true, true, true, true, true, true, true, false, false, false, false, false, false] HT_ ?_
             refine put 11 72 #[true, true, true, true, true, true, true, true, true, true, true, true, false, false, false, false, false] HT_ ?_
             refine put 12 73 #[true, true, true, true, true, true, true, true, true, true, true, true, true, false, false, false, false] HT_ ?_
             refine tat6 13 74 #[true, true, true, true, true, true, true, true, true, true, true, true, true, true, false, false, false] HT_ HW_ hHeld ?_
             refine one_ (i := 14) (N := some 75) #[true, true, true, true, true, true, true, true, true, true, true, true, true, true, true, false, false] rfl rfl (one_of HT_.out (by kernel_rfl)) (by decide) (fun K hK => ?_)
             refine goes_ Try.func55 (by kernel_rfl) rfl #[.agg #[.int .i64 t370, .int .i64 t371, .int .i64 t372, .int .i64 t373, .int .i64 t374, .int .i64 t375]] (by rfl) rfl rfl sl ?_
             with_reducible refine (impl_IsBattery.calls t370 t371 t372 t373 t374 t375 true _ A58.out).mono ?_
             rintro e w72 ⟨rfl, hb⟩
             refine ⟨_, rfl, ?_⟩
             replace HO_4 := Aside0.mk (Kd.R_below (sr HO_4) hb)
             replace BK362 := bb BK362 hb
             replace HB := bsw hb
             (try clear hb)
             (try clear hb2)
             (try clear hk)
             (try clear hi)
             refine hK.out _ _ ⟨bc0 BK362, bc1 BK362, bc2 BK362, bc3 BK362, bc4 BK362, bc5 BK362⟩ (fun hHeld => ?_)
             clear hK K
             refine norm_ (a' := ?_) ?_ ?_
             rotate_left
             ·show Act.put _ (some 75) _ = _
              simp only [Act.put, List.setIfInBounds_toArray, List.set_cons_zero, List.set_cons_succ, i64_w, i32_w]
              rfl
             refine put 15 76 #[true, true, true, true, true, true, true, true, true, true, true, true, true, true, true, true, false] HT_ ?_
             refine put 16 77 #[true, true, true, true, true, true, true, true, true, true, true, true, true, true, true, true, true] HT_ ?_
             refine done_ (done_of HT_.out (by kernel_rfl)) ?_
             try go_wp2
             go_roundg kj39
             case measure => have := HK1.out; have := HJ28.out; have := HJ39.out; omega
             case rel => exact ⟨(wrap64 (x7_1 + 1)), (t370), (t371), (t372), (t373), (t374), (t375), sc, H', ⟨by have := HK1.out; have := HJ28.out; have := HJ39.out; omega⟩, ⟨sr HO_4⟩, ⟨sk BK362⟩, ⟨sbw⟩⟩
            ·replace H := im H
             obtain rfl := Option.some.inj H
             try go_wp2
             replace HO_4 := Aside0.mk (Kd.R_drew HO_4.out)
             replace BK362 := Aside0.mk (blk_drew BK362.out)
             replace HB := Aside0.mk (below_drew1 HB.out)
             refine start_ (n := 7) (S := fun w' => w'.cell? ⟨gb362, 0, none⟩ = some (.int .i64 x363000_1) ∧ w'.cell? ⟨gb362, 1, none⟩ = some (.int .i64 x363001_1) ∧ w'.cell? ⟨gb362, 2, none⟩ = some (.int .i64 x363002_1) ∧ w'.cell? ⟨gb362, 3, none⟩ = some (.int .i64 x363003_1) ∧ w'.cell? ⟨gb362, 4, none⟩ = some (.int .i64 x363004_1) ∧ w'.cell? ⟨gb362, 5, none⟩ = some (.int .i64 x363005_1)) (ds := [6]) #[false, false, false, false, false, false, false] (by kernel_rfl) rfl rfl ⟨bc0 BK362, bc1 BK362, bc2 BK362, bc3 BK362, bc4 BK362, bc5 BK362⟩ (fun hHeld => ?_)
             generalize wc.drew = w73 at HO_4 BK362 HB hHeld ⊢
             refine pu 1 56 #[false, true, false, false, false, false, false] ?_
             refine pu 2 57 #[false, true, true, false, false, false, false] ?_
             refine pu 4 59 #[false, true, true, false, true, false, false] ?_
             refine ta6 0 55 #[true, true, true, false, true, false, false] hHeld ?_
             refine one_ (i := 3) (N := some 58) #[true, true, true, true, true, false, false] rfl rfl (by kernel_rfl) (by decide) (fun K hK => ?_)
             refine goes_ Try.func54 (by kernel_rfl) rfl #[.slice Ao23 t357.length co23, .int .i64 x7_1] (by rfl) rfl rfl sl ?_
             with_reducible refine (impl_InSpans.calls kj39 _ _ t357 x7_1 t369 _ ?side1 ?side2 A42.out).mono ?_
             (case side1 => repeat (first | exact (Kd.R_reads' HO_4.out).2.2 | (with_reducible refine Kd.C_alloc ?_ _) | (with_reducible refine Kd.C_drewN ?_ _) | (with_reducible refine Kd.C_drew ?_)))
             (case side2 => exact (Kd.R_reads' HO_4.out).2.1)
             rintro e w74 ⟨rfl, hb⟩
             refine ⟨_, rfl, ?_⟩
             replace HO_4 := Aside0.mk (Kd.R_below (sr HO_4) hb)
             replace BK362 := bb BK362 hb
             replace HB := bsw hb
             (try clear hb)
             (try clear hb2)
             (try clear hk)
             (try clear hi)
             refine hK.out _ _ ⟨bc0 BK362, bc1 BK362, bc2 BK362, bc3 BK362, bc4 BK362, bc5 BK362⟩ (fun hHeld => ?_)
             clear hK K
             refine norm_ (a' := ?_) ?_ ?_
             rotate_left
             ·show Act.put _ (some 58) _ = _
              simp only [Act.put, List.setIfInBounds_toArray, List.set_cons_zero, List.set_cons_succ, i64_w, i32_w]
              rfl
             refine one_ (i := 5) (N := some 60) #[true, true, true, true, true, true, false] rfl rfl (by kernel_rfl) (by decide) (fun K hK => ?_)
             refine goes_ Try.func53 (by kernel_rfl) rfl #[.agg #[.int .i64 x363000_1, .int .i64 x363001_1, .int .i64 x363002_1, .int .i64 x363003_1, .int .i64 x363004_1, .int .i64 x363005_1], .bool t369, .int .i64 x8_39] (by rfl) rfl rfl sl ?_
             with_reducible refine (impl_TickBattery.calls x363000_1 x363001_1 x363002_1 x363003_1 x363004_1 x363005_1 t369 x8_39 t370 t371 t372 t373 t374 t375 _ A43.out).mono ?_
             rintro e w75 ⟨rfl, hb⟩
             refine ⟨_, rfl, ?_⟩
             replace HO_4 := Aside0.mk (Kd.R_below (sr HO_4) hb)
             replace BK362 := bb BK362 hb
             replace HB := bsw hb
             (try clear hb)
             (try clear hb2)
             (try clear hk)
             (try clear hi)
             refine hK.out _ _ ⟨bc0 BK362, bc1 BK362, bc2 BK362, bc3 BK362, bc4 BK362, bc5 BK362⟩ (fun hHeld => ?_)
             clear hK K
             refine norm_ (a' := ?_) ?_ ?_
             rotate_left
             ·show Act.put _ (some 60) _ = _
              simp only [Act.put, List.setIfInBounds_toArray, List.set_cons_zero, List.set_cons_succ, i64_w, i32_w]
              rfl
             refine last_ (i := 6) (N := none) #[true, true, true, true, true, true, true] rfl rfl (by kernel_rfl) (by decide) (fun K hK => ?_)
             obtain ⟨hs76, hfs76⟩ := cc1 BK362
             have hs77 := bc1 BK362
             have hfs77 := bf BK362 1
             have hs78 := bc2 BK362
             have hfs78 := bf BK362 2
             have hs79 := bc3 BK362
             have hfs79 := bf BK362 3
             have hs80 := bc4 BK362
             have hfs80 := bf BK362 4
             have hs81 := bc5 BK362
             have hfs81 := bf BK362 5
             refine skip_ (w1 := ?_) (by rfl) rfl ?_ ?_
             rotate_left
             ·go_simp
              rfl
             refine hK.out _ _ ?_
             clear hK K
             refine done_ (by kernel_rfl) ?_
             try go_wp2
             have n0_ : Aside0 (Kd.R k100 100 ((((((w75.setCell ⟨gb362, 0, none⟩ (.int .i64 t370)).setCell ⟨gb362, 1, none⟩ (.int .i64 t371)).setCell ⟨gb362, 2, none⟩ (.int .i64 t372)).setCell ⟨gb362, 3, none⟩ (.int .i64 t373)).setCell ⟨gb362, 4, none⟩ (.int .i64 t374)).setCell ⟨gb362, 5, none⟩ (.int .i64 t375)) w.heap.size (fun _ => True) (.slice Ao23 t357.length co23) t357) := ⟨by (with_reducible repeat (first | apply Kd.R_alloc | apply Kd.R_drewN | apply Kd.R_drew)); exact Kd.R_mono (Kd.R_far (p := ⟨gb362, 5, none⟩) (Kd.R_far (p := ⟨gb362, 4, none⟩) (Kd.R_far (p := ⟨gb362, 3, none⟩) (Kd.R_far (p := ⟨gb362, 2, none⟩) (Kd.R_far (p := ⟨gb362, 1, none⟩) (Kd.R_far (p := ⟨gb362, 0, none⟩) (Kd.R_types HO_4.out BK362.out (by decide)) (fun _ hk => hk.2) (.int .i64 t370)) (fun _ hk => hk.2) (.int .i64 t371)) (fun _ hk => hk.2) (.int .i64 t372)) (fun _ hk => hk.2) (.int .i64 t373)) (fun _ hk => hk.2) (.int .i64 t374)) (fun _ hk => hk.2) (.int .i64 t375)) (fun _ hk => trivial)⟩
             have n1_ : Aside0 (((((((w75.setCell ⟨gb362, 0, none⟩ (.int .i64 t370)).setCell ⟨gb362, 1, none⟩ (.int .i64 t371)).setCell ⟨gb362, 2, none⟩ (.int .i64 t372)).setCell ⟨gb362, 3, none⟩ (.int .i64 t373)).setCell ⟨gb362, 4, none⟩ (.int .i64 t374)).setCell ⟨gb362, 5, none⟩ (.int .i64 t375)).heap[gb362]? = some (.cells #[.int .i64 t370, .int .i64 t371, .int .i64 t372, .int .i64 t373, .int .i64 t374, .int .i64 t375] 27 (0, 0))) := ⟨sp BK362⟩
             have n2_ : Aside0 (Below w.heap.size w ((((((w75.setCell ⟨gb362, 0, none⟩ (.int .i64 t370)).setCell ⟨gb362, 1, none⟩ (.int .i64 t371)).setCell ⟨gb362, 2, none⟩ (.int .i64 t372)).setCell ⟨gb362, 3, none⟩ (.int .i64 t373)).setCell ⟨gb362, 4, none⟩ (.int .i64 t374)).setCell ⟨gb362, 5, none⟩ (.int .i64 t375))) := ⟨sbw⟩
             (try clear HO_4)
             (try clear BK362)
             (try clear HB)
             generalize ((((((w75.setCell ⟨gb362, 0, none⟩ (.int .i64 t370)).setCell ⟨gb362, 1, none⟩ (.int .i64 t371)).setCell ⟨gb362, 2, none⟩ (.int .i64 t372)).setCell ⟨gb362, 3, none⟩ (.int .i64 t373)).setCell ⟨gb362, 4, none⟩ (.int .i64 t374)).setCell ⟨gb362, 5, none⟩ (.int .i64 t375)) = w82 at n0_ n1_ n2_ ⊢
             have HO_4 := n0_
             have BK362 := n1_
             have HB := n2_
             clear n0_ n1_ n2_
             replace HO_4 := Aside0.mk (Kd.R_drew HO_4.out)
             replace BK362 := Aside0.mk (blk_drew BK362.out)
             replace HB := Aside0.mk (below_drew1 HB.out)
             refine start_ (n := 17) (S := fun w' => w'.cell? ⟨gb362, 0, none⟩ = some (.int .i64 t370) ∧ w'.cell? ⟨gb362, 1, none⟩ = some (.int .i64 t371) ∧ w'.cell? ⟨gb362, 2, none⟩ = some (.int .i64 t372) ∧ w'.cell? ⟨gb362, 3, none⟩ = some (.int .i64 t373) ∧ w'.cell? ⟨gb362, 4, none⟩ = some (.int .i64 t374) ∧ w'.cell? ⟨gb362, 5, none⟩ = some (.int .i64 t375)) (ds := []) #[false, false, false, false, false, false, false, false, false, false, false, false, false, false, false, false, false] (by kernel_rfl) rfl rfl ⟨bc0 BK362, bc1 BK362, bc2 BK362, bc3 BK362, bc4 BK362, bc5 BK362⟩ (fun hHeld => ?_); refine with_tabW laws_FnBatteries.tab15 laws_FnBatteries.bits15 (fun HT_ HW_ => ?_)
             generalize w82.drew = w83 at HO_4 BK362 HB hHeld ⊢
             refine put 0 61 #[true, false, false, false, false, false, false, false, false, false, false, false, false, false, false, false, false] HT_ ?_
             refine put 2 63 #[true, false, true, false, false, false, false, false, false, false, false, false, false, false, false, false, false] HT_ ?_
             refine put 5 66 #[true, false, true, false, false, true, false, false, false, false, false, false, false, false, false, false, false] HT_ ?_
             refine put 6 67 #[true, false, true, false, false, true, true, false, false, false, false, false, false, false, false, false, false] HT_ ?_
             refine put 7 68 #[true, false, true, false, false, true, true, true, false, false, false, false, false, false, false, false, false] HT_ ?_
             refine put 8 69 #[true, false, true, false, false, true, true, true, true, false, false, false, false, false, false, false, false] HT_ ?_
             refine tat6 1 62 #[true, true, true, false, false, true, true, true, true, false, false, false, false, false, false, false, false] HT_ HW_ hHeld ?_
             refine tat6 3 64 #[true, true, true, true, false, true, true, true, true, false, false, false, false, false, false, false, false] HT_ HW_ hHeld ?_
             refine tat6 4 65 #[true, true, true, true, true, true, true, true, true, false, false, false, false, false, false, false, false] HT_ HW_ hHeld ?_
             refine one_ (i := 9) (N := some 70) #[true, true, true, true, true, true, true, true, true, true, false, false, false, false, false, false, false] rfl rfl (one_of HT_.out (by kernel_rfl)) (by decide) (fun K hK => ?_)
             refine goes_ Try.func51 (by kernel_rfl) rfl #[.agg #[.int .i64 t370, .int .i64 t371, .int .i64 t372, .int .i64 t373, .int .i64 t374, .int .i64 t375], .slice Ao23 t357.length co23, .int .i64 (wrap64 (x7_1 + 1)), .int .i64 t361] (by rfl) rfl rfl sl ?_
             with_reducible refine (impl_NeedAt.calls kj39 t370 t371 t372 t373 t374 t375 _ _ t357 (wrap64 (x7_1 + 1)) t361 t376 _ ?side1 ?side2 A44.out).mono ?_
             (case side1 => repeat (first | exact (Kd.R_reads' HO_4.out).2.2 | (with_reducible refine Kd.C_alloc ?_ _) | (with_reducible refine Kd.C_drewN ?_ _) | (with_reducible refine Kd.C_drew ?_)))
             (case side2 => exact (Kd.R_reads' HO_4.out).2.1)
             rintro e w84 ⟨rfl, hb⟩
             refine ⟨_, rfl, ?_⟩
             replace HO_4 := Aside0.mk (Kd.R_below (sr HO_4) hb)
             replace BK362 := bb BK362 hb
             replace HB := bsw hb
             (try clear hb)
             (try clear hb2)
             (try clear hk)
             (try clear hi)
             refine hK.out _ _ ⟨bc0 BK362, bc1 BK362, bc2 BK362, bc3 BK362, bc4 BK362, bc5 BK362⟩ (fun hHeld => ?_)
             clear hK K
             refine norm_ (a' := ?_) ?_ ?_
             rotate_left
             ·show Act.put _ (some 70) _ = _
              simp only [Act.put, List.setIfInBounds_toArray, List.set_cons_zero, List.set_cons_succ, i64_w, i32_w]
              rfl
             refine put 10 71 #[true, true, true, true, true, true, true, true, true, true, true, false, false, false, false, false, false] HT_ ?_
             refine put 11 72 #[true, true, true, true, true, true, true, true, true, true, true, true, false, false, false, false, false] HT_ ?_
             refine put 12 73 #[true, true, true, true, true, true, true, true, true, true, true, true, true, false, false, false, false] HT_ ?_
             refine tat6 13 74 #[true, true, true, true, true, true, true, true, true, true, true, true, true, true, false, false, false] HT_ HW_ hHeld ?_
             refine one_ (i := 14) (N := some 75) #[true, true, true, true, true, true, true, true, true, true, true, true, true, true, true, false, false] rfl rfl (one_of HT_.out (by kernel_rfl)) (by decide) (fun K hK => ?_)
             refine goes_ Try.func55 (by kernel_rfl) rfl #[.agg #[.int .i64 t370, .int .i64 t371, .int .i64 t372, .int .i64 t373, .int .i64 t374, .int .i64 t375]] (by rfl) rfl rfl sl ?_
             with_reducible refine (impl_IsBattery.calls t370 t371 t372 t373 t374 t375 false _ A58.out).mono ?_
             rintro e w85 ⟨rfl, hb⟩
             refine ⟨_, rfl, ?_⟩
             replace HO_4 := Aside0.mk (Kd.R_below (sr HO_4) hb)
             replace BK362 := bb BK362 hb
             replace HB := bsw hb
             (try clear hb)
             (try clear hb2)
             (try clear hk)
             (try clear hi)
             refine hK.out _ _ ⟨bc0 BK362, bc1 BK362, bc2 BK362, bc3 BK362, bc4 BK362, bc5 BK362⟩ (fun hHeld => ?_)
             clear hK K
             refine norm_ (a' := ?_) ?_ ?_
             rotate_left
             ·show Act.put _ (some 75) _ = _
              simp only [Act.put, List.setIfInBounds_toArray, List.set_cons_zero, List.set_cons_succ, i64_w, i32_w]
              rfl
             refine put 15 76 #[true, true, true, true, true, true, true, true, true, true, true, true, true, true, true, true, false] HT_ ?_
             refine put 16 77 #[true, true, true, true, true, true, true, true, true, true, true, true, true, true, true, true, true] HT_ ?_
             refine done_ (done_of HT_.out (by kernel_rfl)) ?_
             try go_wp2
             go_ret
             exact ⟨se, sbw⟩
      ·have c28b0 := decide_eq_false c28
       clear c28
       obtain rfl := Option.some.inj H
       go_wp2
       go_ret
       exact ⟨se, sbw⟩
   ·replace H := im H
    obtain rfl := Option.some.inj H
    go_enter Try.func10, Try.ntmps10
    try go_wp2_with (first | ((with_reducible refine gate_callee (f := 34) rfl ?_); refine gL (some 10) Try.func34 #[.slice A0 l0.length c0] ?_; (with_reducible refine (laws_big.calls _ _ l0 false _ ?side1 ?side2 A2.out).mono ?_); (case side1 => repeat (first | exact HR0.out | (with_reducible refine Kd.C_alloc ?_ _) | (with_reducible refine Kd.C_drewN ?_ _) | (with_reducible refine Kd.C_drew ?_))); (case side2 => exact HC0.out); rintro e w' ⟨rfl, ⟨nd, rfl⟩⟩; refine ⟨_, rfl, ?_⟩) | ((with_reducible refine gate_callee (f := 49) rfl ?_); refine gL (some 13) Try.func49 #[.slice A0 l0.length c0] ?_; (with_reducible refine (spec_DrawIsFeasible.calls k _ _ l0 t351 t352 t353 t354 t355 t356 t357 t360 t361 _ ?side1 ?side2 A4.out).mono ?_); (case side1 => repeat (first | exact HR0.out | (with_reducible refine Kd.C_alloc ?_ _) | (with_reducible refine Kd.C_drewN ?_ _) | (with_reducible refine Kd.C_drew ?_))); (case side2 => exact HC0.out); rintro e w86 ⟨v358, rfl, ho0, hb⟩; refine ⟨_, rfl, ?_⟩; have HO359 := Aside0.mk (Kd.R_lower ho0 (below_size (sb))); replace HB := bs hb; (try clear hb); (try clear hb2); (try clear hk); (try clear hi); (try clear ho0)) | ((with_reducible refine gate_dst (N := 3) rfl ?_); refine bx 3 #[.int .i64 0, .int .i64 0, .int .i64 0, .int .i64 0, .int .i64 0, .int .i64 0] 27 ?_; intro gb362 hg w87 hbox hb; replace HO359 := Aside0.mk (Kd.R_below (sr HO359) hb); have GW362 := bz w hg; have GE362 := bz w hg; replace HB := bs hb; have BK362 := Aside0.mk hbox; clear hb hbox hg; obtain ⟨hcz88_0, hcz88_1, hcz88_2, hcz88_3, hcz88_4, hcz88_5, hfz88_0, hfz88_1, hfz88_2, hfz88_3, hfz88_4, hfz88_5⟩ := cc6 BK362))
    have n0_ : Aside0 (Kd.R k100 100 ((((((w87.setCell ⟨gb362, 0, none⟩ (.int .i64 t351)).setCell ⟨gb362, 1, none⟩ (.int .i64 t352)).setCell ⟨gb362, 2, none⟩ (.int .i64 t353)).setCell ⟨gb362, 3, none⟩ (.int .i64 t354)).setCell ⟨gb362, 4, none⟩ (.int .i64 t355)).setCell ⟨gb362, 5, none⟩ (.int .i64 t356)) w.heap.size (fun _ => True) v358 t357) := ⟨by (with_reducible repeat (first | apply Kd.R_alloc | apply Kd.R_drewN | apply Kd.R_drew)); exact Kd.R_mono (Kd.R_far (p := ⟨gb362, 5, none⟩) (Kd.R_far (p := ⟨gb362, 4, none⟩) (Kd.R_far (p := ⟨gb362, 3, none⟩) (Kd.R_far (p := ⟨gb362, 2, none⟩) (Kd.R_far (p := ⟨gb362, 1, none⟩) (Kd.R_far (p := ⟨gb362, 0, none⟩) (Kd.R_types HO359.out BK362.out (by decide)) (fun _ hk => hk.2) (.int .i64 t351)) (fun _ hk => hk.2) (.int .i64 t352)) (fun _ hk => hk.2) (.int .i64 t353)) (fun _ hk => hk.2) (.int .i64 t354)) (fun _ hk => hk.2) (.int .i64 t355)) (fun _ hk => hk.2) (.int .i64 t356)) (fun _ hk => trivial)⟩
    have n1_ : Aside0 (((((((w87.setCell ⟨gb362, 0, none⟩ (.int .i64 t351)).setCell ⟨gb362, 1, none⟩ (.int .i64 t352)).setCell ⟨gb362, 2, none⟩ (.int .i64 t353)).setCell ⟨gb362, 3, none⟩ (.int .i64 t354)).setCell ⟨gb362, 4, none⟩ (.int .i64 t355)).setCell ⟨gb362, 5, none⟩ (.int .i64 t356)).heap[gb362]? = some (.cells #[.int .i64 t351, .int .i64 t352, .int .i64 t353, .int .i64 t354, .int .i64 t355, .int .i64 t356] 27 (0, 0))) := ⟨sp BK362⟩
    have n2_ : Aside0 (Below w.heap.size w ((((((w87.setCell ⟨gb362, 0, none⟩ (.int .i64 t351)).setCell ⟨gb362, 1, none⟩ (.int .i64 t352)).setCell ⟨gb362, 2, none⟩ (.int .i64 t353)).setCell ⟨gb362, 3, none⟩ (.int .i64 t354)).setCell ⟨gb362, 4, none⟩ (.int .i64 t355)).setCell ⟨gb362, 5, none⟩ (.int .i64 t356))) := ⟨sbw⟩
    (try clear HO359)
    (try clear BK362)
    (try clear HB)
    generalize ((((((w87.setCell ⟨gb362, 0, none⟩ (.int .i64 t351)).setCell ⟨gb362, 1, none⟩ (.int .i64 t352)).setCell ⟨gb362, 2, none⟩ (.int .i64 t353)).setCell ⟨gb362, 3, none⟩ (.int .i64 t354)).setCell ⟨gb362, 4, none⟩ (.int .i64 t355)).setCell ⟨gb362, 5, none⟩ (.int .i64 t356)) = w89 at n0_ n1_ n2_ ⊢
    have HO359 := n0_
    have BK362 := n1_
    have HB := n2_
    clear n0_ n1_ n2_
    replace HO359 := Aside0.mk (Kd.R_drew HO359.out)
    replace BK362 := Aside0.mk (blk_drew BK362.out)
    replace HB := Aside0.mk (below_drew1 HB.out)
    obtain ⟨Ao91, co91, eo91⟩ := Kd.R_slice HO359.out
    (first | subst eo91 | (injection eo91 with f1_ f2_ f3_; have f4_ := f1_.symm; have f5_ := f3_.symm; clear f1_ f2_ f3_; subst f4_; subst f5_))
    refine start_ (n := 11) (S := fun w' => w'.cell? ⟨gb362, 0, none⟩ = some (.int .i64 t351) ∧ w'.cell? ⟨gb362, 1, none⟩ = some (.int .i64 t352) ∧ w'.cell? ⟨gb362, 2, none⟩ = some (.int .i64 t353) ∧ w'.cell? ⟨gb362, 3, none⟩ = some (.int .i64 t354) ∧ w'.cell? ⟨gb362, 4, none⟩ = some (.int .i64 t355) ∧ w'.cell? ⟨gb362, 5, none⟩ = some (.int .i64 t356)) (ds := []) #[false, false, false, false, false, false, false, false, false, false, false] (by kernel_rfl) rfl rfl ⟨bc0 BK362, bc1 BK362, bc2 BK362, bc3 BK362, bc4 BK362, bc5 BK362⟩ (fun hHeld => ?_); refine with_tabW laws_FnBatteries.tab4 laws_FnBatteries.bits4 (fun HT_ HW_ => ?_)
    generalize w89.drew = w90 at HO359 BK362 HB hHeld ⊢
    refine put 1 19 #[false, true, false, false, false, false, false, false, false, false, false] HT_ ?_
    refine put 2 20 #[false, true, true, false, false, false, false, false, false, false, false] HT_ ?_
    refine put 3 21 #[false, true, true, true, false, false, false, false, false, false, false] HT_ ?_
    refine put 6 24 #[false, true, true, true, false, false, true, false, false, false, false] HT_ ?_
    refine put 7 25 #[false, true, true, true, false, false, true, true, false, false, false] HT_ ?_
    refine put 8 26 #[false, true, true, true, false, false, true, true, true, false, false] HT_ ?_
    refine tat6 0 18 #[true, true, true, true, false, false, true, true, true, false, false] HT_ HW_ hHeld ?_
    refine tat6 5 23 #[true, true, true, true, false, true, true, true, true, false, false] HT_ HW_ hHeld ?_
    refine one_ (i := 4) (N := some 22) #[true, true, true, true, true, true, true, true, true, false, false] rfl rfl (one_of HT_.out (by kernel_rfl)) (by decide) (fun K hK => ?_)
    refine goes_ Try.func19 (by kernel_rfl) rfl #[.agg #[.int .i64 t351, .int .i64 t352, .int .i64 t353, .int .i64 t354, .int .i64 t355, .int .i64 t356], .slice Ao91 t357.length co91, .int .i64 t360, .int .i64 t361] (by rfl) rfl rfl sl ?_
    with_reducible refine (impl_IsFeasible.calls k t351 t352 t353 t354 t355 t356 _ _ t357 t360 t361 t363 _ ?side1 ?side2 A5.out).mono ?_
    (case side1 => repeat (first | exact (Kd.R_reads' HO359.out).2.2 | (with_reducible refine Kd.C_alloc ?_ _) | (with_reducible refine Kd.C_drewN ?_ _) | (with_reducible refine Kd.C_drew ?_)))
    (case side2 => exact (Kd.R_reads' HO359.out).2.1)
    rintro e w92 ⟨rfl, hb⟩
    refine ⟨_, rfl, ?_⟩
    replace HO359 := Aside0.mk (Kd.R_below (sr HO359) hb)
    replace BK362 := bb BK362 hb
    replace HB := bsw hb
    (try clear hb)
    (try clear hb2)
    (try clear hk)
    (try clear hi)
    refine hK.out _ _ ⟨bc0 BK362, bc1 BK362, bc2 BK362, bc3 BK362, bc4 BK362, bc5 BK362⟩ (fun hHeld => ?_)
    clear hK K
    refine norm_ (a' := ?_) ?_ ?_
    rotate_left
    ·show Act.put _ (some 22) _ = _
     simp only [Act.put, List.setIfInBounds_toArray, List.set_cons_zero, List.set_cons_succ, i64_w, i32_w]
     rfl
    refine one_ (i := 9) (N := some 27) #[true, true, true, true, true, true, true, true, true, true, false] rfl rfl (one_of HT_.out (by kernel_rfl)) (by decide) (fun K hK => ?_)
    refine goes_ Try.func16 (by kernel_rfl) rfl #[.agg #[.int .i64 t351, .int .i64 t352, .int .i64 t353, .int .i64 t354, .int .i64 t355, .int .i64 t356], .slice Ao91 t357.length co91, .int .i64 t360, .int .i64 t361] (by rfl) rfl rfl sl ?_
    with_reducible refine (spec_IsFeasible.calls k t351 t352 t353 t354 t355 t356 _ _ t357 t360 t361 t364 _ ?side1 ?side2 A6.out).mono ?_
    (case side1 => repeat (first | exact (Kd.R_reads' HO359.out).2.2 | (with_reducible refine Kd.C_alloc ?_ _) | (with_reducible refine Kd.C_drewN ?_ _) | (with_reducible refine Kd.C_drew ?_)))
    (case side2 => exact (Kd.R_reads' HO359.out).2.1)
    rintro e w93 ⟨rfl, hb⟩
    refine ⟨_, rfl, ?_⟩
    replace HO359 := Aside0.mk (Kd.R_below (sr HO359) hb)
    replace BK362 := bb BK362 hb
    replace HB := bsw hb
    (try clear hb)
    (try clear hb2)
    (try clear hk)
    (try clear hi)
    refine hK.out _ _ ⟨bc0 BK362, bc1 BK362, bc2 BK362, bc3 BK362, bc4 BK362, bc5 BK362⟩ (fun hHeld => ?_)
    clear hK K
    refine norm_ (a' := ?_) ?_ ?_
    rotate_left
    ·show Act.put _ (some 27) _ = _
     simp only [Act.put, List.setIfInBounds_toArray, List.set_cons_zero, List.set_cons_succ, i64_w, i32_w]
     rfl
    refine put 10 28 #[true, true, true, true, true, true, true, true, true, true, true] HT_ ?_
    refine done_ (done_of HT_.out (by kernel_rfl)) ?_
    obtain ⟨hcz94_0, hcz94_1, hcz94_2, hcz94_3, hcz94_4, hcz94_5, hfz94_0, hfz94_1, hfz94_2, hfz94_3, hfz94_4, hfz94_5⟩ := cc6 BK362
    try go_wp2_with (first | ((with_reducible refine gate_callee (f := 19) rfl ?_); refine gL (some 33) Try.func19 #[.agg #[.int .i64 t351, .int .i64 t352, .int .i64 t353, .int .i64 t354, .int .i64 t355, .int .i64 t356], .slice Ao91 t357.length co91, .int .i64 t360, .int .i64 t361] ?_; (with_reducible refine (impl_IsFeasible.calls k t351 t352 t353 t354 t355 t356 _ _ t357 t360 t361 false _ ?side1 ?side2 A16.out).mono ?_); (case side1 => repeat (first | exact (Kd.R_reads' HO359.out).2.2 | (with_reducible refine Kd.C_alloc ?_ _) | (with_reducible refine Kd.C_drewN ?_ _) | (with_reducible refine Kd.C_drew ?_))); (case side2 => exact (Kd.R_reads' HO359.out).2.1); rintro e w95 ⟨rfl, hb⟩; refine ⟨_, rfl, ?_⟩; replace HO359 := Aside0.mk (Kd.R_below (sr HO359) hb); replace BK362 := bb BK362 hb; replace HB := bsw hb; (try clear hb); (try clear hb2); (try clear hk); (try clear hi)))
    go_ret
    exact ⟨se, sbw⟩

/-- THE ONE PURE STATEMENT of laws_FnBatteries: yours. -/
def laws_FnBatteries.Pure : Prop := ∀ (l0 : List Int), l0.length ≤ maxLen → l0.length * 1 ≤ 140737488351232 → (∀ x ∈ l0, (Lit.int .u8 x).wf = true) → ∃ k, laws_FnBatteries.f k l0 = some true
theorem laws_FnBatteries.walk (P : laws_FnBatteries.Pure) (a0 : Option Addr) (len0 cap0 : Nat) (z0 : List Int) (w : World) (w0 : (a0 = none ∧ len0 = 0 ∧ cap0 = 0 ∧ z0 = []) ∨ ∃ x, a0 = some x ∧ len0 ≤ cap0 ∧ cap0 ≤ maxLen ∧ z0.length = cap0 ∧ (∀ i, i < z0.length → w.cell? (x.add i) = some (.int .u8 (z0.getD i 0))) ∧ ∀ n ∈ z0, (Lit.int .u8 n).wf = true) (y0 : len0 * 1 ≤ 140737488351232) :
    Calls Try.prog 10 #[.slice a0 len0 cap0] w fun e w' => e = .returned (.bool true) ∧ Below w.heap.size w w' := by
 obtain ⟨l0, rfl, hr0, hm0, hw0, hc0⟩ := ReadsInt.ofRowC w0
 obtain ⟨k, h⟩ := P l0 hm0 y0 hw0
 refine (laws_FnBatteries.calls k _ _ l0 true w (Kd.C_of_reads (d := (0 : Int)) (h1 := fun _ => rfl) hr0) hc0 h).mono ?_
 rintro e w' ⟨rfl, hd⟩
 exact ⟨rfl, hd⟩

end Go.Proofs.Ytaciciobhfoglaa.QFnBatteries
