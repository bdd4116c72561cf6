/- What the Go functions of the law FnForecasts come to, as Lean functions, and that they do: by a program of the session, out of the kit's printer. Conditions: none. (squeezed). -/
import Derived.Test.YtaciciobhfoglaaSq
import Derived.Test.YtaciciobhfoglaaQFnForecastsx0
import Derived.Test.YtaciciobhfoglaaQFnForecastsx1
import Derived.Test.YtaciciobhfoglaaQFnForecastsx2
import Derived.Test.YtaciciobhfoglaaQFnForecastsx4
import Derived.Test.YtaciciobhfoglaaQFnForecastsx6
import Derived.Test.YtaciciobhfoglaaQFnForecastsx7
import Derived.Test.YtaciciobhfoglaaQFnForecastsx8
namespace Go.Proofs.Ytaciciobhfoglaa.QFnForecasts
open Go.RowKit Go.Proofs.YtaciciobhfoglaaW.PrintWords Go.Proofs.YtaciciobhfoglaaW.PrintLast Go.Proofs.YtaciciobhfoglaaW.PrintMore Go.Proofs.Ytaciciobhfoglaa.Open Go.Proofs.Ytaciciobhfoglaa.Sq
attribute [local go_sem] max2_int min2_int max_two min_two max_three min_three max_four min_four   -- for this text's walks alone
attribute [local go_sem] isSome_set
set_option linter.unusedVariables false
set_option linter.unusedSimpArgs false

/-! ### laws_FnForecasts: function 11 -/
mutual
def laws_FnForecasts.j0 : Nat → List Int → Int → List Int → Bool → Option (Bool)
  | 0, _, _, _, _ => none
  | k + 1, x0, x7, x8, x54 => if x54 = true then (some false) else (laws_FnForecasts.l0 k x0 x7 x8 0)
def laws_FnForecasts.l0 : Nat → List Int → Int → List Int → Int → Option (Bool)
  | 0, _, _, _, _ => none
  | k + 1, x0, x7, x8, x9 => if x9 < (x8.length : Int) then (if 0 ≤ x9 then (if (rd x8 x9) < 0 then (some false) else (if (rd x8 x9) > x7 then (some false) else (laws_FnForecasts.l0 k x0 x7 x8 (wrap64 (x9 + 1))))) else (none)) else ((spec_DrawForecastOf.f k x0).bind fun bt468 => ((impl_ForecastOf.f k bt468.1 bt468.2.1 bt468.2.2.1 bt468.2.2.2.1 bt468.2.2.2.2.1 bt468.2.2.2.2.2.1 bt468.2.2.2.2.2.2.1 bt468.2.2.2.2.2.2.2.1 bt468.2.2.2.2.2.2.2.2).bind fun t482 => ((impl_LowestOf.f k bt468.1 bt468.2.1 bt468.2.2.1 bt468.2.2.2.1 bt468.2.2.2.2.1 bt468.2.2.2.2.2.1 bt468.2.2.2.2.2.2.1 bt468.2.2.2.2.2.2.2.1 bt468.2.2.2.2.2.2.2.2).bind fun t485 => (laws_FnForecasts.l1 k x0 bt468.2.2.2.2.2.2.2.2 t482 t485 false 0 bt468.1 bt468.2.1 bt468.2.2.1 bt468.2.2.2.1 bt468.2.2.2.2.1 bt468.2.2.2.2.2.1))))
def laws_FnForecasts.l1 : Nat → List Int → List Int → List Int → Int → Bool → Int → Int → Int → Int → Int → Int → Int → Option (Bool)
  | 0, _, _, _, _, _, _, _, _, _, _, _, _ => none
  | k + 1, x0, x13, x14, x15, x16, x17, x482000, x482001, x482002, x482003, x482004, x482005 => if x17 < (x14.length : Int) then (if x16 = true then (if 0 ≤ x17 then (if (rd x14 x17) < x15 then (some false) else (laws_FnForecasts.l1 k x0 x13 x14 x15 true (wrap64 (x17 + 1)) x482000 x482001 x482002 x482003 x482004 x482005)) else (none)) else (if 0 ≤ x17 then (if (rd x14 x17) < x15 then (some false) else (laws_FnForecasts.l1 k x0 x13 x14 x15 ((rd x14 x17) == x15) (wrap64 (x17 + 1)) x482000 x482001 x482002 x482003 x482004 x482005)) else (none))) else ((spec_DrawSendsLeft.f k x0).bind fun bt489 => (if x16 = true then (if (x14.length : Int) = (wrap64 ((x13.length : Int) + 1)) then (if 0 < (x14.length : Int) then (if (rd x14 0) = x482000 then ((impl_SendsLeft.f k bt489.1 bt489.2.1 bt489.2.2.1 bt489.2.2.2.1 bt489.2.2.2.2.1 bt489.2.2.2.2.2.1 bt489.2.2.2.2.2.2).bind fun t498 => ((impl_MaySend.f bt489.1 bt489.2.1 bt489.2.2.1 bt489.2.2.2.1 bt489.2.2.2.2.1 bt489.2.2.2.2.2.1 bt489.2.2.2.2.2.2).bind fun t499 => (some ((decide (t498 > 0)) == t499)))) else (some false)) else (none)) else (some false)) else (some false)))
end
def laws_FnForecasts.f (k : Nat) (l0 : List Int) : Option (Bool) := (laws_big.f l0).bind fun t448 => (if t448 = true then (some true) else ((spec_DrawSafeSends.f k l0).bind fun bt449 => ((impl_SafeSends.f k bt449.1 bt449.2.1 bt449.2.2.1 bt449.2.2.2.1 bt449.2.2.2.2.1 bt449.2.2.2.2.2.1 bt449.2.2.2.2.2.2.1 bt449.2.2.2.2.2.2.2.1 bt449.2.2.2.2.2.2.2.2.1 bt449.2.2.2.2.2.2.2.2.2).bind fun t462 => (if (t462.length : Int) > 0 then ((impl_IsSafeCourse.f k bt449.1 bt449.2.1 bt449.2.2.1 bt449.2.2.2.1 bt449.2.2.2.2.1 bt449.2.2.2.2.2.1 bt449.2.2.2.2.2.2.1 bt449.2.2.2.2.2.2.2.1 t462).bind fun t465 => (if t465 = true then (laws_FnForecasts.j0 k l0 bt449.2.2.2.2.2.2.2.2.2 t462 ((t462.length : Int) != (wrap64 (bt449.2.2.2.2.2.2.2.2.1 - bt449.2.2.2.2.2.2.2.1)))) else (laws_FnForecasts.j0 k l0 bt449.2.2.2.2.2.2.2.2.2 t462 true))) else (laws_FnForecasts.j0 k l0 bt449.2.2.2.2.2.2.2.2.2 t462 false)))))
theorem laws_FnForecasts.mono_l : ∀ k, (∀ y0 y1 y2 y3, LeO (laws_FnForecasts.j0 k y0 y1 y2 y3) (laws_FnForecasts.j0 (k + 1) y0 y1 y2 y3)) ∧ (∀ y0 y1 y2 y3, LeO (laws_FnForecasts.l0 k y0 y1 y2 y3) (laws_FnForecasts.l0 (k + 1) y0 y1 y2 y3)) ∧ (∀ y0 y1 y2 y3 y4 y5 y6 y7 y8 y9 y10 y11, LeO (laws_FnForecasts.l1 k y0 y1 y2 y3 y4 y5 y6 y7 y8 y9 y10 y11) (laws_FnForecasts.l1 (k + 1) y0 y1 y2 y3 y4 y5 y6 y7 y8 y9 y10 y11))
  | 0 => ⟨fun _ _ _ _ r h => by simp [laws_FnForecasts.j0] at h, fun _ _ _ _ r h => by simp [laws_FnForecasts.l0] at h, fun _ _ _ _ _ _ _ _ _ _ _ _ r h => by simp [laws_FnForecasts.l1] at h⟩
  | k + 1 => by
    obtain ⟨ih0, ih1, ih2⟩ := laws_FnForecasts.mono_l k
    refine ⟨?_, ?_, ?_⟩
    · intro y0 y1 y2 y3
      unfold laws_FnForecasts.j0
      have m0 := @impl_ForecastOf.mono
      have m1 := @impl_IsSafeCourse.mono
      have m2 := @impl_LowestOf.mono
      have m3 := @impl_SafeSends.mono
      have m4 := @impl_SendsLeft.mono
      have m5 := @spec_DrawForecastOf.mono
      have m6 := @spec_DrawSafeSends.mono
      have m7 := @spec_DrawSendsLeft.mono
      exact mo
    · intro y0 y1 y2 y3
      unfold laws_FnForecasts.l0
      have m0 := @impl_ForecastOf.mono
      have m1 := @impl_IsSafeCourse.mono
      have m2 := @impl_LowestOf.mono
      have m3 := @impl_SafeSends.mono
      have m4 := @impl_SendsLeft.mono
      have m5 := @spec_DrawForecastOf.mono
      have m6 := @spec_DrawSafeSends.mono
      have m7 := @spec_DrawSendsLeft.mono
      exact mo
    · intro y0 y1 y2 y3 y4 y5 y6 y7 y8 y9 y10 y11
      unfold laws_FnForecasts.l1
      have m0 := @impl_ForecastOf.mono
      have m1 := @impl_IsSafeCourse.mono
      have m2 := @impl_LowestOf.mono
      have m3 := @impl_SafeSends.mono
      have m4 := @impl_SendsLeft.mono
      have m5 := @spec_DrawForecastOf.mono
      have m6 := @spec_DrawSafeSends.mono
      have m7 := @spec_DrawSendsLeft.mono
      exact mo
theorem laws_FnForecasts.mono : ∀ a0 k, LeO (laws_FnForecasts.f k a0) (laws_FnForecasts.f (k + 1) a0) := by
  intro a0 k
  obtain ⟨ih0, ih1, ih2⟩ := laws_FnForecasts.mono_l k
  unfold laws_FnForecasts.f
  have m0 := @impl_ForecastOf.mono
  have m1 := @impl_IsSafeCourse.mono
  have m2 := @impl_LowestOf.mono
  have m3 := @impl_SafeSends.mono
  have m4 := @impl_SendsLeft.mono
  have m5 := @spec_DrawForecastOf.mono
  have m6 := @spec_DrawSafeSends.mono
  have m7 := @spec_DrawSendsLeft.mono
  exact mo
def laws_FnForecasts.T23 : Bool × List (List Nat × List Nat) := (true, [([], []), ([0], [0]), ([1], [1]), ([2, 1], [1, 2]), ([1], [1]), ([4, 1], [1, 4]), ([5, 1], [1, 5]), ([3, 6, 1], [1, 3, 6]), ([1, 7], [1, 7]), ([8, 1], [8]), ([9], [9]), ([10, 9], [9, 10]), ([11, 9], [9, 11]), ([9], [9]), ([13, 9], [9, 13]), ([12, 14, 9], [9, 12, 14]), ([9, 15], [9, 15]), ([16, 9], [16]), ([17], [17]), ([17], [17]), ([18, 19, 17, 17], [17, 18, 19]), ([20, 17], [17, 20]), ([17], [17]), ([17], [17]), ([22, 23, 20, 17], [17, 22, 23]), ([21, 24, 17], [17, 21, 24]), ([17, 25], [17, 25]), ([26, 24, 0, 1, 2, 3, 4, 5, 6, 7, 8, 9, 10, 11, 12, 13, 14, 15, 16, 17, 18, 19, 20, 21, 22, 23, 24, 25, 26], [26])])
def laws_FnForecasts.B23 : List Nat := [0, 1, 3, 7, 3, 19, 51, 127, 255, 511, 1023, 2047, 4095, 1023, 9215, 32767, 65535, 131071, 262143, 262143, 1048575, 2097151, 262143, 262143, 14680063, 33554431, 67108863, 134217727]
theorem laws_FnForecasts.tab23 : rtab .any (opsOf Try.f11 23) = laws_FnForecasts.T23 := by kernel_rfl
theorem laws_FnForecasts.bits23 : waitsOk laws_FnForecasts.T23.2 laws_FnForecasts.B23 = true := by kernel_rfl
set_option maxHeartbeats 8000000 in
set_option maxRecDepth 100000 in
theorem laws_FnForecasts.calls (k : Nat) (A0 : Option Addr) (c0 : Nat) (l0 : List Int) (r : Bool) (w : World) (hr0 : Kd.C (Kd.int .u8) w A0 l0.length l0) (hc0 : l0.length ≤ c0) (h : laws_FnForecasts.f k l0 = some r) :
    Calls Try.prog 11 #[.slice A0 l0.length c0] w fun e w' => e = .returned (.bool r) ∧ Below w.heap.size w w' := by
 have hu27 := Try.underlying27
 have HR0 := Aside0.mk hr0
 have HC0 := Aside0.mk hc0
 clear hr0 hc0
 have HB := Aside0.mk (Below.refl w.heap.size w)
 have H : ((laws_big.f l0).bind fun t448 => (if t448 = true then (some true) else ((spec_DrawSafeSends.f k l0).bind fun bt449 => ((impl_SafeSends.f k bt449.1 bt449.2.1 bt449.2.2.1 bt449.2.2.2.1 bt449.2.2.2.2.1 bt449.2.2.2.2.2.1 bt449.2.2.2.2.2.2.1 bt449.2.2.2.2.2.2.2.1 bt449.2.2.2.2.2.2.2.2.1 bt449.2.2.2.2.2.2.2.2.2).bind fun t462 => (if (t462.length : Int) > 0 then ((impl_IsSafeCourse.f k bt449.1 bt449.2.1 bt449.2.2.1 bt449.2.2.2.1 bt449.2.2.2.2.1 bt449.2.2.2.2.2.1 bt449.2.2.2.2.2.2.1 bt449.2.2.2.2.2.2.2.1 t462).bind fun t465 => (if t465 = true then (laws_FnForecasts.j0 k l0 bt449.2.2.2.2.2.2.2.2.2 t462 ((t462.length : Int) != (wrap64 (bt449.2.2.2.2.2.2.2.2.1 - bt449.2.2.2.2.2.2.2.1)))) else (laws_FnForecasts.j0 k l0 bt449.2.2.2.2.2.2.2.2.2 t462 true))) else (laws_FnForecasts.j0 k l0 bt449.2.2.2.2.2.2.2.2.2 t462 false)))))) = some r := h
 clear h
 obtain ⟨t448, A2, H⟩ := bnd H
 obtain rfl | rfl := tt t448
 ·replace H := ip H
  obtain rfl := Option.some.inj H
  go_enter Try.func11, Try.ntmps11
  go_wp2_with (first | ((with_reducible refine gate_callee (f := 34) rfl ?_); refine gL (some 21) Try.func34 #[.slice A0 l0.length c0] ?_; (with_reducible refine (laws_big.calls _ _ l0 true _ ?side1 ?side2 A2.out).mono ?_); (case side1 => repeat (first | exact HR0.out | (with_reducible refine Kd.C_alloc ?_ _) | (with_reducible refine Kd.C_drewN ?_ _) | (with_reducible refine Kd.C_drew ?_))); (case side2 => exact HC0.out); rintro e w' ⟨rfl, ⟨nd, rfl⟩⟩; refine ⟨_, rfl, ?_⟩))
  go_ret
  exact ⟨se, sb⟩
 ·replace H := im H
  obtain ⟨⟨t449, t450, t451, t452, t453, t454, t455, t458, t459, t460⟩, A4, H⟩ := bnd H
  replace H : ((impl_SafeSends.f k t449 t450 t451 t452 t453 t454 t455 t458 t459 t460).bind fun t462 => (if (t462.length : Int) > 0 then ((impl_IsSafeCourse.f k t449 t450 t451 t452 t453 t454 t455 t458 t462).bind fun t465 => (if t465 = true then (laws_FnForecasts.j0 k l0 t460 t462 ((t462.length : Int) != (wrap64 (t459 - t458)))) else (laws_FnForecasts.j0 k l0 t460 t462 true))) else (laws_FnForecasts.j0 k l0 t460 t462 false))) = some r := H
  obtain ⟨t462, A5, H⟩ := bnd H
  have HC6 := Aside0.mk H
  clear H
  go_enter Try.func11, Try.ntmps11
  go_upto_region 5 with (first | ((with_reducible refine gate_callee (f := 34) rfl ?_); refine gL (some 21) Try.func34 #[.slice A0 l0.length c0] ?_; (with_reducible refine (laws_big.calls _ _ l0 false _ ?side1 ?side2 A2.out).mono ?_); (case side1 => repeat (first | exact HR0.out | (with_reducible refine Kd.C_alloc ?_ _) | (with_reducible refine Kd.C_drewN ?_ _) | (with_reducible refine Kd.C_drew ?_))); (case side2 => exact HC0.out); rintro e w' ⟨rfl, ⟨nd, rfl⟩⟩; refine ⟨_, rfl, ?_⟩) | ((with_reducible refine gate_callee (f := 56) rfl ?_); refine gL (some 24) Try.func56 #[.slice A0 l0.length c0] ?_; (with_reducible refine (spec_DrawSafeSends.calls k _ _ l0 t449 t450 t451 t452 t453 t454 t455 t458 t459 t460 _ ?side1 ?side2 A4.out).mono ?_); (case side1 => repeat (first | exact HR0.out | (with_reducible refine Kd.C_alloc ?_ _) | (with_reducible refine Kd.C_drewN ?_ _) | (with_reducible refine Kd.C_drew ?_))); (case side2 => exact HC0.out); rintro e w7 ⟨v456, rfl, ho0, hb⟩; refine ⟨_, rfl, ?_⟩; have HO457 := Aside0.mk (Kd.R_lower ho0 (below_size (sb))); replace HB := bs hb; (try clear hb); (try clear hb2); (try clear hk); (try clear hi); (try clear ho0)) | ((with_reducible refine gate_dst (N := 3) rfl ?_); (try (refine gate_guard (by rfl) ?_; dsimp only)); refine bx 3 #[.int .i64 0, .int .i64 0, .int .i64 0, .int .i64 0, .int .i64 0, .int .i64 0] 27 ?_; intro gb461 hg w8 hbox hb; replace HO457 := Aside0.mk (Kd.R_below (sr HO457) hb); have GW461 := bz w hg; have GE461 := bz w hg; replace HB := bs hb; have BK461 := Aside0.mk hbox; clear hb hbox hg; obtain ⟨hcz9_0, hcz9_1, hcz9_2, hcz9_3, hcz9_4, hcz9_5, hfz9_0, hfz9_1, hfz9_2, hfz9_3, hfz9_4, hfz9_5⟩ := cc6 BK461; obtain ⟨Ao10, co10, eo10⟩ := Kd.R_slice HO457.out; subst eo10) | ((with_reducible refine gate_callee (f := 57) rfl ?_); refine gL (some 35) Try.func57 #[.agg #[.int .i64 t449, .int .i64 t450, .int .i64 t451, .int .i64 t452, .int .i64 t453, .int .i64 t454], .slice Ao10 t455.length co10, .int .i64 t458, .int .i64 t459, .int .i64 t460] ?_; (with_reducible refine (impl_SafeSends.calls k t449 t450 t451 t452 t453 t454 _ _ t455 t458 t459 t460 t462 _ ?side1 ?side2 A5.out).mono ?_); (case side1 => refine (Kd.R_reads' (e := 100) (base := w.heap.size) (ok := fun k_ => True) (n := t455.length) (c := co10) ?_).2.2; exact (by (with_reducible repeat (first | apply Kd.R_alloc | apply Kd.R_drewN | apply Kd.R_drew)); exact (Kd.R_mono (Kd.R_far (p := ⟨gb461, 5, none⟩) (Kd.R_far (p := ⟨gb461, 4, none⟩) (Kd.R_far (p := ⟨gb461, 3, none⟩) (Kd.R_far (p := ⟨gb461, 2, none⟩) (Kd.R_far (p := ⟨gb461, 1, none⟩) (Kd.R_far (p := ⟨gb461, 0, none⟩) (Kd.R_types HO457.out BK461.out (by decide)) (fun _ hk => hk.2) (.int .i64 t449)) (fun _ hk => hk.2) (.int .i64 t450)) (fun _ hk => hk.2) (.int .i64 t451)) (fun _ hk => hk.2) (.int .i64 t452)) (fun _ hk => hk.2) (.int .i64 t453)) (fun _ hk => hk.2) (.int .i64 t454)) (fun _ h_ => h_.1)))); (case side2 => exact (Kd.R_reads' HO457.out).2.1); rintro e w11 ⟨v463, rfl, ho0, hb⟩; refine ⟨_, rfl, ?_⟩; replace HO457 := Aside0.mk (Kd.R_below (by (with_reducible repeat (first | apply Kd.R_alloc | apply Kd.R_drewN | apply Kd.R_drew)); exact (Kd.R_mono (Kd.R_far (p := ⟨gb461, 5, none⟩) (Kd.R_far (p := ⟨gb461, 4, none⟩) (Kd.R_far (p := ⟨gb461, 3, none⟩) (Kd.R_far (p := ⟨gb461, 2, none⟩) (Kd.R_far (p := ⟨gb461, 1, none⟩) (Kd.R_far (p := ⟨gb461, 0, none⟩) (Kd.R_types HO457.out BK461.out (by decide)) (fun _ hk => hk.2) (.int .i64 t449)) (fun _ hk => hk.2) (.int .i64 t450)) (fun _ hk => hk.2) (.int .i64 t451)) (fun _ hk => hk.2) (.int .i64 t452)) (fun _ hk => hk.2) (.int .i64 t453)) (fun _ hk => hk.2) (.int .i64 t454)) (fun _ h_ => h_.1))) hb); have HO464 := Aside0.mk (Kd.R_lower ho0 (below_size (sbw))); replace BK461 := Aside0.mk (blk_below (g := gb461) (o := .cells #[.int .i64 t449, .int .i64 t450, .int .i64 t451, .int .i64 t452, .int .i64 t453, .int .i64 t454] 27 (0, 0)) (sp BK461) hb); replace HB := bsw hb; (try clear hb); (try clear hb2); (try clear hk); (try clear hi); (try clear ho0)))
  (try simp only [Act.put, List.setIfInBounds_toArray, List.set_cons_zero, List.set_cons_succ])
  go_cut [54] (fun v54 wc => ∃ (kq : Nat) (x54_5 : Bool), v54 = .bool x54_5 ∧ Aside0 (laws_FnForecasts.j0 kq l0 t460 t462 x54_5 = some r) ∧ Aside0 (kq ≤ k) ∧ Aside0 (Kd.R (Kd.int .i64) 3 wc w.heap.size (fun _ => True) v463 t462) ∧ Aside0 (wc.heap[gb461]? = some (.cells #[.int .i64 t449, .int .i64 t450, .int .i64 t451, .int .i64 t452, .int .i64 t453, .int .i64 t454] 27 (0, 0))) ∧ Aside0 (Below w.heap.size w wc))
  case first =>
   have H := HC6.out
   clear HC6
   obtain ⟨c12, H⟩ | ⟨c12, H⟩ := ie_ H
   ·have c12b0 := decide_eq_true c12
    have c12b1 : decide (0 < t462.length) = true := decide_eq_true (by omega)
    clear c12
    (first | rw [c12b0] | (simp only [i64_w, i32_w]; rw [c12b0]) | skip)
    obtain ⟨t465, A13, H⟩ := bnd H
    obtain rfl | rfl := tt t465
    ·replace H := ip H
     have H' := Aside0.mk H
     clear H
     obtain ⟨Ao15, co15, eo15⟩ := Kd.R_slice HO464.out
     subst eo15
     obtain ⟨hcz16_0, hcz16_1, hcz16_2, hcz16_3, hcz16_4, hcz16_5, hfz16_0, hfz16_1, hfz16_2, hfz16_3, hfz16_4, hfz16_5⟩ := cc6 BK461
     go_wp2_with (first | (go_at_call 48; (with_reducible refine (impl_IsSafeCourse.calls k t449 t450 t451 t452 t453 t454 _ _ t455 t458 _ _ t462 true _ ?side1 ?side2 ?side3 ?side4 A13.out).mono ?_); (case side1 => repeat (first | exact (Kd.R_reads' HO457.out).2.2 | (with_reducible refine Kd.C_alloc ?_ _) | (with_reducible refine Kd.C_drewN ?_ _) | (with_reducible refine Kd.C_drew ?_))); (case side2 => exact (Kd.R_reads' HO457.out).2.1); (case side3 => repeat (first | exact (Kd.R_reads' HO464.out).2.2 | (with_reducible refine Kd.C_alloc ?_ _) | (with_reducible refine Kd.C_drewN ?_ _) | (with_reducible refine Kd.C_drew ?_))); (case side4 => exact (Kd.R_reads' HO464.out).2.1); rintro e w17 ⟨rfl, hb⟩; replace HO457 := Aside0.mk (Kd.R_below (sr HO457) hb); replace HO464 := Aside0.mk (Kd.R_below (sr HO464) hb); replace BK461 := bb BK461 hb; replace HB := bsw hb; (try clear hb); (try clear hb2); (try clear hk); (try clear hi)))
     go_meet
     case rel => exact ⟨_, (((t462.length : Int) != (wrap64 (t459 - t458)))), sc, H', ⟨by first | omega | exact Nat.le_refl _⟩, ⟨sr HO464⟩, ⟨sk BK461⟩, ⟨sbw⟩⟩
    ·replace H := im H
     have H' := Aside0.mk H
     clear H
     obtain ⟨Ao18, co18, eo18⟩ := Kd.R_slice HO464.out
     subst eo18
     obtain ⟨hcz19_0, hcz19_1, hcz19_2, hcz19_3, hcz19_4, hcz19_5, hfz19_0, hfz19_1, hfz19_2, hfz19_3, hfz19_4, hfz19_5⟩ := cc6 BK461
     go_wp2_with (first | (go_at_call 48; (with_reducible refine (impl_IsSafeCourse.calls k t449 t450 t451 t452 t453 t454 _ _ t455 t458 _ _ t462 false _ ?side1 ?side2 ?side3 ?side4 A13.out).mono ?_); (case side1 => repeat (first | exact (Kd.R_reads' HO457.out).2.2 | (with_reducible refine Kd.C_alloc ?_ _) | (with_reducible refine Kd.C_drewN ?_ _) | (with_reducible refine Kd.C_drew ?_))); (case side2 => exact (Kd.R_reads' HO457.out).2.1); (case side3 => repeat (first | exact (Kd.R_reads' HO464.out).2.2 | (with_reducible refine Kd.C_alloc ?_ _) | (with_reducible refine Kd.C_drewN ?_ _) | (with_reducible refine Kd.C_drew ?_))); (case side4 => exact (Kd.R_reads' HO464.out).2.1); rintro e w20 ⟨rfl, hb⟩; replace HO457 := Aside0.mk (Kd.R_below (sr HO457) hb); replace HO464 := Aside0.mk (Kd.R_below (sr HO464) hb); replace BK461 := bb BK461 hb; replace HB := bsw hb; (try clear hb); (try clear hb2); (try clear hk); (try clear hi)))
     go_meet
     case rel => exact ⟨_, (true), sc, H', ⟨by first | omega | exact Nat.le_refl _⟩, ⟨sr HO464⟩, ⟨sk BK461⟩, ⟨sbw⟩⟩
   ·have c12b0 := decide_eq_false c12
    have c12b1 : decide (0 < t462.length) = false := decide_eq_false (by omega)
    clear c12
    (first | rw [c12b0] | (simp only [i64_w, i32_w]; rw [c12b0]) | skip)
    have H' := Aside0.mk H
    clear H
    obtain ⟨Ao21, co21, eo21⟩ := Kd.R_slice HO464.out
    subst eo21
    go_wp2
    go_meet
    case rel => exact ⟨_, (false), sc, H', ⟨by first | omega | exact Nat.le_refl _⟩, ⟨sr HO464⟩, ⟨sk BK461⟩, ⟨sbw⟩⟩
  case rest =>
   clear HC6
   try clear c12
   try clear c12b0
   try clear c12b1
   try clear hcz16_0
   try clear hcz16_1
   try clear hcz16_2
   try clear hcz16_3
   try clear hcz16_4
   try clear hcz16_5
   try clear hcz19_0
   try clear hcz19_1
   try clear hcz19_2
   try clear hcz19_3
   try clear hcz19_4
   try clear hcz19_5
   try clear hfz16_0
   try clear hfz16_1
   try clear hfz16_2
   try clear hfz16_3
   try clear hfz16_4
   try clear hfz16_5
   try clear hfz19_0
   try clear hfz19_1
   try clear hfz19_2
   try clear hfz19_3
   try clear hfz19_4
   try clear hfz19_5
   obtain ⟨kq, x54_5, rfl, HA, HJ5, HO_8, BK461, HB⟩ := hcut
   cases kq with
   | zero => exact absurd HA.out (by simp [laws_FnForecasts.j0])
   | succ kj5 =>
    have H := HA.out
    clear HA
    simp only [laws_FnForecasts.j0] at H
    obtain rfl | rfl := tt x54_5
    ·replace H := ip H
     obtain rfl := Option.some.inj H
     go_wp2
     go_ret
     exact ⟨se, sbw⟩
    ·replace H := im H
     have H' := Aside0.mk H
     clear H
     go_wp2
     go_loopg [9] kj5 (fun kq v9 w' => ∃ (x9_2 : Int), v9 = .int .i64 x9_2 ∧ Aside0 (laws_FnForecasts.l0 kq l0 t460 t462 x9_2 = some r) ∧ Aside0 (kq ≤ kj5) ∧ Aside0 (Kd.R (Kd.int .i64) 3 w' w.heap.size (fun _ => True) v463 t462) ∧ Aside0 (w'.heap[gb461]? = some (.cells #[.int .i64 t449, .int .i64 t450, .int .i64 t451, .int .i64 t452, .int .i64 t453, .int .i64 t454] 27 (0, 0))) ∧ Aside0 (Below w.heap.size w w'))
     case atStart => exact ⟨(0), sc, H', kk0, ⟨sr HO_8⟩, ⟨sk BK461⟩, ⟨sbw⟩⟩
     case round =>
      clear H'
      try clear c12
      try clear c12b0
      try clear c12b1
      try clear hcz16_0
      try clear hcz16_1
      try clear hcz16_2
      try clear hcz16_3
      try clear hcz16_4
      try clear hcz16_5
      try clear hcz19_0
      try clear hcz19_1
      try clear hcz19_2
      try clear hcz19_3
      try clear hcz19_4
      try clear hcz19_5
      try clear hfz16_0
      try clear hfz16_1
      try clear hfz16_2
      try clear hfz16_3
      try clear hfz16_4
      try clear hfz16_5
      try clear hfz19_0
      try clear hfz19_1
      try clear hfz19_2
      try clear hfz19_3
      try clear hfz19_4
      try clear hfz19_5
      obtain ⟨x9_2, rfl, HA, HK2, HO_8, BK461, HB⟩ := hrel
      cases gk with
      | zero => exact absurd HA.out (by simp [laws_FnForecasts.l0])
      | succ k2 =>
       have H := HA.out
       clear HA
       simp only [laws_FnForecasts.l0] at H
       obtain ⟨c23, H⟩ | ⟨c23, H⟩ := ie_ H
       ·have c23b0 := decide_eq_true c23
        clear c23
        obtain ⟨c24b0, H⟩ := id_ H
        obtain ⟨c25, H⟩ | ⟨c25, H⟩ := ie_ H
        ·have c25b0 := decide_eq_true c25
         clear c25
         obtain rfl := Option.some.inj H
         obtain ⟨Ao26, co26, eo26⟩ := Kd.R_slice HO_8.out
         subst eo26
         have p466 : 0 ≤ (x9_2 : Int) := sa
         have q466 : x9_2 < (t462.length : Int) := sa
         obtain ⟨ad466, e466, hx466_0⟩ := Kd.at_int (Kd.R_reads' HO_8.out).2.2 x9_2 p466 q466
         cases e466
         replace p466 := eq_true p466
         replace q466 := eq_true q466
         go_wp2
         go_ret
         exact ⟨se, sbw⟩
        ·have c25b0 := decide_eq_false c25
         clear c25
         obtain ⟨c27, H⟩ | ⟨c27, H⟩ := ie_ H
         ·have c27b0 := decide_eq_true c27
          clear c27
          obtain rfl := Option.some.inj H
          obtain ⟨Ao28, co28, eo28⟩ := Kd.R_slice HO_8.out
          subst eo28
          have p466 : 0 ≤ (x9_2 : Int) := sa
          have q466 : x9_2 < (t462.length : Int) := sa
          obtain ⟨ad466, e466, hx466_0⟩ := Kd.at_int (Kd.R_reads' HO_8.out).2.2 x9_2 p466 q466
          cases e466
          replace p466 := eq_true p466
          replace q466 := eq_true q466
          have p467 : 0 ≤ (x9_2 : Int) := sa
          have q467 : x9_2 < (t462.length : Int) := sa
          obtain ⟨ad467, e467, hx467_0⟩ := Kd.at_int (Kd.R_reads' HO_8.out).2.2 x9_2 p467 q467
          obtain rfl : ad466 = ad467 := (by injection e467)
          replace p467 := eq_true p467
          replace q467 := eq_true q467
          go_wp2
          go_ret
          exact ⟨se, sbw⟩
         ·have c27b0 := decide_eq_false c27
          clear c27
          have H' := Aside0.mk H
          clear H
          obtain ⟨Ao29, co29, eo29⟩ := Kd.R_slice HO_8.out
          subst eo29
          have p466 : 0 ≤ (x9_2 : Int) := sa
          have q466 : x9_2 < (t462.length : Int) := sa
          obtain ⟨ad466, e466, hx466_0⟩ := Kd.at_int (Kd.R_reads' HO_8.out).2.2 x9_2 p466 q466
          cases e466
          replace p466 := eq_true p466
          replace q466 := eq_true q466
          have p467 : 0 ≤ (x9_2 : Int) := sa
          have q467 : x9_2 < (t462.length : Int) := sa
          obtain ⟨ad467, e467, hx467_0⟩ := Kd.at_int (Kd.R_reads' HO_8.out).2.2 x9_2 p467 q467
          obtain rfl : ad466 = ad467 := (by injection e467)
          replace p467 := eq_true p467
          replace q467 := eq_true q467
          go_wp2
          go_roundg k2
          case measure => have := HJ5.out; have := HK2.out; omega
          case rel => exact ⟨(wrap64 (x9_2 + 1)), sc, H', ⟨by have := HJ5.out; have := HK2.out; omega⟩, ⟨sr HO_8⟩, ⟨sk BK461⟩, ⟨sbw⟩⟩
       ·have c23b0 := decide_eq_false c23
        clear c23
        obtain ⟨⟨t468, t469, t470, t471, t472, t473, t474, t477, t478⟩, A30, H⟩ := bnd H
        replace H : ((impl_ForecastOf.f k2 t468 t469 t470 t471 t472 t473 t474 t477 t478).bind fun t482 => ((impl_LowestOf.f k2 t468 t469 t470 t471 t472 t473 t474 t477 t478).bind fun t485 => (laws_FnForecasts.l1 k2 l0 t478 t482 t485 false 0 t468 t469 t470 t471 t472 t473))) = some r := H
        obtain ⟨t482, A31, H⟩ := bnd H
        obtain ⟨t485, A32, H⟩ := bnd H
        have H' := Aside0.mk H
        clear H
        obtain ⟨Ao33, co33, eo33⟩ := Kd.R_slice HO_8.out
        subst eo33
        go_wp2_with (first | ((with_reducible refine gate_callee (f := 58) rfl ?_); refine gL (some 76) Try.func58 #[.slice A0 l0.length c0] ?_; (with_reducible refine (spec_DrawForecastOf.calls k2 _ _ l0 t468 t469 t470 t471 t472 t473 t474 t477 t478 _ ?side1 ?side2 A30.out).mono ?_); (case side1 => exact cb HR0); (case side2 => exact HC0.out); rintro e w34 ⟨v475, v479, rfl, ho0, ho1, hb⟩; refine ⟨_, rfl, ?_⟩; have HO476 := Aside0.mk (Kd.R_lower ho0 (below_size (sbw))); have HO480 := Aside0.mk (Kd.R_lower (Kd.R_new' ho1 (Kd.R_lt (sr HO_8))) (below_size (sbw))); replace HO_8 := Aside0.mk (Kd.R_elder' (sr HO_8) (Kd.R_base ho1) hb); replace BK461 := bb BK461 hb; replace HB := bsw hb; (try clear hb); (try clear hb2); (try clear hk); (try clear hi); (try clear ho0); (try clear ho1)) | ((with_reducible refine gate_dst (N := 10) rfl ?_); (try (refine gate_guard (by rfl) ?_; dsimp only)); refine bx 10 #[.int .i64 0, .int .i64 0, .int .i64 0, .int .i64 0, .int .i64 0, .int .i64 0] 27 ?_; intro gb481 hg w35 hbox hb; replace HO_8 := Aside0.mk (Kd.R_below (sr HO_8) hb); replace HO476 := Aside0.mk (Kd.R_below (sr HO476) hb); replace HO480 := Aside0.mk (Kd.R_below (sr HO480) hb); have GW481 := bzw w hg; have GE481 := bzw w hg; replace HB := bsw hb; have BK481 := Aside0.mk hbox; have NB461_481 := nl BK461 hg; have NB481_461 := ng BK461 hg; replace BK461 := bb BK461 hb; clear hb hbox hg; have hnb36 := NB481_461.out; have hnc36 := NB461_481.out; obtain ⟨hcz37_0, hcz37_1, hcz37_2, hcz37_3, hcz37_4, hcz37_5, hfz37_0, hfz37_1, hfz37_2, hfz37_3, hfz37_4, hfz37_5⟩ := cc6 BK481; obtain ⟨Ao38, co38, eo38⟩ := Kd.R_slice HO476.out; subst eo38; obtain ⟨Ao39, co39, eo39⟩ := Kd.R_slice HO480.out; subst eo39) | ((with_reducible refine gate_callee (f := 45) rfl ?_); refine gL (some 85) Try.func45 #[.agg #[.int .i64 t468, .int .i64 t469, .int .i64 t470, .int .i64 t471, .int .i64 t472, .int .i64 t473], .slice Ao38 t474.length co38, .int .i64 t477, .slice Ao39 t478.length co39] ?_; (with_reducible refine (impl_ForecastOf.calls k2 t468 t469 t470 t471 t472 t473 _ _ t474 t477 _ _ t478 t482 _ ?side1 ?side2 ?side3 ?side4 A31.out).mono ?_); (case side1 => refine (Kd.R_reads' (e := 100) (base := w.heap.size) (ok := fun k_ => True) (n := t474.length) (c := co38) ?_).2.2; exact (by (with_reducible repeat (first | apply Kd.R_alloc | apply Kd.R_drewN | apply Kd.R_drew)); exact (Kd.R_mono (Kd.R_far (p := ⟨gb481, 5, none⟩) (Kd.R_far (p := ⟨gb481, 4, none⟩) (Kd.R_far (p := ⟨gb481, 3, none⟩) (Kd.R_far (p := ⟨gb481, 2, none⟩) (Kd.R_far (p := ⟨gb481, 1, none⟩) (Kd.R_far (p := ⟨gb481, 0, none⟩) (Kd.R_types HO476.out BK481.out (by decide)) (fun _ hk => hk.2) (.int .i64 t468)) (fun _ hk => hk.2) (.int .i64 t469)) (fun _ hk => hk.2) (.int .i64 t470)) (fun _ hk => hk.2) (.int .i64 t471)) (fun _ hk => hk.2) (.int .i64 t472)) (fun _ hk => hk.2) (.int .i64 t473)) (fun _ h_ => h_.1)))); (case side2 => exact (Kd.R_reads' HO476.out).2.1); (case side3 => refine (Kd.R_reads' (e := 3) (base := w.heap.size) (ok := fun k_ => (True ∧ some k_ ≠ (.slice Ao33 t462.length co33 : Value).ownBlock)) (n := t478.length) (c := co39) ?_).2.2; exact (by (with_reducible repeat (first | apply Kd.R_alloc | apply Kd.R_drewN | apply Kd.R_drew)); exact (Kd.R_mono (Kd.R_far (p := ⟨gb481, 5, none⟩) (Kd.R_far (p := ⟨gb481, 4, none⟩) (Kd.R_far (p := ⟨gb481, 3, none⟩) (Kd.R_far (p := ⟨gb481, 2, none⟩) (Kd.R_far (p := ⟨gb481, 1, none⟩) (Kd.R_far (p := ⟨gb481, 0, none⟩) (Kd.R_types HO480.out BK481.out (by decide)) (fun _ hk => hk.2) (.int .i64 t468)) (fun _ hk => hk.2) (.int .i64 t469)) (fun _ hk => hk.2) (.int .i64 t470)) (fun _ hk => hk.2) (.int .i64 t471)) (fun _ hk => hk.2) (.int .i64 t472)) (fun _ hk => hk.2) (.int .i64 t473)) (fun _ h_ => h_.1)))); (case side4 => exact (Kd.R_reads' HO480.out).2.1); rintro e w40 ⟨v483, rfl, ho0, hb⟩; refine ⟨_, rfl, ?_⟩; replace HO476 := Aside0.mk (Kd.R_below (by (with_reducible repeat (first | apply Kd.R_alloc | apply Kd.R_drewN | apply Kd.R_drew)); exact (Kd.R_mono (Kd.R_far (p := ⟨gb481, 5, none⟩) (Kd.R_far (p := ⟨gb481, 4, none⟩) (Kd.R_far (p := ⟨gb481, 3, none⟩) (Kd.R_far (p := ⟨gb481, 2, none⟩) (Kd.R_far (p := ⟨gb481, 1, none⟩) (Kd.R_far (p := ⟨gb481, 0, none⟩) (Kd.R_types HO476.out BK481.out (by decide)) (fun _ hk => hk.2) (.int .i64 t468)) (fun _ hk => hk.2) (.int .i64 t469)) (fun _ hk => hk.2) (.int .i64 t470)) (fun _ hk => hk.2) (.int .i64 t471)) (fun _ hk => hk.2) (.int .i64 t472)) (fun _ hk => hk.2) (.int .i64 t473)) (fun _ h_ => h_.1))) hb); have HO484 := Aside0.mk (Kd.R_lower (Kd.R_new' (Kd.R_new' ho0 (Kd.R_lt (by (with_reducible repeat (first | apply Kd.R_alloc | apply Kd.R_drewN | apply Kd.R_drew)); exact (Kd.R_mono (Kd.R_far (p := ⟨gb481, 5, none⟩) (Kd.R_far (p := ⟨gb481, 4, none⟩) (Kd.R_far (p := ⟨gb481, 3, none⟩) (Kd.R_far (p := ⟨gb481, 2, none⟩) (Kd.R_far (p := ⟨gb481, 1, none⟩) (Kd.R_far (p := ⟨gb481, 0, none⟩) (Kd.R_types HO_8.out BK481.out (by decide)) (fun _ hk => hk.2) (.int .i64 t468)) (fun _ hk => hk.2) (.int .i64 t469)) (fun _ hk => hk.2) (.int .i64 t470)) (fun _ hk => hk.2) (.int .i64 t471)) (fun _ hk => hk.2) (.int .i64 t472)) (fun _ hk => hk.2) (.int .i64 t473)) (fun _ h_ => h_.1))))) (Kd.R_lt (by (with_reducible repeat (first | apply Kd.R_alloc | apply Kd.R_drewN | apply Kd.R_drew)); exact (Kd.R_mono (Kd.R_far (p := ⟨gb481, 5, none⟩) (Kd.R_far (p := ⟨gb481, 4, none⟩) (Kd.R_far (p := ⟨gb481, 3, none⟩) (Kd.R_far (p := ⟨gb481, 2, none⟩) (Kd.R_far (p := ⟨gb481, 1, none⟩) (Kd.R_far (p := ⟨gb481, 0, none⟩) (Kd.R_types HO480.out BK481.out (by decide)) (fun _ hk => hk.2) (.int .i64 t468)) (fun _ hk => hk.2) (.int .i64 t469)) (fun _ hk => hk.2) (.int .i64 t470)) (fun _ hk => hk.2) (.int .i64 t471)) (fun _ hk => hk.2) (.int .i64 t472)) (fun _ hk => hk.2) (.int .i64 t473)) (fun _ h_ => h_.1))))) (below_size (sbw))); replace HO_8 := Aside0.mk (Kd.R_elder' (by (with_reducible repeat (first | apply Kd.R_alloc | apply Kd.R_drewN | apply Kd.R_drew)); exact (Kd.R_mono (Kd.R_far (p := ⟨gb481, 5, none⟩) (Kd.R_far (p := ⟨gb481, 4, none⟩) (Kd.R_far (p := ⟨gb481, 3, none⟩) (Kd.R_far (p := ⟨gb481, 2, none⟩) (Kd.R_far (p := ⟨gb481, 1, none⟩) (Kd.R_far (p := ⟨gb481, 0, none⟩) (Kd.R_types HO_8.out BK481.out (by decide)) (fun _ hk => hk.2) (.int .i64 t468)) (fun _ hk => hk.2) (.int .i64 t469)) (fun _ hk => hk.2) (.int .i64 t470)) (fun _ hk => hk.2) (.int .i64 t471)) (fun _ hk => hk.2) (.int .i64 t472)) (fun _ hk => hk.2) (.int .i64 t473)) (fun _ h_ => h_.1))) (Kd.R_base ho0) hb); replace HO480 := Aside0.mk (Kd.R_elder' (by (with_reducible repeat (first | apply Kd.R_alloc | apply Kd.R_drewN | apply Kd.R_drew)); exact (Kd.R_mono (Kd.R_far (p := ⟨gb481, 5, none⟩) (Kd.R_far (p := ⟨gb481, 4, none⟩) (Kd.R_far (p := ⟨gb481, 3, none⟩) (Kd.R_far (p := ⟨gb481, 2, none⟩) (Kd.R_far (p := ⟨gb481, 1, none⟩) (Kd.R_far (p := ⟨gb481, 0, none⟩) (Kd.R_types HO480.out BK481.out (by decide)) (fun _ hk => hk.2) (.int .i64 t468)) (fun _ hk => hk.2) (.int .i64 t469)) (fun _ hk => hk.2) (.int .i64 t470)) (fun _ hk => hk.2) (.int .i64 t471)) (fun _ hk => hk.2) (.int .i64 t472)) (fun _ hk => hk.2) (.int .i64 t473)) (fun _ h_ => h_.1))) (Kd.R_base ho0) hb); replace BK461 := Aside0.mk (blk_below (g := gb461) (o := .cells #[.int .i64 t449, .int .i64 t450, .int .i64 t451, .int .i64 t452, .int .i64 t453, .int .i64 t454] 27 (0, 0)) (sp BK461) hb); replace BK481 := Aside0.mk (blk_below (g := gb481) (o := .cells #[.int .i64 t468, .int .i64 t469, .int .i64 t470, .int .i64 t471, .int .i64 t472, .int .i64 t473] 27 (0, 0)) (sp BK481) hb); replace HB := bsw hb; (try clear hb); (try clear hb2); (try clear hk); (try clear hi); (try clear ho0); obtain ⟨hcz41_0, hcz41_1, hcz41_2, hcz41_3, hcz41_4, hcz41_5, hfz41_0, hfz41_1, hfz41_2, hfz41_3, hfz41_4, hfz41_5⟩ := cc6 BK481) | ((with_reducible refine gate_callee (f := 43) rfl ?_); refine gL (some 90) Try.func43 #[.agg #[.int .i64 t468, .int .i64 t469, .int .i64 t470, .int .i64 t471, .int .i64 t472, .int .i64 t473], .slice Ao38 t474.length co38, .int .i64 t477, .slice Ao39 t478.length co39] ?_; (with_reducible refine (impl_LowestOf.calls k2 t468 t469 t470 t471 t472 t473 _ _ t474 t477 _ _ t478 t485 _ ?side1 ?side2 ?side3 ?side4 A32.out).mono ?_); (case side1 => repeat (first | exact (Kd.R_reads' HO476.out).2.2 | (with_reducible refine Kd.C_alloc ?_ _) | (with_reducible refine Kd.C_drewN ?_ _) | (with_reducible refine Kd.C_drew ?_))); (case side2 => exact (Kd.R_reads' HO476.out).2.1); (case side3 => repeat (first | exact (Kd.R_reads' HO480.out).2.2 | (with_reducible refine Kd.C_alloc ?_ _) | (with_reducible refine Kd.C_drewN ?_ _) | (with_reducible refine Kd.C_drew ?_))); (case side4 => exact (Kd.R_reads' HO480.out).2.1); rintro e w42 ⟨rfl, hb⟩; refine ⟨_, rfl, ?_⟩; replace HO_8 := Aside0.mk (Kd.R_below (sr HO_8) hb); replace HO476 := Aside0.mk (Kd.R_below (sr HO476) hb); replace HO480 := Aside0.mk (Kd.R_below (sr HO480) hb); replace HO484 := Aside0.mk (Kd.R_below (sr HO484) hb); replace BK461 := bb BK461 hb; replace BK481 := bb BK481 hb; replace HB := bsw hb; (try clear hb); (try clear hb2); (try clear hk); (try clear hi)))
        go_loopg [16, 17] k2 (fun kq v16 v17 w' => ∃ (x16_3 : Bool) (x17_3 : Int), v16 = .bool x16_3 ∧ v17 = .int .i64 x17_3 ∧ Aside0 (laws_FnForecasts.l1 kq l0 t478 t482 t485 x16_3 x17_3 t468 t469 t470 t471 t472 t473 = some r) ∧ Aside0 (kq ≤ k2) ∧ Aside0 (Kd.R (Kd.int .i64) 3 w' w.heap.size (fun k_ => some k_ ≠ (v483 : Value).ownBlock) (.slice Ao39 t478.length co39) t478) ∧ Aside0 (Kd.R (Kd.int .i64) 3 w' w.heap.size (fun k_ => some k_ ≠ ((.slice Ao39 t478.length co39) : Value).ownBlock) v483 t482) ∧ Aside0 (w'.heap[gb461]? = some (.cells #[.int .i64 t449, .int .i64 t450, .int .i64 t451, .int .i64 t452, .int .i64 t453, .int .i64 t454] 27 (0, 0))) ∧ Aside0 (w'.heap[gb481]? = some (.cells #[.int .i64 t468, .int .i64 t469, .int .i64 t470, .int .i64 t471, .int .i64 t472, .int .i64 t473] 27 (0, 0))) ∧ Aside0 (Below w.heap.size w w'))
        case atStart => exact ⟨(false), (0), sc, sc, H', kk0, ⟨by (with_reducible repeat (first | apply Kd.R_alloc | apply Kd.R_drewN | apply Kd.R_drew)); exact Kd.R_mono HO480.out (fun _ hk => hk.2)⟩, ⟨by (with_reducible repeat (first | apply Kd.R_alloc | apply Kd.R_drewN | apply Kd.R_drew)); exact Kd.R_mono HO484.out (fun _ hk => hk.2)⟩, ⟨sk BK461⟩, ⟨sk BK481⟩, ⟨sbw⟩⟩
        case round =>
         clear H'
         try clear c12
         try clear c12b0
         try clear c12b1
         try clear c23
         try clear c23b0
         try clear c24b0
         try clear c25
         try clear c25b0
         try clear c27
         try clear c27b0
         try clear hcz16_0
         try clear hcz16_1
         try clear hcz16_2
         try clear hcz16_3
         try clear hcz16_4
         try clear hcz16_5
         try clear hcz19_0
         try clear hcz19_1
         try clear hcz19_2
         try clear hcz19_3
         try clear hcz19_4
         try clear hcz19_5
         try clear hfz16_0
         try clear hfz16_1
         try clear hfz16_2
         try clear hfz16_3
         try clear hfz16_4
         try clear hfz16_5
         try clear hfz19_0
         try clear hfz19_1
         try clear hfz19_2
         try clear hfz19_3
         try clear hfz19_4
         try clear hfz19_5
         try clear hx466_0
         try clear hx467_0
         try clear p466
         try clear p467
         try clear q466
         try clear q467
         obtain ⟨x16_3, x17_3, rfl, rfl, HA, HK3, HO_13, HO_14, BK461, BK481, HB⟩ := hrel
         cases gk with
         | zero => exact absurd HA.out (by simp [laws_FnForecasts.l1])
         | succ k3 =>
          have H := HA.out
          clear HA
          simp only [laws_FnForecasts.l1] at H
          obtain ⟨c43, H⟩ | ⟨c43, H⟩ := ie_ H
          ·have c43b0 := decide_eq_true c43
           clear c43
           obtain rfl | rfl := tt x16_3
           ·replace H := ip H
            obtain ⟨c45b0, H⟩ := id_ H
            obtain ⟨c46, H⟩ | ⟨c46, H⟩ := ie_ H
            ·have c46b0 := decide_eq_true c46
             clear c46
             obtain rfl := Option.some.inj H
             obtain ⟨Ao47, co47, eo47⟩ := Kd.R_slice HO_14.out
             subst eo47
             have p486 : 0 ≤ (x17_3 : Int) := sa
             have q486 : x17_3 < (t482.length : Int) := sa
             obtain ⟨ad486, e486, hx486_0⟩ := Kd.at_int (Kd.R_reads' HO_14.out).2.2 x17_3 p486 q486
             cases e486
             replace p486 := eq_true p486
             replace q486 := eq_true q486
             go_wp2
             go_ret
             exact ⟨se, sbw⟩
            ·have c46b0 := decide_eq_false c46
             clear c46
             have H' := Aside0.mk H
             clear H
             obtain ⟨Ao48, co48, eo48⟩ := Kd.R_slice HO_14.out
             subst eo48
             have p486 : 0 ≤ (x17_3 : Int) := sa
             have q486 : x17_3 < (t482.length : Int) := sa
             obtain ⟨ad486, e486, hx486_0⟩ := Kd.at_int (Kd.R_reads' HO_14.out).2.2 x17_3 p486 q486
             cases e486
             replace p486 := eq_true p486
             replace q486 := eq_true q486
             go_wp2
             go_roundg k3
             case measure => have := HJ5.out; have := HK2.out; have := HK3.out; omega
             case rel => exact ⟨(true), (wrap64 (x17_3 + 1)), sc, sc, H', ⟨by have := HJ5.out; have := HK2.out; have := HK3.out; omega⟩, ⟨sr HO_13⟩, ⟨sr HO_14⟩, ⟨sk BK461⟩, ⟨sk BK481⟩, ⟨sbw⟩⟩
           ·replace H := im H
            obtain ⟨c49b0, H⟩ := id_ H
            obtain ⟨c50, H⟩ | ⟨c50, H⟩ := ie_ H
            ·have c50b0 := decide_eq_true c50
             clear c50
             obtain rfl := Option.some.inj H
             obtain ⟨Ao51, co51, eo51⟩ := Kd.R_slice HO_14.out
             subst eo51
             have p487 : 0 ≤ (x17_3 : Int) := sa
             have q487 : x17_3 < (t482.length : Int) := sa
             obtain ⟨ad487, e487, hx487_0⟩ := Kd.at_int (Kd.R_reads' HO_14.out).2.2 x17_3 p487 q487
             cases e487
             replace p487 := eq_true p487
             replace q487 := eq_true q487
             have p488 : 0 ≤ (x17_3 : Int) := sa
             have q488 : x17_3 < (t482.length : Int) := sa
             obtain ⟨ad488, e488, hx488_0⟩ := Kd.at_int (Kd.R_reads' HO_14.out).2.2 x17_3 p488 q488
             obtain rfl : ad487 = ad488 := (by injection e488)
             replace p488 := eq_true p488
             replace q488 := eq_true q488
             go_wp2
             go_ret
             exact ⟨se, sbw⟩
            ·have c50b0 := decide_eq_false c50
             clear c50
             have H' := Aside0.mk H
             clear H
             obtain ⟨Ao52, co52, eo52⟩ := Kd.R_slice HO_14.out
             subst eo52
             have p487 : 0 ≤ (x17_3 : Int) := sa
             have q487 : x17_3 < (t482.length : Int) := sa
             obtain ⟨ad487, e487, hx487_0⟩ := Kd.at_int (Kd.R_reads' HO_14.out).2.2 x17_3 p487 q487
             cases e487
             replace p487 := eq_true p487
             replace q487 := eq_true q487
             have p488 : 0 ≤ (x17_3 : Int) := sa
             have q488 : x17_3 < (t482.length : Int) := sa
             obtain ⟨ad488, e488, hx488_0⟩ := Kd.at_int (Kd.R_reads' HO_14.out).2.2 x17_3 p488 q488
             obtain rfl : ad487 = ad488 := (by injection e488)
             replace p488 := eq_true p488
             replace q488 := eq_true q488
             go_wp2
             go_roundg k3
             case measure => have := HJ5.out; have := HK2.out; have := HK3.out; omega
             case rel => exact ⟨(((rd t482 x17_3) == t485)), (wrap64 (x17_3 + 1)), sc, sc, H', ⟨by have := HJ5.out; have := HK2.out; have := HK3.out; omega⟩, ⟨sr HO_13⟩, ⟨sr HO_14⟩, ⟨sk BK461⟩, ⟨sk BK481⟩, ⟨sbw⟩⟩
          ·have c43b0 := decide_eq_false c43
           clear c43
           obtain ⟨⟨t489, t490, t491, t492, t493, t494, t495⟩, A53, H⟩ := bnd H
           replace H : (if x16_3 = true then (if (t482.length : Int) = (wrap64 ((t478.length : Int) + 1)) then (if 0 < (t482.length : Int) then (if (rd t482 0) = t468 then ((impl_SendsLeft.f k3 t489 t490 t491 t492 t493 t494 t495).bind fun t498 => ((impl_MaySend.f t489 t490 t491 t492 t493 t494 t495).bind fun t499 => (some ((decide (t498 > 0)) == t499)))) else (some false)) else (none)) else (some false)) else (some false)) = some r := H
           obtain rfl | rfl := tt x16_3
           ·replace H := ip H
            obtain ⟨c55, H⟩ | ⟨c55, H⟩ := ie_ H
            ·have c55b0 : ((t482.length : Int) == (wrap64 ((t478.length : Int) + 1))) = true := beq_iff_eq.mpr c55
             have c55b1 : ((t482.length : Int) != (wrap64 ((t478.length : Int) + 1))) = false := bne_eq_false_iff_eq.mpr c55
             clear c55
             obtain ⟨c56, H⟩ := ia_ H
             have c56b0 := decide_eq_true c56
             have c56b1 : decide (0 < t482.length) = true := decide_eq_true (by omega)
             clear c56
             obtain ⟨c57, H⟩ | ⟨c57, H⟩ := ie_ H
             ·have c57b0 : ((rd t482 0) == t468) = true := beq_iff_eq.mpr c57
              have c57b1 : ((rd t482 0) != t468) = false := bne_eq_false_iff_eq.mpr c57
              clear c57
              obtain ⟨t498, A58, H⟩ := bnd H
              obtain ⟨t499, A59, H⟩ := bnd H
              obtain rfl := Option.some.inj H
              obtain ⟨Ao60, co60, eo60⟩ := Kd.R_slice HO_14.out
              subst eo60
              try go_wp2_with (first | ((with_reducible refine gate_callee (f := 59) rfl ?_); refine gL (some 114) Try.func59 #[.slice A0 l0.length c0] ?_; (with_reducible refine (spec_DrawSendsLeft.calls k3 _ _ l0 t489 t490 t491 t492 t493 t494 t495 _ ?side1 ?side2 A53.out).mono ?_); (case side1 => exact cb HR0); (case side2 => exact HC0.out); rintro e w61 ⟨rfl, hb⟩; refine ⟨_, rfl, ?_⟩; replace HO_13 := Aside0.mk (Kd.R_below (sr HO_13) hb); replace HO_14 := Aside0.mk (Kd.R_below (sr HO_14) hb); replace BK461 := bb BK461 hb; replace BK481 := bb BK481 hb; replace HB := bsw hb; (try clear hb); (try clear hb2); (try clear hk); (try clear hi)) | ((with_reducible refine gate_dst (N := 18) rfl ?_); (try (refine gate_guard (by rfl) ?_; dsimp only)); refine bx 18 #[.int .i64 0, .int .i64 0, .int .i64 0, .int .i64 0, .int .i64 0, .int .i64 0] 27 ?_; intro gb496 hg w62 hbox hb; replace HO_13 := Aside0.mk (Kd.R_below (sr HO_13) hb); replace HO_14 := Aside0.mk (Kd.R_below (sr HO_14) hb); have GW496 := bzw w hg; have GE496 := bzw w hg; replace HB := bsw hb; have BK496 := Aside0.mk hbox; have NB461_496 := nl BK461 hg; have NB496_461 := ng BK461 hg; replace BK461 := bb BK461 hb; have NB481_496 := nl BK481 hg; have NB496_481 := ng BK481 hg; replace BK481 := bb BK481 hb; clear hb hbox hg; have hnb63 := NB496_461.out; have hnc63 := NB461_496.out; have hnb64 := NB496_481.out; have hnc64 := NB481_496.out; obtain ⟨hcz65_0, hcz65_1, hcz65_2, hcz65_3, hcz65_4, hcz65_5, hfz65_0, hfz65_1, hfz65_2, hfz65_3, hfz65_4, hfz65_5⟩ := cc6 BK496))
              have n0_ : Aside0 (Kd.R (Kd.int .i64) 3 ((((((w62.setCell ⟨gb496, 0, none⟩ (.int .i64 t489)).setCell ⟨gb496, 1, none⟩ (.int .i64 t490)).setCell ⟨gb496, 2, none⟩ (.int .i64 t491)).setCell ⟨gb496, 3, none⟩ (.int .i64 t492)).setCell ⟨gb496, 4, none⟩ (.int .i64 t493)).setCell ⟨gb496, 5, none⟩ (.int .i64 t494)) w.heap.size (fun k_ => some k_ ≠ (.slice Ao60 t482.length co60 : Value).ownBlock) (.slice Ao39 t478.length co39) t478) := ⟨by (with_reducible repeat (first | apply Kd.R_alloc | apply Kd.R_drewN | apply Kd.R_drew)); exact Kd.R_mono (Kd.R_far (p := ⟨gb496, 5, none⟩) (Kd.R_far (p := ⟨gb496, 4, none⟩) (Kd.R_far (p := ⟨gb496, 3, none⟩) (Kd.R_far (p := ⟨gb496, 2, none⟩) (Kd.R_far (p := ⟨gb496, 1, none⟩) (Kd.R_far (p := ⟨gb496, 0, none⟩) (Kd.R_types HO_13.out BK496.out (by decide)) (fun _ hk => hk.2) (.int .i64 t489)) (fun _ hk => hk.2) (.int .i64 t490)) (fun _ hk => hk.2) (.int .i64 t491)) (fun _ hk => hk.2) (.int .i64 t492)) (fun _ hk => hk.2) (.int .i64 t493)) (fun _ hk => hk.2) (.int .i64 t494)) (fun _ hk => hk.1)⟩
              have n1_ : Aside0 (Kd.R (Kd.int .i64) 3 ((((((w62.setCell ⟨gb496, 0, none⟩ (.int .i64 t489)).setCell ⟨gb496, 1, none⟩ (.int .i64 t490)).setCell ⟨gb496, 2, none⟩ (.int .i64 t491)).setCell ⟨gb496, 3, none⟩ (.int .i64 t492)).setCell ⟨gb496, 4, none⟩ (.int .i64 t493)).setCell ⟨gb496, 5, none⟩ (.int .i64 t494)) w.heap.size (fun k_ => some k_ ≠ (.slice Ao39 t478.length co39 : Value).ownBlock) (.slice Ao60 t482.length co60) t482) := ⟨by (with_reducible repeat (first | apply Kd.R_alloc | apply Kd.R_drewN | apply Kd.R_drew)); exact Kd.R_mono (Kd.R_far (p := ⟨gb496, 5, none⟩) (Kd.R_far (p := ⟨gb496, 4, none⟩) (Kd.R_far (p := ⟨gb496, 3, none⟩) (Kd.R_far (p := ⟨gb496, 2, none⟩) (Kd.R_far (p := ⟨gb496, 1, none⟩) (Kd.R_far (p := ⟨gb496, 0, none⟩) (Kd.R_types HO_14.out BK496.out (by decide)) (fun _ hk => hk.2) (.int .i64 t489)) (fun _ hk => hk.2) (.int .i64 t490)) (fun _ hk => hk.2) (.int .i64 t491)) (fun _ hk => hk.2) (.int .i64 t492)) (fun _ hk => hk.2) (.int .i64 t493)) (fun _ hk => hk.2) (.int .i64 t494)) (fun _ hk => hk.1)⟩
              have n2_ : Aside0 (((((((w62.setCell ⟨gb496, 0, none⟩ (.int .i64 t489)).setCell ⟨gb496, 1, none⟩ (.int .i64 t490)).setCell ⟨gb496, 2, none⟩ (.int .i64 t491)).setCell ⟨gb496, 3, none⟩ (.int .i64 t492)).setCell ⟨gb496, 4, none⟩ (.int .i64 t493)).setCell ⟨gb496, 5, none⟩ (.int .i64 t494)).heap[gb461]? = some (.cells #[.int .i64 t449, .int .i64 t450, .int .i64 t451, .int .i64 t452, .int .i64 t453, .int .i64 t454] 27 (0, 0))) := ⟨sp BK461⟩
              have n3_ : Aside0 (((((((w62.setCell ⟨gb496, 0, none⟩ (.int .i64 t489)).setCell ⟨gb496, 1, none⟩ (.int .i64 t490)).setCell ⟨gb496, 2, none⟩ (.int .i64 t491)).setCell ⟨gb496, 3, none⟩ (.int .i64 t492)).setCell ⟨gb496, 4, none⟩ (.int .i64 t493)).setCell ⟨gb496, 5, none⟩ (.int .i64 t494)).heap[gb481]? = some (.cells #[.int .i64 t468, .int .i64 t469, .int .i64 t470, .int .i64 t471, .int .i64 t472, .int .i64 t473] 27 (0, 0))) := ⟨sp BK481⟩
              have n4_ : Aside0 (((((((w62.setCell ⟨gb496, 0, none⟩ (.int .i64 t489)).setCell ⟨gb496, 1, none⟩ (.int .i64 t490)).setCell ⟨gb496, 2, none⟩ (.int .i64 t491)).setCell ⟨gb496, 3, none⟩ (.int .i64 t492)).setCell ⟨gb496, 4, none⟩ (.int .i64 t493)).setCell ⟨gb496, 5, none⟩ (.int .i64 t494)).heap[gb496]? = some (.cells #[.int .i64 t489, .int .i64 t490, .int .i64 t491, .int .i64 t492, .int .i64 t493, .int .i64 t494] 27 (0, 0))) := ⟨sp BK496⟩
              have n5_ : Aside0 (Below w.heap.size w ((((((w62.setCell ⟨gb496, 0, none⟩ (.int .i64 t489)).setCell ⟨gb496, 1, none⟩ (.int .i64 t490)).setCell ⟨gb496, 2, none⟩ (.int .i64 t491)).setCell ⟨gb496, 3, none⟩ (.int .i64 t492)).setCell ⟨gb496, 4, none⟩ (.int .i64 t493)).setCell ⟨gb496, 5, none⟩ (.int .i64 t494))) := ⟨sbw⟩
              (try clear HO_13)
              (try clear HO_14)
              (try clear BK461)
              (try clear BK481)
              (try clear BK496)
              (try clear HB)
              generalize ((((((w62.setCell ⟨gb496, 0, none⟩ (.int .i64 t489)).setCell ⟨gb496, 1, none⟩ (.int .i64 t490)).setCell ⟨gb496, 2, none⟩ (.int .i64 t491)).setCell ⟨gb496, 3, none⟩ (.int .i64 t492)).setCell ⟨gb496, 4, none⟩ (.int .i64 t493)).setCell ⟨gb496, 5, none⟩ (.int .i64 t494)) = w66 at n0_ n1_ n2_ n3_ n4_ n5_ ⊢
              have HO_13 := n0_
              have HO_14 := n1_
              have BK461 := n2_
              have BK481 := n3_
              have BK496 := n4_
              have HB := n5_
              clear n0_ n1_ n2_ n3_ n4_ n5_
              replace HO_13 := Aside0.mk (Kd.R_drew HO_13.out)
              replace HO_14 := Aside0.mk (Kd.R_drew HO_14.out)
              replace BK461 := Aside0.mk (blk_drew BK461.out)
              replace BK481 := Aside0.mk (blk_drew BK481.out)
              replace BK496 := Aside0.mk (blk_drew BK496.out)
              replace HB := Aside0.mk (below_drew1 HB.out)
              have p497 : 0 ≤ (0 : Int) := (by omega)
              have q497 : 0 < (t482.length : Int) := sa
              obtain ⟨ad497, e497, hx497_0⟩ := Kd.at_int (Kd.R_reads' HO_14.out).2.2 0 p497 q497
              cases e497
              have qi497 : (0 < t482.length) = True := eq_true (by omega)
              (try rw [show ((0 : Int)).toNat = 0 from rfl] at hx497_0)
              (try rw [Addr.add_zero'] at hx497_0)
              replace p497 := eq_true p497
              replace q497 := eq_true q497
              refine start_ (n := 28) (S := fun w' => w'.cell? ⟨gb481, 0, none⟩ = some (.int .i64 t468) ∧ w'.cell? ⟨gb481, 1, none⟩ = some (.int .i64 t469) ∧ w'.cell? ⟨gb481, 2, none⟩ = some (.int .i64 t470) ∧ w'.cell? ⟨gb481, 3, none⟩ = some (.int .i64 t471) ∧ w'.cell? ⟨gb481, 4, none⟩ = some (.int .i64 t472) ∧ w'.cell? ⟨gb481, 5, none⟩ = some (.int .i64 t473) ∧ w'.cell? ⟨gb496, 0, none⟩ = some (.int .i64 t489) ∧ w'.cell? ⟨gb496, 1, none⟩ = some (.int .i64 t490) ∧ w'.cell? ⟨gb496, 2, none⟩ = some (.int .i64 t491) ∧ w'.cell? ⟨gb496, 3, none⟩ = some (.int .i64 t492) ∧ w'.cell? ⟨gb496, 4, none⟩ = some (.int .i64 t493) ∧ w'.cell? ⟨gb496, 5, none⟩ = some (.int .i64 t494) ∧ w'.cell? ad497 = some (.int .i64 (rd t482 0))) (ds := []) #[false, false, false, false, false, false, false, false, false, false, false, false, false, false, false, false, false, false, false, false, false, false, false, false, false, false, false, false] (by kernel_rfl) rfl rfl ⟨bc0 BK481, bc1 BK481, bc2 BK481, bc3 BK481, bc4 BK481, bc5 BK481, bc0 BK496, bc1 BK496, bc2 BK496, bc3 BK496, bc4 BK496, bc5 BK496, hx497_0⟩ (fun hHeld => ?_); refine with_tabW laws_FnForecasts.tab23 laws_FnForecasts.bits23 (fun HT_ HW_ => ?_)
              generalize w66.drew = w67 at HO_13 HO_14 BK461 BK481 BK496 HB hx497_0 hHeld ⊢
              refine put 0 117 #[true, false, false, false, false, false, false, false, false, false, false, false, false, false, false, false, false, false, false, false, false, false, false, false, false, false, false, false] HT_ ?_
              refine put 1 118 #[true, true, false, false, false, false, false, false, false, false, false, false, false, false, false, false, false, false, false, false, false, false, false, false, false, false, false, false] HT_ ?_
              refine put 2 119 #[true, true, true, false, false, false, false, false, false, false, false, false, false, false, false, false, false, false, false, false, false, false, false, false, false, false, false, false] HT_ ?_
              refine put 3 120 #[true, true, true, true, false, false, false, false, false, false, false, false, false, false, false, false, false, false, false, false, false, false, false, false, false, false, false, false] HT_ ?_
              refine put 4 121 #[true, true, true, true, true, false, false, false, false, false, false, false, false, false, false, false, false, false, false, false, false, false, false, false, false, false, false, false] HT_ ?_
              refine put 5 122 #[true, true, true, true, true, true, false, false, false, false, false, false, false, false, false, false, false, false, false, false, false, false, false, false, false, false, false, false] HT_ ?_
              refine put 6 123 #[true, true, true, true, true, true, true, false, false, false, false, false, false, false, false, false, false, false, false, false, false, false, false, false, false, false, false, false] HT_ ?_
              refine put 7 124 #[true, true, true, true, true, true, true, true, false, false, false, false, false, false, false, false, false, false, false, false, false, false, false, false, false, false, false, false] HT_ ?_
              refine put 8 125 #[true, true, true, true, true, true, true, true, true, false, false, false, false, false, false, false, false, false, false, false, false, false, false, false, false, false, false, false] HT_ ?_
              refine put 9 126 #[true, true, true, true, true, true, true, true, true, true, false, false, false, false, false, false, false, false, false, false, false, false, false, false, false, false, false, false] HT_ ?_
              refine put 10 127 #[true, true, true, true, true, true, true, true, true, true, true, false, false, false, false, false, false, false, false, false, false, false, false, false, false, false, false, false] HT_ ?_
              refine put 11 128 #[true, true, true, true, true, true, true, true, true, true, true, true, false, false, false, false, false, false, false, false, false, false, false, false, false, false, false, false] HT_ ?_
              refine put 13 130 #[true, true, true, true, true, true, true, true, true, true, true, true, false, true, false, false, false, false, false, false, false, false, false, false, false, false, false, false] HT_ ?_
              refine take_ (i := 12) (N := some 129) (v := ?_) (a' := ?_) #[true, true, true, true, true, true, true, true, true, true, true, true, true, true, false, false, false, false, false, false, false, false, false, false, false, false, false, false] rfl rfl (take_ofW HT_.out HW_.out (by kernel_rfl)) (fun _ _ _ h => h) (Or.inl ⟨by rfl, ?_⟩) hHeld ?_ ?_
              rotate_left
              ·rintro w' ⟨s0, s1, s2, s3, s4, s5, s6, s7, s8, s9, s10, s11, s12⟩
               go_simp
               with_reducible rfl
              rotate_left
              ·simp only [Act.put, List.setIfInBounds_toArray, List.set_cons_zero, List.set_cons_succ, i64_w, i32_w]
               rfl
              refine take_ (i := 14) (N := some 131) (v := ?_) (a' := ?_) #[true, true, true, true, true, true, true, true, true, true, true, true, true, true, true, false, false, false, false, false, false, false, false, false, false, false, false, false] rfl rfl (take_ofW HT_.out HW_.out (by kernel_rfl)) (fun _ _ _ h => h) (Or.inl ⟨by rfl, ?_⟩) hHeld ?_ ?_
              rotate_left
              ·rintro w' ⟨s0, s1, s2, s3, s4, s5, s6, s7, s8, s9, s10, s11, s12⟩
               go_simp
               with_reducible rfl
              rotate_left
              ·simp only [Act.put, List.setIfInBounds_toArray, List.set_cons_zero, List.set_cons_succ, i64_w, i32_w]
               rfl
              refine put 15 132 #[true, true, true, true, true, true, true, true, true, true, true, true, true, true, true, true, false, false, false, false, false, false, false, false, false, false, false, false] HT_ ?_
              refine put 16 133 #[true, true, true, true, true, true, true, true, true, true, true, true, true, true, true, true, true, false, false, false, false, false, false, false, false, false, false, false] HT_ ?_
              refine put 17 134 #[true, true, true, true, true, true, true, true, true, true, true, true, true, true, true, true, true, true, false, false, false, false, false, false, false, false, false, false] HT_ ?_
              refine put 19 136 #[true, true, true, true, true, true, true, true, true, true, true, true, true, true, true, true, true, true, false, true, false, false, false, false, false, false, false, false] HT_ ?_
              refine put 23 140 #[true, true, true, true, true, true, true, true, true, true, true, true, true, true, true, true, true, true, false, true, false, false, false, true, false, false, false, false] HT_ ?_
              refine take_ (i := 18) (N := some 135) (v := ?_) (a' := ?_) #[true, true, true, true, true, true, true, true, true, true, true, true, true, true, true, true, true, true, true, true, false, false, false, true, false, false, false, false] rfl rfl (take_ofW HT_.out HW_.out (by kernel_rfl)) (fun _ _ _ h => h) (Or.inl ⟨by rfl, ?_⟩) hHeld ?_ ?_
              rotate_left
              ·rintro w' ⟨s0, s1, s2, s3, s4, s5, s6, s7, s8, s9, s10, s11, s12⟩
               go_simp
               with_reducible rfl
              rotate_left
              ·simp only [Act.put, List.setIfInBounds_toArray, List.set_cons_zero, List.set_cons_succ, i64_w, i32_w]
               rfl
              refine take_ (i := 22) (N := some 139) (v := ?_) (a' := ?_) #[true, true, true, true, true, true, true, true, true, true, true, true, true, true, true, true, true, true, true, true, false, false, true, true, false, false, false, false] rfl rfl (take_ofW HT_.out HW_.out (by kernel_rfl)) (fun _ _ _ h => h) (Or.inl ⟨by rfl, ?_⟩) hHeld ?_ ?_
              rotate_left
              ·rintro w' ⟨s0, s1, s2, s3, s4, s5, s6, s7, s8, s9, s10, s11, s12⟩
               go_simp
               with_reducible rfl
              rotate_left
              ·simp only [Act.put, List.setIfInBounds_toArray, List.set_cons_zero, List.set_cons_succ, i64_w, i32_w]
               rfl
              refine one_ (i := 20) (N := some 137) #[true, true, true, true, true, true, true, true, true, true, true, true, true, true, true, true, true, true, true, true, true, false, true, true, false, false, false, false] rfl rfl (one_of HT_.out (by kernel_rfl)) (by decide) (fun K hK => ?_)
              refine goes_ Try.func60 (by kernel_rfl) rfl #[.agg #[.int .i64 t489, .int .i64 t490, .int .i64 t491, .int .i64 t492, .int .i64 t493, .int .i64 t494], .int .i64 t495] (by rfl) rfl rfl sl ?_
              with_reducible refine (impl_SendsLeft.calls k3 t489 t490 t491 t492 t493 t494 t495 t498 _ A58.out).mono ?_
              rintro e w68 ⟨rfl, hb⟩
              have HS12_ := (hb.cell (World.block_lt_of_cell? _ _ (hHeld.2.2.2.2.2.2.2.2.2.2.2.2))).trans (hHeld.2.2.2.2.2.2.2.2.2.2.2.2)
              refine ⟨_, rfl, ?_⟩
              replace HO_13 := Aside0.mk (Kd.R_below (sr HO_13) hb)
              replace HO_14 := Aside0.mk (Kd.R_below (sr HO_14) hb)
              replace BK461 := bb BK461 hb
              replace BK481 := bb BK481 hb
              replace BK496 := bb BK496 hb
              replace HB := bsw hb
              (try clear hb)
              (try clear hb2)
              (try clear hk)
              (try clear hi)
              refine hK.out _ _ ⟨bc0 BK481, bc1 BK481, bc2 BK481, bc3 BK481, bc4 BK481, bc5 BK481, bc0 BK496, bc1 BK496, bc2 BK496, bc3 BK496, bc4 BK496, bc5 BK496, HS12_⟩ (fun hHeld => ?_)
              clear hK K
              refine norm_ (a' := ?_) ?_ ?_
              rotate_left
              ·show Act.put _ (some 137) _ = _
               simp only [Act.put, List.setIfInBounds_toArray, List.set_cons_zero, List.set_cons_succ, i64_w, i32_w]
               rfl
              refine put 21 138 #[true, true, true, true, true, true, true, true, true, true, true, true, true, true, true, true, true, true, true, true, true, true, true, true, false, false, false, false] HT_ ?_
              refine one_ (i := 24) (N := some 141) #[true, true, true, true, true, true, true, true, true, true, true, true, true, true, true, true, true, true, true, true, true, true, true, true, true, false, false, false] rfl rfl (one_of HT_.out (by kernel_rfl)) (by decide) (fun K hK => ?_)
              refine goes_ Try.func50 (by kernel_rfl) rfl #[.agg #[.int .i64 t489, .int .i64 t490, .int .i64 t491, .int .i64 t492, .int .i64 t493, .int .i64 t494], .int .i64 t495] (by rfl) rfl rfl sl ?_
              with_reducible refine (impl_MaySend.calls t489 t490 t491 t492 t493 t494 t495 t499 _ A59.out).mono ?_
              rintro e w69 ⟨rfl, hb⟩
              have HS12_ := (hb.cell (World.block_lt_of_cell? _ _ (hHeld.2.2.2.2.2.2.2.2.2.2.2.2))).trans (hHeld.2.2.2.2.2.2.2.2.2.2.2.2)
              refine ⟨_, rfl, ?_⟩
              replace HO_13 := Aside0.mk (Kd.R_below (sr HO_13) hb)
              replace HO_14 := Aside0.mk (Kd.R_below (sr HO_14) hb)
              replace BK461 := bb BK461 hb
              replace BK481 := bb BK481 hb
              replace BK496 := bb BK496 hb
              replace HB := bsw hb
              (try clear hb)
              (try clear hb2)
              (try clear hk)
              (try clear hi)
              refine hK.out _ _ ⟨bc0 BK481, bc1 BK481, bc2 BK481, bc3 BK481, bc4 BK481, bc5 BK481, bc0 BK496, bc1 BK496, bc2 BK496, bc3 BK496, bc4 BK496, bc5 BK496, HS12_⟩ (fun hHeld => ?_)
              clear hK K
              refine norm_ (a' := ?_) ?_ ?_
              rotate_left
              ·show Act.put _ (some 141) _ = _
               simp only [Act.put, List.setIfInBounds_toArray, List.set_cons_zero, List.set_cons_succ, i64_w, i32_w]
               rfl
              refine put 25 142 #[true, true, true, true, true, true, true, true, true, true, true, true, true, true, true, true, true, true, true, true, true, true, true, true, true, true, false, false] HT_ ?_
              refine put 26 143 #[true, true, true, true, true, true, true, true, true, true, true, true, true, true, true, true, true, true, true, true, true, true, true, true, true, true, true, false] HT_ ?_
              refine put 27 2 #[true, true, true, true, true, true, true, true, true, true, true, true, true, true, true, true, true, true, true, true, true, true, true, true, true, true, true, true] HT_ ?_
              refine done_ (done_of HT_.out (by kernel_rfl)) ?_
              try go_wp2
              go_ret
              exact ⟨se, sbw⟩
             ·have c57b0 : ((rd t482 0) == t468) = false := beq_eq_false_iff_ne.mpr c57
              have c57b1 : ((rd t482 0) != t468) = true := bne_iff_ne.mpr c57
              obtain rfl := Option.some.inj H
              obtain ⟨Ao70, co70, eo70⟩ := Kd.R_slice HO_14.out
              subst eo70
              try go_wp2_with (first | ((with_reducible refine gate_callee (f := 59) rfl ?_); refine gL (some 114) Try.func59 #[.slice A0 l0.length c0] ?_; (with_reducible refine (spec_DrawSendsLeft.calls k3 _ _ l0 t489 t490 t491 t492 t493 t494 t495 _ ?side1 ?side2 A53.out).mono ?_); (case side1 => exact cb HR0); (case side2 => exact HC0.out); rintro e w71 ⟨rfl, hb⟩; refine ⟨_, rfl, ?_⟩; replace HO_13 := Aside0.mk (Kd.R_below (sr HO_13) hb); replace HO_14 := Aside0.mk (Kd.R_below (sr HO_14) hb); replace BK461 := bb BK461 hb; replace BK481 := bb BK481 hb; replace HB := bsw hb; (try clear hb); (try clear hb2); (try clear hk); (try clear hi)) | ((with_reducible refine gate_dst (N := 18) rfl ?_); (try (refine gate_guard (by rfl) ?_; dsimp only)); refine bx 18 #[.int .i64 0, .int .i64 0, .int .i64 0, .int .i64 0, .int .i64 0, .int .i64 0] 27 ?_; intro gb496 hg w72 hbox hb; replace HO_13 := Aside0.mk (Kd.R_below (sr HO_13) hb); replace HO_14 := Aside0.mk (Kd.R_below (sr HO_14) hb); have GW496 := bzw w hg; have GE496 := bzw w hg; replace HB := bsw hb; have BK496 := Aside0.mk hbox; have NB461_496 := nl BK461 hg; have NB496_461 := ng BK461 hg; replace BK461 := bb BK461 hb; have NB481_496 := nl BK481 hg; have NB496_481 := ng BK481 hg; replace BK481 := bb BK481 hb; clear hb hbox hg; have hnb73 := NB496_461.out; have hnc73 := NB461_496.out; have hnb74 := NB496_481.out; have hnc74 := NB481_496.out; obtain ⟨hcz75_0, hcz75_1, hcz75_2, hcz75_3, hcz75_4, hcz75_5, hfz75_0, hfz75_1, hfz75_2, hfz75_3, hfz75_4, hfz75_5⟩ := cc6 BK496))
              have n0_ : Aside0 (Kd.R (Kd.int .i64) 3 ((((((w72.setCell ⟨gb496, 0, none⟩ (.int .i64 t489)).setCell ⟨gb496, 1, none⟩ (.int .i64 t490)).setCell ⟨gb496, 2, none⟩ (.int .i64 t491)).setCell ⟨gb496, 3, none⟩ (.int .i64 t492)).setCell ⟨gb496, 4, none⟩ (.int .i64 t493)).setCell ⟨gb496, 5, none⟩ (.int .i64 t494)) w.heap.size (fun k_ => some k_ ≠ (.slice Ao70 t482.length co70 : Value).ownBlock) (.slice Ao39 t478.length co39) t478) := ⟨by (with_reducible repeat (first | apply Kd.R_alloc | apply Kd.R_drewN | apply Kd.R_drew)); exact Kd.R_mono (Kd.R_far (p := ⟨gb496, 5, none⟩) (Kd.R_far (p := ⟨gb496, 4, none⟩) (Kd.R_far (p := ⟨gb496, 3, none⟩) (Kd.R_far (p := ⟨gb496, 2, none⟩) (Kd.R_far (p := ⟨gb496, 1, none⟩) (Kd.R_far (p := ⟨gb496, 0, none⟩) (Kd.R_types HO_13.out BK496.out (by decide)) (fun _ hk => hk.2) (.int .i64 t489)) (fun _ hk => hk.2) (.int .i64 t490)) (fun _ hk => hk.2) (.int .i64 t491)) (fun _ hk => hk.2) (.int .i64 t492)) (fun _ hk => hk.2) (.int .i64 t493)) (fun _ hk => hk.2) (.int .i64 t494)) (fun _ hk => hk.1)⟩
              have n1_ : Aside0 (Kd.R (Kd.int .i64) 3 ((((((w72.setCell ⟨gb496, 0, none⟩ (.int .i64 t489)).setCell ⟨gb496, 1, none⟩ (.int .i64 t490)).setCell ⟨gb496, 2, none⟩ (.int .i64 t491)).setCell ⟨gb496, 3, none⟩ (.int .i64 t492)).setCell ⟨gb496, 4, none⟩ (.int .i64 t493)).setCell ⟨gb496, 5, none⟩ (.int .i64 t494)) w.heap.size (fun k_ => some k_ ≠ (.slice Ao39 t478.length co39 : Value).ownBlock) (.slice Ao70 t482.length co70) t482) := ⟨by (with_reducible repeat (first | apply Kd.R_alloc | apply Kd.R_drewN | apply Kd.R_drew)); exact Kd.R_mono (Kd.R_far (p := ⟨gb496, 5, none⟩) (Kd.R_far (p := ⟨gb496, 4, none⟩) (Kd.R_far (p := ⟨gb496, 3, none⟩) (Kd.R_far (p := ⟨gb496, 2, none⟩) (Kd.R_far (p := ⟨gb496, 1, none⟩) (Kd.R_far (p := ⟨gb496, 0, none⟩) (Kd.R_types HO_14.out BK496.out (by decide)) (fun _ hk => hk.2) (.int .i64 t489)) (fun _ hk => hk.2) (.int .i64 t490)) (fun _ hk => hk.2) (.int .i64 t491)) (fun _ hk => hk.2) (.int .i64 t492)) (fun _ hk => hk.2) (.int .i64 t493)) (fun _ hk => hk.2) (.int .i64 t494)) (fun _ hk => hk.1)⟩
              have n2_ : Aside0 (((((((w72.setCell ⟨gb496, 0, none⟩ (.int .i64 t489)).setCell ⟨gb496, 1, none⟩ (.int .i64 t490)).setCell ⟨gb496, 2, none⟩ (.int .i64 t491)).setCell ⟨gb496, 3, none⟩ (.int .i64 t492)).setCell ⟨gb496, 4, none⟩ (.int .i64 t493)).setCell ⟨gb496, 5, none⟩ (.int .i64 t494)).heap[gb461]? = some (.cells #[.int .i64 t449, .int .i64 t450, .int .i64 t451, .int .i64 t452, .int .i64 t453, .int .i64 t454] 27 (0, 0))) := ⟨sp BK461⟩
              have n3_ : Aside0 (((((((w72.setCell ⟨gb496, 0, none⟩ (.int .i64 t489)).setCell ⟨gb496, 1, none⟩ (.int .i64 t490)).setCell ⟨gb496, 2, none⟩ (.int .i64 t491)).setCell ⟨gb496, 3, none⟩ (.int .i64 t492)).setCell ⟨gb496, 4, none⟩ (.int .i64 t493)).setCell ⟨gb496, 5, none⟩ (.int .i64 t494)).heap[gb481]? = some (.cells #[.int .i64 t468, .int .i64 t469, .int .i64 t470, .int .i64 t471, .int .i64 t472, .int .i64 t473] 27 (0, 0))) := ⟨sp BK481⟩
              have n4_ : Aside0 (((((((w72.setCell ⟨gb496, 0, none⟩ (.int .i64 t489)).setCell ⟨gb496, 1, none⟩ (.int .i64 t490)).setCell ⟨gb496, 2, none⟩ (.int .i64 t491)).setCell ⟨gb496, 3, none⟩ (.int .i64 t492)).setCell ⟨gb496, 4, none⟩ (.int .i64 t493)).setCell ⟨gb496, 5, none⟩ (.int .i64 t494)).heap[gb496]? = some (.cells #[.int .i64 t489, .int .i64 t490, .int .i64 t491, .int .i64 t492, .int .i64 t493, .int .i64 t494] 27 (0, 0))) := ⟨sp BK496⟩
              have n5_ : Aside0 (Below w.heap.size w ((((((w72.setCell ⟨gb496, 0, none⟩ (.int .i64 t489)).setCell ⟨gb496, 1, none⟩ (.int .i64 t490)).setCell ⟨gb496, 2, none⟩ (.int .i64 t491)).setCell ⟨gb496, 3, none⟩ (.int .i64 t492)).setCell ⟨gb496, 4, none⟩ (.int .i64 t493)).setCell ⟨gb496, 5, none⟩ (.int .i64 t494))) := ⟨sbw⟩
              (try clear HO_13)
              (try clear HO_14)
              (try clear BK461)
              (try clear BK481)
              (try clear BK496)
              (try clear HB)
              generalize ((((((w72.setCell ⟨gb496, 0, none⟩ (.int .i64 t489)).setCell ⟨gb496, 1, none⟩ (.int .i64 t490)).setCell ⟨gb496, 2, none⟩ (.int .i64 t491)).setCell ⟨gb496, 3, none⟩ (.int .i64 t492)).setCell ⟨gb496, 4, none⟩ (.int .i64 t493)).setCell ⟨gb496, 5, none⟩ (.int .i64 t494)) = w76 at n0_ n1_ n2_ n3_ n4_ n5_ ⊢
              have HO_13 := n0_
              have HO_14 := n1_
              have BK461 := n2_
              have BK481 := n3_
              have BK496 := n4_
              have HB := n5_
              clear n0_ n1_ n2_ n3_ n4_ n5_
              replace HO_13 := Aside0.mk (Kd.R_drew HO_13.out)
              replace HO_14 := Aside0.mk (Kd.R_drew HO_14.out)
              replace BK461 := Aside0.mk (blk_drew BK461.out)
              replace BK481 := Aside0.mk (blk_drew BK481.out)
              replace BK496 := Aside0.mk (blk_drew BK496.out)
              replace HB := Aside0.mk (below_drew1 HB.out)
              have p497 : 0 ≤ (0 : Int) := (by omega)
              have q497 : 0 < (t482.length : Int) := sa
              obtain ⟨ad497, e497, hx497_0⟩ := Kd.at_int (Kd.R_reads' HO_14.out).2.2 0 p497 q497
              cases e497
              have qi497 : (0 < t482.length) = True := eq_true (by omega)
              (try rw [show ((0 : Int)).toNat = 0 from rfl] at hx497_0)
              (try rw [Addr.add_zero'] at hx497_0)
              replace p497 := eq_true p497
              replace q497 := eq_true q497
              refine start_ (n := 28) (S := fun w' => w'.cell? ⟨gb481, 0, none⟩ = some (.int .i64 t468) ∧ w'.cell? ⟨gb481, 1, none⟩ = some (.int .i64 t469) ∧ w'.cell? ⟨gb481, 2, none⟩ = some (.int .i64 t470) ∧ w'.cell? ⟨gb481, 3, none⟩ = some (.int .i64 t471) ∧ w'.cell? ⟨gb481, 4, none⟩ = some (.int .i64 t472) ∧ w'.cell? ⟨gb481, 5, none⟩ = some (.int .i64 t473) ∧ w'.cell? ad497 = some (.int .i64 (rd t482 0))) (ds := []) #[false, false, false, false, false, false, false, false, false, false, false, false, false, false, false, false, false, false, false, false, false, false, false, false, false, false, false, false] (by kernel_rfl) rfl rfl ⟨bc0 BK481, bc1 BK481, bc2 BK481, bc3 BK481, bc4 BK481, bc5 BK481, hx497_0⟩ (fun hHeld => ?_); refine with_tabW laws_FnForecasts.tab23 laws_FnForecasts.bits23 (fun HT_ HW_ => ?_)
              generalize w76.drew = w77 at HO_13 HO_14 BK461 BK481 BK496 HB hx497_0 hHeld ⊢
              refine put 0 117 #[true, false, false, false, false, false, false, false, false, false, false, false, false, false, false, false, false, false, false, false, false, false, false, false, false, false, false, false] HT_ ?_
              refine put 1 118 #[true, true, false, false, false, false, false, false, false, false, false, false, false, false, false, false, false, false, false, false, false, false, false, false, false, false, false, false] HT_ ?_
              refine put 2 119 #[true, true, true, false, false, false, false, false, false, false, false, false, false, false, false, false, false, false, false, false, false, false, false, false, false, false, false, false] HT_ ?_
              refine put 3 120 #[true, true, true, true, false, false, false, false, false, false, false, false, false, false, false, false, false, false, false, false, false, false, false, false, false, false, false, false] HT_ ?_
              refine put 4 121 #[true, true, true, true, true, false, false, false, false, false, false, false, false, false, false, false, false, false, false, false, false, false, false, false, false, false, false, false] HT_ ?_
              refine put 5 122 #[true, true, true, true, true, true, false, false, false, false, false, false, false, false, false, false, false, false, false, false, false, false, false, false, false, false, false, false] HT_ ?_
              refine put 6 123 #[true, true, true, true, true, true, true, false, false, false, false, false, false, false, false, false, false, false, false, false, false, false, false, false, false, false, false, false] HT_ ?_
              refine put 7 124 #[true, true, true, true, true, true, true, true, false, false, false, false, false, false, false, false, false, false, false, false, false, false, false, false, false, false, false, false] HT_ ?_
              refine put 8 125 #[true, true, true, true, true, true, true, true, true, false, false, false, false, false, false, false, false, false, false, false, false, false, false, false, false, false, false, false] HT_ ?_
              refine put 9 126 #[true, true, true, true, true, true, true, true, true, true, false, false, false, false, false, false, false, false, false, false, false, false, false, false, false, false, false, false] HT_ ?_
              refine put 10 127 #[true, true, true, true, true, true, true, true, true, true, true, false, false, false, false, false, false, false, false, false, false, false, false, false, false, false, false, false] HT_ ?_
              refine put 11 128 #[true, true, true, true, true, true, true, true, true, true, true, true, false, false, false, false, false, false, false, false, false, false, false, false, false, false, false, false] HT_ ?_
              refine put 13 130 #[true, true, true, true, true, true, true, true, true, true, true, true, false, true, false, false, false, false, false, false, false, false, false, false, false, false, false, false] HT_ ?_
              refine tat7 12 129 #[true, true, true, true, true, true, true, true, true, true, true, true, true, true, false, false, false, false, false, false, false, false, false, false, false, false, false, false] HT_ HW_ hHeld ?_
              refine tat7 14 131 #[true, true, true, true, true, true, true, true, true, true, true, true, true, true, true, false, false, false, false, false, false, false, false, false, false, false, false, false] HT_ HW_ hHeld ?_
              refine put 15 132 #[true, true, true, true, true, true, true, true, true, true, true, true, true, true, true, true, false, false, false, false, false, false, false, false, false, false, false, false] HT_ ?_
              refine put 16 133 #[true, true, true, true, true, true, true, true, true, true, true, true, true, true, true, true, true, false, false, false, false, false, false, false, false, false, false, false] HT_ ?_
              refine put 17 134 #[true, true, true, true, true, true, true, true, true, true, true, true, true, true, true, true, true, true, false, false, false, false, false, false, false, false, false, false] HT_ ?_
              refine pure_ (i := 18) (N := some 135) (v := undef) (a' := ?_) #[true, true, true, true, true, true, true, true, true, true, true, true, true, true, true, true, true, true, true, false, false, false, false, false, false, false, false, false] rfl rfl (any_of HT_.out (by kernel_rfl)) (fun _ _ _ h => h) (Or.inr ⟨by rfl, rfl⟩) ?_ ?_
              rotate_left
              ·simp only [Act.put, List.setIfInBounds_toArray, List.set_cons_zero, List.set_cons_succ, i64_w, i32_w]
               rfl
              refine pure_ (i := 19) (N := some 136) (v := undef) (a' := ?_) #[true, true, true, true, true, true, true, true, true, true, true, true, true, true, true, true, true, true, true, true, false, false, false, false, false, false, false, false] rfl rfl (any_of HT_.out (by kernel_rfl)) (fun _ _ _ h => h) (Or.inr ⟨by rfl, rfl⟩) ?_ ?_
              rotate_left
              ·simp only [Act.put, List.setIfInBounds_toArray, List.set_cons_zero, List.set_cons_succ, i64_w, i32_w]
               rfl
              refine pure_ (i := 20) (N := some 137) (v := undef) (a' := ?_) #[true, true, true, true, true, true, true, true, true, true, true, true, true, true, true, true, true, true, true, true, true, false, false, false, false, false, false, false] rfl rfl (any_of HT_.out (by kernel_rfl)) (fun _ _ _ h => h) (Or.inr ⟨by rfl, rfl⟩) ?_ ?_
              rotate_left
              ·simp only [Act.put, List.setIfInBounds_toArray, List.set_cons_zero, List.set_cons_succ, i64_w, i32_w]
               rfl
              refine pure_ (i := 21) (N := some 138) (v := undef) (a' := ?_) #[true, true, true, true, true, true, true, true, true, true, true, true, true, true, true, true, true, true, true, true, true, true, false, false, false, false, false, false] rfl rfl (any_of HT_.out (by kernel_rfl)) (fun _ _ _ h => h) (Or.inr ⟨by rfl, rfl⟩) ?_ ?_
              rotate_left
              ·simp only [Act.put, List.setIfInBounds_toArray, List.set_cons_zero, List.set_cons_succ, i64_w, i32_w]
               rfl
              refine pure_ (i := 22) (N := some 139) (v := undef) (a' := ?_) #[true, true, true, true, true, true, true, true, true, true, true, true, true, true, true, true, true, true, true, true, true, true, true, false, false, false, false, false] rfl rfl (any_of HT_.out (by kernel_rfl)) (fun _ _ _ h => h) (Or.inr ⟨by rfl, rfl⟩) ?_ ?_
              rotate_left
              ·simp only [Act.put, List.setIfInBounds_toArray, List.set_cons_zero, List.set_cons_succ, i64_w, i32_w]
               rfl
              refine pure_ (i := 23) (N := some 140) (v := undef) (a' := ?_) #[true, true, true, true, true, true, true, true, true, true, true, true, true, true, true, true, true, true, true, true, true, true, true, true, false, false, false, false] rfl rfl (any_of HT_.out (by kernel_rfl)) (fun _ _ _ h => h) (Or.inr ⟨by rfl, rfl⟩) ?_ ?_
              rotate_left
              ·simp only [Act.put, List.setIfInBounds_toArray, List.set_cons_zero, List.set_cons_succ, i64_w, i32_w]
               rfl
              refine pure_ (i := 24) (N := some 141) (v := undef) (a' := ?_) #[true, true, true, true, true, true, true, true, true, true, true, true, true, true, true, true, true, true, true, true, true, true, true, true, true, false, false, false] rfl rfl (any_of HT_.out (by kernel_rfl)) (fun _ _ _ h => h) (Or.inr ⟨by rfl, rfl⟩) ?_ ?_
              rotate_left
              ·simp only [Act.put, List.setIfInBounds_toArray, List.set_cons_zero, List.set_cons_succ, i64_w, i32_w]
               rfl
              refine pure_ (i := 25) (N := some 142) (v := undef) (a' := ?_) #[true, true, true, true, true, true, true, true, true, true, true, true, true, true, true, true, true, true, true, true, true, true, true, true, true, true, false, false] rfl rfl (any_of HT_.out (by kernel_rfl)) (fun _ _ _ h => h) (Or.inr ⟨by rfl, rfl⟩) ?_ ?_
              rotate_left
              ·simp only [Act.put, List.setIfInBounds_toArray, List.set_cons_zero, List.set_cons_succ, i64_w, i32_w]
               rfl
              refine put 26 143 #[true, true, true, true, true, true, true, true, true, true, true, true, true, true, true, true, true, true, true, true, true, true, true, true, true, true, true, false] HT_ ?_
              refine put 27 2 #[true, true, true, true, true, true, true, true, true, true, true, true, true, true, true, true, true, true, true, true, true, true, true, true, true, true, true, true] HT_ ?_
              refine done_ (done_of HT_.out (by kernel_rfl)) ?_
              try go_wp2
              go_ret
              exact ⟨se, sbw⟩
            ·have c55b0 : ((t482.length : Int) == (wrap64 ((t478.length : Int) + 1))) = false := beq_eq_false_iff_ne.mpr c55
             have c55b1 : ((t482.length : Int) != (wrap64 ((t478.length : Int) + 1))) = true := bne_iff_ne.mpr c55
             obtain rfl := Option.some.inj H
             obtain ⟨Ao78, co78, eo78⟩ := Kd.R_slice HO_14.out
             subst eo78
             try go_wp2_with (first | ((with_reducible refine gate_callee (f := 59) rfl ?_); refine gL (some 114) Try.func59 #[.slice A0 l0.length c0] ?_; (with_reducible refine (spec_DrawSendsLeft.calls k3 _ _ l0 t489 t490 t491 t492 t493 t494 t495 _ ?side1 ?side2 A53.out).mono ?_); (case side1 => exact cb HR0); (case side2 => exact HC0.out); rintro e w79 ⟨rfl, hb⟩; refine ⟨_, rfl, ?_⟩; replace HO_13 := Aside0.mk (Kd.R_below (sr HO_13) hb); replace HO_14 := Aside0.mk (Kd.R_below (sr HO_14) hb); replace BK461 := bb BK461 hb; replace BK481 := bb BK481 hb; replace HB := bsw hb; (try clear hb); (try clear hb2); (try clear hk); (try clear hi)) | ((with_reducible refine gate_dst (N := 18) rfl ?_); (try (refine gate_guard (by rfl) ?_; dsimp only)); refine bx 18 #[.int .i64 0, .int .i64 0, .int .i64 0, .int .i64 0, .int .i64 0, .int .i64 0] 27 ?_; intro gb496 hg w80 hbox hb; replace HO_13 := Aside0.mk (Kd.R_below (sr HO_13) hb); replace HO_14 := Aside0.mk (Kd.R_below (sr HO_14) hb); have GW496 := bzw w hg; have GE496 := bzw w hg; replace HB := bsw hb; have BK496 := Aside0.mk hbox; have NB461_496 := nl BK461 hg; have NB496_461 := ng BK461 hg; replace BK461 := bb BK461 hb; have NB481_496 := nl BK481 hg; have NB496_481 := ng BK481 hg; replace BK481 := bb BK481 hb; clear hb hbox hg; have hnb81 := NB496_461.out; have hnc81 := NB461_496.out; have hnb82 := NB496_481.out; have hnc82 := NB481_496.out; obtain ⟨hcz83_0, hcz83_1, hcz83_2, hcz83_3, hcz83_4, hcz83_5, hfz83_0, hfz83_1, hfz83_2, hfz83_3, hfz83_4, hfz83_5⟩ := cc6 BK496))
             have n0_ : Aside0 (Kd.R (Kd.int .i64) 3 ((((((w80.setCell ⟨gb496, 0, none⟩ (.int .i64 t489)).setCell ⟨gb496, 1, none⟩ (.int .i64 t490)).setCell ⟨gb496, 2, none⟩ (.int .i64 t491)).setCell ⟨gb496, 3, none⟩ (.int .i64 t492)).setCell ⟨gb496, 4, none⟩ (.int .i64 t493)).setCell ⟨gb496, 5, none⟩ (.int .i64 t494)) w.heap.size (fun k_ => some k_ ≠ (.slice Ao78 t482.length co78 : Value).ownBlock) (.slice Ao39 t478.length co39) t478) := ⟨by (with_reducible repeat (first | apply Kd.R_alloc | apply Kd.R_drewN | apply Kd.R_drew)); exact Kd.R_mono (Kd.R_far (p := ⟨gb496, 5, none⟩) (Kd.R_far (p := ⟨gb496, 4, none⟩) (Kd.R_far (p := ⟨gb496, 3, none⟩) (Kd.R_far (p := ⟨gb496, 2, none⟩) (Kd.R_far (p := ⟨gb496, 1, none⟩) (Kd.R_far (p := ⟨gb496, 0, none⟩) (Kd.R_types HO_13.out BK496.out (by decide)) (fun _ hk => hk.2) (.int .i64 t489)) (fun _ hk => hk.2) (.int .i64 t490)) (fun _ hk => hk.2) (.int .i64 t491)) (fun _ hk => hk.2) (.int .i64 t492)) (fun _ hk => hk.2) (.int .i64 t493)) (fun _ hk => hk.2) (.int .i64 t494)) (fun _ hk => hk.1)⟩
             have n1_ : Aside0 (Kd.R (Kd.int .i64) 3 ((((((w80.setCell ⟨gb496, 0, none⟩ (.int .i64 t489)).setCell ⟨gb496, 1, none⟩ (.int .i64 t490)).setCell ⟨gb496, 2, none⟩ (.int .i64 t491)).setCell ⟨gb496, 3, none⟩ (.int .i64 t492)).setCell ⟨gb496, 4, none⟩ (.int .i64 t493)).setCell ⟨gb496, 5, none⟩ (.int .i64 t494)) w.heap.size (fun k_ => some k_ ≠ (.slice Ao39 t478.length co39 : Value).ownBlock) (.slice Ao78 t482.length co78) t482) := ⟨by (with_reducible repeat (first | apply Kd.R_alloc | apply Kd.R_drewN | apply Kd.R_drew)); exact Kd.R_mono (Kd.R_far (p := ⟨gb496, 5, none⟩) (Kd.R_far (p := ⟨gb496, 4, none⟩) (Kd.R_far (p := ⟨gb496, 3, none⟩) (Kd.R_far (p := ⟨gb496, 2, none⟩) (Kd.R_far (p := ⟨gb496, 1, none⟩) (Kd.R_far (p := ⟨gb496, 0, none⟩) (Kd.R_types HO_14.out BK496.out (by decide)) (fun _ hk => hk.2) (.int .i64 t489)) (fun _ hk => hk.2) (.int .i64 t490)) (fun _ hk => hk.2) (.int .i64 t491)) (fun _ hk => hk.2) (.int .i64 t492)) (fun _ hk => hk.2) (.int .i64 t493)) (fun _ hk => hk.2) (.int .i64 t494)) (fun _ hk => hk.1)⟩
             have n2_ : Aside0 (((((((w80.setCell ⟨gb496, 0, none⟩ (.int .i64 t489)).setCell ⟨gb496, 1, none⟩ (.int .i64 t490)).setCell ⟨gb496, 2, none⟩ (.int .i64 t491)).setCell ⟨gb496, 3, none⟩ (.int .i64 t492)).setCell ⟨gb496, 4, none⟩ (.int .i64 t493)).setCell ⟨gb496, 5, none⟩ (.int .i64 t494)).heap[gb461]? = some (.cells #[.int .i64 t449, .int .i64 t450, .int .i64 t451, .int .i64 t452, .int .i64 t453, .int .i64 t454] 27 (0, 0))) := ⟨sp BK461⟩
             have n3_ : Aside0 (((((((w80.setCell ⟨gb496, 0, none⟩ (.int .i64 t489)).setCell ⟨gb496, 1, none⟩ (.int .i64 t490)).setCell ⟨gb496, 2, none⟩ (.int .i64 t491)).setCell ⟨gb496, 3, none⟩ (.int .i64 t492)).setCell ⟨gb496, 4, none⟩ (.int .i64 t493)).setCell ⟨gb496, 5, none⟩ (.int .i64 t494)).heap[gb481]? = some (.cells #[.int .i64 t468, .int .i64 t469, .int .i64 t470, .int .i64 t471, .int .i64 t472, .int .i64 t473] 27 (0, 0))) := ⟨sp BK481⟩
             have n4_ : Aside0 (((((((w80.setCell ⟨gb496, 0, none⟩ (.int .i64 t489)).setCell ⟨gb496, 1, none⟩ (.int .i64 t490)).setCell ⟨gb496, 2, none⟩ (.int .i64 t491)).setCell ⟨gb496, 3, none⟩ (.int .i64 t492)).setCell ⟨gb496, 4, none⟩ (.int .i64 t493)).setCell ⟨gb496, 5, none⟩ (.int .i64 t494)).heap[gb496]? = some (.cells #[.int .i64 t489, .int .i64 t490, .int .i64 t491, .int .i64 t492, .int .i64 t493, .int .i64 t494] 27 (0, 0))) := ⟨sp BK496⟩
             have n5_ : Aside0 (Below w.heap.size w ((((((w80.setCell ⟨gb496, 0, none⟩ (.int .i64 t489)).setCell ⟨gb496, 1, none⟩ (.int .i64 t490)).setCell ⟨gb496, 2, none⟩ (.int .i64 t491)).setCell ⟨gb496, 3, none⟩ (.int .i64 t492)).setCell ⟨gb496, 4, none⟩ (.int .i64 t493)).setCell ⟨gb496, 5, none⟩ (.int .i64 t494))) := ⟨sbw⟩
             (try clear HO_13)
             (try clear HO_14)
             (try clear BK461)
             (try clear BK481)
             (try clear BK496)
             (try clear HB)
             generalize ((((((w80.setCell ⟨gb496, 0, none⟩ (.int .i64 t489)).setCell ⟨gb496, 1, none⟩ (.int .i64 t490)).setCell ⟨gb496, 2, none⟩ (.int .i64 t491)).setCell ⟨gb496, 3, none⟩ (.int .i64 t492)).setCell ⟨gb496, 4, none⟩ (.int .i64 t493)).setCell ⟨gb496, 5, none⟩ (.int .i64 t494)) = w84 at n0_ n1_ n2_ n3_ n4_ n5_ ⊢
             have HO_13 := n0_
             have HO_14 := n1_
             have BK461 := n2_
             have BK481 := n3_
             have BK496 := n4_
             have HB := n5_
             clear n0_ n1_ n2_ n3_ n4_ n5_
             replace HO_13 := Aside0.mk (Kd.R_drew HO_13.out)
             replace HO_14 := Aside0.mk (Kd.R_drew HO_14.out)
             replace BK461 := Aside0.mk (blk_drew BK461.out)
             replace BK481 := Aside0.mk (blk_drew BK481.out)
             replace BK496 := Aside0.mk (blk_drew BK496.out)
             replace HB := Aside0.mk (below_drew1 HB.out)
             refine start_ (n := 28) (S := fun w' => True) (ds := []) #[false, false, false, false, false, false, false, false, false, false, false, false, false, false, false, false, false, false, false, false, false, false, false, false, false, false, false, false] (by kernel_rfl) rfl rfl trivial (fun hHeld => ?_); refine with_tabW laws_FnForecasts.tab23 laws_FnForecasts.bits23 (fun HT_ HW_ => ?_)
             generalize w84.drew = w85 at HO_13 HO_14 BK461 BK481 BK496 HB hHeld ⊢
             refine put 0 117 #[true, false, false, false, false, false, false, false, false, false, false, false, false, false, false, false, false, false, false, false, false, false, false, false, false, false, false, false] HT_ ?_
             refine put 1 118 #[true, true, false, false, false, false, false, false, false, false, false, false, false, false, false, false, false, false, false, false, false, false, false, false, false, false, false, false] HT_ ?_
             refine put 2 119 #[true, true, true, false, false, false, false, false, false, false, false, false, false, false, false, false, false, false, false, false, false, false, false, false, false, false, false, false] HT_ ?_
             refine put 3 120 #[true, true, true, true, false, false, false, false, false, false, false, false, false, false, false, false, false, false, false, false, false, false, false, false, false, false, false, false] HT_ ?_
             refine put 4 121 #[true, true, true, true, true, false, false, false, false, false, false, false, false, false, false, false, false, false, false, false, false, false, false, false, false, false, false, false] HT_ ?_
             refine put 5 122 #[true, true, true, true, true, true, false, false, false, false, false, false, false, false, false, false, false, false, false, false, false, false, false, false, false, false, false, false] HT_ ?_
             refine put 6 123 #[true, true, true, true, true, true, true, false, false, false, false, false, false, false, false, false, false, false, false, false, false, false, false, false, false, false, false, false] HT_ ?_
             refine put 7 124 #[true, true, true, true, true, true, true, true, false, false, false, false, false, false, false, false, false, false, false, false, false, false, false, false, false, false, false, false] HT_ ?_
             refine put 8 125 #[true, true, true, true, true, true, true, true, true, false, false, false, false, false, false, false, false, false, false, false, false, false, false, false, false, false, false, false] HT_ ?_
             refine put 9 126 #[true, true, true, true, true, true, true, true, true, true, false, false, false, false, false, false, false, false, false, false, false, false, false, false, false, false, false, false] HT_ ?_
             refine pure_ (i := 10) (N := some 127) (v := undef) (a' := ?_) #[true, true, true, true, true, true, true, true, true, true, true, false, false, false, false, false, false, false, false, false, false, false, false, false, false, false, false, false] rfl rfl (any_of HT_.out (by kernel_rfl)) (fun _ _ _ h => h) (Or.inr ⟨by rfl, rfl⟩) ?_ ?_
             rotate_left
             ·simp only [Act.put, List.setIfInBounds_toArray, List.set_cons_zero, List.set_cons_succ, i64_w, i32_w]
              rfl
             refine pure_ (i := 11) (N := some 128) (v := undef) (a' := ?_) #[true, true, true, true, true, true, true, true, true, true, true, true, false, false, false, false, false, false, false, false, false, false, false, false, false, false, false, false] rfl rfl (any_of HT_.out (by kernel_rfl)) (fun _ _ _ h => h) (Or.inr ⟨by rfl, rfl⟩) ?_ ?_
             rotate_left
             ·simp only [Act.put, List.setIfInBounds_toArray, List.set_cons_zero, List.set_cons_succ, i64_w, i32_w]
              rfl
             refine pure_ (i := 12) (N := some 129) (v := undef) (a' := ?_) #[true, true, true, true, true, true, true, true, true, true, true, true, true, false, false, false, false, false, false, false, false, false, false, false, false, false, false, false] rfl rfl (any_of HT_.out (by kernel_rfl)) (fun _ _ _ h => h) (Or.inr ⟨by rfl, rfl⟩) ?_ ?_
             rotate_left
             ·simp only [Act.put, List.setIfInBounds_toArray, List.set_cons_zero, List.set_cons_succ, i64_w, i32_w]
              rfl
             refine pure_ (i := 13) (N := some 130) (v := undef) (a' := ?_) #[true, true, true, true, true, true, true, true, true, true, true, true, true, true, false, false, false, false, false, false, false, false, false, false, false, false, false, false] rfl rfl (any_of HT_.out (by kernel_rfl)) (fun _ _ _ h => h) (Or.inr ⟨by rfl, rfl⟩) ?_ ?_
             rotate_left
             ·simp only [Act.put, List.setIfInBounds_toArray, List.set_cons_zero, List.set_cons_succ, i64_w, i32_w]
              rfl
             refine pure_ (i := 14) (N := some 131) (v := undef) (a' := ?_) #[true, true, true, true, true, true, true, true, true, true, true, true, true, true, true, false, false, false, false, false, false, false, false, false, false, false, false, false] rfl rfl (any_of HT_.out (by kernel_rfl)) (fun _ _ _ h => h) (Or.inr ⟨by rfl, rfl⟩) ?_ ?_
             rotate_left
             ·simp only [Act.put, List.setIfInBounds_toArray, List.set_cons_zero, List.set_cons_succ, i64_w, i32_w]
              rfl
             refine pure_ (i := 15) (N := some 132) (v := undef) (a' := ?_) #[true, true, true, true, true, true, true, true, true, true, true, true, true, true, true, true, false, false, false, false, false, false, false, false, false, false, false, false] rfl rfl (any_of HT_.out (by kernel_rfl)) (fun _ _ _ h => h) (Or.inr ⟨by rfl, rfl⟩) ?_ ?_
             rotate_left
             ·simp only [Act.put, List.setIfInBounds_toArray, List.set_cons_zero, List.set_cons_succ, i64_w, i32_w]
              rfl
             refine put 16 133 #[true, true, true, true, true, true, true, true, true, true, true, true, true, true, true, true, true, false, false, false, false, false, false, false, false, false, false, false] HT_ ?_
             refine put 17 134 #[true, true, true, true, true, true, true, true, true, true, true, true, true, true, true, true, true, true, false, false, false, false, false, false, false, false, false, false] HT_ ?_
             refine pure_ (i := 18) (N := some 135) (v := undef) (a' := ?_) #[true, true, true, true, true, true, true, true, true, true, true, true, true, true, true, true, true, true, true, false, false, false, false, false, false, false, false, false] rfl rfl (any_of HT_.out (by kernel_rfl)) (fun _ _ _ h => h) (Or.inr ⟨by rfl, rfl⟩) ?_ ?_
             rotate_left
             ·simp only [Act.put, List.setIfInBounds_toArray, List.set_cons_zero, List.set_cons_succ, i64_w, i32_w]
              rfl
             refine pure_ (i := 19) (N := some 136) (v := undef) (a' := ?_) #[true, true, true, true, true, true, true, true, true, true, true, true, true, true, true, true, true, true, true, true, false, false, false, false, false, false, false, false] rfl rfl (any_of HT_.out (by kernel_rfl)) (fun _ _ _ h => h) (Or.inr ⟨by rfl, rfl⟩) ?_ ?_
             rotate_left
             ·simp only [Act.put, List.setIfInBounds_toArray, List.set_cons_zero, List.set_cons_succ, i64_w, i32_w]
              rfl
             refine pure_ (i := 20) (N := some 137) (v := undef) (a' := ?_) #[true, true, true, true, true, true, true, true, true, true, true, true, true, true, true, true, true, true, true, true, true, false, false, false, false, false, false, false] rfl rfl (any_of HT_.out (by kernel_rfl)) (fun _ _ _ h => h) (Or.inr ⟨by rfl, rfl⟩) ?_ ?_
             rotate_left
             ·simp only [Act.put, List.setIfInBounds_toArray, List.set_cons_zero, List.set_cons_succ, i64_w, i32_w]
              rfl
             refine pure_ (i := 21) (N := some 138) (v := undef) (a' := ?_) #[true, true, true, true, true, true, true, true, true, true, true, true, true, true, true, true, true, true, true, true, true, true, false, false, false, false, false, false] rfl rfl (any_of HT_.out (by kernel_rfl)) (fun _ _ _ h => h) (Or.inr ⟨by rfl, rfl⟩) ?_ ?_
             rotate_left
             ·simp only [Act.put, List.setIfInBounds_toArray, List.set_cons_zero, List.set_cons_succ, i64_w, i32_w]
              rfl
             refine pure_ (i := 22) (N := some 139) (v := undef) (a' := ?_) #[true, true, true, true, true, true, true, true, true, true, true, true, true, true, true, true, true, true, true, true, true, true, true, false, false, false, false, false] rfl rfl (any_of HT_.out (by kernel_rfl)) (fun _ _ _ h => h) (Or.inr ⟨by rfl, rfl⟩) ?_ ?_
             rotate_left
             ·simp only [Act.put, List.setIfInBounds_toArray, List.set_cons_zero, List.set_cons_succ, i64_w, i32_w]
              rfl
             refine pure_ (i := 23) (N := some 140) (v := undef) (a' := ?_) #[true, true, true, true, true, true, true, true, true, true, true, true, true, true, true, true, true, true, true, true, true, true, true, true, false, false, false, false] rfl rfl (any_of HT_.out (by kernel_rfl)) (fun _ _ _ h => h) (Or.inr ⟨by rfl, rfl⟩) ?_ ?_
             rotate_left
             ·simp only [Act.put, List.setIfInBounds_toArray, List.set_cons_zero, List.set_cons_succ, i64_w, i32_w]
              rfl
             refine pure_ (i := 24) (N := some 141) (v := undef) (a' := ?_) #[true, true, true, true, true, true, true, true, true, true, true, true, true, true, true, true, true, true, true, true, true, true, true, true, true, false, false, false] rfl rfl (any_of HT_.out (by kernel_rfl)) (fun _ _ _ h => h) (Or.inr ⟨by rfl, rfl⟩) ?_ ?_
             rotate_left
             ·simp only [Act.put, List.setIfInBounds_toArray, List.set_cons_zero, List.set_cons_succ, i64_w, i32_w]
              rfl
             refine pure_ (i := 25) (N := some 142) (v := undef) (a' := ?_) #[true, true, true, true, true, true, true, true, true, true, true, true, true, true, true, true, true, true, true, true, true, true, true, true, true, true, false, false] rfl rfl (any_of HT_.out (by kernel_rfl)) (fun _ _ _ h => h) (Or.inr ⟨by rfl, rfl⟩) ?_ ?_
             rotate_left
             ·simp only [Act.put, List.setIfInBounds_toArray, List.set_cons_zero, List.set_cons_succ, i64_w, i32_w]
              rfl
             refine put 26 143 #[true, true, true, true, true, true, true, true, true, true, true, true, true, true, true, true, true, true, true, true, true, true, true, true, true, true, true, false] HT_ ?_
             refine put 27 2 #[true, true, true, true, true, true, true, true, true, true, true, true, true, true, true, true, true, true, true, true, true, true, true, true, true, true, true, true] HT_ ?_
             refine done_ (done_of HT_.out (by kernel_rfl)) ?_
             try go_wp2
             go_ret
             exact ⟨se, sbw⟩
           ·replace H := im H
            obtain rfl := Option.some.inj H
            obtain ⟨Ao86, co86, eo86⟩ := Kd.R_slice HO_14.out
            subst eo86
            try go_wp2_with (first | ((with_reducible refine gate_callee (f := 59) rfl ?_); refine gL (some 114) Try.func59 #[.slice A0 l0.length c0] ?_; (with_reducible refine (spec_DrawSendsLeft.calls k3 _ _ l0 t489 t490 t491 t492 t493 t494 t495 _ ?side1 ?side2 A53.out).mono ?_); (case side1 => exact cb HR0); (case side2 => exact HC0.out); rintro e w87 ⟨rfl, hb⟩; refine ⟨_, rfl, ?_⟩; replace HO_13 := Aside0.mk (Kd.R_below (sr HO_13) hb); replace HO_14 := Aside0.mk (Kd.R_below (sr HO_14) hb); replace BK461 := bb BK461 hb; replace BK481 := bb BK481 hb; replace HB := bsw hb; (try clear hb); (try clear hb2); (try clear hk); (try clear hi)) | ((with_reducible refine gate_dst (N := 18) rfl ?_); (try (refine gate_guard (by rfl) ?_; dsimp only)); refine bx 18 #[.int .i64 0, .int .i64 0, .int .i64 0, .int .i64 0, .int .i64 0, .int .i64 0] 27 ?_; intro gb496 hg w88 hbox hb; replace HO_13 := Aside0.mk (Kd.R_below (sr HO_13) hb); replace HO_14 := Aside0.mk (Kd.R_below (sr HO_14) hb); have GW496 := bzw w hg; have GE496 := bzw w hg; replace HB := bsw hb; have BK496 := Aside0.mk hbox; have NB461_496 := nl BK461 hg; have NB496_461 := ng BK461 hg; replace BK461 := bb BK461 hb; have NB481_496 := nl BK481 hg; have NB496_481 := ng BK481 hg; replace BK481 := bb BK481 hb; clear hb hbox hg; have hnb89 := NB496_461.out; have hnc89 := NB461_496.out; have hnb90 := NB496_481.out; have hnc90 := NB481_496.out; obtain ⟨hcz91_0, hcz91_1, hcz91_2, hcz91_3, hcz91_4, hcz91_5, hfz91_0, hfz91_1, hfz91_2, hfz91_3, hfz91_4, hfz91_5⟩ := cc6 BK496))
            have n0_ : Aside0 (Kd.R (Kd.int .i64) 3 ((((((w88.setCell ⟨gb496, 0, none⟩ (.int .i64 t489)).setCell ⟨gb496, 1, none⟩ (.int .i64 t490)).setCell ⟨gb496, 2, none⟩ (.int .i64 t491)).setCell ⟨gb496, 3, none⟩ (.int .i64 t492)).setCell ⟨gb496, 4, none⟩ (.int .i64 t493)).setCell ⟨gb496, 5, none⟩ (.int .i64 t494)) w.heap.size (fun k_ => some k_ ≠ (.slice Ao86 t482.length co86 : Value).ownBlock) (.slice Ao39 t478.length co39) t478) := ⟨by (with_reducible repeat (first | apply Kd.R_alloc | apply Kd.R_drewN | apply Kd.R_drew)); exact Kd.R_mono (Kd.R_far (p := ⟨gb496, 5, none⟩) (Kd.R_far (p := ⟨gb496, 4, none⟩) (Kd.R_far (p := ⟨gb496, 3, none⟩) (Kd.R_far (p := ⟨gb496, 2, none⟩) (Kd.R_far (p := ⟨gb496, 1, none⟩) (Kd.R_far (p := ⟨gb496, 0, none⟩) (Kd.R_types HO_13.out BK496.out (by decide)) (fun _ hk => hk.2) (.int .i64 t489)) (fun _ hk => hk.2) (.int .i64 t490)) (fun _ hk => hk.2) (.int .i64 t491)) (fun _ hk => hk.2) (.int .i64 t492)) (fun _ hk => hk.2) (.int .i64 t493)) (fun _ hk => hk.2) (.int .i64 t494)) (fun _ hk => hk.1)⟩
            have n1_ : Aside0 (Kd.R (Kd.int .i64) 3 ((((((w88.setCell ⟨gb496, 0, none⟩ (.int .i64 t489)).setCell ⟨gb496, 1, none⟩ (.int .i64 t490)).setCell ⟨gb496, 2, none⟩ (.int .i64 t491)).setCell ⟨gb496, 3, none⟩ (.int .i64 t492)).setCell ⟨gb496, 4, none⟩ (.int .i64 t493)).setCell ⟨gb496, 5, none⟩ (.int .i64 t494)) w.heap.size (fun k_ => some k_ ≠ (.slice Ao39 t478.length co39 : Value).ownBlock) (.slice Ao86 t482.length co86) t482) := ⟨by (with_reducible repeat (first | apply Kd.R_alloc | apply Kd.R_drewN | apply Kd.R_drew)); exact Kd.R_mono (Kd.R_far (p := ⟨gb496, 5, none⟩) (Kd.R_far (p := ⟨gb496, 4, none⟩) (Kd.R_far (p := ⟨gb496, 3, none⟩) (Kd.R_far (p := ⟨gb496, 2, none⟩) (Kd.R_far (p := ⟨gb496, 1, none⟩) (Kd.R_far (p := ⟨gb496, 0, none⟩) (Kd.R_types HO_14.out BK496.out (by decide)) (fun _ hk => hk.2) (.int .i64 t489)) (fun _ hk => hk.2) (.int .i64 t490)) (fun _ hk => hk.2) (.int .i64 t491)) (fun _ hk => hk.2) (.int .i64 t492)) (fun _ hk => hk.2) (.int .i64 t493)) (fun _ hk => hk.2) (.int .i64 t494)) (fun _ hk => hk.1)⟩
            have n2_ : Aside0 (((((((w88.setCell ⟨gb496, 0, none⟩ (.int .i64 t489)).setCell ⟨gb496, 1, none⟩ (.int .i64 t490)).setCell ⟨gb496, 2, none⟩ (.int .i64 t491)).setCell ⟨gb496, 3, none⟩ (.int .i64 t492)).setCell ⟨gb496, 4, none⟩ (.int .i64 t493)).setCell ⟨gb496, 5, none⟩ (.int .i64 t494)).heap[gb461]? = some (.cells #[.int .i64 t449, .int .i64 t450, .int .i64 t451, .int .i64 t452, .int .i64 t453, .int .i64 t454] 27 (0, 0))) := ⟨sp BK461⟩
            have n3_ : Aside0 (((((((w88.setCell ⟨gb496, 0, none⟩ (.int .i64 t489)).setCell ⟨gb496, 1, none⟩ (.int .i64 t490)).setCell ⟨gb496, 2, none⟩ (.int .i64 t491)).setCell ⟨gb496, 3, none⟩ (.int .i64 t492)).setCell ⟨gb496, 4, none⟩ (.int .i64 t493)).setCell ⟨gb496, 5, none⟩ (.int .i64 t494)).heap[gb481]? = some (.cells #[.int .i64 t468, .int .i64 t469, .int .i64 t470, .int .i64 t471, .int .i64 t472, .int .i64 t473] 27 (0, 0))) := ⟨sp BK481⟩
            have n4_ : Aside0 (((((((w88.setCell ⟨gb496, 0, none⟩ (.int .i64 t489)).setCell ⟨gb496, 1, none⟩ (.int .i64 t490)).setCell ⟨gb496, 2, none⟩ (.int .i64 t491)).setCell ⟨gb496, 3, none⟩ (.int .i64 t492)).setCell ⟨gb496, 4, none⟩ (.int .i64 t493)).setCell ⟨gb496, 5, none⟩ (.int .i64 t494)).heap[gb496]? = some (.cells #[.int .i64 t489, .int .i64 t490, .int .i64 t491, .int .i64 t492, .int .i64 t493, .int .i64 t494] 27 (0, 0))) := ⟨sp BK496⟩
            have n5_ : Aside0 (Below w.heap.size w ((((((w88.setCell ⟨gb496, 0, none⟩ (.int .i64 t489)).setCell ⟨gb496, 1, none⟩ (.int .i64 t490)).setCell ⟨gb496, 2, none⟩ (.int .i64 t491)).setCell ⟨gb496, 3, none⟩ (.int .i64 t492)).setCell ⟨gb496, 4, none⟩ (.int .i64 t493)).setCell ⟨gb496, 5, none⟩ (.int .i64 t494))) := ⟨sbw⟩
            (try clear HO_13)
            (try clear HO_14)
            (try clear BK461)
            (try clear BK481)
            (try clear BK496)
            (try clear HB)
            generalize ((((((w88.setCell ⟨gb496, 0, none⟩ (.int .i64 t489)).setCell ⟨gb496, 1, none⟩ (.int .i64 t490)).setCell ⟨gb496, 2, none⟩ (.int .i64 t491)).setCell ⟨gb496, 3, none⟩ (.int .i64 t492)).setCell ⟨gb496, 4, none⟩ (.int .i64 t493)).setCell ⟨gb496, 5, none⟩ (.int .i64 t494)) = w92 at n0_ n1_ n2_ n3_ n4_ n5_ ⊢
            have HO_13 := n0_
            have HO_14 := n1_
            have BK461 := n2_
            have BK481 := n3_
            have BK496 := n4_
            have HB := n5_
            clear n0_ n1_ n2_ n3_ n4_ n5_
            replace HO_13 := Aside0.mk (Kd.R_drew HO_13.out)
            replace HO_14 := Aside0.mk (Kd.R_drew HO_14.out)
            replace BK461 := Aside0.mk (blk_drew BK461.out)
            replace BK481 := Aside0.mk (blk_drew BK481.out)
            replace BK496 := Aside0.mk (blk_drew BK496.out)
            replace HB := Aside0.mk (below_drew1 HB.out)
            refine start_ (n := 28) (S := fun w' => True) (ds := []) #[false, false, false, false, false, false, false, false, false, false, false, false, false, false, false, false, false, false, false, false, false, false, false, false, false, false, false, false] (by kernel_rfl) rfl rfl trivial (fun hHeld => ?_); refine with_tabW laws_FnForecasts.tab23 laws_FnForecasts.bits23 (fun HT_ HW_ => ?_)
            generalize w92.drew = w93 at HO_13 HO_14 BK461 BK481 BK496 HB hHeld ⊢
            refine put 0 117 #[true, false, false, false, false, false, false, false, false, false, false, false, false, false, false, false, false, false, false, false, false, false, false, false, false, false, false, false] HT_ ?_
            refine put 1 118 #[true, true, false, false, false, false, false, false, false, false, false, false, false, false, false, false, false, false, false, false, false, false, false, false, false, false, false, false] HT_ ?_
            refine pure_ (i := 2) (N := some 119) (v := undef) (a' := ?_) #[true, true, true, false, false, false, false, false, false, false, false, false, false, false, false, false, false, false, false, false, false, false, false, false, false, false, false, false] rfl rfl (any_of HT_.out (by kernel_rfl)) (fun _ _ _ h => h) (Or.inr ⟨by rfl, rfl⟩) ?_ ?_
            rotate_left
            ·simp only [Act.put, List.setIfInBounds_toArray, List.set_cons_zero, List.set_cons_succ, i64_w, i32_w]
             rfl
            refine pure_ (i := 3) (N := some 120) (v := undef) (a' := ?_) #[true, true, true, true, false, false, false, false, false, false, false, false, false, false, false, false, false, false, false, false, false, false, false, false, false, false, false, false] rfl rfl (any_of HT_.out (by kernel_rfl)) (fun _ _ _ h => h) (Or.inr ⟨by rfl, rfl⟩) ?_ ?_
            rotate_left
            ·simp only [Act.put, List.setIfInBounds_toArray, List.set_cons_zero, List.set_cons_succ, i64_w, i32_w]
             rfl
            refine pure_ (i := 4) (N := some 121) (v := undef) (a' := ?_) #[true, true, true, true, true, false, false, false, false, false, false, false, false, false, false, false, false, false, false, false, false, false, false, false, false, false, false, false] rfl rfl (any_of HT_.out (by kernel_rfl)) (fun _ _ _ h => h) (Or.inr ⟨by rfl, rfl⟩) ?_ ?_
            rotate_left
            ·simp only [Act.put, List.setIfInBounds_toArray, List.set_cons_zero, List.set_cons_succ, i64_w, i32_w]
             rfl
            refine pure_ (i := 5) (N := some 122) (v := undef) (a' := ?_) #[true, true, true, true, true, true, false, false, false, false, false, false, false, false, false, false, false, false, false, false, false, false, false, false, false, false, false, false] rfl rfl (any_of HT_.out (by kernel_rfl)) (fun _ _ _ h => h) (Or.inr ⟨by rfl, rfl⟩) ?_ ?_
            rotate_left
            ·simp only [Act.put, List.setIfInBounds_toArray, List.set_cons_zero, List.set_cons_succ, i64_w, i32_w]
             rfl
            refine pure_ (i := 6) (N := some 123) (v := undef) (a' := ?_) #[true, true, true, true, true, true, true, false, false, false, false, false, false, false, false, false, false, false, false, false, false, false, false, false, false, false, false, false] rfl rfl (any_of HT_.out (by kernel_rfl)) (fun _ _ _ h => h) (Or.inr ⟨by rfl, rfl⟩) ?_ ?_
            rotate_left
            ·simp only [Act.put, List.setIfInBounds_toArray, List.set_cons_zero, List.set_cons_succ, i64_w, i32_w]
             rfl
            refine pure_ (i := 7) (N := some 124) (v := undef) (a' := ?_) #[true, true, true, true, true, true, true, true, false, false, false, false, false, false, false, false, false, false, false, false, false, false, false, false, false, false, false, false] rfl rfl (any_of HT_.out (by kernel_rfl)) (fun _ _ _ h => h) (Or.inr ⟨by rfl, rfl⟩) ?_ ?_
            rotate_left
            ·simp only [Act.put, List.setIfInBounds_toArray, List.set_cons_zero, List.set_cons_succ, i64_w, i32_w]
             rfl
            refine put 8 125 #[true, true, true, true, true, true, true, true, true, false, false, false, false, false, false, false, false, false, false, false, false, false, false, false, false, false, false, false] HT_ ?_
            refine put 9 126 #[true, true, true, true, true, true, true, true, true, true, false, false, false, false, false, false, false, false, false, false, false, false, false, false, false, false, false, false] HT_ ?_
            refine pure_ (i := 10) (N := some 127) (v := undef) (a' := ?_) #[true, true, true, true, true, true, true, true, true, true, true, false, false, false, false, false, false, false, false, false, false, false, false, false, false, false, false, false] rfl rfl (any_of HT_.out (by kernel_rfl)) (fun _ _ _ h => h) (Or.inr ⟨by rfl, rfl⟩) ?_ ?_
            rotate_left
            ·simp only [Act.put, List.setIfInBounds_toArray, List.set_cons_zero, List.set_cons_succ, i64_w, i32_w]
             rfl
            refine pure_ (i := 11) (N := some 128) (v := undef) (a' := ?_) #[true, true, true, true, true, true, true, true, true, true, true, true, false, false, false, false, false, false, false, false, false, false, false, false, false, false, false, false] rfl rfl (any_of HT_.out (by kernel_rfl)) (fun _ _ _ h => h) (Or.inr ⟨by rfl, rfl⟩) ?_ ?_
            rotate_left
            ·simp only [Act.put, List.setIfInBounds_toArray, List.set_cons_zero, List.set_cons_succ, i64_w, i32_w]
             rfl
            refine pure_ (i := 12) (N := some 129) (v := undef) (a' := ?_) #[true, true, true, true, true, true, true, true, true, true, true, true, true, false, false, false, false, false, false, false, false, false, false, false, false, false, false, false] rfl rfl (any_of HT_.out (by kernel_rfl)) (fun _ _ _ h => h) (Or.inr ⟨by rfl, rfl⟩) ?_ ?_
            rotate_left
            ·simp only [Act.put, List.setIfInBounds_toArray, List.set_cons_zero, List.set_cons_succ, i64_w, i32_w]
             rfl
            refine pure_ (i := 13) (N := some 130) (v := undef) (a' := ?_) #[true, true, true, true, true, true, true, true, true, true, true, true, true, true, false, false, false, false, false, false, false, false, false, false, false, false, false, false] rfl rfl (any_of HT_.out (by kernel_rfl)) (fun _ _ _ h => h) (Or.inr ⟨by rfl, rfl⟩) ?_ ?_
            rotate_left
            ·simp only [Act.put, List.setIfInBounds_toArray, List.set_cons_zero, List.set_cons_succ, i64_w, i32_w]
             rfl
            refine pure_ (i := 14) (N := some 131) (v := undef) (a' := ?_) #[true, true, true, true, true, true, true, true, true, true, true, true, true, true, true, false, false, false, false, false, false, false, false, false, false, false, false, false] rfl rfl (any_of HT_.out (by kernel_rfl)) (fun _ _ _ h => h) (Or.inr ⟨by rfl, rfl⟩) ?_ ?_
            rotate_left
            ·simp only [Act.put, List.setIfInBounds_toArray, List.set_cons_zero, List.set_cons_succ, i64_w, i32_w]
             rfl
            refine pure_ (i := 15) (N := some 132) (v := undef) (a' := ?_) #[true, true, true, true, true, true, true, true, true, true, true, true, true, true, true, true, false, false, false, false, false, false, false, false, false, false, false, false] rfl rfl (any_of HT_.out (by kernel_rfl)) (fun _ _ _ h => h) (Or.inr ⟨by rfl, rfl⟩) ?_ ?_
            rotate_left
            ·simp only [Act.put, List.setIfInBounds_toArray, List.set_cons_zero, List.set_cons_succ, i64_w, i32_w]
             rfl
            refine put 16 133 #[true, true, true, true, true, true, true, true, true, true, true, true, true, true, true, true, true, false, false, false, false, false, false, false, false, false, false, false] HT_ ?_
            refine put 17 134 #[true, true, true, true, true, true, true, true, true, true, true, true, true, true, true, true, true, true, false, false, false, false, false, false, false, false, false, false] HT_ ?_
            refine pure_ (i := 18) (N := some 135) (v := undef) (a' := ?_) #[true, true, true, true, true, true, true, true, true, true, true, true, true, true, true, true, true, true, true, false, false, false, false, false, false, false, false, false] rfl rfl (any_of HT_.out (by kernel_rfl)) (fun _ _ _ h => h) (Or.inr ⟨by rfl, rfl⟩) ?_ ?_
            rotate_left
            ·simp only [Act.put, List.setIfInBounds_toArray, List.set_cons_zero, List.set_cons_succ, i64_w, i32_w]
             rfl
            refine pure_ (i := 19) (N := some 136) (v := undef) (a' := ?_) #[true, true, true, true, true, true, true, true, true, true, true, true, true, true, true, true, true, true, true, true, false, false, false, false, false, false, false, false] rfl rfl (any_of HT_.out (by kernel_rfl)) (fun _ _ _ h => h) (Or.inr ⟨by rfl, rfl⟩) ?_ ?_
            rotate_left
            ·simp only [Act.put, List.setIfInBounds_toArray, List.set_cons_zero, List.set_cons_succ, i64_w, i32_w]
             rfl
            refine pure_ (i := 20) (N := some 137) (v := undef) (a' := ?_) #[true, true, true, true, true, true, true, true, true, true, true, true, true, true, true, true, true, true, true, true, true, false, false, false, false, false, false, false] rfl rfl (any_of HT_.out (by kernel_rfl)) (fun _ _ _ h => h) (Or.inr ⟨by rfl, rfl⟩) ?_ ?_
            rotate_left
            ·simp only [Act.put, List.setIfInBounds_toArray, List.set_cons_zero, List.set_cons_succ, i64_w, i32_w]
             rfl
            refine pure_ (i := 21) (N := some 138) (v := undef) (a' := ?_) #[true, true, true, true, true, true, true, true, true, true, true, true, true, true, true, true, true, true, true, true, true, true, false, false, false, false, false, false] rfl rfl (any_of HT_.out (by kernel_rfl)) (fun _ _ _ h => h) (Or.inr ⟨by rfl, rfl⟩) ?_ ?_
            rotate_left
            ·simp only [Act.put, List.setIfInBounds_toArray, List.set_cons_zero, List.set_cons_succ, i64_w, i32_w]
             rfl
            refine pure_ (i := 22) (N := some 139) (v := undef) (a' := ?_) #[true, true, true, true, true, true, true, true, true, true, true, true, true, true, true, true, true, true, true, true, true, true, true, false, false, false, false, false] rfl rfl (any_of HT_.out (by kernel_rfl)) (fun _ _ _ h => h) (Or.inr ⟨by rfl, rfl⟩) ?_ ?_
            rotate_left
            ·simp only [Act.put, List.setIfInBounds_toArray, List.set_cons_zero, List.set_cons_succ, i64_w, i32_w]
             rfl
            refine pure_ (i := 23) (N := some 140) (v := undef) (a' := ?_) #[true, true, true, true, true, true, true, true, true, true, true, true, true, true, true, true, true, true, true, true, true, true, true, true, false, false, false, false] rfl rfl (any_of HT_.out (by kernel_rfl)) (fun _ _ _ h => h) (Or.inr ⟨by rfl, rfl⟩) ?_ ?_
            rotate_left
            ·simp only [Act.put, List.setIfInBounds_toArray, List.set_cons_zero, List.set_cons_succ, i64_w, i32_w]
             rfl
            refine pure_ (i := 24) (N := some 141) (v := undef) (a' := ?_) #[true, true, true, true, true, true, true, true, true, true, true, true, true, true, true, true, true, true, true, true, true, true, true, true, true, false, false, false] rfl rfl (any_of HT_.out (by kernel_rfl)) (fun _ _ _ h => h) (Or.inr ⟨by rfl, rfl⟩) ?_ ?_
            rotate_left
            ·simp only [Act.put, List.setIfInBounds_toArray, List.set_cons_zero, List.set_cons_succ, i64_w, i32_w]
             rfl
            refine pure_ (i := 25) (N := some 142) (v := undef) (a' := ?_) #[true, true, true, true, true, true, true, true, true, true, true, true, true, true, true, true, true, true, true, true, true, true, true, true, true, true, false, false] rfl rfl (any_of HT_.out (by kernel_rfl)) (fun _ _ _ h => h) (Or.inr ⟨by rfl, rfl⟩) ?_ ?_
            rotate_left
            ·simp only [Act.put, List.setIfInBounds_toArray, List.set_cons_zero, List.set_cons_succ, i64_w, i32_w]
             rfl
            refine put 26 143 #[true, true, true, true, true, true, true, true, true, true, true, true, true, true, true, true, true, true, true, true, true, true, true, true, true, true, true, false] HT_ ?_
            refine put 27 2 #[true, true, true, true, true, true, true, true, true, true, true, true, true, true, true, true, true, true, true, true, true, true, true, true, true, true, true, true] HT_ ?_
            refine done_ (done_of HT_.out (by kernel_rfl)) ?_
            try go_wp2
            go_ret
            exact ⟨se, sbw⟩

/-- THE ONE PURE STATEMENT of laws_FnForecasts: yours. -/
def laws_FnForecasts.Pure : Prop := ∀ (l0 : List Int), l0.length ≤ maxLen → l0.length * 1 ≤ 140737488351232 → (∀ x ∈ l0, (Lit.int .u8 x).wf = true) → ∃ k, laws_FnForecasts.f k l0 = some true
theorem laws_FnForecasts.walk (P : laws_FnForecasts.Pure) (a0 : Option Addr) (len0 cap0 : Nat) (z0 : List Int) (w : World) (w0 : (a0 = none ∧ len0 = 0 ∧ cap0 = 0 ∧ z0 = []) ∨ ∃ x, a0 = some x ∧ len0 ≤ cap0 ∧ cap0 ≤ maxLen ∧ z0.length = cap0 ∧ (∀ i, i < z0.length → w.cell? (x.add i) = some (.int .u8 (z0.getD i 0))) ∧ ∀ n ∈ z0, (Lit.int .u8 n).wf = true) (y0 : len0 * 1 ≤ 140737488351232) :
    Calls Try.prog 11 #[.slice a0 len0 cap0] w fun e w' => e = .returned (.bool true) ∧ Below w.heap.size w w' := by
 obtain ⟨l0, rfl, hr0, hm0, hw0, hc0⟩ := ReadsInt.ofRowC w0
 obtain ⟨k, h⟩ := P l0 hm0 y0 hw0
 refine (laws_FnForecasts.calls k _ _ l0 true w (Kd.C_of_reads (d := (0 : Int)) (h1 := fun _ => rfl) hr0) hc0 h).mono ?_
 rintro e w' ⟨rfl, hd⟩
 exact ⟨rfl, hd⟩

end Go.Proofs.Ytaciciobhfoglaa.QFnForecasts
