/- What the Go functions of the law FnPaths come to, as Lean functions, and that they do: by a program of the session, out of the kit's printer. Conditions: none. (squeezed). -/
import Derived.Test.YtiihaabhjphaeaaSq
import Derived.Test.YtiihaabhjphaeaaQFnPathsx0
import Derived.Test.YtiihaabhjphaeaaQFnPathsx1
import Derived.Test.YtiihaabhjphaeaaQFnPathsx2
import Derived.Test.YtiihaabhjphaeaaQFnPathsx3
import Derived.Test.YtiihaabhjphaeaaQFnPathsx4
import Derived.Test.YtiihaabhjphaeaaQFnPathsx6
import Derived.Test.YtiihaabhjphaeaaQFnPathsx7
namespace Go.Proofs.Ytiihaabhjphaeaa.QFnPaths
open Go.RowKit Go.Proofs.YtiihaabhjphaeaaW.PrintWords Go.Proofs.YtiihaabhjphaeaaW.PrintLast Go.Proofs.YtiihaabhjphaeaaW.PrintMore Go.Proofs.Ytiihaabhjphaeaa.Open Go.Proofs.Ytiihaabhjphaeaa.Sq
attribute [local go_sem] max2_int min2_int max_two min_two max_three min_three max_four min_four   -- for this text's walks alone
attribute [local go_sem] isSome_set
set_option linter.unusedVariables false
set_option linter.unusedSimpArgs false

/-! ### laws_FnPaths: function 9 -/
mutual
def laws_FnPaths.j0 : Nat → List (S134) → Int → Int → List Int → List Int → Bool → Option (Bool)
  | 0, _, _, _, _, _, _ => none
  | k + 1, x3, x5, x6, x7, x8, x58 => if x58 = true then (some false) else (laws_FnPaths.l0 k x3 x5 x6 x7 x8 0)
def laws_FnPaths.l0 : Nat → List (S134) → Int → Int → List Int → List Int → Int → Option (Bool)
  | 0, _, _, _, _, _, _ => none
  | k + 1, x3, x5, x6, x7, x8, x9 => if x9 < (x7.length : Int) then ((impl_PathTo.f k x8 x9 x6).bind fun t384 => (if 0 ≤ x9 then (if (t384.length : Int) = (wrap64 ((rd x7 x9) + 1)) then (laws_FnPaths.l1 k x3 x5 x6 x7 x8 x9 t384 1) else (some false)) else (none))) else (some true)
def laws_FnPaths.l1 : Nat → List (S134) → Int → Int → List Int → List Int → Int → List Int → Int → Option (Bool)
  | 0, _, _, _, _, _, _, _, _ => none
  | k + 1, x3, x5, x6, x7, x8, x9, x10, x11 => if x11 < (wrap64 ((x10.length : Int) - 1)) then (if 0 ≤ x11 then (if x11 < (x10.length : Int) then (if (rd x10 x11) ≥ x5 then (some false) else (laws_FnPaths.l1 k x3 x5 x6 x7 x8 x9 x10 (wrap64 (x11 + 1)))) else (none)) else (none)) else ((impl_NeighborsIn.f k x3 x9).bind fun t389 => (laws_FnPaths.l2 k x3 x5 x6 x7 x8 x9 t389 0))
def laws_FnPaths.l2 : Nat → List (S134) → Int → Int → List Int → List Int → Int → List Int → Int → Option (Bool)
  | 0, _, _, _, _, _, _, _, _ => none
  | k + 1, x3, x5, x6, x7, x8, x9, x12, x13 => if x13 < (x12.length : Int) then (if 0 ≤ x13 then (if (rd x12 x13) ≥ 0 then (if (rd x12 x13) < (x7.length : Int) then (if 0 ≤ (rd x12 x13) then (if (rd x7 (rd x12 x13)) ≥ 0 then (if (rd x12 x13) < x5 then (if 0 ≤ x9 then (if x9 < (x7.length : Int) then (if (rd x7 x9) < 0 then (some false) else (if (rd x7 x9) > (wrap64 ((rd x7 (rd x12 x13)) + 1)) then (some false) else (laws_FnPaths.l2 k x3 x5 x6 x7 x8 x9 x12 (wrap64 (x13 + 1))))) else (none)) else (none)) else (if (rd x12 x13) = x6 then (if 0 ≤ x9 then (if x9 < (x7.length : Int) then (if (rd x7 x9) < 0 then (some false) else (if (rd x7 x9) > (wrap64 ((rd x7 (rd x12 x13)) + 1)) then (some false) else (laws_FnPaths.l2 k x3 x5 x6 x7 x8 x9 x12 (wrap64 (x13 + 1))))) else (none)) else (none)) else (laws_FnPaths.l2 k x3 x5 x6 x7 x8 x9 x12 (wrap64 (x13 + 1))))) else (laws_FnPaths.l2 k x3 x5 x6 x7 x8 x9 x12 (wrap64 (x13 + 1)))) else (none)) else (laws_FnPaths.l2 k x3 x5 x6 x7 x8 x9 x12 (wrap64 (x13 + 1)))) else (laws_FnPaths.l2 k x3 x5 x6 x7 x8 x9 x12 (wrap64 (x13 + 1)))) else (none)) else (laws_FnPaths.l0 k x3 x5 x6 x7 x8 (wrap64 (x9 + 1)))
end
def laws_FnPaths.f (k : Nat) (l0 : List Int) : Option (Bool) := (laws_big.f l0).bind fun t366 => (if t366 = true then (some true) else ((spec_DrawNextTo.f k l0).bind fun bt367 => ((impl_DistancesTo.f k bt367.1 bt367.2.1 bt367.2.2.1 bt367.2.2.2).bind fun t373 => ((spec_DistancesTo.f k bt367.1 bt367.2.1 bt367.2.2.1 bt367.2.2.2).bind fun t376 => (if (t373.length : Int) = (t376.length : Int) then ((impl_NextTo.f k bt367.1 bt367.2.1 bt367.2.2.1 bt367.2.2.2).bind fun t379 => (if (t373.length : Int) = (t379.length : Int) then ((impl_HasLoop.f k t379).bind fun t382 => (if t382 = true then (laws_FnPaths.j0 k bt367.1 bt367.2.2.1 bt367.2.2.2 t373 t379 true) else ((impl_CountReaching.f k t373).bind fun t383 => (laws_FnPaths.j0 k bt367.1 bt367.2.2.1 bt367.2.2.2 t373 t379 (decide (t383 > (t373.length : Int))))))) else (laws_FnPaths.j0 k bt367.1 bt367.2.2.1 bt367.2.2.2 t373 t379 true))) else (some false))))))
theorem laws_FnPaths.mono_l : ∀ k, (∀ y0 y1 y2 y3 y4 y5, LeO (laws_FnPaths.j0 k y0 y1 y2 y3 y4 y5) (laws_FnPaths.j0 (k + 1) y0 y1 y2 y3 y4 y5)) ∧ (∀ y0 y1 y2 y3 y4 y5, LeO (laws_FnPaths.l0 k y0 y1 y2 y3 y4 y5) (laws_FnPaths.l0 (k + 1) y0 y1 y2 y3 y4 y5)) ∧ (∀ y0 y1 y2 y3 y4 y5 y6 y7, LeO (laws_FnPaths.l1 k y0 y1 y2 y3 y4 y5 y6 y7) (laws_FnPaths.l1 (k + 1) y0 y1 y2 y3 y4 y5 y6 y7)) ∧ (∀ y0 y1 y2 y3 y4 y5 y6 y7, LeO (laws_FnPaths.l2 k y0 y1 y2 y3 y4 y5 y6 y7) (laws_FnPaths.l2 (k + 1) y0 y1 y2 y3 y4 y5 y6 y7))
  | 0 => ⟨fun _ _ _ _ _ _ r h => by simp [laws_FnPaths.j0] at h, fun _ _ _ _ _ _ r h => by simp [laws_FnPaths.l0] at h, fun _ _ _ _ _ _ _ _ r h => by simp [laws_FnPaths.l1] at h, fun _ _ _ _ _ _ _ _ r h => by simp [laws_FnPaths.l2] at h⟩
  | k + 1 => by
    obtain ⟨ih0, ih1, ih2, ih3⟩ := laws_FnPaths.mono_l k
    refine ⟨?_, ?_, ?_, ?_⟩
    · intro y0 y1 y2 y3 y4 y5
      unfold laws_FnPaths.j0
      have m0 := @impl_CountReaching.mono
      have m1 := @impl_DistancesTo.mono
      have m2 := @impl_HasLoop.mono
      have m3 := @impl_NeighborsIn.mono
      have m4 := @impl_NextTo.mono
      have m5 := @impl_PathTo.mono
      have m6 := @spec_DistancesTo.mono
      have m7 := @spec_DrawNextTo.mono
      exact mo
    · intro y0 y1 y2 y3 y4 y5
      unfold laws_FnPaths.l0
      have m0 := @impl_CountReaching.mono
      have m1 := @impl_DistancesTo.mono
      have m2 := @impl_HasLoop.mono
      have m3 := @impl_NeighborsIn.mono
      have m4 := @impl_NextTo.mono
      have m5 := @impl_PathTo.mono
      have m6 := @spec_DistancesTo.mono
      have m7 := @spec_DrawNextTo.mono
      exact mo
    · intro y0 y1 y2 y3 y4 y5 y6 y7
      unfold laws_FnPaths.l1
      have m0 := @impl_CountReaching.mono
      have m1 := @impl_DistancesTo.mono
      have m2 := @impl_HasLoop.mono
      have m3 := @impl_NeighborsIn.mono
      have m4 := @impl_NextTo.mono
      have m5 := @impl_PathTo.mono
      have m6 := @spec_DistancesTo.mono
      have m7 := @spec_DrawNextTo.mono
      exact mo
    · intro y0 y1 y2 y3 y4 y5 y6 y7
      unfold laws_FnPaths.l2
      have m0 := @impl_CountReaching.mono
      have m1 := @impl_DistancesTo.mono
      have m2 := @impl_HasLoop.mono
      have m3 := @impl_NeighborsIn.mono
      have m4 := @impl_NextTo.mono
      have m5 := @impl_PathTo.mono
      have m6 := @spec_DistancesTo.mono
      have m7 := @spec_DrawNextTo.mono
      exact mo
theorem laws_FnPaths.mono : ∀ a0 k, LeO (laws_FnPaths.f k a0) (laws_FnPaths.f (k + 1) a0) := by
  intro a0 k
  obtain ⟨ih0, ih1, ih2, ih3⟩ := laws_FnPaths.mono_l k
  unfold laws_FnPaths.f
  have m0 := @impl_CountReaching.mono
  have m1 := @impl_DistancesTo.mono
  have m2 := @impl_HasLoop.mono
  have m3 := @impl_NeighborsIn.mono
  have m4 := @impl_NextTo.mono
  have m5 := @impl_PathTo.mono
  have m6 := @spec_DistancesTo.mono
  have m7 := @spec_DrawNextTo.mono
  exact mo
set_option maxHeartbeats 8000000 in
set_option maxRecDepth 100000 in
theorem laws_FnPaths.calls (k : Nat) (A0 : Option Addr) (c0 : Nat) (l0 : List Int) (r : Bool) (w : World) (hr0 : Kd.C (Kd.int .u8) w A0 l0.length l0) (hc0 : l0.length ≤ c0) (h : laws_FnPaths.f k l0 = some r) :
    Calls Try.prog 9 #[.slice A0 l0.length c0] w fun e w' => e = .returned (.bool r) ∧ Below w.heap.size w w' := by
 have HR0 := Aside0.mk hr0
 have HC0 := Aside0.mk hc0
 clear hr0 hc0
 have HB := Aside0.mk (Below.refl w.heap.size w)
 have H : ((laws_big.f l0).bind fun t366 => (if t366 = true then (some true) else ((spec_DrawNextTo.f k l0).bind fun bt367 => ((impl_DistancesTo.f k bt367.1 bt367.2.1 bt367.2.2.1 bt367.2.2.2).bind fun t373 => ((spec_DistancesTo.f k bt367.1 bt367.2.1 bt367.2.2.1 bt367.2.2.2).bind fun t376 => (if (t373.length : Int) = (t376.length : Int) then ((impl_NextTo.f k bt367.1 bt367.2.1 bt367.2.2.1 bt367.2.2.2).bind fun t379 => (if (t373.length : Int) = (t379.length : Int) then ((impl_HasLoop.f k t379).bind fun t382 => (if t382 = true then (laws_FnPaths.j0 k bt367.1 bt367.2.2.1 bt367.2.2.2 t373 t379 true) else ((impl_CountReaching.f k t373).bind fun t383 => (laws_FnPaths.j0 k bt367.1 bt367.2.2.1 bt367.2.2.2 t373 t379 (decide (t383 > (t373.length : Int))))))) else (laws_FnPaths.j0 k bt367.1 bt367.2.2.1 bt367.2.2.2 t373 t379 true))) else (some false))))))) = some r := h
 clear h
 obtain ⟨t366, A2, H⟩ := bnd H
 obtain rfl | rfl := tt t366
 ·replace H := ip H
  obtain rfl := Option.some.inj H
  go_enter Try.func9, Try.ntmps9
  go_wp2_with (first | (go_at_call 12; (with_reducible refine (laws_big.calls _ _ l0 true _ ?side1 ?side2 A2.out).mono ?_); (case side1 => repeat (first | exact HR0.out | (with_reducible refine Kd.C_alloc ?_ _) | (with_reducible refine Kd.C_drewN ?_ _) | (with_reducible refine Kd.C_drew ?_))); (case side2 => exact HC0.out); rintro e w' ⟨rfl, ⟨nd, rfl⟩⟩; (try first | exact ⟨rfl, _, World.drewN_drewN _ _ _⟩ | exact ⟨rfl, _, Eq.trans (World.drewN_drewN _ _ _) (congrArg (World.drewN _) (Nat.add_assoc _ _ _))⟩)))
  repeat (go_quiet (first | (go_at_call 12; (with_reducible refine (laws_big.calls _ _ l0 true _ ?side1 ?side2 A2.out).mono ?_); (case side1 => repeat (first | exact HR0.out | (with_reducible refine Kd.C_alloc ?_ _) | (with_reducible refine Kd.C_drewN ?_ _) | (with_reducible refine Kd.C_drew ?_))); (case side2 => exact HC0.out); rintro e w' ⟨rfl, ⟨nd, rfl⟩⟩; (try first | exact ⟨rfl, _, World.drewN_drewN _ _ _⟩ | exact ⟨rfl, _, Eq.trans (World.drewN_drewN _ _ _) (congrArg (World.drewN _) (Nat.add_assoc _ _ _))⟩))); try go_wp2_with (first | (go_at_call 12; (with_reducible refine (laws_big.calls _ _ l0 true _ ?side1 ?side2 A2.out).mono ?_); (case side1 => repeat (first | exact HR0.out | (with_reducible refine Kd.C_alloc ?_ _) | (with_reducible refine Kd.C_drewN ?_ _) | (with_reducible refine Kd.C_drew ?_))); (case side2 => exact HC0.out); rintro e w' ⟨rfl, ⟨nd, rfl⟩⟩; (try first | exact ⟨rfl, _, World.drewN_drewN _ _ _⟩ | exact ⟨rfl, _, Eq.trans (World.drewN_drewN _ _ _) (congrArg (World.drewN _) (Nat.add_assoc _ _ _))⟩))))
  go_ret
  exact ⟨se, sb⟩
 ·replace H := im H
  obtain ⟨⟨t367, t368, t369, t370⟩, A4, H⟩ := bnd H
  replace H : ((impl_DistancesTo.f k t367 t368 t369 t370).bind fun t373 => ((spec_DistancesTo.f k t367 t368 t369 t370).bind fun t376 => (if (t373.length : Int) = (t376.length : Int) then ((impl_NextTo.f k t367 t368 t369 t370).bind fun t379 => (if (t373.length : Int) = (t379.length : Int) then ((impl_HasLoop.f k t379).bind fun t382 => (if t382 = true then (laws_FnPaths.j0 k t367 t369 t370 t373 t379 true) else ((impl_CountReaching.f k t373).bind fun t383 => (laws_FnPaths.j0 k t367 t369 t370 t373 t379 (decide (t383 > (t373.length : Int))))))) else (laws_FnPaths.j0 k t367 t369 t370 t373 t379 true))) else (some false)))) = some r := H
  obtain ⟨t373, A5, H⟩ := bnd H
  obtain ⟨t376, A6, H⟩ := bnd H
  obtain ⟨c7, H⟩ | ⟨c7, H⟩ := ie_ H
  ·have c7b0 : ((t373.length : Int) == (t376.length : Int)) = true := beq_iff_eq.mpr c7
   have c7b1 : ((t373.length : Int) != (t376.length : Int)) = false := bne_eq_false_iff_eq.mpr c7
   have c7b2 : (t373.length == t376.length) = true := by first | simpa using c7 | (simp at c7 ⊢; omega)
   clear c7
   obtain ⟨t379, A8, H⟩ := bnd H
   have HC9 := Aside0.mk H
   clear H
   go_enter Try.func9, Try.ntmps9
   go_upto_region 8 with (first | (go_at_call 12; (with_reducible refine (laws_big.calls _ _ l0 false _ ?side1 ?side2 A2.out).mono ?_); (case side1 => repeat (first | exact HR0.out | (with_reducible refine Kd.C_alloc ?_ _) | (with_reducible refine Kd.C_drewN ?_ _) | (with_reducible refine Kd.C_drew ?_))); (case side2 => exact HC0.out); rintro e w' ⟨rfl, ⟨nd, rfl⟩⟩; (try first | exact ⟨rfl, _, World.drewN_drewN _ _ _⟩ | exact ⟨rfl, _, Eq.trans (World.drewN_drewN _ _ _) (congrArg (World.drewN _) (Nat.add_assoc _ _ _))⟩)) | (go_at_call 54; (with_reducible refine (spec_DrawNextTo.calls k _ _ l0 t367 t368 t369 t370 _ ?side1 ?side2 A4.out).mono ?_); (case side1 => repeat (first | exact HR0.out | (with_reducible refine Kd.C_alloc ?_ _) | (with_reducible refine Kd.C_drewN ?_ _) | (with_reducible refine Kd.C_drew ?_))); (case side2 => exact HC0.out); rintro e w10 ⟨v371, rfl, ho0, hb⟩; have HO372 := Aside0.mk (Kd.R_lower ho0 (below_size (sb))); replace HB := bs hb; (try clear hb); (try clear hb2); (try clear hk); (try clear hi); (try clear ho0); obtain ⟨Ao11, co11, eo11⟩ := Kd.R_slice HO372.out; subst eo11) | (go_at_call 55; (with_reducible refine (impl_DistancesTo.calls k _ _ t367 t368 t369 t370 t373 _ ?side1 ?side2 A5.out).mono ?_); (case side1 => repeat (first | exact (Kd.R_reads' HO372.out).2.2 | (with_reducible refine Kd.C_alloc ?_ _) | (with_reducible refine Kd.C_drewN ?_ _) | (with_reducible refine Kd.C_drew ?_))); (case side2 => exact (Kd.R_reads' HO372.out).2.1); rintro e w12 ⟨v374, rfl, ho0, hb⟩; replace HO372 := Aside0.mk (Kd.R_below (sr HO372) hb); have HO375 := Aside0.mk (Kd.R_lower ho0 (below_size (sb))); replace HB := bs hb; (try clear hb); (try clear hb2); (try clear hk); (try clear hi); (try clear ho0); obtain ⟨Ao13, co13, eo13⟩ := Kd.R_slice HO375.out; subst eo13) | (go_at_call 56; (with_reducible refine (spec_DistancesTo.calls k _ _ t367 t368 t369 t370 t376 _ ?side1 ?side2 A6.out).mono ?_); (case side1 => repeat (first | exact (Kd.R_reads' HO372.out).2.2 | (with_reducible refine Kd.C_alloc ?_ _) | (with_reducible refine Kd.C_drewN ?_ _) | (with_reducible refine Kd.C_drew ?_))); (case side2 => exact (Kd.R_reads' HO372.out).2.1); rintro e w14 ⟨v377, rfl, ho0, hb⟩; replace HO372 := Aside0.mk (Kd.R_below (sr HO372) hb); have HO378 := Aside0.mk (Kd.R_lower (Kd.R_new' ho0 (Kd.R_lt (sr HO375))) (below_size (sb))); replace HO375 := Aside0.mk (Kd.R_elder' (sr HO375) (Kd.R_base ho0) hb); replace HB := bs hb; (try clear hb); (try clear hb2); (try clear hk); (try clear hi); (try clear ho0); obtain ⟨Ao15, co15, eo15⟩ := Kd.R_slice HO378.out; subst eo15) | (go_at_call 57; (with_reducible refine (impl_NextTo.calls k _ _ t367 t368 t369 t370 t379 _ ?side1 ?side2 A8.out).mono ?_); (case side1 => repeat (first | exact (Kd.R_reads' HO372.out).2.2 | (with_reducible refine Kd.C_alloc ?_ _) | (with_reducible refine Kd.C_drewN ?_ _) | (with_reducible refine Kd.C_drew ?_))); (case side2 => exact (Kd.R_reads' HO372.out).2.1); rintro e w16 ⟨v380, rfl, ho0, hb⟩; replace HO372 := Aside0.mk (Kd.R_below (sr HO372) hb); have HO381 := Aside0.mk (Kd.R_lower (Kd.R_new' (Kd.R_new' ho0 (Kd.R_lt (sr HO375))) (Kd.R_lt (sr HO378))) (below_size (sb))); replace HO375 := Aside0.mk (Kd.R_elder' (sr HO375) (Kd.R_base ho0) hb); replace HO378 := Aside0.mk (Kd.R_elder' (sr HO378) (Kd.R_base ho0) hb); replace HB := bs hb; (try clear hb); (try clear hb2); (try clear hk); (try clear hi); (try clear ho0)))
   repeat (go_quiet (first | (go_at_call 12; (with_reducible refine (laws_big.calls _ _ l0 false _ ?side1 ?side2 A2.out).mono ?_); (case side1 => repeat (first | exact HR0.out | (with_reducible refine Kd.C_alloc ?_ _) | (with_reducible refine Kd.C_drewN ?_ _) | (with_reducible refine Kd.C_drew ?_))); (case side2 => exact HC0.out); rintro e w' ⟨rfl, ⟨nd, rfl⟩⟩; (try first | exact ⟨rfl, _, World.drewN_drewN _ _ _⟩ | exact ⟨rfl, _, Eq.trans (World.drewN_drewN _ _ _) (congrArg (World.drewN _) (Nat.add_assoc _ _ _))⟩)) | (go_at_call 54; (with_reducible refine (spec_DrawNextTo.calls k _ _ l0 t367 t368 t369 t370 _ ?side1 ?side2 A4.out).mono ?_); (case side1 => repeat (first | exact HR0.out | (with_reducible refine Kd.C_alloc ?_ _) | (with_reducible refine Kd.C_drewN ?_ _) | (with_reducible refine Kd.C_drew ?_))); (case side2 => exact HC0.out); rintro e w10 ⟨v371, rfl, ho0, hb⟩; have n0_ := Aside0.mk (Kd.R_lower ho0 (below_size (sb))); have n1_ := Aside0.mk (below_step (sb) hb); clear HB; have HO372 := n0_; have HB := n1_; clear n0_ n1_; (try clear hb); (try clear hb2); (try clear hk); (try clear hi); (try clear ho0); obtain ⟨Ao11, co11, eo11⟩ := Kd.R_slice HO372.out; subst eo11) | (go_at_call 55; (with_reducible refine (impl_DistancesTo.calls k _ _ t367 t368 t369 t370 t373 _ ?side1 ?side2 A5.out).mono ?_); (case side1 => repeat (first | exact (Kd.R_reads' HO372.out).2.2 | (with_reducible refine Kd.C_alloc ?_ _) | (with_reducible refine Kd.C_drewN ?_ _) | (with_reducible refine Kd.C_drew ?_))); (case side2 => exact (Kd.R_reads' HO372.out).2.1); rintro e w12 ⟨v374, rfl, ho0, hb⟩; have n0_ := Aside0.mk (Kd.R_below (sr HO372) hb); have n1_ := Aside0.mk (Kd.R_lower ho0 (below_size (sb))); have n2_ := Aside0.mk (below_step (sb) hb); clear HO372; clear HB; have HO372 := n0_; have HO375 := n1_; have HB := n2_; clear n0_ n1_ n2_; (try clear hb); (try clear hb2); (try clear hk); (try clear hi); (try clear ho0); obtain ⟨Ao13, co13, eo13⟩ := Kd.R_slice HO375.out; subst eo13) | (go_at_call 56; (with_reducible refine (spec_DistancesTo.calls k _ _ t367 t368 t369 t370 t376 _ ?side1 ?side2 A6.out).mono ?_); (case side1 => repeat (first | exact (Kd.R_reads' HO372.out).2.2 | (with_reducible refine Kd.C_alloc ?_ _) | (with_reducible refine Kd.C_drewN ?_ _) | (with_reducible refine Kd.C_drew ?_))); (case side2 => exact (Kd.R_reads' HO372.out).2.1); rintro e w14 ⟨v377, rfl, ho0, hb⟩; have n0_ := Aside0.mk (Kd.R_below (sr HO372) hb); have n1_ := Aside0.mk (Kd.R_elder' (sr HO375) (Kd.R_base ho0) hb); have n2_ := Aside0.mk (Kd.R_lower (Kd.R_new' ho0 (Kd.R_lt (sr HO375))) (below_size (sb))); have n3_ := Aside0.mk (below_step (sb) hb); clear HO372; clear HO375; clear HB; have HO372 := n0_; have HO375 := n1_; have HO378 := n2_; have HB := n3_; clear n0_ n1_ n2_ n3_; (try clear hb); (try clear hb2); (try clear hk); (try clear hi); (try clear ho0); obtain ⟨Ao15, co15, eo15⟩ := Kd.R_slice HO378.out; subst eo15) | (go_at_call 57; (with_reducible refine (impl_NextTo.calls k _ _ t367 t368 t369 t370 t379 _ ?side1 ?side2 A8.out).mono ?_); (case side1 => repeat (first | exact (Kd.R_reads' HO372.out).2.2 | (with_reducible refine Kd.C_alloc ?_ _) | (with_reducible refine Kd.C_drewN ?_ _) | (with_reducible refine Kd.C_drew ?_))); (case side2 => exact (Kd.R_reads' HO372.out).2.1); rintro e w16 ⟨v380, rfl, ho0, hb⟩; have n0_ := Aside0.mk (Kd.R_below (sr HO372) hb); have n1_ := Aside0.mk (Kd.R_elder' (sr HO375) (Kd.R_base ho0) hb); have n2_ := Aside0.mk (Kd.R_elder' (sr HO378) (Kd.R_base ho0) hb); have n3_ := Aside0.mk (Kd.R_lower (Kd.R_new' (Kd.R_new' ho0 (Kd.R_lt (sr HO375))) (Kd.R_lt (sr HO378))) (below_size (sb))); have n4_ := Aside0.mk (below_step (sb) hb); clear HO372; clear HO375; clear HO378; clear HB; have HO372 := n0_; have HO375 := n1_; have HO378 := n2_; have HO381 := n3_; have HB := n4_; clear n0_ n1_ n2_ n3_ n4_; (try clear hb); (try clear hb2); (try clear hk); (try clear hi); (try clear ho0))); go_upto_region 8 with (first | (go_at_call 12; (with_reducible refine (laws_big.calls _ _ l0 false _ ?side1 ?side2 A2.out).mono ?_); (case side1 => repeat (first | exact HR0.out | (with_reducible refine Kd.C_alloc ?_ _) | (with_reducible refine Kd.C_drewN ?_ _) | (with_reducible refine Kd.C_drew ?_))); (case side2 => exact HC0.out); rintro e w' ⟨rfl, ⟨nd, rfl⟩⟩; (try first | exact ⟨rfl, _, World.drewN_drewN _ _ _⟩ | exact ⟨rfl, _, Eq.trans (World.drewN_drewN _ _ _) (congrArg (World.drewN _) (Nat.add_assoc _ _ _))⟩)) | (go_at_call 54; (with_reducible refine (spec_DrawNextTo.calls k _ _ l0 t367 t368 t369 t370 _ ?side1 ?side2 A4.out).mono ?_); (case side1 => repeat (first | exact HR0.out | (with_reducible refine Kd.C_alloc ?_ _) | (with_reducible refine Kd.C_drewN ?_ _) | (with_reducible refine Kd.C_drew ?_))); (case side2 => exact HC0.out); rintro e w10 ⟨v371, rfl, ho0, hb⟩; have n0_ := Aside0.mk (Kd.R_lower ho0 (below_size (sb))); have n1_ := Aside0.mk (below_step (sb) hb); clear HB; have HO372 := n0_; have HB := n1_; clear n0_ n1_; (try clear hb); (try clear hb2); (try clear hk); (try clear hi); (try clear ho0); obtain ⟨Ao11, co11, eo11⟩ := Kd.R_slice HO372.out; subst eo11) | (go_at_call 55; (with_reducible refine (impl_DistancesTo.calls k _ _ t367 t368 t369 t370 t373 _ ?side1 ?side2 A5.out).mono ?_); (case side1 => repeat (first | exact (Kd.R_reads' HO372.out).2.2 | (with_reducible refine Kd.C_alloc ?_ _) | (with_reducible refine Kd.C_drewN ?_ _) | (with_reducible refine Kd.C_drew ?_))); (case side2 => exact (Kd.R_reads' HO372.out).2.1); rintro e w12 ⟨v374, rfl, ho0, hb⟩; have n0_ := Aside0.mk (Kd.R_below (sr HO372) hb); have n1_ := Aside0.mk (Kd.R_lower ho0 (below_size (sb))); have n2_ := Aside0.mk (below_step (sb) hb); clear HO372; clear HB; have HO372 := n0_; have HO375 := n1_; have HB := n2_; clear n0_ n1_ n2_; (try clear hb); (try clear hb2); (try clear hk); (try clear hi); (try clear ho0); obtain ⟨Ao13, co13, eo13⟩ := Kd.R_slice HO375.out; subst eo13) | (go_at_call 56; (with_reducible refine (spec_DistancesTo.calls k _ _ t367 t368 t369 t370 t376 _ ?side1 ?side2 A6.out).mono ?_); (case side1 => repeat (first | exact (Kd.R_reads' HO372.out).2.2 | (with_reducible refine Kd.C_alloc ?_ _) | (with_reducible refine Kd.C_drewN ?_ _) | (with_reducible refine Kd.C_drew ?_))); (case side2 => exact (Kd.R_reads' HO372.out).2.1); rintro e w14 ⟨v377, rfl, ho0, hb⟩; have n0_ := Aside0.mk (Kd.R_below (sr HO372) hb); have n1_ := Aside0.mk (Kd.R_elder' (sr HO375) (Kd.R_base ho0) hb); have n2_ := Aside0.mk (Kd.R_lower (Kd.R_new' ho0 (Kd.R_lt (sr HO375))) (below_size (sb))); have n3_ := Aside0.mk (below_step (sb) hb); clear HO372; clear HO375; clear HB; have HO372 := n0_; have HO375 := n1_; have HO378 := n2_; have HB := n3_; clear n0_ n1_ n2_ n3_; (try clear hb); (try clear hb2); (try clear hk); (try clear hi); (try clear ho0); obtain ⟨Ao15, co15, eo15⟩ := Kd.R_slice HO378.out; subst eo15) | (go_at_call 57; (with_reducible refine (impl_NextTo.calls k _ _ t367 t368 t369 t370 t379 _ ?side1 ?side2 A8.out).mono ?_); (case side1 => repeat (first | exact (Kd.R_reads' HO372.out).2.2 | (with_reducible refine Kd.C_alloc ?_ _) | (with_reducible refine Kd.C_drewN ?_ _) | (with_reducible refine Kd.C_drew ?_))); (case side2 => exact (Kd.R_reads' HO372.out).2.1); rintro e w16 ⟨v380, rfl, ho0, hb⟩; have n0_ := Aside0.mk (Kd.R_below (sr HO372) hb); have n1_ := Aside0.mk (Kd.R_elder' (sr HO375) (Kd.R_base ho0) hb); have n2_ := Aside0.mk (Kd.R_elder' (sr HO378) (Kd.R_base ho0) hb); have n3_ := Aside0.mk (Kd.R_lower (Kd.R_new' (Kd.R_new' ho0 (Kd.R_lt (sr HO375))) (Kd.R_lt (sr HO378))) (below_size (sb))); have n4_ := Aside0.mk (below_step (sb) hb); clear HO372; clear HO375; clear HO378; clear HB; have HO372 := n0_; have HO375 := n1_; have HO378 := n2_; have HO381 := n3_; have HB := n4_; clear n0_ n1_ n2_ n3_ n4_; (try clear hb); (try clear hb2); (try clear hk); (try clear hi); (try clear ho0))))
   (try simp only [Act.put, List.setIfInBounds_toArray, List.set_cons_zero, List.set_cons_succ])
   go_cut [58] (fun v58 wc => ∃ (kq : Nat) (x58_8 : Bool), v58 = .bool x58_8 ∧ Aside0 (laws_FnPaths.j0 kq t367 t369 t370 t373 t379 x58_8 = some r) ∧ Aside0 (kq ≤ k) ∧ Aside0 (Kd.R k134 134 wc w.heap.size (fun _ => True) (.slice Ao11 t367.length co11) t367) ∧ Aside0 (Kd.R (Kd.int .i64) 3 wc w.heap.size (fun k_ => some k_ ≠ (v380 : Value).ownBlock) (.slice Ao13 t373.length co13) t373) ∧ Aside0 (Kd.R (Kd.int .i64) 3 wc w.heap.size (fun k_ => some k_ ≠ ((.slice Ao13 t373.length co13) : Value).ownBlock) v380 t379) ∧ Aside0 (Below w.heap.size w wc))
   case first =>
    have H := HC9.out
    clear HC9
    obtain ⟨c17, H⟩ | ⟨c17, H⟩ := ie_ H
    ·have c17b0 : ((t373.length : Int) == (t379.length : Int)) = true := beq_iff_eq.mpr c17
     have c17b1 : ((t373.length : Int) != (t379.length : Int)) = false := bne_eq_false_iff_eq.mpr c17
     have c17b2 : (t373.length == t379.length) = true := by first | simpa using c17 | (simp at c17 ⊢; omega)
     clear c17
     (first | rw [c17b0] | (simp only [i64_w, i32_w]; rw [c17b0]) | skip)
     obtain ⟨t382, A18, H⟩ := bnd H
     obtain rfl | rfl := tt t382
     ·replace H := ip H
      have H' := Aside0.mk H
      clear H
      obtain ⟨Ao20, co20, eo20⟩ := Kd.R_slice HO381.out
      subst eo20
      go_wp2_with (first | (go_at_call 15; (with_reducible refine (impl_HasLoop.calls k _ _ t379 true _ ?side1 ?side2 A18.out).mono ?_); (case side1 => repeat (first | exact (Kd.R_reads' HO381.out).2.2 | (with_reducible refine Kd.C_alloc ?_ _) | (with_reducible refine Kd.C_drewN ?_ _) | (with_reducible refine Kd.C_drew ?_))); (case side2 => exact (Kd.R_reads' HO381.out).2.1); rintro e w21 ⟨rfl, hb⟩; replace HO372 := Aside0.mk (Kd.R_below (sr HO372) hb); replace HO375 := Aside0.mk (Kd.R_below (sr HO375) hb); replace HO378 := Aside0.mk (Kd.R_below (sr HO378) hb); replace HO381 := Aside0.mk (Kd.R_below (sr HO381) hb); replace HB := bs hb; (try clear hb); (try clear hb2); (try clear hk); (try clear hi)))
      repeat (go_quiet (first | (go_at_call 15; (with_reducible refine (impl_HasLoop.calls k _ _ t379 true _ ?side1 ?side2 A18.out).mono ?_); (case side1 => repeat (first | exact (Kd.R_reads' HO381.out).2.2 | (with_reducible refine Kd.C_alloc ?_ _) | (with_reducible refine Kd.C_drewN ?_ _) | (with_reducible refine Kd.C_drew ?_))); (case side2 => exact (Kd.R_reads' HO381.out).2.1); rintro e w21 ⟨rfl, hb⟩; have n0_ := Aside0.mk (Kd.R_below (sr HO372) hb); have n1_ := Aside0.mk (Kd.R_below (sr HO375) hb); have n2_ := Aside0.mk (Kd.R_below (sr HO378) hb); have n3_ := Aside0.mk (Kd.R_below (sr HO381) hb); have n4_ := Aside0.mk (below_step (sb) hb); clear HO372; clear HO375; clear HO378; clear HO381; clear HB; have HO372 := n0_; have HO375 := n1_; have HO378 := n2_; have HO381 := n3_; have HB := n4_; clear n0_ n1_ n2_ n3_ n4_; (try clear hb); (try clear hb2); (try clear hk); (try clear hi))); try go_wp2_with (first | (go_at_call 15; (with_reducible refine (impl_HasLoop.calls k _ _ t379 true _ ?side1 ?side2 A18.out).mono ?_); (case side1 => repeat (first | exact (Kd.R_reads' HO381.out).2.2 | (with_reducible refine Kd.C_alloc ?_ _) | (with_reducible refine Kd.C_drewN ?_ _) | (with_reducible refine Kd.C_drew ?_))); (case side2 => exact (Kd.R_reads' HO381.out).2.1); rintro e w21 ⟨rfl, hb⟩; have n0_ := Aside0.mk (Kd.R_below (sr HO372) hb); have n1_ := Aside0.mk (Kd.R_below (sr HO375) hb); have n2_ := Aside0.mk (Kd.R_below (sr HO378) hb); have n3_ := Aside0.mk (Kd.R_below (sr HO381) hb); have n4_ := Aside0.mk (below_step (sb) hb); clear HO372; clear HO375; clear HO378; clear HO381; clear HB; have HO372 := n0_; have HO375 := n1_; have HO378 := n2_; have HO381 := n3_; have HB := n4_; clear n0_ n1_ n2_ n3_ n4_; (try clear hb); (try clear hb2); (try clear hk); (try clear hi))))
      go_meet
      case rel => exact ⟨_, (true), sc, H', ⟨by first | omega | exact Nat.le_refl _⟩, ⟨sr HO372⟩, ⟨by (with_reducible repeat (first | apply Kd.R_alloc | apply Kd.R_drewN | apply Kd.R_drew)); exact Kd.R_mono HO375.out (fun _ hk => hk.2)⟩, ⟨by (with_reducible repeat (first | apply Kd.R_alloc | apply Kd.R_drewN | apply Kd.R_drew)); exact Kd.R_mono HO381.out (fun _ hk => hk.1.2)⟩, ⟨sb⟩⟩
     ·replace H := im H
      obtain ⟨t383, A22, H⟩ := bnd H
      have H' := Aside0.mk H
      clear H
      obtain ⟨Ao23, co23, eo23⟩ := Kd.R_slice HO381.out
      subst eo23
      go_wp2_with (first | (go_at_call 15; (with_reducible refine (impl_HasLoop.calls k _ _ t379 false _ ?side1 ?side2 A18.out).mono ?_); (case side1 => repeat (first | exact (Kd.R_reads' HO381.out).2.2 | (with_reducible refine Kd.C_alloc ?_ _) | (with_reducible refine Kd.C_drewN ?_ _) | (with_reducible refine Kd.C_drew ?_))); (case side2 => exact (Kd.R_reads' HO381.out).2.1); rintro e w24 ⟨rfl, hb⟩; replace HO372 := Aside0.mk (Kd.R_below (sr HO372) hb); replace HO375 := Aside0.mk (Kd.R_below (sr HO375) hb); replace HO378 := Aside0.mk (Kd.R_below (sr HO378) hb); replace HO381 := Aside0.mk (Kd.R_below (sr HO381) hb); replace HB := bs hb; (try clear hb); (try clear hb2); (try clear hk); (try clear hi)) | (go_at_call 58; (with_reducible refine (impl_CountReaching.calls k _ _ t373 t383 _ ?side1 ?side2 A22.out).mono ?_); (case side1 => repeat (first | exact (Kd.R_reads' HO375.out).2.2 | (with_reducible refine Kd.C_alloc ?_ _) | (with_reducible refine Kd.C_drewN ?_ _) | (with_reducible refine Kd.C_drew ?_))); (case side2 => exact (Kd.R_reads' HO375.out).2.1); rintro e w' ⟨rfl, ⟨nd, rfl⟩⟩; (try first | exact ⟨rfl, _, World.drewN_drewN _ _ _⟩ | exact ⟨rfl, _, Eq.trans (World.drewN_drewN _ _ _) (congrArg (World.drewN _) (Nat.add_assoc _ _ _))⟩)))
      repeat (go_quiet (first | (go_at_call 15; (with_reducible refine (impl_HasLoop.calls k _ _ t379 false _ ?side1 ?side2 A18.out).mono ?_); (case side1 => repeat (first | exact (Kd.R_reads' HO381.out).2.2 | (with_reducible refine Kd.C_alloc ?_ _) | (with_reducible refine Kd.C_drewN ?_ _) | (with_reducible refine Kd.C_drew ?_))); (case side2 => exact (Kd.R_reads' HO381.out).2.1); rintro e w24 ⟨rfl, hb⟩; have n0_ := Aside0.mk (Kd.R_below (sr HO372) hb); have n1_ := Aside0.mk (Kd.R_below (sr HO375) hb); have n2_ := Aside0.mk (Kd.R_below (sr HO378) hb); have n3_ := Aside0.mk (Kd.R_below (sr HO381) hb); have n4_ := Aside0.mk (below_step (sb) hb); clear HO372; clear HO375; clear HO378; clear HO381; clear HB; have HO372 := n0_; have HO375 := n1_; have HO378 := n2_; have HO381 := n3_; have HB := n4_; clear n0_ n1_ n2_ n3_ n4_; (try clear hb); (try clear hb2); (try clear hk); (try clear hi)) | (go_at_call 58; (with_reducible refine (impl_CountReaching.calls k _ _ t373 t383 _ ?side1 ?side2 A22.out).mono ?_); (case side1 => repeat (first | exact (Kd.R_reads' HO375.out).2.2 | (with_reducible refine Kd.C_alloc ?_ _) | (with_reducible refine Kd.C_drewN ?_ _) | (with_reducible refine Kd.C_drew ?_))); (case side2 => exact (Kd.R_reads' HO375.out).2.1); rintro e w' ⟨rfl, ⟨nd, rfl⟩⟩; (try first | exact ⟨rfl, _, World.drewN_drewN _ _ _⟩ | exact ⟨rfl, _, Eq.trans (World.drewN_drewN _ _ _) (congrArg (World.drewN _) (Nat.add_assoc _ _ _))⟩))); try go_wp2_with (first | (go_at_call 15; (with_reducible refine (impl_HasLoop.calls k _ _ t379 false _ ?side1 ?side2 A18.out).mono ?_); (case side1 => repeat (first | exact (Kd.R_reads' HO381.out).2.2 | (with_reducible refine Kd.C_alloc ?_ _) | (with_reducible refine Kd.C_drewN ?_ _) | (with_reducible refine Kd.C_drew ?_))); (case side2 => exact (Kd.R_reads' HO381.out).2.1); rintro e w24 ⟨rfl, hb⟩; have n0_ := Aside0.mk (Kd.R_below (sr HO372) hb); have n1_ := Aside0.mk (Kd.R_below (sr HO375) hb); have n2_ := Aside0.mk (Kd.R_below (sr HO378) hb); have n3_ := Aside0.mk (Kd.R_below (sr HO381) hb); have n4_ := Aside0.mk (below_step (sb) hb); clear HO372; clear HO375; clear HO378; clear HO381; clear HB; have HO372 := n0_; have HO375 := n1_; have HO378 := n2_; have HO381 := n3_; have HB := n4_; clear n0_ n1_ n2_ n3_ n4_; (try clear hb); (try clear hb2); (try clear hk); (try clear hi)) | (go_at_call 58; (with_reducible refine (impl_CountReaching.calls k _ _ t373 t383 _ ?side1 ?side2 A22.out).mono ?_); (case side1 => repeat (first | exact (Kd.R_reads' HO375.out).2.2 | (with_reducible refine Kd.C_alloc ?_ _) | (with_reducible refine Kd.C_drewN ?_ _) | (with_reducible refine Kd.C_drew ?_))); (case side2 => exact (Kd.R_reads' HO375.out).2.1); rintro e w' ⟨rfl, ⟨nd, rfl⟩⟩; (try first | exact ⟨rfl, _, World.drewN_drewN _ _ _⟩ | exact ⟨rfl, _, Eq.trans (World.drewN_drewN _ _ _) (congrArg (World.drewN _) (Nat.add_assoc _ _ _))⟩))))
      go_meet
      case rel => exact ⟨_, (decide (t383 > (t373.length : Int))), sc, H', ⟨by first | omega | exact Nat.le_refl _⟩, ⟨sr HO372⟩, ⟨by (with_reducible repeat (first | apply Kd.R_alloc | apply Kd.R_drewN | apply Kd.R_drew)); exact Kd.R_mono HO375.out (fun _ hk => hk.2)⟩, ⟨by (with_reducible repeat (first | apply Kd.R_alloc | apply Kd.R_drewN | apply Kd.R_drew)); exact Kd.R_mono HO381.out (fun _ hk => hk.1.2)⟩, ⟨sb⟩⟩
    ·have c17b0 : ((t373.length : Int) == (t379.length : Int)) = false := beq_eq_false_iff_ne.mpr c17
     have c17b1 : ((t373.length : Int) != (t379.length : Int)) = true := bne_iff_ne.mpr c17
     have c17b2 : (t373.length == t379.length) = false := by first | simpa using c17 | (simp at c17 ⊢; omega)
     (first | rw [c17b0] | (simp only [i64_w, i32_w]; rw [c17b0]) | skip)
     have H' := Aside0.mk H
     clear H
     obtain ⟨Ao25, co25, eo25⟩ := Kd.R_slice HO381.out
     subst eo25
     go_wp2
     repeat (go_quiet (fail); try go_wp2)
     go_meet
     case rel => exact ⟨_, (true), sc, H', ⟨by first | omega | exact Nat.le_refl _⟩, ⟨sr HO372⟩, ⟨by (with_reducible repeat (first | apply Kd.R_alloc | apply Kd.R_drewN | apply Kd.R_drew)); exact Kd.R_mono HO375.out (fun _ hk => hk.2)⟩, ⟨by (with_reducible repeat (first | apply Kd.R_alloc | apply Kd.R_drewN | apply Kd.R_drew)); exact Kd.R_mono HO381.out (fun _ hk => hk.1.2)⟩, ⟨sb⟩⟩
   case rest =>
    clear HC9
    try clear c7
    try clear c7b0
    try clear c7b1
    try clear c7b2
    try clear c17
    try clear c17b0
    try clear c17b1
    try clear c17b2
    obtain ⟨kq, x58_8, rfl, HA, HJ8, HO_3, HO_7, HO_8, HB⟩ := hcut
    cases kq with
    | zero => exact absurd HA.out (by simp [laws_FnPaths.j0])
    | succ kj8 =>
     have H := HA.out
     clear HA
     simp only [laws_FnPaths.j0] at H
     obtain rfl | rfl := tt x58_8
     ·replace H := ip H
      obtain rfl := Option.some.inj H
      go_wp2
      repeat (go_quiet (fail); try go_wp2)
      go_ret
      exact ⟨se, sb⟩
     ·replace H := im H
      have H' := Aside0.mk H
      clear H
      go_wp2
      repeat (go_quiet (fail); try go_wp2)
      go_loopg [9] kj8 (fun kq v9 w' => ∃ (x9_2 : Int), v9 = .int .i64 x9_2 ∧ Aside0 (laws_FnPaths.l0 kq t367 t369 t370 t373 t379 x9_2 = some r) ∧ Aside0 (kq ≤ kj8) ∧ Aside0 (Kd.R k134 134 w' w.heap.size (fun _ => True) (.slice Ao11 t367.length co11) t367) ∧ Aside0 (Kd.R (Kd.int .i64) 3 w' w.heap.size (fun k_ => some k_ ≠ (v380 : Value).ownBlock) (.slice Ao13 t373.length co13) t373) ∧ Aside0 (Kd.R (Kd.int .i64) 3 w' w.heap.size (fun k_ => some k_ ≠ ((.slice Ao13 t373.length co13) : Value).ownBlock) v380 t379) ∧ Aside0 (Below w.heap.size w w'))
      case atStart => exact ⟨(0), sc, H', kk0, ⟨sr HO_3⟩, ⟨sr HO_7⟩, ⟨sr HO_8⟩, ⟨sb⟩⟩
      case round =>
       clear H'
       try clear c7
       try clear c7b0
       try clear c7b1
       try clear c7b2
       try clear c17
       try clear c17b0
       try clear c17b1
       try clear c17b2
       obtain ⟨x9_2, rfl, HA, HK2, HO_3, HO_7, HO_8, HB⟩ := hrel
       cases gk with
       | zero => exact absurd HA.out (by simp [laws_FnPaths.l0])
       | succ k2 =>
        have H := HA.out
        clear HA
        simp only [laws_FnPaths.l0] at H
        obtain ⟨c27, H⟩ | ⟨c27, H⟩ := ie_ H
        ·have c27b0 := decide_eq_true c27
         clear c27
         obtain ⟨t384, A28, H⟩ := bnd H
         obtain ⟨c29b0, H⟩ := id_ H
         obtain ⟨c30, H⟩ | ⟨c30, H⟩ := ie_ H
         ·have c30b0 : ((t384.length : Int) == (wrap64 ((rd t373 x9_2) + 1))) = true := beq_iff_eq.mpr c30
          have c30b1 : ((t384.length : Int) != (wrap64 ((rd t373 x9_2) + 1))) = false := bne_eq_false_iff_eq.mpr c30
          clear c30
          have H' := Aside0.mk H
          clear H
          obtain ⟨Ao31, co31, eo31⟩ := Kd.R_slice HO_8.out
          subst eo31
          go_wp2_with (first | (go_at_call 59; (with_reducible refine (impl_PathTo.calls k2 _ _ t379 x9_2 t370 t384 _ ?side1 ?side2 A28.out).mono ?_); (case side1 => repeat (first | exact (Kd.R_reads' HO_8.out).2.2 | (with_reducible refine Kd.C_alloc ?_ _) | (with_reducible refine Kd.C_drewN ?_ _) | (with_reducible refine Kd.C_drew ?_))); (case side2 => exact (Kd.R_reads' HO_8.out).2.1); rintro e w32 ⟨v385, rfl, ho0, hb⟩; replace HO_3 := Aside0.mk (Kd.R_below (sr HO_3) hb); have HO386 := Aside0.mk (Kd.R_lower (Kd.R_new' (Kd.R_new' ho0 (Kd.R_lt (sr HO_7))) (Kd.R_lt (sr HO_8))) (below_size (sb))); replace HO_7 := Aside0.mk (Kd.R_elder' (sr HO_7) (Kd.R_base ho0) hb); replace HO_8 := Aside0.mk (Kd.R_elder' (sr HO_8) (Kd.R_base ho0) hb); replace HB := bs hb; (try clear hb); (try clear hb2); (try clear hk); (try clear hi); (try clear ho0); obtain ⟨Ao33, co33, eo33⟩ := Kd.R_slice HO386.out; subst eo33; have p387 : 0 ≤ (x9_2 : Int) := sa; have q387 : x9_2 < (t373.length : Int) := sa; obtain ⟨ad387, e387, hx387_0⟩ := Kd.at_int (Kd.R_reads' HO_7.out).2.2 x9_2 p387 q387; cases e387; replace p387 := eq_true p387; replace q387 := eq_true q387))
          repeat (go_quiet (first | (go_at_call 59; (with_reducible refine (impl_PathTo.calls k2 _ _ t379 x9_2 t370 t384 _ ?side1 ?side2 A28.out).mono ?_); (case side1 => repeat (first | exact (Kd.R_reads' HO_8.out).2.2 | (with_reducible refine Kd.C_alloc ?_ _) | (with_reducible refine Kd.C_drewN ?_ _) | (with_reducible refine Kd.C_drew ?_))); (case side2 => exact (Kd.R_reads' HO_8.out).2.1); rintro e w32 ⟨v385, rfl, ho0, hb⟩; have n0_ := Aside0.mk (Kd.R_below (sr HO_3) hb); have n1_ := Aside0.mk (Kd.R_elder' (sr HO_7) (Kd.R_base ho0) hb); have n2_ := Aside0.mk (Kd.R_elder' (sr HO_8) (Kd.R_base ho0) hb); have n3_ := Aside0.mk (Kd.R_lower (Kd.R_new' (Kd.R_new' ho0 (Kd.R_lt (sr HO_7))) (Kd.R_lt (sr HO_8))) (below_size (sb))); have n4_ := Aside0.mk (below_step (sb) hb); clear HO_3; clear HO_7; clear HO_8; clear HB; have HO_3 := n0_; have HO_7 := n1_; have HO_8 := n2_; have HO386 := n3_; have HB := n4_; clear n0_ n1_ n2_ n3_ n4_; (try clear hb); (try clear hb2); (try clear hk); (try clear hi); (try clear ho0); obtain ⟨Ao33, co33, eo33⟩ := Kd.R_slice HO386.out; subst eo33; have p387 : 0 ≤ (x9_2 : Int) := sa; have q387 : x9_2 < (t373.length : Int) := sa; obtain ⟨ad387, e387, hx387_0⟩ := Kd.at_int (Kd.R_reads' HO_7.out).2.2 x9_2 p387 q387; cases e387; replace p387 := eq_true p387; replace q387 := eq_true q387)); try go_wp2_with (first | (go_at_call 59; (with_reducible refine (impl_PathTo.calls k2 _ _ t379 x9_2 t370 t384 _ ?side1 ?side2 A28.out).mono ?_); (case side1 => repeat (first | exact (Kd.R_reads' HO_8.out).2.2 | (with_reducible refine Kd.C_alloc ?_ _) | (with_reducible refine Kd.C_drewN ?_ _) | (with_reducible refine Kd.C_drew ?_))); (case side2 => exact (Kd.R_reads' HO_8.out).2.1); rintro e w32 ⟨v385, rfl, ho0, hb⟩; have n0_ := Aside0.mk (Kd.R_below (sr HO_3) hb); have n1_ := Aside0.mk (Kd.R_elder' (sr HO_7) (Kd.R_base ho0) hb); have n2_ := Aside0.mk (Kd.R_elder' (sr HO_8) (Kd.R_base ho0) hb); have n3_ := Aside0.mk (Kd.R_lower (Kd.R_new' (Kd.R_new' ho0 (Kd.R_lt (sr HO_7))) (Kd.R_lt (sr HO_8))) (below_size (sb))); have n4_ := Aside0.mk (below_step (sb) hb); clear HO_3; clear HO_7; clear HO_8; clear HB; have HO_3 := n0_; have HO_7 := n1_; have HO_8 := n2_; have HO386 := n3_; have HB := n4_; clear n0_ n1_ n2_ n3_ n4_; (try clear hb); (try clear hb2); (try clear hk); (try clear hi); (try clear ho0); obtain ⟨Ao33, co33, eo33⟩ := Kd.R_slice HO386.out; subst eo33; have p387 : 0 ≤ (x9_2 : Int) := sa; have q387 : x9_2 < (t373.length : Int) := sa; obtain ⟨ad387, e387, hx387_0⟩ := Kd.at_int (Kd.R_reads' HO_7.out).2.2 x9_2 p387 q387; cases e387; replace p387 := eq_true p387; replace q387 := eq_true q387)))
          go_loopg [11] k2 (fun kq v11 w' => ∃ (x11_3 : Int), v11 = .int .i64 x11_3 ∧ Aside0 (laws_FnPaths.l1 kq t367 t369 t370 t373 t379 x9_2 t384 x11_3 = some r) ∧ Aside0 (kq ≤ k2) ∧ Aside0 (Kd.R k134 134 w' w.heap.size (fun _ => True) (.slice Ao11 t367.length co11) t367) ∧ Aside0 (Kd.R (Kd.int .i64) 3 w' w.heap.size (fun k_ => some k_ ≠ ((.slice Ao31 t379.length co31) : Value).ownBlock ∧ some k_ ≠ ((.slice Ao33 t384.length co33) : Value).ownBlock) (.slice (some ad387) t373.length co13) t373) ∧ Aside0 (Kd.R (Kd.int .i64) 3 w' w.heap.size (fun k_ => some k_ ≠ ((.slice (some ad387) t373.length co13) : Value).ownBlock ∧ some k_ ≠ ((.slice Ao33 t384.length co33) : Value).ownBlock) (.slice Ao31 t379.length co31) t379) ∧ Aside0 (Kd.R (Kd.int .i64) 3 w' w.heap.size (fun k_ => some k_ ≠ ((.slice (some ad387) t373.length co13) : Value).ownBlock ∧ some k_ ≠ ((.slice Ao31 t379.length co31) : Value).ownBlock) (.slice Ao33 t384.length co33) t384) ∧ Aside0 (Below w.heap.size w w'))
          case atStart => exact ⟨(1), sc, H', kk0, ⟨sr HO_3⟩, ⟨sr HO_7⟩, ⟨sr HO_8⟩, ⟨by (with_reducible repeat (first | apply Kd.R_alloc | apply Kd.R_drewN | apply Kd.R_drew)); exact Kd.R_mono HO386.out (fun _ hk => ⟨hk.1.2, hk.2⟩)⟩, ⟨sb⟩⟩
          case round =>
           clear H'
           try clear c7
           try clear c7b0
           try clear c7b1
           try clear c7b2
           try clear c17
           try clear c17b0
           try clear c17b1
           try clear c17b2
           try clear c27
           try clear c27b0
           try clear c29b0
           try clear c30
           try clear c30b0
           try clear c30b1
           obtain ⟨x11_3, rfl, HA, HK3, HO_3, HO_7, HO_8, HO_10, HB⟩ := hrel
           cases gk with
           | zero => exact absurd HA.out (by simp [laws_FnPaths.l1])
           | succ k3 =>
            have H := HA.out
            clear HA
            simp only [laws_FnPaths.l1] at H
            obtain ⟨c34, H⟩ | ⟨c34, H⟩ := ie_ H
            ·have c34b0 := decide_eq_true c34
             clear c34
             obtain ⟨c35b0, H⟩ := id_ H
             obtain ⟨c36b0, H⟩ := id_ H
             obtain ⟨c37, H⟩ | ⟨c37, H⟩ := ie_ H
             ·have c37b0 := decide_eq_true c37
              clear c37
              obtain rfl := Option.some.inj H
              have p388 : 0 ≤ (x11_3 : Int) := sa
              have q388 : x11_3 < (t384.length : Int) := sa
              obtain ⟨ad388, e388, hx388_0⟩ := Kd.at_int (Kd.R_reads' HO_10.out).2.2 x11_3 p388 q388
              cases e388
              replace p388 := eq_true p388
              replace q388 := eq_true q388
              go_wp2
              repeat (go_quiet (fail); try go_wp2)
              go_ret
              exact ⟨se, sb⟩
             ·have c37b0 := decide_eq_false c37
              clear c37
              have H' := Aside0.mk H
              clear H
              have p388 : 0 ≤ (x11_3 : Int) := sa
              have q388 : x11_3 < (t384.length : Int) := sa
              obtain ⟨ad388, e388, hx388_0⟩ := Kd.at_int (Kd.R_reads' HO_10.out).2.2 x11_3 p388 q388
              cases e388
              replace p388 := eq_true p388
              replace q388 := eq_true q388
              go_wp2
              repeat (go_quiet (fail); try go_wp2)
              go_roundg k3
              case measure => have := HJ8.out; have := HK2.out; have := HK3.out; omega
              case rel => exact ⟨(wrap64 (x11_3 + 1)), sc, H', ⟨by have := HJ8.out; have := HK2.out; have := HK3.out; omega⟩, ⟨sr HO_3⟩, ⟨sr HO_7⟩, ⟨sr HO_8⟩, ⟨sr HO_10⟩, ⟨sb⟩⟩
            ·have c34b0 := decide_eq_false c34
             clear c34
             obtain ⟨t389, A38, H⟩ := bnd H
             have H' := Aside0.mk H
             clear H
             go_wp2_with (first | (go_at_call 60; (with_reducible refine (impl_NeighborsIn.calls k3 _ _ t367 x9_2 t389 _ ?side1 ?side2 A38.out).mono ?_); (case side1 => repeat (first | exact (Kd.R_reads' HO_3.out).2.2 | (with_reducible refine Kd.C_alloc ?_ _) | (with_reducible refine Kd.C_drewN ?_ _) | (with_reducible refine Kd.C_drew ?_))); (case side2 => exact (Kd.R_reads' HO_3.out).2.1); rintro e w39 ⟨v390, rfl, ho0, hb⟩; replace HO_3 := Aside0.mk (Kd.R_below (sr HO_3) hb); have HO391 := Aside0.mk (Kd.R_lower (Kd.R_new' (Kd.R_new' (Kd.R_new' ho0 (Kd.R_lt (sr HO_7))) (Kd.R_lt (sr HO_8))) (Kd.R_lt (sr HO_10))) (below_size (sb))); replace HO_7 := Aside0.mk (Kd.R_elder' (sr HO_7) (Kd.R_base ho0) hb); replace HO_8 := Aside0.mk (Kd.R_elder' (sr HO_8) (Kd.R_base ho0) hb); replace HO_10 := Aside0.mk (Kd.R_elder' (sr HO_10) (Kd.R_base ho0) hb); replace HB := bs hb; (try clear hb); (try clear hb2); (try clear hk); (try clear hi); (try clear ho0)))
             repeat (go_quiet (first | (go_at_call 60; (with_reducible refine (impl_NeighborsIn.calls k3 _ _ t367 x9_2 t389 _ ?side1 ?side2 A38.out).mono ?_); (case side1 => repeat (first | exact (Kd.R_reads' HO_3.out).2.2 | (with_reducible refine Kd.C_alloc ?_ _) | (with_reducible refine Kd.C_drewN ?_ _) | (with_reducible refine Kd.C_drew ?_))); (case side2 => exact (Kd.R_reads' HO_3.out).2.1); rintro e w39 ⟨v390, rfl, ho0, hb⟩; have n0_ := Aside0.mk (Kd.R_below (sr HO_3) hb); have n1_ := Aside0.mk (Kd.R_elder' (sr HO_7) (Kd.R_base ho0) hb); have n2_ := Aside0.mk (Kd.R_elder' (sr HO_8) (Kd.R_base ho0) hb); have n3_ := Aside0.mk (Kd.R_elder' (sr HO_10) (Kd.R_base ho0) hb); have n4_ := Aside0.mk (Kd.R_lower (Kd.R_new' (Kd.R_new' (Kd.R_new' ho0 (Kd.R_lt (sr HO_7))) (Kd.R_lt (sr HO_8))) (Kd.R_lt (sr HO_10))) (below_size (sb))); have n5_ := Aside0.mk (below_step (sb) hb); clear HO_3; clear HO_7; clear HO_8; clear HO_10; clear HB; have HO_3 := n0_; have HO_7 := n1_; have HO_8 := n2_; have HO_10 := n3_; have HO391 := n4_; have HB := n5_; clear n0_ n1_ n2_ n3_ n4_ n5_; (try clear hb); (try clear hb2); (try clear hk); (try clear hi); (try clear ho0))); try go_wp2_with (first | (go_at_call 60; (with_reducible refine (impl_NeighborsIn.calls k3 _ _ t367 x9_2 t389 _ ?side1 ?side2 A38.out).mono ?_); (case side1 => repeat (first | exact (Kd.R_reads' HO_3.out).2.2 | (with_reducible refine Kd.C_alloc ?_ _) | (with_reducible refine Kd.C_drewN ?_ _) | (with_reducible refine Kd.C_drew ?_))); (case side2 => exact (Kd.R_reads' HO_3.out).2.1); rintro e w39 ⟨v390, rfl, ho0, hb⟩; have n0_ := Aside0.mk (Kd.R_below (sr HO_3) hb); have n1_ := Aside0.mk (Kd.R_elder' (sr HO_7) (Kd.R_base ho0) hb); have n2_ := Aside0.mk (Kd.R_elder' (sr HO_8) (Kd.R_base ho0) hb); have n3_ := Aside0.mk (Kd.R_elder' (sr HO_10) (Kd.R_base ho0) hb); have n4_ := Aside0.mk (Kd.R_lower (Kd.R_new' (Kd.R_new' (Kd.R_new' ho0 (Kd.R_lt (sr HO_7))) (Kd.R_lt (sr HO_8))) (Kd.R_lt (sr HO_10))) (below_size (sb))); have n5_ := Aside0.mk (below_step (sb) hb); clear HO_3; clear HO_7; clear HO_8; clear HO_10; clear HB; have HO_3 := n0_; have HO_7 := n1_; have HO_8 := n2_; have HO_10 := n3_; have HO391 := n4_; have HB := n5_; clear n0_ n1_ n2_ n3_ n4_ n5_; (try clear hb); (try clear hb2); (try clear hk); (try clear hi); (try clear ho0))))
             go_loopg [13] k3 (fun kq v13 w' => ∃ (x13_4 : Int), v13 = .int .i64 x13_4 ∧ Aside0 (laws_FnPaths.l2 kq t367 t369 t370 t373 t379 x9_2 t389 x13_4 = some r) ∧ Aside0 (kq ≤ k3) ∧ Aside0 (Kd.R k134 134 w' w.heap.size (fun _ => True) (.slice Ao11 t367.length co11) t367) ∧ Aside0 (Kd.R (Kd.int .i64) 3 w' w.heap.size (fun k_ => some k_ ≠ ((.slice Ao31 t379.length co31) : Value).ownBlock ∧ some k_ ≠ (v390 : Value).ownBlock) (.slice (some ad387) t373.length co13) t373) ∧ Aside0 (Kd.R (Kd.int .i64) 3 w' w.heap.size (fun k_ => some k_ ≠ ((.slice (some ad387) t373.length co13) : Value).ownBlock ∧ some k_ ≠ (v390 : Value).ownBlock) (.slice Ao31 t379.length co31) t379) ∧ Aside0 (Kd.R (Kd.int .i64) 3 w' w.heap.size (fun k_ => some k_ ≠ ((.slice (some ad387) t373.length co13) : Value).ownBlock ∧ some k_ ≠ ((.slice Ao31 t379.length co31) : Value).ownBlock) v390 t389) ∧ Aside0 (Below w.heap.size w w'))
             case atStart => exact ⟨(0), sc, H', kk0, ⟨sr HO_3⟩, ⟨by (with_reducible repeat (first | apply Kd.R_alloc | apply Kd.R_drewN | apply Kd.R_drew)); exact Kd.R_mono HO_7.out (fun _ hk => ⟨hk.1.1, hk.2⟩)⟩, ⟨by (with_reducible repeat (first | apply Kd.R_alloc | apply Kd.R_drewN | apply Kd.R_drew)); exact Kd.R_mono HO_8.out (fun _ hk => ⟨hk.1.1, hk.2⟩)⟩, ⟨by (with_reducible repeat (first | apply Kd.R_alloc | apply Kd.R_drewN | apply Kd.R_drew)); exact Kd.R_mono HO391.out (fun _ hk => ⟨hk.1.1.2, hk.1.2⟩)⟩, ⟨sb⟩⟩
             case round =>
              clear H'
              try clear c7
              try clear c7b0
              try clear c7b1
              try clear c7b2
              try clear c17
              try clear c17b0
              try clear c17b1
              try clear c17b2
              try clear c27
              try clear c27b0
              try clear c29b0
              try clear c30
              try clear c30b0
              try clear c30b1
              try clear c34
              try clear c34b0
              try clear c35b0
              try clear c36b0
              try clear c37
              try clear c37b0
              try clear hx388_0
              try clear p388
              try clear q388
              obtain ⟨x13_4, rfl, HA, HK4, HO_3, HO_7, HO_8, HO_12, HB⟩ := hrel
              cases gk with
              | zero => exact absurd HA.out (by simp [laws_FnPaths.l2])
              | succ k4 =>
               have H := HA.out
               clear HA
               simp only [laws_FnPaths.l2] at H
               obtain ⟨c40, H⟩ | ⟨c40, H⟩ := ie_ H
               ·have c40b0 := decide_eq_true c40
                clear c40
                obtain ⟨c41b0, H⟩ := id_ H
                obtain ⟨c42, H⟩ | ⟨c42, H⟩ := ie_ H
                ·have c42b0 := decide_eq_true c42
                 clear c42
                 obtain ⟨c43, H⟩ | ⟨c43, H⟩ := ie_ H
                 ·have c43b0 := decide_eq_true c43
                  clear c43
                  obtain ⟨c44b0, H⟩ := id_ H
                  obtain ⟨c45, H⟩ | ⟨c45, H⟩ := ie_ H
                  ·have c45b0 := decide_eq_true c45
                   clear c45
                   obtain ⟨c46, H⟩ | ⟨c46, H⟩ := ie_ H
                   ·have c46b0 := decide_eq_true c46
                    clear c46
                    obtain ⟨c47b0, H⟩ := id_ H
                    obtain ⟨c48b0, H⟩ := id_ H
                    obtain ⟨c49, H⟩ | ⟨c49, H⟩ := ie_ H
                    ·have c49b0 := decide_eq_true c49
                     clear c49
                     obtain rfl := Option.some.inj H
                     obtain ⟨Ao50, co50, eo50⟩ := Kd.R_slice HO_12.out
                     subst eo50
                     have p392 : 0 ≤ (x13_4 : Int) := sa
                     have q392 : x13_4 < (t389.length : Int) := sa
                     obtain ⟨ad392, e392, hx392_0⟩ := Kd.at_int (Kd.R_reads' HO_12.out).2.2 x13_4 p392 q392
                     cases e392
                     replace p392 := eq_true p392
                     replace q392 := eq_true q392
                     have p393 : 0 ≤ ((rd t389 x13_4) : Int) := sa
                     have q393 : (rd t389 x13_4) < (t373.length : Int) := sa
                     obtain ⟨ad393, e393, hx393_0⟩ := Kd.at_int (Kd.R_reads' HO_7.out).2.2 (rd t389 x13_4) p393 q393
                     obtain rfl : ad387 = ad393 := (by injection e393)
                     replace p393 := eq_true p393
                     replace q393 := eq_true q393
                     have p394 : 0 ≤ (x9_2 : Int) := sa
                     have q394 : x9_2 < (t373.length : Int) := sa
                     obtain ⟨ad394, e394, hx394_0⟩ := Kd.at_int (Kd.R_reads' HO_7.out).2.2 x9_2 p394 q394
                     obtain rfl : ad387 = ad394 := (by injection e394)
                     replace p394 := eq_true p394
                     replace q394 := eq_true q394
                     go_wp2
                     repeat (go_quiet (fail); try go_wp2)
                     go_ret
                     exact ⟨se, sb⟩
                    ·have c49b0 := decide_eq_false c49
                     clear c49
                     obtain ⟨c51, H⟩ | ⟨c51, H⟩ := ie_ H
                     ·have c51b0 := decide_eq_true c51
                      clear c51
                      obtain rfl := Option.some.inj H
                      obtain ⟨Ao52, co52, eo52⟩ := Kd.R_slice HO_12.out
                      subst eo52
                      have p392 : 0 ≤ (x13_4 : Int) := sa
                      have q392 : x13_4 < (t389.length : Int) := sa
                      obtain ⟨ad392, e392, hx392_0⟩ := Kd.at_int (Kd.R_reads' HO_12.out).2.2 x13_4 p392 q392
                      cases e392
                      replace p392 := eq_true p392
                      replace q392 := eq_true q392
                      have p393 : 0 ≤ ((rd t389 x13_4) : Int) := sa
                      have q393 : (rd t389 x13_4) < (t373.length : Int) := sa
                      obtain ⟨ad393, e393, hx393_0⟩ := Kd.at_int (Kd.R_reads' HO_7.out).2.2 (rd t389 x13_4) p393 q393
                      obtain rfl : ad387 = ad393 := (by injection e393)
                      replace p393 := eq_true p393
                      replace q393 := eq_true q393
                      have p394 : 0 ≤ (x9_2 : Int) := sa
                      have q394 : x9_2 < (t373.length : Int) := sa
                      obtain ⟨ad394, e394, hx394_0⟩ := Kd.at_int (Kd.R_reads' HO_7.out).2.2 x9_2 p394 q394
                      obtain rfl : ad387 = ad394 := (by injection e394)
                      replace p394 := eq_true p394
                      replace q394 := eq_true q394
                      have p395 : 0 ≤ (x9_2 : Int) := sa
                      have q395 : x9_2 < (t373.length : Int) := sa
                      obtain ⟨ad395, e395, hx395_0⟩ := Kd.at_int (Kd.R_reads' HO_7.out).2.2 x9_2 p395 q395
                      obtain rfl : ad387 = ad395 := (by injection e395)
                      replace p395 := eq_true p395
                      replace q395 := eq_true q395
                      have p396 : 0 ≤ ((rd t389 x13_4) : Int) := sa
                      have q396 : (rd t389 x13_4) < (t373.length : Int) := sa
                      obtain ⟨ad396, e396, hx396_0⟩ := Kd.at_int (Kd.R_reads' HO_7.out).2.2 (rd t389 x13_4) p396 q396
                      obtain rfl : ad387 = ad396 := (by injection e396)
                      replace p396 := eq_true p396
                      replace q396 := eq_true q396
                      go_wp2
                      repeat (go_quiet (fail); try go_wp2)
                      go_ret
                      exact ⟨se, sb⟩
                     ·have c51b0 := decide_eq_false c51
                      clear c51
                      have H' := Aside0.mk H
                      clear H
                      obtain ⟨Ao53, co53, eo53⟩ := Kd.R_slice HO_12.out
                      subst eo53
                      have p392 : 0 ≤ (x13_4 : Int) := sa
                      have q392 : x13_4 < (t389.length : Int) := sa
                      obtain ⟨ad392, e392, hx392_0⟩ := Kd.at_int (Kd.R_reads' HO_12.out).2.2 x13_4 p392 q392
                      cases e392
                      replace p392 := eq_true p392
                      replace q392 := eq_true q392
                      have p393 : 0 ≤ ((rd t389 x13_4) : Int) := sa
                      have q393 : (rd t389 x13_4) < (t373.length : Int) := sa
                      obtain ⟨ad393, e393, hx393_0⟩ := Kd.at_int (Kd.R_reads' HO_7.out).2.2 (rd t389 x13_4) p393 q393
                      obtain rfl : ad387 = ad393 := (by injection e393)
                      replace p393 := eq_true p393
                      replace q393 := eq_true q393
                      have p394 : 0 ≤ (x9_2 : Int) := sa
                      have q394 : x9_2 < (t373.length : Int) := sa
                      obtain ⟨ad394, e394, hx394_0⟩ := Kd.at_int (Kd.R_reads' HO_7.out).2.2 x9_2 p394 q394
                      obtain rfl : ad387 = ad394 := (by injection e394)
                      replace p394 := eq_true p394
                      replace q394 := eq_true q394
                      have p395 : 0 ≤ (x9_2 : Int) := sa
                      have q395 : x9_2 < (t373.length : Int) := sa
                      obtain ⟨ad395, e395, hx395_0⟩ := Kd.at_int (Kd.R_reads' HO_7.out).2.2 x9_2 p395 q395
                      obtain rfl : ad387 = ad395 := (by injection e395)
                      replace p395 := eq_true p395
                      replace q395 := eq_true q395
                      have p396 : 0 ≤ ((rd t389 x13_4) : Int) := sa
                      have q396 : (rd t389 x13_4) < (t373.length : Int) := sa
                      obtain ⟨ad396, e396, hx396_0⟩ := Kd.at_int (Kd.R_reads' HO_7.out).2.2 (rd t389 x13_4) p396 q396
                      obtain rfl : ad387 = ad396 := (by injection e396)
                      replace p396 := eq_true p396
                      replace q396 := eq_true q396
                      go_wp2
                      repeat (go_quiet (fail); try go_wp2)
                      go_roundg k4
                      case measure => have := HJ8.out; have := HK2.out; have := HK3.out; have := HK4.out; omega
                      case rel => exact ⟨(wrap64 (x13_4 + 1)), sc, H', ⟨by have := HJ8.out; have := HK2.out; have := HK3.out; have := HK4.out; omega⟩, ⟨sr HO_3⟩, ⟨sr HO_7⟩, ⟨sr HO_8⟩, ⟨sr HO_12⟩, ⟨sb⟩⟩
                   ·have c46b0 := decide_eq_false c46
                    clear c46
                    obtain ⟨c54, H⟩ | ⟨c54, H⟩ := ie_ H
                    ·have c54b0 : ((rd t389 x13_4) == t370) = true := beq_iff_eq.mpr c54
                     have c54b1 : ((rd t389 x13_4) != t370) = false := bne_eq_false_iff_eq.mpr c54
                     clear c54
                     obtain ⟨c55b0, H⟩ := id_ H
                     obtain ⟨c56b0, H⟩ := id_ H
                     obtain ⟨c57, H⟩ | ⟨c57, H⟩ := ie_ H
                     ·have c57b0 := decide_eq_true c57
                      clear c57
                      obtain rfl := Option.some.inj H
                      obtain ⟨Ao58, co58, eo58⟩ := Kd.R_slice HO_12.out
                      subst eo58
                      have p392 : 0 ≤ (x13_4 : Int) := sa
                      have q392 : x13_4 < (t389.length : Int) := sa
                      obtain ⟨ad392, e392, hx392_0⟩ := Kd.at_int (Kd.R_reads' HO_12.out).2.2 x13_4 p392 q392
                      cases e392
                      replace p392 := eq_true p392
                      replace q392 := eq_true q392
                      have p393 : 0 ≤ ((rd t389 x13_4) : Int) := sa
                      have q393 : (rd t389 x13_4) < (t373.length : Int) := sa
                      obtain ⟨ad393, e393, hx393_0⟩ := Kd.at_int (Kd.R_reads' HO_7.out).2.2 (rd t389 x13_4) p393 q393
                      obtain rfl : ad387 = ad393 := (by injection e393)
                      replace p393 := eq_true p393
                      replace q393 := eq_true q393
                      have p397 : 0 ≤ (x9_2 : Int) := sa
                      have q397 : x9_2 < (t373.length : Int) := sa
                      obtain ⟨ad397, e397, hx397_0⟩ := Kd.at_int (Kd.R_reads' HO_7.out).2.2 x9_2 p397 q397
                      obtain rfl : ad387 = ad397 := (by injection e397)
                      replace p397 := eq_true p397
                      replace q397 := eq_true q397
                      go_wp2
                      repeat (go_quiet (fail); try go_wp2)
                      go_ret
                      exact ⟨se, sb⟩
                     ·have c57b0 := decide_eq_false c57
                      clear c57
                      obtain ⟨c59, H⟩ | ⟨c59, H⟩ := ie_ H
                      ·have c59b0 := decide_eq_true c59
                       clear c59
                       obtain rfl := Option.some.inj H
                       obtain ⟨Ao60, co60, eo60⟩ := Kd.R_slice HO_12.out
                       subst eo60
                       have p392 : 0 ≤ (x13_4 : Int) := sa
                       have q392 : x13_4 < (t389.length : Int) := sa
                       obtain ⟨ad392, e392, hx392_0⟩ := Kd.at_int (Kd.R_reads' HO_12.out).2.2 x13_4 p392 q392
                       cases e392
                       replace p392 := eq_true p392
                       replace q392 := eq_true q392
                       have p393 : 0 ≤ ((rd t389 x13_4) : Int) := sa
                       have q393 : (rd t389 x13_4) < (t373.length : Int) := sa
                       obtain ⟨ad393, e393, hx393_0⟩ := Kd.at_int (Kd.R_reads' HO_7.out).2.2 (rd t389 x13_4) p393 q393
                       obtain rfl : ad387 = ad393 := (by injection e393)
                       replace p393 := eq_true p393
                       replace q393 := eq_true q393
                       have p397 : 0 ≤ (x9_2 : Int) := sa
                       have q397 : x9_2 < (t373.length : Int) := sa
                       obtain ⟨ad397, e397, hx397_0⟩ := Kd.at_int (Kd.R_reads' HO_7.out).2.2 x9_2 p397 q397
                       obtain rfl : ad387 = ad397 := (by injection e397)
                       replace p397 := eq_true p397
                       replace q397 := eq_true q397
                       have p398 : 0 ≤ (x9_2 : Int) := sa
                       have q398 : x9_2 < (t373.length : Int) := sa
                       obtain ⟨ad398, e398, hx398_0⟩ := Kd.at_int (Kd.R_reads' HO_7.out).2.2 x9_2 p398 q398
                       obtain rfl : ad387 = ad398 := (by injection e398)
                       replace p398 := eq_true p398
                       replace q398 := eq_true q398
                       have p399 : 0 ≤ ((rd t389 x13_4) : Int) := sa
                       have q399 : (rd t389 x13_4) < (t373.length : Int) := sa
                       obtain ⟨ad399, e399, hx399_0⟩ := Kd.at_int (Kd.R_reads' HO_7.out).2.2 (rd t389 x13_4) p399 q399
                       obtain rfl : ad387 = ad399 := (by injection e399)
                       replace p399 := eq_true p399
                       replace q399 := eq_true q399
                       go_wp2
                       repeat (go_quiet (fail); try go_wp2)
                       go_ret
                       exact ⟨se, sb⟩
                      ·have c59b0 := decide_eq_false c59
                       clear c59
                       have H' := Aside0.mk H
                       clear H
                       obtain ⟨Ao61, co61, eo61⟩ := Kd.R_slice HO_12.out
                       subst eo61
                       have p392 : 0 ≤ (x13_4 : Int) := sa
                       have q392 : x13_4 < (t389.length : Int) := sa
                       obtain ⟨ad392, e392, hx392_0⟩ := Kd.at_int (Kd.R_reads' HO_12.out).2.2 x13_4 p392 q392
                       cases e392
                       replace p392 := eq_true p392
                       replace q392 := eq_true q392
                       have p393 : 0 ≤ ((rd t389 x13_4) : Int) := sa
                       have q393 : (rd t389 x13_4) < (t373.length : Int) := sa
                       obtain ⟨ad393, e393, hx393_0⟩ := Kd.at_int (Kd.R_reads' HO_7.out).2.2 (rd t389 x13_4) p393 q393
                       obtain rfl : ad387 = ad393 := (by injection e393)
                       replace p393 := eq_true p393
                       replace q393 := eq_true q393
                       have p397 : 0 ≤ (x9_2 : Int) := sa
                       have q397 : x9_2 < (t373.length : Int) := sa
                       obtain ⟨ad397, e397, hx397_0⟩ := Kd.at_int (Kd.R_reads' HO_7.out).2.2 x9_2 p397 q397
                       obtain rfl : ad387 = ad397 := (by injection e397)
                       replace p397 := eq_true p397
                       replace q397 := eq_true q397
                       have p398 : 0 ≤ (x9_2 : Int) := sa
                       have q398 : x9_2 < (t373.length : Int) := sa
                       obtain ⟨ad398, e398, hx398_0⟩ := Kd.at_int (Kd.R_reads' HO_7.out).2.2 x9_2 p398 q398
                       obtain rfl : ad387 = ad398 := (by injection e398)
                       replace p398 := eq_true p398
                       replace q398 := eq_true q398
                       have p399 : 0 ≤ ((rd t389 x13_4) : Int) := sa
                       have q399 : (rd t389 x13_4) < (t373.length : Int) := sa
                       obtain ⟨ad399, e399, hx399_0⟩ := Kd.at_int (Kd.R_reads' HO_7.out).2.2 (rd t389 x13_4) p399 q399
                       obtain rfl : ad387 = ad399 := (by injection e399)
                       replace p399 := eq_true p399
                       replace q399 := eq_true q399
                       go_wp2
                       repeat (go_quiet (fail); try go_wp2)
                       go_roundg k4
                       case measure => have := HJ8.out; have := HK2.out; have := HK3.out; have := HK4.out; omega
                       case rel => exact ⟨(wrap64 (x13_4 + 1)), sc, H', ⟨by have := HJ8.out; have := HK2.out; have := HK3.out; have := HK4.out; omega⟩, ⟨sr HO_3⟩, ⟨sr HO_7⟩, ⟨sr HO_8⟩, ⟨sr HO_12⟩, ⟨sb⟩⟩
                    ·have c54b0 : ((rd t389 x13_4) == t370) = false := beq_eq_false_iff_ne.mpr c54
                     have c54b1 : ((rd t389 x13_4) != t370) = true := bne_iff_ne.mpr c54
                     have H' := Aside0.mk H
                     clear H
                     obtain ⟨Ao62, co62, eo62⟩ := Kd.R_slice HO_12.out
                     subst eo62
                     have p392 : 0 ≤ (x13_4 : Int) := sa
                     have q392 : x13_4 < (t389.length : Int) := sa
                     obtain ⟨ad392, e392, hx392_0⟩ := Kd.at_int (Kd.R_reads' HO_12.out).2.2 x13_4 p392 q392
                     cases e392
                     replace p392 := eq_true p392
                     replace q392 := eq_true q392
                     have p393 : 0 ≤ ((rd t389 x13_4) : Int) := sa
                     have q393 : (rd t389 x13_4) < (t373.length : Int) := sa
                     obtain ⟨ad393, e393, hx393_0⟩ := Kd.at_int (Kd.R_reads' HO_7.out).2.2 (rd t389 x13_4) p393 q393
                     obtain rfl : ad387 = ad393 := (by injection e393)
                     replace p393 := eq_true p393
                     replace q393 := eq_true q393
                     go_wp2
                     repeat (go_quiet (fail); try go_wp2)
                     go_roundg k4
                     case measure => have := HJ8.out; have := HK2.out; have := HK3.out; have := HK4.out; omega
                     case rel => exact ⟨(wrap64 (x13_4 + 1)), sc, H', ⟨by have := HJ8.out; have := HK2.out; have := HK3.out; have := HK4.out; omega⟩, ⟨sr HO_3⟩, ⟨sr HO_7⟩, ⟨sr HO_8⟩, ⟨sr HO_12⟩, ⟨sb⟩⟩
                  ·have c45b0 := decide_eq_false c45
                   clear c45
                   have H' := Aside0.mk H
                   clear H
                   obtain ⟨Ao63, co63, eo63⟩ := Kd.R_slice HO_12.out
                   subst eo63
                   have p392 : 0 ≤ (x13_4 : Int) := sa
                   have q392 : x13_4 < (t389.length : Int) := sa
                   obtain ⟨ad392, e392, hx392_0⟩ := Kd.at_int (Kd.R_reads' HO_12.out).2.2 x13_4 p392 q392
                   cases e392
                   replace p392 := eq_true p392
                   replace q392 := eq_true q392
                   have p393 : 0 ≤ ((rd t389 x13_4) : Int) := sa
                   have q393 : (rd t389 x13_4) < (t373.length : Int) := sa
                   obtain ⟨ad393, e393, hx393_0⟩ := Kd.at_int (Kd.R_reads' HO_7.out).2.2 (rd t389 x13_4) p393 q393
                   obtain rfl : ad387 = ad393 := (by injection e393)
                   replace p393 := eq_true p393
                   replace q393 := eq_true q393
                   go_wp2
                   repeat (go_quiet (fail); try go_wp2)
                   go_roundg k4
                   case measure => have := HJ8.out; have := HK2.out; have := HK3.out; have := HK4.out; omega
                   case rel => exact ⟨(wrap64 (x13_4 + 1)), sc, H', ⟨by have := HJ8.out; have := HK2.out; have := HK3.out; have := HK4.out; omega⟩, ⟨sr HO_3⟩, ⟨sr HO_7⟩, ⟨sr HO_8⟩, ⟨sr HO_12⟩, ⟨sb⟩⟩
                 ·have c43b0 := decide_eq_false c43
                  clear c43
                  have H' := Aside0.mk H
                  clear H
                  obtain ⟨Ao64, co64, eo64⟩ := Kd.R_slice HO_12.out
                  subst eo64
                  have p392 : 0 ≤ (x13_4 : Int) := sa
                  have q392 : x13_4 < (t389.length : Int) := sa
                  obtain ⟨ad392, e392, hx392_0⟩ := Kd.at_int (Kd.R_reads' HO_12.out).2.2 x13_4 p392 q392
                  cases e392
                  replace p392 := eq_true p392
                  replace q392 := eq_true q392
                  go_wp2
                  repeat (go_quiet (fail); try go_wp2)
                  go_roundg k4
                  case measure => have := HJ8.out; have := HK2.out; have := HK3.out; have := HK4.out; omega
                  case rel => exact ⟨(wrap64 (x13_4 + 1)), sc, H', ⟨by have := HJ8.out; have := HK2.out; have := HK3.out; have := HK4.out; omega⟩, ⟨sr HO_3⟩, ⟨sr HO_7⟩, ⟨sr HO_8⟩, ⟨sr HO_12⟩, ⟨sb⟩⟩
                ·have c42b0 := decide_eq_false c42
                 clear c42
                 have H' := Aside0.mk H
                 clear H
                 obtain ⟨Ao65, co65, eo65⟩ := Kd.R_slice HO_12.out
                 subst eo65
                 have p392 : 0 ≤ (x13_4 : Int) := sa
                 have q392 : x13_4 < (t389.length : Int) := sa
                 obtain ⟨ad392, e392, hx392_0⟩ := Kd.at_int (Kd.R_reads' HO_12.out).2.2 x13_4 p392 q392
                 cases e392
                 replace p392 := eq_true p392
                 replace q392 := eq_true q392
                 go_wp2
                 repeat (go_quiet (fail); try go_wp2)
                 go_roundg k4
                 case measure => have := HJ8.out; have := HK2.out; have := HK3.out; have := HK4.out; omega
                 case rel => exact ⟨(wrap64 (x13_4 + 1)), sc, H', ⟨by have := HJ8.out; have := HK2.out; have := HK3.out; have := HK4.out; omega⟩, ⟨sr HO_3⟩, ⟨sr HO_7⟩, ⟨sr HO_8⟩, ⟨sr HO_12⟩, ⟨sb⟩⟩
               ·have c40b0 := decide_eq_false c40
                clear c40
                have H' := Aside0.mk H
                clear H
                obtain ⟨Ao66, co66, eo66⟩ := Kd.R_slice HO_12.out
                subst eo66
                go_wp2
                repeat (go_quiet (fail); try go_wp2)
                go_roundg k4
                case measure => have := HJ8.out; have := HK2.out; have := HK3.out; have := HK4.out; omega
                case rel => exact ⟨(wrap64 (x9_2 + 1)), sc, H', ⟨by have := HJ8.out; have := HK2.out; have := HK3.out; have := HK4.out; omega⟩, ⟨sr HO_3⟩, ⟨by (with_reducible repeat (first | apply Kd.R_alloc | apply Kd.R_drewN | apply Kd.R_drew)); exact Kd.R_mono HO_7.out (fun _ hk => hk.1)⟩, ⟨by (with_reducible repeat (first | apply Kd.R_alloc | apply Kd.R_drewN | apply Kd.R_drew)); exact Kd.R_mono HO_8.out (fun _ hk => hk.1)⟩, ⟨sb⟩⟩
         ·have c30b0 : ((t384.length : Int) == (wrap64 ((rd t373 x9_2) + 1))) = false := beq_eq_false_iff_ne.mpr c30
          have c30b1 : ((t384.length : Int) != (wrap64 ((rd t373 x9_2) + 1))) = true := bne_iff_ne.mpr c30
          obtain rfl := Option.some.inj H
          obtain ⟨Ao67, co67, eo67⟩ := Kd.R_slice HO_8.out
          subst eo67
          go_wp2_with (first | (go_at_call 59; (with_reducible refine (impl_PathTo.calls k2 _ _ t379 x9_2 t370 t384 _ ?side1 ?side2 A28.out).mono ?_); (case side1 => repeat (first | exact (Kd.R_reads' HO_8.out).2.2 | (with_reducible refine Kd.C_alloc ?_ _) | (with_reducible refine Kd.C_drewN ?_ _) | (with_reducible refine Kd.C_drew ?_))); (case side2 => exact (Kd.R_reads' HO_8.out).2.1); rintro e w68 ⟨v385, rfl, ho0, hb⟩; replace HO_3 := Aside0.mk (Kd.R_below (sr HO_3) hb); have HO386 := Aside0.mk (Kd.R_lower (Kd.R_new' (Kd.R_new' ho0 (Kd.R_lt (sr HO_7))) (Kd.R_lt (sr HO_8))) (below_size (sb))); replace HO_7 := Aside0.mk (Kd.R_elder' (sr HO_7) (Kd.R_base ho0) hb); replace HO_8 := Aside0.mk (Kd.R_elder' (sr HO_8) (Kd.R_base ho0) hb); replace HB := bs hb; (try clear hb); (try clear hb2); (try clear hk); (try clear hi); (try clear ho0); obtain ⟨Ao69, co69, eo69⟩ := Kd.R_slice HO386.out; subst eo69; have p387 : 0 ≤ (x9_2 : Int) := sa; have q387 : x9_2 < (t373.length : Int) := sa; obtain ⟨ad387, e387, hx387_0⟩ := Kd.at_int (Kd.R_reads' HO_7.out).2.2 x9_2 p387 q387; cases e387; replace p387 := eq_true p387; replace q387 := eq_true q387))
          repeat (go_quiet (first | (go_at_call 59; (with_reducible refine (impl_PathTo.calls k2 _ _ t379 x9_2 t370 t384 _ ?side1 ?side2 A28.out).mono ?_); (case side1 => repeat (first | exact (Kd.R_reads' HO_8.out).2.2 | (with_reducible refine Kd.C_alloc ?_ _) | (with_reducible refine Kd.C_drewN ?_ _) | (with_reducible refine Kd.C_drew ?_))); (case side2 => exact (Kd.R_reads' HO_8.out).2.1); rintro e w68 ⟨v385, rfl, ho0, hb⟩; have n0_ := Aside0.mk (Kd.R_below (sr HO_3) hb); have n1_ := Aside0.mk (Kd.R_elder' (sr HO_7) (Kd.R_base ho0) hb); have n2_ := Aside0.mk (Kd.R_elder' (sr HO_8) (Kd.R_base ho0) hb); have n3_ := Aside0.mk (Kd.R_lower (Kd.R_new' (Kd.R_new' ho0 (Kd.R_lt (sr HO_7))) (Kd.R_lt (sr HO_8))) (below_size (sb))); have n4_ := Aside0.mk (below_step (sb) hb); clear HO_3; clear HO_7; clear HO_8; clear HB; have HO_3 := n0_; have HO_7 := n1_; have HO_8 := n2_; have HO386 := n3_; have HB := n4_; clear n0_ n1_ n2_ n3_ n4_; (try clear hb); (try clear hb2); (try clear hk); (try clear hi); (try clear ho0); obtain ⟨Ao69, co69, eo69⟩ := Kd.R_slice HO386.out; subst eo69; have p387 : 0 ≤ (x9_2 : Int) := sa; have q387 : x9_2 < (t373.length : Int) := sa; obtain ⟨ad387, e387, hx387_0⟩ := Kd.at_int (Kd.R_reads' HO_7.out).2.2 x9_2 p387 q387; cases e387; replace p387 := eq_true p387; replace q387 := eq_true q387)); try go_wp2_with (first | (go_at_call 59; (with_reducible refine (impl_PathTo.calls k2 _ _ t379 x9_2 t370 t384 _ ?side1 ?side2 A28.out).mono ?_); (case side1 => repeat (first | exact (Kd.R_reads' HO_8.out).2.2 | (with_reducible refine Kd.C_alloc ?_ _) | (with_reducible refine Kd.C_drewN ?_ _) | (with_reducible refine Kd.C_drew ?_))); (case side2 => exact (Kd.R_reads' HO_8.out).2.1); rintro e w68 ⟨v385, rfl, ho0, hb⟩; have n0_ := Aside0.mk (Kd.R_below (sr HO_3) hb); have n1_ := Aside0.mk (Kd.R_elder' (sr HO_7) (Kd.R_base ho0) hb); have n2_ := Aside0.mk (Kd.R_elder' (sr HO_8) (Kd.R_base ho0) hb); have n3_ := Aside0.mk (Kd.R_lower (Kd.R_new' (Kd.R_new' ho0 (Kd.R_lt (sr HO_7))) (Kd.R_lt (sr HO_8))) (below_size (sb))); have n4_ := Aside0.mk (below_step (sb) hb); clear HO_3; clear HO_7; clear HO_8; clear HB; have HO_3 := n0_; have HO_7 := n1_; have HO_8 := n2_; have HO386 := n3_; have HB := n4_; clear n0_ n1_ n2_ n3_ n4_; (try clear hb); (try clear hb2); (try clear hk); (try clear hi); (try clear ho0); obtain ⟨Ao69, co69, eo69⟩ := Kd.R_slice HO386.out; subst eo69; have p387 : 0 ≤ (x9_2 : Int) := sa; have q387 : x9_2 < (t373.length : Int) := sa; obtain ⟨ad387, e387, hx387_0⟩ := Kd.at_int (Kd.R_reads' HO_7.out).2.2 x9_2 p387 q387; cases e387; replace p387 := eq_true p387; replace q387 := eq_true q387)))
          go_ret
          exact ⟨se, sb⟩
        ·have c27b0 := decide_eq_false c27
         clear c27
         obtain rfl := Option.some.inj H
         go_wp2
         repeat (go_quiet (fail); try go_wp2)
         go_ret
         exact ⟨se, sb⟩
  ·have c7b0 : ((t373.length : Int) == (t376.length : Int)) = false := beq_eq_false_iff_ne.mpr c7
   have c7b1 : ((t373.length : Int) != (t376.length : Int)) = true := bne_iff_ne.mpr c7
   have c7b2 : (t373.length == t376.length) = false := by first | simpa using c7 | (simp at c7 ⊢; omega)
   obtain rfl := Option.some.inj H
   go_enter Try.func9, Try.ntmps9
   go_wp2_with (first | (go_at_call 12; (with_reducible refine (laws_big.calls _ _ l0 false _ ?side1 ?side2 A2.out).mono ?_); (case side1 => repeat (first | exact HR0.out | (with_reducible refine Kd.C_alloc ?_ _) | (with_reducible refine Kd.C_drewN ?_ _) | (with_reducible refine Kd.C_drew ?_))); (case side2 => exact HC0.out); rintro e w' ⟨rfl, ⟨nd, rfl⟩⟩; (try first | exact ⟨rfl, _, World.drewN_drewN _ _ _⟩ | exact ⟨rfl, _, Eq.trans (World.drewN_drewN _ _ _) (congrArg (World.drewN _) (Nat.add_assoc _ _ _))⟩)) | (go_at_call 54; (with_reducible refine (spec_DrawNextTo.calls k _ _ l0 t367 t368 t369 t370 _ ?side1 ?side2 A4.out).mono ?_); (case side1 => repeat (first | exact HR0.out | (with_reducible refine Kd.C_alloc ?_ _) | (with_reducible refine Kd.C_drewN ?_ _) | (with_reducible refine Kd.C_drew ?_))); (case side2 => exact HC0.out); rintro e w70 ⟨v371, rfl, ho0, hb⟩; have HO372 := Aside0.mk (Kd.R_lower ho0 (below_size (sb))); replace HB := bs hb; (try clear hb); (try clear hb2); (try clear hk); (try clear hi); (try clear ho0); obtain ⟨Ao71, co71, eo71⟩ := Kd.R_slice HO372.out; subst eo71) | (go_at_call 55; (with_reducible refine (impl_DistancesTo.calls k _ _ t367 t368 t369 t370 t373 _ ?side1 ?side2 A5.out).mono ?_); (case side1 => repeat (first | exact (Kd.R_reads' HO372.out).2.2 | (with_reducible refine Kd.C_alloc ?_ _) | (with_reducible refine Kd.C_drewN ?_ _) | (with_reducible refine Kd.C_drew ?_))); (case side2 => exact (Kd.R_reads' HO372.out).2.1); rintro e w72 ⟨v374, rfl, ho0, hb⟩; replace HO372 := Aside0.mk (Kd.R_below (sr HO372) hb); have HO375 := Aside0.mk (Kd.R_lower ho0 (below_size (sb))); replace HB := bs hb; (try clear hb); (try clear hb2); (try clear hk); (try clear hi); (try clear ho0); obtain ⟨Ao73, co73, eo73⟩ := Kd.R_slice HO375.out; subst eo73) | (go_at_call 56; (with_reducible refine (spec_DistancesTo.calls k _ _ t367 t368 t369 t370 t376 _ ?side1 ?side2 A6.out).mono ?_); (case side1 => repeat (first | exact (Kd.R_reads' HO372.out).2.2 | (with_reducible refine Kd.C_alloc ?_ _) | (with_reducible refine Kd.C_drewN ?_ _) | (with_reducible refine Kd.C_drew ?_))); (case side2 => exact (Kd.R_reads' HO372.out).2.1); rintro e w74 ⟨v377, rfl, ho0, hb⟩; replace HO372 := Aside0.mk (Kd.R_below (sr HO372) hb); have HO378 := Aside0.mk (Kd.R_lower (Kd.R_new' ho0 (Kd.R_lt (sr HO375))) (below_size (sb))); replace HO375 := Aside0.mk (Kd.R_elder' (sr HO375) (Kd.R_base ho0) hb); replace HB := bs hb; (try clear hb); (try clear hb2); (try clear hk); (try clear hi); (try clear ho0); obtain ⟨Ao75, co75, eo75⟩ := Kd.R_slice HO378.out; subst eo75))
   repeat (go_quiet (first | (go_at_call 12; (with_reducible refine (laws_big.calls _ _ l0 false _ ?side1 ?side2 A2.out).mono ?_); (case side1 => repeat (first | exact HR0.out | (with_reducible refine Kd.C_alloc ?_ _) | (with_reducible refine Kd.C_drewN ?_ _) | (with_reducible refine Kd.C_drew ?_))); (case side2 => exact HC0.out); rintro e w' ⟨rfl, ⟨nd, rfl⟩⟩; (try first | exact ⟨rfl, _, World.drewN_drewN _ _ _⟩ | exact ⟨rfl, _, Eq.trans (World.drewN_drewN _ _ _) (congrArg (World.drewN _) (Nat.add_assoc _ _ _))⟩)) | (go_at_call 54; (with_reducible refine (spec_DrawNextTo.calls k _ _ l0 t367 t368 t369 t370 _ ?side1 ?side2 A4.out).mono ?_); (case side1 => repeat (first | exact HR0.out | (with_reducible refine Kd.C_alloc ?_ _) | (with_reducible refine Kd.C_drewN ?_ _) | (with_reducible refine Kd.C_drew ?_))); (case side2 => exact HC0.out); rintro e w70 ⟨v371, rfl, ho0, hb⟩; have n0_ := Aside0.mk (Kd.R_lower ho0 (below_size (sb))); have n1_ := Aside0.mk (below_step (sb) hb); clear HB; have HO372 := n0_; have HB := n1_; clear n0_ n1_; (try clear hb); (try clear hb2); (try clear hk); (try clear hi); (try clear ho0); obtain ⟨Ao71, co71, eo71⟩ := Kd.R_slice HO372.out; subst eo71) | (go_at_call 55; (with_reducible refine (impl_DistancesTo.calls k _ _ t367 t368 t369 t370 t373 _ ?side1 ?side2 A5.out).mono ?_); (case side1 => repeat (first | exact (Kd.R_reads' HO372.out).2.2 | (with_reducible refine Kd.C_alloc ?_ _) | (with_reducible refine Kd.C_drewN ?_ _) | (with_reducible refine Kd.C_drew ?_))); (case side2 => exact (Kd.R_reads' HO372.out).2.1); rintro e w72 ⟨v374, rfl, ho0, hb⟩; have n0_ := Aside0.mk (Kd.R_below (sr HO372) hb); have n1_ := Aside0.mk (Kd.R_lower ho0 (below_size (sb))); have n2_ := Aside0.mk (below_step (sb) hb); clear HO372; clear HB; have HO372 := n0_; have HO375 := n1_; have HB := n2_; clear n0_ n1_ n2_; (try clear hb); (try clear hb2); (try clear hk); (try clear hi); (try clear ho0); obtain ⟨Ao73, co73, eo73⟩ := Kd.R_slice HO375.out; subst eo73) | (go_at_call 56; (with_reducible refine (spec_DistancesTo.calls k _ _ t367 t368 t369 t370 t376 _ ?side1 ?side2 A6.out).mono ?_); (case side1 => repeat (first | exact (Kd.R_reads' HO372.out).2.2 | (with_reducible refine Kd.C_alloc ?_ _) | (with_reducible refine Kd.C_drewN ?_ _) | (with_reducible refine Kd.C_drew ?_))); (case side2 => exact (Kd.R_reads' HO372.out).2.1); rintro e w74 ⟨v377, rfl, ho0, hb⟩; have n0_ := Aside0.mk (Kd.R_below (sr HO372) hb); have n1_ := Aside0.mk (Kd.R_elder' (sr HO375) (Kd.R_base ho0) hb); have n2_ := Aside0.mk (Kd.R_lower (Kd.R_new' ho0 (Kd.R_lt (sr HO375))) (below_size (sb))); have n3_ := Aside0.mk (below_step (sb) hb); clear HO372; clear HO375; clear HB; have HO372 := n0_; have HO375 := n1_; have HO378 := n2_; have HB := n3_; clear n0_ n1_ n2_ n3_; (try clear hb); (try clear hb2); (try clear hk); (try clear hi); (try clear ho0); obtain ⟨Ao75, co75, eo75⟩ := Kd.R_slice HO378.out; subst eo75)); try go_wp2_with (first | (go_at_call 12; (with_reducible refine (laws_big.calls _ _ l0 false _ ?side1 ?side2 A2.out).mono ?_); (case side1 => repeat (first | exact HR0.out | (with_reducible refine Kd.C_alloc ?_ _) | (with_reducible refine Kd.C_drewN ?_ _) | (with_reducible refine Kd.C_drew ?_))); (case side2 => exact HC0.out); rintro e w' ⟨rfl, ⟨nd, rfl⟩⟩; (try first | exact ⟨rfl, _, World.drewN_drewN _ _ _⟩ | exact ⟨rfl, _, Eq.trans (World.drewN_drewN _ _ _) (congrArg (World.drewN _) (Nat.add_assoc _ _ _))⟩)) | (go_at_call 54; (with_reducible refine (spec_DrawNextTo.calls k _ _ l0 t367 t368 t369 t370 _ ?side1 ?side2 A4.out).mono ?_); (case side1 => repeat (first | exact HR0.out | (with_reducible refine Kd.C_alloc ?_ _) | (with_reducible refine Kd.C_drewN ?_ _) | (with_reducible refine Kd.C_drew ?_))); (case side2 => exact HC0.out); rintro e w70 ⟨v371, rfl, ho0, hb⟩; have n0_ := Aside0.mk (Kd.R_lower ho0 (below_size (sb))); have n1_ := Aside0.mk (below_step (sb) hb); clear HB; have HO372 := n0_; have HB := n1_; clear n0_ n1_; (try clear hb); (try clear hb2); (try clear hk); (try clear hi); (try clear ho0); obtain ⟨Ao71, co71, eo71⟩ := Kd.R_slice HO372.out; subst eo71) | (go_at_call 55; (with_reducible refine (impl_DistancesTo.calls k _ _ t367 t368 t369 t370 t373 _ ?side1 ?side2 A5.out).mono ?_); (case side1 => repeat (first | exact (Kd.R_reads' HO372.out).2.2 | (with_reducible refine Kd.C_alloc ?_ _) | (with_reducible refine Kd.C_drewN ?_ _) | (with_reducible refine Kd.C_drew ?_))); (case side2 => exact (Kd.R_reads' HO372.out).2.1); rintro e w72 ⟨v374, rfl, ho0, hb⟩; have n0_ := Aside0.mk (Kd.R_below (sr HO372) hb); have n1_ := Aside0.mk (Kd.R_lower ho0 (below_size (sb))); have n2_ := Aside0.mk (below_step (sb) hb); clear HO372; clear HB; have HO372 := n0_; have HO375 := n1_; have HB := n2_; clear n0_ n1_ n2_; (try clear hb); (try clear hb2); (try clear hk); (try clear hi); (try clear ho0); obtain ⟨Ao73, co73, eo73⟩ := Kd.R_slice HO375.out; subst eo73) | (go_at_call 56; (with_reducible refine (spec_DistancesTo.calls k _ _ t367 t368 t369 t370 t376 _ ?side1 ?side2 A6.out).mono ?_); (case side1 => repeat (first | exact (Kd.R_reads' HO372.out).2.2 | (with_reducible refine Kd.C_alloc ?_ _) | (with_reducible refine Kd.C_drewN ?_ _) | (with_reducible refine Kd.C_drew ?_))); (case side2 => exact (Kd.R_reads' HO372.out).2.1); rintro e w74 ⟨v377, rfl, ho0, hb⟩; have n0_ := Aside0.mk (Kd.R_below (sr HO372) hb); have n1_ := Aside0.mk (Kd.R_elder' (sr HO375) (Kd.R_base ho0) hb); have n2_ := Aside0.mk (Kd.R_lower (Kd.R_new' ho0 (Kd.R_lt (sr HO375))) (below_size (sb))); have n3_ := Aside0.mk (below_step (sb) hb); clear HO372; clear HO375; clear HB; have HO372 := n0_; have HO375 := n1_; have HO378 := n2_; have HB := n3_; clear n0_ n1_ n2_ n3_; (try clear hb); (try clear hb2); (try clear hk); (try clear hi); (try clear ho0); obtain ⟨Ao75, co75, eo75⟩ := Kd.R_slice HO378.out; subst eo75)))
   go_ret
   exact ⟨se, sb⟩

/-- THE ONE PURE STATEMENT of laws_FnPaths: yours. -/
def laws_FnPaths.Pure : Prop := ∀ (l0 : List Int), l0.length ≤ maxLen → l0.length * 1 ≤ 140737488351232 → (∀ x ∈ l0, (Lit.int .u8 x).wf = true) → ∃ k, laws_FnPaths.f k l0 = some true
theorem laws_FnPaths.walk (P : laws_FnPaths.Pure) (a0 : Option Addr) (len0 cap0 : Nat) (z0 : List Int) (w : World) (w0 : (a0 = none ∧ len0 = 0 ∧ cap0 = 0 ∧ z0 = []) ∨ ∃ x, a0 = some x ∧ len0 ≤ cap0 ∧ cap0 ≤ maxLen ∧ z0.length = cap0 ∧ (∀ i, i < z0.length → w.cell? (x.add i) = some (.int .u8 (z0.getD i 0))) ∧ ∀ n ∈ z0, (Lit.int .u8 n).wf = true) (y0 : len0 * 1 ≤ 140737488351232) :
    Calls Try.prog 9 #[.slice a0 len0 cap0] w fun e w' => e = .returned (.bool true) ∧ Below w.heap.size w w' := by
 obtain ⟨l0, rfl, hr0, hm0, hw0, hc0⟩ := ReadsInt.ofRowC w0
 obtain ⟨k, h⟩ := P l0 hm0 y0 hw0
 refine (laws_FnPaths.calls k _ _ l0 true w (Kd.C_of_reads (d := (0 : Int)) (h1 := fun _ => rfl) hr0) hc0 h).mono ?_
 rintro e w' ⟨rfl, hd⟩
 exact ⟨rfl, hd⟩

end Go.Proofs.Ytiihaabhjphaeaa.QFnPaths
