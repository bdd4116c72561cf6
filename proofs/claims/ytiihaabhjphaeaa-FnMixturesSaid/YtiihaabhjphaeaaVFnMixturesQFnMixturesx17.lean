/- What the Go functions of the law FnMixtures come to, as Lean functions, and that they do: by a program of the session, out of the kit's printer. Conditions: none. (squeezed). -/
import Derived.Test.YtiihaabhjphaeaaVFnMixturesSq
import Derived.Test.YtiihaabhjphaeaaVFnMixturesQFnMixturesx0
import Derived.Test.YtiihaabhjphaeaaVFnMixturesQFnMixturesx2
import Derived.Test.YtiihaabhjphaeaaVFnMixturesQFnMixturesx3
import Derived.Test.YtiihaabhjphaeaaVFnMixturesQFnMixturesx15
import Derived.Test.YtiihaabhjphaeaaVFnMixturesQFnMixturesx16
namespace Go.Proofs.Ytiihaabhjphaeaa.QFnMixtures
open Go.RowKit Go.Proofs.YtiihaabhjphaeaaW.PrintWords Go.Proofs.YtiihaabhjphaeaaW.PrintLast Go.Proofs.YtiihaabhjphaeaaW.PrintMore Go.Proofs.Ytiihaabhjphaeaa.Open Go.Proofs.Ytiihaabhjphaeaa.Sq
attribute [local go_sem] max2_int min2_int max_two min_two max_three min_three max_four min_four   -- for this text's walks alone
attribute [local go_sem] isSome_set
set_option linter.unusedVariables false
set_option linter.unusedSimpArgs false

/-! ### laws_FnMixtures: function 3 -/
mutual
def laws_FnMixtures.l0 : Nat → List Int → List (List Int) → Bool → Int → Option (Bool)
  | 0, _, _, _, _ => none
  | k + 1, x0, x3, x4, x5 => if x5 < (x3.length : Int) then (if 0 ≤ x5 then ((impl_HasLoop.f k (rd_L2 x3 x5)).bind fun t612 => (if t612 = true then (if x4 = true then (laws_FnMixtures.l0 k x0 x3 x4 (wrap64 (x5 + 1))) else (some false)) else (laws_FnMixtures.l0 k x0 x3 x4 (wrap64 (x5 + 1))))) else (none)) else ((spec_DrawIsSafeMix.f k x0).bind fun bt613 => ((impl_PiecesIn.f k bt613.1 bt613.2.1 bt613.2.2.1 bt613.2.2.2.1 bt613.2.2.2.2.2.1 bt613.2.2.2.2.2.2).bind fun t623 => ((spec_PiecesIn.f k bt613.1 bt613.2.1 bt613.2.2.1 bt613.2.2.2.1 bt613.2.2.2.2.2.1 bt613.2.2.2.2.2.2).bind fun t626 => (if (t623.length : Int) = (t626.length : Int) then ((impl_IsSafeMix.f k bt613.1 bt613.2.1 bt613.2.2.1 bt613.2.2.2.1 bt613.2.2.2.2.1 bt613.2.2.2.2.2.1 bt613.2.2.2.2.2.2).bind fun t629 => (if t629 = true then (laws_FnMixtures.j1 k x0 bt613.2.2.2.2.1 t623 ((t623.length : Int) == 0) bt613.1 bt613.2.1 bt613.2.2.1 bt613.2.2.2.1) else (laws_FnMixtures.j1 k x0 bt613.2.2.2.2.1 t623 true bt613.1 bt613.2.1 bt613.2.2.1 bt613.2.2.2.1))) else (some false)))))
def laws_FnMixtures.j1 : Nat → List Int → Int → List Int → Bool → Int → Int → Int → List (S105) → Option (Bool)
  | 0, _, _, _, _, _, _, _, _ => none
  | k + 1, x0, x7, x10, x63, x623000, x623001, x623002, x623003 => if x63 = true then (some true) else (laws_FnMixtures.l1 k x0 x7 x10 (([] : List Int)) 0 x623000 x623001 x623002 x623003)
def laws_FnMixtures.l1 : Nat → List Int → Int → List Int → List Int → Int → Int → Int → Int → List (S105) → Option (Bool)
  | 0, _, _, _, _, _, _, _, _, _ => none
  | k + 1, x0, x7, x10, x11, x12, x623000, x623001, x623002, x623003 => if x12 < x623000 then ((laws_at.f x0 x12).bind fun t633 => (if (x10.length : Int) = 0 then (none) else (if 0 ≤ (Int.tmod t633 (x10.length : Int)) then (if (Int.tmod t633 (x10.length : Int)) < (x10.length : Int) then (if x11.length < 17592186044416 then (laws_FnMixtures.l1 k x0 x7 x10 (x11 ++ [rd x10 (Int.tmod t633 (x10.length : Int))]) (wrap64 (x12 + 1)) x623000 x623001 x623002 x623003) else (none)) else (none)) else (none)))) else ((impl_MixOf.f k x623000 x623001 x623002 x623003 x7 x11).bind fun t638 => ((impl_HasLoop.f k t638).bind fun t641 => (some (!t641))))
end
def laws_FnMixtures.f (k : Nat) (l0 : List Int) : Option (Bool) := (laws_big.f l0).bind fun t606 => (if t606 = true then (some true) else ((spec_DrawUnionHasLoop.f k l0).bind fun t607 => ((impl_UnionHasLoop.f k t607).bind fun t610 => (laws_FnMixtures.l0 k l0 t607 t610 0))))
theorem laws_FnMixtures.mono_l : ∀ k, (∀ y0 y1 y2 y3, LeO (laws_FnMixtures.l0 k y0 y1 y2 y3) (laws_FnMixtures.l0 (k + 1) y0 y1 y2 y3)) ∧ (∀ y0 y1 y2 y3 y4 y5 y6 y7, LeO (laws_FnMixtures.j1 k y0 y1 y2 y3 y4 y5 y6 y7) (laws_FnMixtures.j1 (k + 1) y0 y1 y2 y3 y4 y5 y6 y7)) ∧ (∀ y0 y1 y2 y3 y4 y5 y6 y7 y8, LeO (laws_FnMixtures.l1 k y0 y1 y2 y3 y4 y5 y6 y7 y8) (laws_FnMixtures.l1 (k + 1) y0 y1 y2 y3 y4 y5 y6 y7 y8))
  | 0 => ⟨fun _ _ _ _ r h => by simp [laws_FnMixtures.l0] at h, fun _ _ _ _ _ _ _ _ r h => by simp [laws_FnMixtures.j1] at h, fun _ _ _ _ _ _ _ _ _ r h => by simp [laws_FnMixtures.l1] at h⟩
  | k + 1 => by
    obtain ⟨ih0, ih1, ih2⟩ := laws_FnMixtures.mono_l k
    refine ⟨?_, ?_, ?_⟩
    · intro y0 y1 y2 y3
      unfold laws_FnMixtures.l0
      have m0 := @impl_HasLoop.mono
      have m1 := @impl_IsSafeMix.mono
      have m2 := @impl_MixOf.mono
      have m3 := @impl_PiecesIn.mono
      have m4 := @impl_UnionHasLoop.mono
      have m5 := @spec_DrawIsSafeMix.mono
      have m6 := @spec_DrawUnionHasLoop.mono
      have m7 := @spec_PiecesIn.mono
      exact mo
    · intro y0 y1 y2 y3 y4 y5 y6 y7
      unfold laws_FnMixtures.j1
      have m0 := @impl_HasLoop.mono
      have m1 := @impl_IsSafeMix.mono
      have m2 := @impl_MixOf.mono
      have m3 := @impl_PiecesIn.mono
      have m4 := @impl_UnionHasLoop.mono
      have m5 := @spec_DrawIsSafeMix.mono
      have m6 := @spec_DrawUnionHasLoop.mono
      have m7 := @spec_PiecesIn.mono
      exact mo
    · intro y0 y1 y2 y3 y4 y5 y6 y7 y8
      unfold laws_FnMixtures.l1
      have m0 := @impl_HasLoop.mono
      have m1 := @impl_IsSafeMix.mono
      have m2 := @impl_MixOf.mono
      have m3 := @impl_PiecesIn.mono
      have m4 := @impl_UnionHasLoop.mono
      have m5 := @spec_DrawIsSafeMix.mono
      have m6 := @spec_DrawUnionHasLoop.mono
      have m7 := @spec_PiecesIn.mono
      exact mo
theorem laws_FnMixtures.mono : ∀ a0 k, LeO (laws_FnMixtures.f k a0) (laws_FnMixtures.f (k + 1) a0) := by
  intro a0 k
  obtain ⟨ih0, ih1, ih2⟩ := laws_FnMixtures.mono_l k
  unfold laws_FnMixtures.f
  have m0 := @impl_HasLoop.mono
  have m1 := @impl_IsSafeMix.mono
  have m2 := @impl_MixOf.mono
  have m3 := @impl_PiecesIn.mono
  have m4 := @impl_UnionHasLoop.mono
  have m5 := @spec_DrawIsSafeMix.mono
  have m6 := @spec_DrawUnionHasLoop.mono
  have m7 := @spec_PiecesIn.mono
  exact mo
set_option maxHeartbeats 8000000 in
set_option maxRecDepth 100000 in
theorem laws_FnMixtures.calls (k : Nat) (A0 : Option Addr) (c0 : Nat) (l0 : List Int) (r : Bool) (w : World) (hr0 : Kd.C (Kd.int .u8) w A0 l0.length l0) (hc0 : l0.length ≤ c0) (h : laws_FnMixtures.f k l0 = some r) :
    Calls Try.prog 3 #[.slice A0 l0.length c0] w fun e w' => e = .returned (.bool r) ∧ Below w.heap.size w w' := by
 have hu31 := Try.underlying31
 have HR0 := Aside0.mk hr0
 have HC0 := Aside0.mk hc0
 clear hr0 hc0
 have HB := Aside0.mk (Below.refl w.heap.size w)
 have H : ((laws_big.f l0).bind fun t606 => (if t606 = true then (some true) else ((spec_DrawUnionHasLoop.f k l0).bind fun t607 => ((impl_UnionHasLoop.f k t607).bind fun t610 => (laws_FnMixtures.l0 k l0 t607 t610 0))))) = some r := h
 clear h
 obtain ⟨t606, A2, H⟩ := bnd H
 obtain rfl | rfl := tt t606
 ·replace H := ip H
  obtain rfl := Option.some.inj H
  go_enter Try.func3, Try.ntmps3
  go_wp2_with (first | ((with_reducible refine gate_callee (f := 12) rfl ?_); refine gL (some 14) Try.func12 #[.slice A0 l0.length c0] ?_; (with_reducible refine (laws_big.calls _ _ l0 true _ ?side1 ?side2 A2.out).mono ?_); (case side1 => repeat (first | exact HR0.out | (with_reducible refine Kd.C_alloc ?_ _) | (with_reducible refine Kd.C_drewN ?_ _) | (with_reducible refine Kd.C_drew ?_))); (case side2 => exact HC0.out); rintro e w' ⟨rfl, ⟨nd, rfl⟩⟩; refine ⟨_, rfl, ?_⟩))
  go_ret
  exact ⟨se, sb⟩
 ·replace H := im H
  obtain ⟨t607, A4, H⟩ := bnd H
  obtain ⟨t610, A5, H⟩ := bnd H
  have H' := Aside0.mk H
  clear H
  go_enter Try.func3, Try.ntmps3
  go_wp2_with (first | ((with_reducible refine gate_callee (f := 12) rfl ?_); refine gL (some 14) Try.func12 #[.slice A0 l0.length c0] ?_; (with_reducible refine (laws_big.calls _ _ l0 false _ ?side1 ?side2 A2.out).mono ?_); (case side1 => repeat (first | exact HR0.out | (with_reducible refine Kd.C_alloc ?_ _) | (with_reducible refine Kd.C_drewN ?_ _) | (with_reducible refine Kd.C_drew ?_))); (case side2 => exact HC0.out); rintro e w' ⟨rfl, ⟨nd, rfl⟩⟩; refine ⟨_, rfl, ?_⟩) | ((with_reducible refine gate_callee (f := 13) rfl ?_); refine gL (some 16) Try.func13 #[.slice A0 l0.length c0] ?_; (with_reducible refine (spec_DrawUnionHasLoop.calls k _ _ l0 t607 _ ?side1 ?side2 A4.out).mono ?_); (case side1 => repeat (first | exact HR0.out | (with_reducible refine Kd.C_alloc ?_ _) | (with_reducible refine Kd.C_drewN ?_ _) | (with_reducible refine Kd.C_drew ?_))); (case side2 => exact HC0.out); rintro e w6 ⟨v608, rfl, ho0, hb⟩; refine ⟨_, rfl, ?_⟩; have HO609 := Aside0.mk (Kd.S_lower ho0 (below_size (sb))); replace HB := bs hb; (try clear hb); (try clear hb2); (try clear hk); (try clear hi); (try clear ho0); obtain ⟨Ao7, co7, eo7⟩ := Kd.S_slice HO609.out; subst eo7) | ((with_reducible refine gate_callee (f := 14) rfl ?_); refine gL (some 18) Try.func14 #[.slice Ao7 t607.length co7] ?_; (with_reducible refine (impl_UnionHasLoop.calls k _ _ t607 t610 _ ?side1 ?side2 A5.out).mono ?_); (case side1 => repeat (first | exact (Kd.S_reads' HO609.out).2.2 | (with_reducible refine Kd.C_alloc ?_ _) | (with_reducible refine Kd.C_drewN ?_ _) | (with_reducible refine Kd.C_drew ?_))); (case side2 => exact (Kd.S_reads' HO609.out).2.1); rintro e w8 ⟨rfl, hb⟩; refine ⟨_, rfl, ?_⟩; replace HO609 := Aside0.mk (Kd.S_below (ss HO609) hb); replace HB := bs hb; (try clear hb); (try clear hb2); (try clear hk); (try clear hi)))
  go_loopg [5] k (fun kq v5 w' => ∃ (x5_1 : Int), v5 = .int .i64 x5_1 ∧ Aside0 (laws_FnMixtures.l0 kq l0 t607 t610 x5_1 = some r) ∧ Aside0 (kq ≤ k) ∧ Aside0 (Kd.S (Kd.slice 3 (Kd.int .i64)) 28 w' w.heap.size (fun _ => True) (.slice Ao7 t607.length co7) t607) ∧ Aside0 (Below w.heap.size w w'))
  case atStart => exact ⟨(0), sc, H', kk0, ⟨ss HO609⟩, ⟨sb⟩⟩
  case round =>
   clear H'
   obtain ⟨x5_1, rfl, HA, HK1, HO_3, HB⟩ := hrel
   cases gk with
   | zero => exact absurd HA.out (by simp [laws_FnMixtures.l0])
   | succ k1 =>
    have H := HA.out
    clear HA
    simp only [laws_FnMixtures.l0] at H
    obtain ⟨c9, H⟩ | ⟨c9, H⟩ := ie_ H
    ·have c9b0 := decide_eq_true c9
     clear c9
     obtain ⟨c10b0, H⟩ := id_ H
     obtain ⟨t612, A11, H⟩ := bnd H
     obtain rfl | rfl := tt t612
     ·replace H := ip H
      obtain rfl | rfl := tt t610
      ·replace H := ip H
       have H' := Aside0.mk H
       clear H
       have p611 : 0 ≤ (x5_1 : Int) := sa
       have q611 : x5_1 < (t607.length : Int) := sa
       obtain ⟨ad611, A611_0, c611_0, e611, hx611_0, hl611_0, hi611_0⟩ := at_L2 (Kd.S_reads' HO_3.out).2.2 x5_1 p611 q611
       cases e611
       obtain ⟨ce611, hce611, hMe611, hcc611⟩ := Kd.S_get HO_3.out [] x5_1 p611 (by first | exact q611 | exact sa | (have e_ := (Kd.S_reads' HO_3.out).1; omega))
       obtain ⟨ve611_0, rfl, ge611_0⟩ := hMe611
       have hv611_0 := hcc611 0 _ rfl
       rw [Nat.add_zero, show ((Kd.slice 3 (Kd.int .i64))).sz = 1 from rfl, Nat.mul_one] at hv611_0
       replace hv611_0 := Option.some.inj (hv611_0.symm.trans hx611_0)
       rw [hv611_0] at ge611_0
       have HL611_0 := Aside0.mk (show Kd.R (Kd.int .i64) 3 _ _ _ _ (rd_L2 t607 x5_1) from ge611_0)
       clear hv611_0 ge611_0 hcc611 hce611
       have HR611_0 := Aside0.mk hi611_0
       have HC611_0 := Aside0.mk hl611_0
       clear hi611_0 hl611_0
       replace p611 := eq_true p611
       replace q611 := eq_true q611
       go_wp2_with (first | ((with_reducible refine gate_callee (f := 15) rfl ?_); refine gL (some 29) Try.func15 #[.slice A611_0 (rd_L2 t607 x5_1).length c611_0] ?_; (with_reducible refine (impl_HasLoop.calls k1 _ _ (rd_L2 t607 x5_1) true _ ?side1 ?side2 A11.out).mono ?_); (case side1 => repeat (first | exact (by repeat (first | (with_reducible exact HR611_0.out) | (with_reducible refine Kd.C_alloc ?_ _) | (with_reducible refine Kd.C_drewN ?_ _) | (with_reducible refine Kd.C_drew ?_) | exact HR611_0.out)) | (with_reducible refine Kd.C_alloc ?_ _) | (with_reducible refine Kd.C_drewN ?_ _) | (with_reducible refine Kd.C_drew ?_))); (case side2 => exact HC611_0.out); rintro e w14 ⟨rfl, hb⟩; refine ⟨_, rfl, ?_⟩; replace HO_3 := Aside0.mk (Kd.S_below (ss HO_3) hb); replace HL611_0 := Aside0.mk (Kd.R_below (sr HL611_0) hb); replace HR611_0 := Aside0.mk (Kd.C_below (by repeat (first | (with_reducible exact HR611_0.out) | (with_reducible refine Kd.C_alloc ?_ _) | (with_reducible refine Kd.C_drewN ?_ _) | (with_reducible refine Kd.C_drew ?_) | exact HR611_0.out)) hb); replace HB := bs hb; (try clear hb); (try clear hb2); (try clear hk); (try clear hi)))
       go_roundg k1
       case measure => have := HK1.out; omega
       case rel => exact ⟨(wrap64 (x5_1 + 1)), sc, H', kk1, ⟨ss HO_3⟩, ⟨sb⟩⟩
      ·replace H := im H
       obtain rfl := Option.some.inj H
       have p611 : 0 ≤ (x5_1 : Int) := sa
       have q611 : x5_1 < (t607.length : Int) := sa
       obtain ⟨ad611, A611_0, c611_0, e611, hx611_0, hl611_0, hi611_0⟩ := at_L2 (Kd.S_reads' HO_3.out).2.2 x5_1 p611 q611
       cases e611
       obtain ⟨ce611, hce611, hMe611, hcc611⟩ := Kd.S_get HO_3.out [] x5_1 p611 (by first | exact q611 | exact sa | (have e_ := (Kd.S_reads' HO_3.out).1; omega))
       obtain ⟨ve611_0, rfl, ge611_0⟩ := hMe611
       have hv611_0 := hcc611 0 _ rfl
       rw [Nat.add_zero, show ((Kd.slice 3 (Kd.int .i64))).sz = 1 from rfl, Nat.mul_one] at hv611_0
       replace hv611_0 := Option.some.inj (hv611_0.symm.trans hx611_0)
       rw [hv611_0] at ge611_0
       have HL611_0 := Aside0.mk (show Kd.R (Kd.int .i64) 3 _ _ _ _ (rd_L2 t607 x5_1) from ge611_0)
       clear hv611_0 ge611_0 hcc611 hce611
       have HR611_0 := Aside0.mk hi611_0
       have HC611_0 := Aside0.mk hl611_0
       clear hi611_0 hl611_0
       replace p611 := eq_true p611
       replace q611 := eq_true q611
       go_wp2_with (first | ((with_reducible refine gate_callee (f := 15) rfl ?_); refine gL (some 29) Try.func15 #[.slice A611_0 (rd_L2 t607 x5_1).length c611_0] ?_; (with_reducible refine (impl_HasLoop.calls k1 _ _ (rd_L2 t607 x5_1) true _ ?side1 ?side2 A11.out).mono ?_); (case side1 => repeat (first | exact (by repeat (first | (with_reducible exact HR611_0.out) | (with_reducible refine Kd.C_alloc ?_ _) | (with_reducible refine Kd.C_drewN ?_ _) | (with_reducible refine Kd.C_drew ?_) | exact HR611_0.out)) | (with_reducible refine Kd.C_alloc ?_ _) | (with_reducible refine Kd.C_drewN ?_ _) | (with_reducible refine Kd.C_drew ?_))); (case side2 => exact HC611_0.out); rintro e w15 ⟨rfl, hb⟩; refine ⟨_, rfl, ?_⟩; replace HO_3 := Aside0.mk (Kd.S_below (ss HO_3) hb); replace HL611_0 := Aside0.mk (Kd.R_below (sr HL611_0) hb); replace HR611_0 := Aside0.mk (Kd.C_below (by repeat (first | (with_reducible exact HR611_0.out) | (with_reducible refine Kd.C_alloc ?_ _) | (with_reducible refine Kd.C_drewN ?_ _) | (with_reducible refine Kd.C_drew ?_) | exact HR611_0.out)) hb); replace HB := bs hb; (try clear hb); (try clear hb2); (try clear hk); (try clear hi)))
       go_ret
       exact ⟨se, sb⟩
     ·replace H := im H
      have H' := Aside0.mk H
      clear H
      have p611 : 0 ≤ (x5_1 : Int) := sa
      have q611 : x5_1 < (t607.length : Int) := sa
      obtain ⟨ad611, A611_0, c611_0, e611, hx611_0, hl611_0, hi611_0⟩ := at_L2 (Kd.S_reads' HO_3.out).2.2 x5_1 p611 q611
      cases e611
      obtain ⟨ce611, hce611, hMe611, hcc611⟩ := Kd.S_get HO_3.out [] x5_1 p611 (by first | exact q611 | exact sa | (have e_ := (Kd.S_reads' HO_3.out).1; omega))
      obtain ⟨ve611_0, rfl, ge611_0⟩ := hMe611
      have hv611_0 := hcc611 0 _ rfl
      rw [Nat.add_zero, show ((Kd.slice 3 (Kd.int .i64))).sz = 1 from rfl, Nat.mul_one] at hv611_0
      replace hv611_0 := Option.some.inj (hv611_0.symm.trans hx611_0)
      rw [hv611_0] at ge611_0
      have HL611_0 := Aside0.mk (show Kd.R (Kd.int .i64) 3 _ _ _ _ (rd_L2 t607 x5_1) from ge611_0)
      clear hv611_0 ge611_0 hcc611 hce611
      have HR611_0 := Aside0.mk hi611_0
      have HC611_0 := Aside0.mk hl611_0
      clear hi611_0 hl611_0
      replace p611 := eq_true p611
      replace q611 := eq_true q611
      go_wp2_with (first | ((with_reducible refine gate_callee (f := 15) rfl ?_); refine gL (some 29) Try.func15 #[.slice A611_0 (rd_L2 t607 x5_1).length c611_0] ?_; (with_reducible refine (impl_HasLoop.calls k1 _ _ (rd_L2 t607 x5_1) false _ ?side1 ?side2 A11.out).mono ?_); (case side1 => repeat (first | exact (by repeat (first | (with_reducible exact HR611_0.out) | (with_reducible refine Kd.C_alloc ?_ _) | (with_reducible refine Kd.C_drewN ?_ _) | (with_reducible refine Kd.C_drew ?_) | exact HR611_0.out)) | (with_reducible refine Kd.C_alloc ?_ _) | (with_reducible refine Kd.C_drewN ?_ _) | (with_reducible refine Kd.C_drew ?_))); (case side2 => exact HC611_0.out); rintro e w16 ⟨rfl, hb⟩; refine ⟨_, rfl, ?_⟩; replace HO_3 := Aside0.mk (Kd.S_below (ss HO_3) hb); replace HL611_0 := Aside0.mk (Kd.R_below (sr HL611_0) hb); replace HR611_0 := Aside0.mk (Kd.C_below (by repeat (first | (with_reducible exact HR611_0.out) | (with_reducible refine Kd.C_alloc ?_ _) | (with_reducible refine Kd.C_drewN ?_ _) | (with_reducible refine Kd.C_drew ?_) | exact HR611_0.out)) hb); replace HB := bs hb; (try clear hb); (try clear hb2); (try clear hk); (try clear hi)))
      go_roundg k1
      case measure => have := HK1.out; omega
      case rel => exact ⟨(wrap64 (x5_1 + 1)), sc, H', kk1, ⟨ss HO_3⟩, ⟨sb⟩⟩
    ·have c9b0 := decide_eq_false c9
     clear c9
     obtain ⟨⟨t613, t614, t615, t616, t619, t620, t621⟩, A17, H⟩ := bnd H
     replace H : ((impl_PiecesIn.f k1 t613 t614 t615 t616 t620 t621).bind fun t623 => ((spec_PiecesIn.f k1 t613 t614 t615 t616 t620 t621).bind fun t626 => (if (t623.length : Int) = (t626.length : Int) then ((impl_IsSafeMix.f k1 t613 t614 t615 t616 t619 t620 t621).bind fun t629 => (if t629 = true then (laws_FnMixtures.j1 k1 l0 t619 t623 ((t623.length : Int) == 0) t613 t614 t615 t616) else (laws_FnMixtures.j1 k1 l0 t619 t623 true t613 t614 t615 t616))) else (some false)))) = some r := H
     obtain ⟨t623, A18, H⟩ := bnd H
     obtain ⟨t626, A19, H⟩ := bnd H
     obtain ⟨c20, H⟩ | ⟨c20, H⟩ := ie_ H
     ·have c20b0 : ((t623.length : Int) == (t626.length : Int)) = true := beq_iff_eq.mpr c20
      have c20b1 : ((t623.length : Int) != (t626.length : Int)) = false := bne_eq_false_iff_eq.mpr c20
      have c20b2 : (t623.length == t626.length) = true := by first | simpa using c20 | (simp at c20 ⊢; omega)
      clear c20
      have HC21 := Aside0.mk H
      clear H
      go_upto_region 14 with (first | ((with_reducible refine gate_callee (f := 16) rfl ?_); refine gL (some 36) Try.func16 #[.slice A0 l0.length c0] ?_; (with_reducible refine (spec_DrawIsSafeMix.calls k1 _ _ l0 t613 t614 t615 t616 t619 t620 t621 _ ?side1 ?side2 A17.out).mono ?_); (case side1 => exact cb HR0); (case side2 => exact HC0.out); rintro e w22 ⟨v617, rfl, ho0, hb⟩; refine ⟨_, rfl, ?_⟩; replace HO_3 := Aside0.mk (Kd.S_below (ss HO_3) hb); have HO618 := Aside0.mk (Kd.S_lower ho0 (below_size (sb))); replace HB := bs hb; (try clear hb); (try clear hb2); (try clear hk); (try clear hi); (try clear ho0)) | ((with_reducible refine gate_dst (N := 6) rfl ?_); (try (refine gate_guard (by rfl) ?_; dsimp only)); refine bx 6 #[.int .i64 0, .int .i64 0, .int .i64 0, .slice none 0 0] 31 ?_; intro gb622 hg w23 hbox hb; replace HO_3 := Aside0.mk (Kd.S_below (ss HO_3) hb); replace HO618 := Aside0.mk (Kd.S_below (ss HO618) hb); have GW622 := bz w hg; have GE622 := bz w hg; replace HB := bs hb; have BK622 := Aside0.mk hbox; clear hb hbox hg; obtain ⟨hcz24_0, hcz24_1, hcz24_2, hcz24_3, hfz24_0, hfz24_1, hfz24_2, hfz24_3⟩ := cc4 BK622; obtain ⟨Ao25, co25, eo25⟩ := Kd.S_slice HO618.out; subst eo25) | ((with_reducible refine gate_callee (f := 17) rfl ?_); refine gL (some 44) Try.func17 #[.agg #[.int .i64 t613, .int .i64 t614, .int .i64 t615, .slice Ao25 t616.length co25], .int .i64 t620, .int .i64 t621] ?_; (with_reducible refine (impl_PiecesIn.calls k1 t613 t614 t615 _ _ t616 t620 t621 t623 _ ?side1 ?side2 A18.out).mono ?_); (case side1 => refine (Kd.S_reads' (e := 105) (base := w.heap.size) (ok := fun k_ => True) (n := t616.length) (c := co25) ?_).2.2; exact (by (with_reducible repeat (first | apply Kd.S_alloc | apply Kd.S_drewN | apply Kd.S_drew)); exact (Kd.S_mono (Kd.S_far (p := ⟨gb622, 3, none⟩) (Kd.S_far (p := ⟨gb622, 2, none⟩) (Kd.S_far (p := ⟨gb622, 1, none⟩) (Kd.S_far (p := ⟨gb622, 0, none⟩) (Kd.S_types HO618.out BK622.out (by decide)) (fun _ hk => hk.2) (.int .i64 t613)) (fun _ hk => hk.2) (.int .i64 t614)) (fun _ hk => hk.2) (.int .i64 t615)) (fun _ hk => hk.2) (.slice Ao25 t616.length co25)) (fun _ h_ => h_.1)))); (case side2 => exact (Kd.S_reads' HO618.out).2.1); rintro e w26 ⟨v624, rfl, ho0, hb⟩; refine ⟨_, rfl, ?_⟩; replace HO_3 := Aside0.mk (Kd.S_elder' (by (with_reducible repeat (first | apply Kd.S_alloc | apply Kd.S_drewN | apply Kd.S_drew)); exact (Kd.S_mono (Kd.S_far (p := ⟨gb622, 3, none⟩) (Kd.S_far (p := ⟨gb622, 2, none⟩) (Kd.S_far (p := ⟨gb622, 1, none⟩) (Kd.S_far (p := ⟨gb622, 0, none⟩) (Kd.S_types HO_3.out BK622.out (by decide)) (fun _ hk => hk.2) (.int .i64 t613)) (fun _ hk => hk.2) (.int .i64 t614)) (fun _ hk => hk.2) (.int .i64 t615)) (fun _ hk => hk.2) (.slice Ao25 t616.length co25)) (fun _ h_ => h_.1))) (Kd.R_base ho0) hb); replace HO618 := Aside0.mk (Kd.S_elder' (by (with_reducible repeat (first | apply Kd.S_alloc | apply Kd.S_drewN | apply Kd.S_drew)); exact (Kd.S_mono (Kd.S_far (p := ⟨gb622, 3, none⟩) (Kd.S_far (p := ⟨gb622, 2, none⟩) (Kd.S_far (p := ⟨gb622, 1, none⟩) (Kd.S_far (p := ⟨gb622, 0, none⟩) (Kd.S_types HO618.out BK622.out (by decide)) (fun _ hk => hk.2) (.int .i64 t613)) (fun _ hk => hk.2) (.int .i64 t614)) (fun _ hk => hk.2) (.int .i64 t615)) (fun _ hk => hk.2) (.slice Ao25 t616.length co25)) (fun _ h_ => h_.1))) (Kd.R_base ho0) hb); have HO625 := Aside0.mk (Kd.R_lower ho0 (below_size (sbw))); replace BK622 := Aside0.mk (blk_below (g := gb622) (o := .cells #[.int .i64 t613, .int .i64 t614, .int .i64 t615, .slice Ao25 t616.length co25] 31 (0, 0)) (sp BK622) hb); replace HB := bsw hb; (try clear hb); (try clear hb2); (try clear hk); (try clear hi); (try clear ho0); obtain ⟨Ao27, co27, eo27⟩ := Kd.R_slice HO625.out; subst eo27; obtain ⟨hcz28_0, hcz28_1, hcz28_2, hcz28_3, hfz28_0, hfz28_1, hfz28_2, hfz28_3⟩ := cc4 BK622) | ((with_reducible refine gate_callee (f := 18) rfl ?_); refine gL (some 50) Try.func18 #[.agg #[.int .i64 t613, .int .i64 t614, .int .i64 t615, .slice Ao25 t616.length co25], .int .i64 t620, .int .i64 t621] ?_; (with_reducible refine (spec_PiecesIn.calls k1 t613 t614 t615 _ _ t616 t620 t621 t626 _ ?side1 ?side2 A19.out).mono ?_); (case side1 => repeat (first | exact (Kd.S_reads' HO618.out).2.2 | (with_reducible refine Kd.C_alloc ?_ _) | (with_reducible refine Kd.C_drewN ?_ _) | (with_reducible refine Kd.C_drew ?_))); (case side2 => exact (Kd.S_reads' HO618.out).2.1); rintro e w29 ⟨v627, rfl, ho0, hb⟩; refine ⟨_, rfl, ?_⟩; replace HO_3 := Aside0.mk (Kd.S_elder' (ss HO_3) (Kd.R_base ho0) hb); replace HO618 := Aside0.mk (Kd.S_elder' (ss HO618) (Kd.R_base ho0) hb); have HO628 := Aside0.mk (Kd.R_lower (Kd.R_new' ho0 (Kd.R_lt (sr HO625))) (below_size (sbw))); replace HO625 := Aside0.mk (Kd.R_elder' (sr HO625) (Kd.R_base ho0) hb); replace BK622 := bb BK622 hb; replace HB := bsw hb; (try clear hb); (try clear hb2); (try clear hk); (try clear hi); (try clear ho0); obtain ⟨Ao30, co30, eo30⟩ := Kd.R_slice HO628.out; subst eo30))
      (try simp only [Act.put, List.setIfInBounds_toArray, List.set_cons_zero, List.set_cons_succ])
      go_cut [63] (fun v63 wc => ∃ (kq : Nat) (x63_20 : Bool), v63 = .bool x63_20 ∧ Aside0 (laws_FnMixtures.j1 kq l0 t619 t623 x63_20 t613 t614 t615 t616 = some r) ∧ Aside0 (kq ≤ k1) ∧ Aside0 (Kd.R (Kd.int .i64) 3 wc w.heap.size (fun _ => True) (.slice Ao27 t623.length co27) t623) ∧ Aside0 (Kd.S k105 105 wc w.heap.size (fun k_ => some k_ ≠ ((.slice Ao27 t623.length co27) : Value).ownBlock) (.slice Ao25 t616.length co25) t616) ∧ Aside0 (wc.heap[gb622]? = some (.cells #[.int .i64 t613, .int .i64 t614, .int .i64 t615, (.slice Ao25 t616.length co25)] 31 (0, 0))) ∧ Aside0 (Below w.heap.size w wc))
      case first =>
       have H := HC21.out
       clear HC21
       obtain ⟨t629, A31, H⟩ := bnd H
       obtain rfl | rfl := tt t629
       ·replace H := ip H
        have H' := Aside0.mk H
        clear H
        obtain ⟨hcz33_0, hcz33_1, hcz33_2, hcz33_3, hfz33_0, hfz33_1, hfz33_2, hfz33_3⟩ := cc4 BK622
        go_wp2_with (first | ((with_reducible refine gate_callee (f := 19) rfl ?_); refine gL (some 57) Try.func19 #[.agg #[.int .i64 t613, .int .i64 t614, .int .i64 t615, .slice Ao25 t616.length co25], .int .i64 t619, .int .i64 t620, .int .i64 t621] ?_; (with_reducible refine (impl_IsSafeMix.calls k1 t613 t614 t615 _ _ t616 t619 t620 t621 true _ ?side1 ?side2 A31.out).mono ?_); (case side1 => repeat (first | exact (Kd.S_reads' HO618.out).2.2 | (with_reducible refine Kd.C_alloc ?_ _) | (with_reducible refine Kd.C_drewN ?_ _) | (with_reducible refine Kd.C_drew ?_))); (case side2 => exact (Kd.S_reads' HO618.out).2.1); rintro e w34 ⟨rfl, hb⟩; refine ⟨_, rfl, ?_⟩; replace HO_3 := Aside0.mk (Kd.S_below (ss HO_3) hb); replace HO618 := Aside0.mk (Kd.S_below (ss HO618) hb); replace HO625 := Aside0.mk (Kd.R_below (sr HO625) hb); replace HO628 := Aside0.mk (Kd.R_below (sr HO628) hb); replace BK622 := bb BK622 hb; replace HB := bsw hb; (try clear hb); (try clear hb2); (try clear hk); (try clear hi)))
        go_meet
        case rel => exact ⟨_, (((t623.length : Int) == 0)), sc, H', ⟨by have := HK1.out; first | omega | exact Nat.le_refl _⟩, ⟨by (with_reducible repeat (first | apply Kd.R_alloc | apply Kd.R_drewN | apply Kd.R_drew)); exact Kd.R_mono HO625.out (fun _ hk => trivial)⟩, ⟨by (with_reducible repeat (first | apply Kd.S_alloc | apply Kd.S_drewN | apply Kd.S_drew)); exact Kd.S_mono HO618.out (fun _ hk => hk.1.2)⟩, ⟨sk BK622⟩, ⟨sbw⟩⟩
       ·replace H := im H
        have H' := Aside0.mk H
        clear H
        obtain ⟨hcz35_0, hcz35_1, hcz35_2, hcz35_3, hfz35_0, hfz35_1, hfz35_2, hfz35_3⟩ := cc4 BK622
        go_wp2_with (first | ((with_reducible refine gate_callee (f := 19) rfl ?_); refine gL (some 57) Try.func19 #[.agg #[.int .i64 t613, .int .i64 t614, .int .i64 t615, .slice Ao25 t616.length co25], .int .i64 t619, .int .i64 t620, .int .i64 t621] ?_; (with_reducible refine (impl_IsSafeMix.calls k1 t613 t614 t615 _ _ t616 t619 t620 t621 false _ ?side1 ?side2 A31.out).mono ?_); (case side1 => repeat (first | exact (Kd.S_reads' HO618.out).2.2 | (with_reducible refine Kd.C_alloc ?_ _) | (with_reducible refine Kd.C_drewN ?_ _) | (with_reducible refine Kd.C_drew ?_))); (case side2 => exact (Kd.S_reads' HO618.out).2.1); rintro e w36 ⟨rfl, hb⟩; refine ⟨_, rfl, ?_⟩; replace HO_3 := Aside0.mk (Kd.S_below (ss HO_3) hb); replace HO618 := Aside0.mk (Kd.S_below (ss HO618) hb); replace HO625 := Aside0.mk (Kd.R_below (sr HO625) hb); replace HO628 := Aside0.mk (Kd.R_below (sr HO628) hb); replace BK622 := bb BK622 hb; replace HB := bsw hb; (try clear hb); (try clear hb2); (try clear hk); (try clear hi)))
        go_meet
        case rel => exact ⟨_, (true), sc, H', ⟨by have := HK1.out; first | omega | exact Nat.le_refl _⟩, ⟨by (with_reducible repeat (first | apply Kd.R_alloc | apply Kd.R_drewN | apply Kd.R_drew)); exact Kd.R_mono HO625.out (fun _ hk => trivial)⟩, ⟨by (with_reducible repeat (first | apply Kd.S_alloc | apply Kd.S_drewN | apply Kd.S_drew)); exact Kd.S_mono HO618.out (fun _ hk => hk.1.2)⟩, ⟨sk BK622⟩, ⟨sbw⟩⟩
      case rest =>
       clear HC21
       try clear c9
       try clear c9b0
       try clear c10b0
       try clear c20
       try clear c20b0
       try clear c20b1
       try clear c20b2
       try clear hcz33_0
       try clear hcz33_1
       try clear hcz33_2
       try clear hcz33_3
       try clear hcz35_0
       try clear hcz35_1
       try clear hcz35_2
       try clear hcz35_3
       try clear hfz33_0
       try clear hfz33_1
       try clear hfz33_2
       try clear hfz33_3
       try clear hfz35_0
       try clear hfz35_1
       try clear hfz35_2
       try clear hfz35_3
       try clear hx611_0
       try clear p611
       try clear q611
       obtain ⟨kq, x63_20, rfl, HA, HJ20, HO_10, HO_623003, BK622, HB⟩ := hcut
       cases kq with
       | zero => exact absurd HA.out (by simp [laws_FnMixtures.j1])
       | succ kj20 =>
        have H := HA.out
        clear HA
        simp only [laws_FnMixtures.j1] at H
        obtain rfl | rfl := tt x63_20
        ·replace H := ip H
         obtain rfl := Option.some.inj H
         go_wp2
         go_ret
         exact ⟨se, sbw⟩
        ·replace H := im H
         obtain ⟨y630, hy630⟩ : ∃ y_ : List Int, y_ = (([] : List Int)) := ⟨_, rfl⟩
         replace H : (laws_FnMixtures.l1 kj20 l0 t619 t623 y630 0 t613 t614 t615 t616) = some r := by first | (rw [hy630]; with_reducible exact H) | (have H2_ := (Option.bind_some _ _).symm.trans H; rw [hy630]; with_reducible exact H2_) | (have H2_ := (Option.bind_some _ _).symm.trans H; with_reducible exact H2_) | with_reducible exact H | (rw [hy630]; exact H) | exact H
         have Ny630 := Aside0.mk hy630
         clear hy630
         have H' := Aside0.mk H
         clear H
         go_wp2_with (first | ((with_reducible refine gate_dst (N := 64) rfl ?_); (try (refine gate_guard (by rfl) ?_; dsimp only)); refine Kd.R_lit (Kd.int .i64) _ 3 ?hg (N := 64) ?hd (xs := ([] : List Int)) (inner := []) (ok := fun _ => True) (okp := fun _ => True) ?hr ?hp (fun _ hk => hk) trivial (Below.refl _ _) (Nat.le_refl _) (by simp) ?_; (case hd => rfl); (case hg => rfl); (case hr => first | (go_simp; done) | (go_simp; rfl)); (case hp => exact (Reps.none _ _)); intro v631 w38 ho39 hb hg_ hnew_; clear hg_ hnew_; (first | rw [← Ny630.out] at ho39 | (simp only [Int.reduceToNat] at ho39; rw [← Ny630.out] at ho39)); replace HO_623003 := Aside0.mk (Kd.S_elder' (ss HO_623003) (Kd.R_base ho39) hb); have HO632 := Aside0.mk (Kd.R_lower (Kd.R_new' ho39 (Kd.R_lt (sr HO_10))) (below_size (sbw))); replace HO_10 := Aside0.mk (Kd.R_elder' (sr HO_10) (Kd.R_base ho39) hb); replace BK622 := bb BK622 hb; replace HB := bsw hb; clear hb ho39))
         go_loopg [11, 12] kj20 (fun kq v11 v12 w' => ∃ (x11_3 : List Int) (x12_3 : Int), v12 = .int .i64 x12_3 ∧ Aside0 (laws_FnMixtures.l1 kq l0 t619 t623 x11_3 x12_3 t613 t614 t615 t616 = some r) ∧ Aside0 (kq ≤ kj20) ∧ Aside0 (Kd.R (Kd.int .i64) 3 w' w.heap.size (fun k_ => some k_ ≠ (v11 : Value).ownBlock) (.slice Ao27 t623.length co27) t623) ∧ Aside0 (Kd.R (Kd.int .i64) 3 w' w.heap.size (fun k_ => some k_ ≠ ((.slice Ao27 t623.length co27) : Value).ownBlock) v11 x11_3) ∧ Aside0 (Kd.S k105 105 w' w.heap.size (fun k_ => some k_ ≠ ((.slice Ao27 t623.length co27) : Value).ownBlock ∧ some k_ ≠ (v11 : Value).ownBlock) (.slice Ao25 t616.length co25) t616) ∧ Aside0 (w'.heap[gb622]? = some (.cells #[.int .i64 t613, .int .i64 t614, .int .i64 t615, (.slice Ao25 t616.length co25)] 31 (0, 0))) ∧ Aside0 (Below w.heap.size w w'))
         case atStart => exact ⟨(y630), (0), sc, H', kk0, ⟨by (with_reducible repeat (first | apply Kd.R_alloc | apply Kd.R_drewN | apply Kd.R_drew)); exact Kd.R_mono HO_10.out (fun _ hk => hk.2)⟩, ⟨by (with_reducible repeat (first | apply Kd.R_alloc | apply Kd.R_drewN | apply Kd.R_drew)); exact Kd.R_mono HO632.out (fun _ hk => hk.2)⟩, ⟨ss HO_623003⟩, ⟨sk BK622⟩, ⟨sbw⟩⟩
         case round =>
          clear H'
          try clear c9
          try clear c9b0
          try clear c10b0
          try clear c20
          try clear c20b0
          try clear c20b1
          try clear c20b2
          try clear hcz33_0
          try clear hcz33_1
          try clear hcz33_2
          try clear hcz33_3
          try clear hcz35_0
          try clear hcz35_1
          try clear hcz35_2
          try clear hcz35_3
          try clear hfz33_0
          try clear hfz33_1
          try clear hfz33_2
          try clear hfz33_3
          try clear hfz35_0
          try clear hfz35_1
          try clear hfz35_2
          try clear hfz35_3
          try clear hx611_0
          try clear p611
          try clear q611
          obtain ⟨x11_3, x12_3, rfl, HA, HK3, HO_10, HO_11, HO_623003, BK622, HB⟩ := hrel
          cases gk with
          | zero => exact absurd HA.out (by simp [laws_FnMixtures.l1])
          | succ k3 =>
           have H := HA.out
           clear HA
           simp only [laws_FnMixtures.l1] at H
           obtain ⟨c40, H⟩ | ⟨c40, H⟩ := ie_ H
           ·have c40b0 := decide_eq_true c40
            clear c40
            obtain ⟨t633, A41, H⟩ := bnd H
            obtain ⟨c42, H⟩ | ⟨c42, H⟩ := ie_ H
            ·exact ab H
            ·have c42b0 : ((t623.length : Int) == 0) = false := beq_eq_false_iff_ne.mpr c42
             have c42b1 : ((t623.length : Int) != 0) = true := bne_iff_ne.mpr c42
             have c42b2 : ¬ (t623 = []) := fun h_ => c42 (by rw [h_]; rfl)
             obtain ⟨ji43, hji43⟩ : ∃ j_ : Int, (Int.tmod t633 (t623.length : Int)) = j_ := ⟨_, rfl⟩
             replace H : (if 0 ≤ (ji43) then (if (ji43) < (t623.length : Int) then (if x11_3.length < 17592186044416 then (laws_FnMixtures.l1 k3 l0 t619 t623 (x11_3 ++ [rd t623 (ji43)]) (wrap64 (x12_3 + 1)) t613 t614 t615 t616) else (none)) else (none)) else (none)) = some r := by first | (rw [hji43] at H; exact H) | (simp only [hji43] at H ⊢; exact H)
             (try rw [hji43] at A41)
             obtain ⟨c44b0, H⟩ := id_ H
             obtain ⟨c45b0, H⟩ := id_ H
             obtain ⟨LMc46, H⟩ := il_ H
             obtain ⟨y635, hy635⟩ : ∃ y_ : List Int, y_ = (x11_3 ++ [rd t623 (ji43)]) := ⟨_, rfl⟩
             replace H : (laws_FnMixtures.l1 k3 l0 t619 t623 y635 (wrap64 (x12_3 + 1)) t613 t614 t615 t616) = some r := by first | (rw [hy635]; with_reducible exact H) | (have H2_ := (Option.bind_some _ _).symm.trans H; rw [hy635]; with_reducible exact H2_) | (have H2_ := (Option.bind_some _ _).symm.trans H; with_reducible exact H2_) | with_reducible exact H | (rw [hy635]; exact H) | exact H
             have Ny635 := Aside0.mk hy635
             clear hy635
             have H' := Aside0.mk H
             clear H
             obtain ⟨hcz47_0, hcz47_1, hcz47_2, hcz47_3, hfz47_0, hfz47_1, hfz47_2, hfz47_3⟩ := cc4 BK622
             go_wp2_with (first | ((with_reducible refine gate_callee (f := 20) rfl ?_); refine gL (some 75) Try.func20 #[.slice A0 l0.length c0, .int .i64 x12_3] ?_; (with_reducible refine (laws_at.calls _ _ l0 x12_3 t633 _ ?side1 ?side2 A41.out).mono ?_); (case side1 => exact cb HR0); (case side2 => exact HC0.out); rintro e w' ⟨rfl, ⟨nd, rfl⟩⟩; refine ⟨_, rfl, ?_⟩; have p634 : 0 ≤ ((ji43) : Int) := sa; have q634 : (ji43) < (t623.length : Int) := sa; obtain ⟨ad634, e634, hx634_0⟩ := Kd.at_int (Kd.R_reads' HO_10.out).2.2 (ji43) p634 q634; cases e634; replace p634 := eq_true p634; replace q634 := eq_true q634) | ((with_reducible refine gate_builtin (b := .append) (xs := #[.tmp 71, .tmp 81]) rfl ?_); (try (refine gate_guard (by rfl) ?_; dsimp only)); at_builtin; refine Kd.R_append (Kd.int .i64) (w0 := w) w.heap.size rfl (.tmp 71) (.tmp 81) 28 3 (.int .i64 0) 8 rfl Try.underlying28 info3 rfl (by decide) (by omega) u11 x11_3 (rd t623 (ji43)) [.int .i64 (rd t623 (ji43))] (fun k_ => some k_ ≠ (.slice (some ad634) t623.length co27 : Value).ownBlock) (fun _ => False) rfl rfl ?aP (fun _ hk => hk.elim) ?aF ?aO ?aB ?aS ?aL ?_; (case aP => exact rfl); (case aB => exact (sbw)); (case aF => exact (fun k_ hk => Kd.fresh' (Kd.R_lt (sr HO_10)) k_ hk)); (case aO => exact (sr HO_11)); (case aS => exact (below_size (sbw))); (case aL => have := LMc46.out; omega); intro v636 w48 ho hb hg hat; rw [← Ny635.out] at ho; replace HO_10 := Aside0.mk (Kd.R_after (ok := (fun _ => True)) (by (with_reducible repeat (first | apply Kd.R_alloc | apply Kd.R_drewN | apply Kd.R_drew)); exact Kd.R_mono HO_10.out (fun _ hk => ⟨trivial, hk⟩)) hg hat); replace HO_623003 := Aside0.mk (Kd.S_after (ok := (fun k_ => some k_ ≠ (.slice (some ad634) t623.length co27 : Value).ownBlock)) (ss HO_623003) hg hat); replace BK622 := Aside0.mk (blk_grown (g := gb622) (o := .cells #[.int .i64 t613, .int .i64 t614, .int .i64 t615, .slice Ao25 t616.length co25] 31 (0, 0)) (sk BK622) hg (Kd.R_ne HO_11.out BK622.out (by decide))); replace HB := Aside0.mk hb; have HO637 := Aside0.mk ho; clear HO_11; clear ho hb hg hat))
             go_roundg k3
             case measure => have := HK1.out; have := HJ20.out; have := HK3.out; omega
             case rel => exact ⟨(y635), (wrap64 (x12_3 + 1)), sc, H', ⟨by have := HK1.out; have := HJ20.out; have := HK3.out; omega⟩, ⟨by (with_reducible repeat (first | apply Kd.R_alloc | apply Kd.R_drewN | apply Kd.R_drew)); exact Kd.R_mono HO_10.out (fun _ hk => hk.2)⟩, ⟨sr HO637⟩, ⟨ss HO_623003⟩, ⟨sk BK622⟩, ⟨sbw⟩⟩
           ·have c40b0 := decide_eq_false c40
            clear c40
            obtain ⟨t638, A49, H⟩ := bnd H
            obtain ⟨t641, A50, H⟩ := bnd H
            obtain rfl := Option.some.inj H
            obtain ⟨hcz51_0, hcz51_1, hcz51_2, hcz51_3, hfz51_0, hfz51_1, hfz51_2, hfz51_3⟩ := cc4 BK622
            obtain ⟨Ao52, co52, eo52⟩ := Kd.R_slice HO_11.out
            subst eo52
            go_wp2_with (first | ((with_reducible refine gate_callee (f := 21) rfl ?_); refine gL (some 86) Try.func21 #[.agg #[.int .i64 t613, .int .i64 t614, .int .i64 t615, .slice Ao25 t616.length co25], .int .i64 t619, .slice Ao52 x11_3.length co52] ?_; (with_reducible refine (impl_MixOf.calls k3 t613 t614 t615 _ _ t616 t619 _ _ x11_3 t638 _ ?side1 ?side2 ?side3 ?side4 A49.out).mono ?_); (case side1 => repeat (first | exact (Kd.S_reads' HO_623003.out).2.2 | (with_reducible refine Kd.C_alloc ?_ _) | (with_reducible refine Kd.C_drewN ?_ _) | (with_reducible refine Kd.C_drew ?_))); (case side2 => exact (Kd.S_reads' HO_623003.out).2.1); (case side3 => repeat (first | exact (Kd.R_reads' HO_11.out).2.2 | (with_reducible refine Kd.C_alloc ?_ _) | (with_reducible refine Kd.C_drewN ?_ _) | (with_reducible refine Kd.C_drew ?_))); (case side4 => exact (Kd.R_reads' HO_11.out).2.1); rintro e w53 ⟨v639, rfl, ho0, hb⟩; refine ⟨_, rfl, ?_⟩; replace HO_623003 := Aside0.mk (Kd.S_elder' (ss HO_623003) (Kd.R_base ho0) hb); have HO640 := Aside0.mk (Kd.R_lower (Kd.R_new' (Kd.R_new' ho0 (Kd.R_lt (sr HO_10))) (Kd.R_lt (sr HO_11))) (below_size (sbw))); replace HO_10 := Aside0.mk (Kd.R_elder' (sr HO_10) (Kd.R_base ho0) hb); replace HO_11 := Aside0.mk (Kd.R_elder' (sr HO_11) (Kd.R_base ho0) hb); replace BK622 := bb BK622 hb; replace HB := bsw hb; (try clear hb); (try clear hb2); (try clear hk); (try clear hi); (try clear ho0); obtain ⟨Ao54, co54, eo54⟩ := Kd.R_slice HO640.out; subst eo54) | ((with_reducible refine gate_callee (f := 15) rfl ?_); refine gL (some 87) Try.func15 #[.slice Ao54 t638.length co54] ?_; (with_reducible refine (impl_HasLoop.calls k3 _ _ t638 t641 _ ?side1 ?side2 A50.out).mono ?_); (case side1 => repeat (first | exact (Kd.R_reads' HO640.out).2.2 | (with_reducible refine Kd.C_alloc ?_ _) | (with_reducible refine Kd.C_drewN ?_ _) | (with_reducible refine Kd.C_drew ?_))); (case side2 => exact (Kd.R_reads' HO640.out).2.1); rintro e w55 ⟨rfl, hb⟩; refine ⟨_, rfl, ?_⟩; replace HO_10 := Aside0.mk (Kd.R_below (sr HO_10) hb); replace HO_11 := Aside0.mk (Kd.R_below (sr HO_11) hb); replace HO_623003 := Aside0.mk (Kd.S_below (ss HO_623003) hb); replace HO640 := Aside0.mk (Kd.R_below (sr HO640) hb); replace BK622 := bb BK622 hb; replace HB := bsw hb; (try clear hb); (try clear hb2); (try clear hk); (try clear hi)))
            go_ret
            exact ⟨se, sbw⟩
     ·have c20b0 : ((t623.length : Int) == (t626.length : Int)) = false := beq_eq_false_iff_ne.mpr c20
      have c20b1 : ((t623.length : Int) != (t626.length : Int)) = true := bne_iff_ne.mpr c20
      have c20b2 : (t623.length == t626.length) = false := by first | simpa using c20 | (simp at c20 ⊢; omega)
      obtain rfl := Option.some.inj H
      go_wp2_with (first | ((with_reducible refine gate_callee (f := 16) rfl ?_); refine gL (some 36) Try.func16 #[.slice A0 l0.length c0] ?_; (with_reducible refine (spec_DrawIsSafeMix.calls k1 _ _ l0 t613 t614 t615 t616 t619 t620 t621 _ ?side1 ?side2 A17.out).mono ?_); (case side1 => exact cb HR0); (case side2 => exact HC0.out); rintro e w56 ⟨v617, rfl, ho0, hb⟩; refine ⟨_, rfl, ?_⟩; replace HO_3 := Aside0.mk (Kd.S_below (ss HO_3) hb); have HO618 := Aside0.mk (Kd.S_lower ho0 (below_size (sb))); replace HB := bs hb; (try clear hb); (try clear hb2); (try clear hk); (try clear hi); (try clear ho0)) | ((with_reducible refine gate_dst (N := 6) rfl ?_); (try (refine gate_guard (by rfl) ?_; dsimp only)); refine bx 6 #[.int .i64 0, .int .i64 0, .int .i64 0, .slice none 0 0] 31 ?_; intro gb622 hg w57 hbox hb; replace HO_3 := Aside0.mk (Kd.S_below (ss HO_3) hb); replace HO618 := Aside0.mk (Kd.S_below (ss HO618) hb); have GW622 := bz w hg; have GE622 := bz w hg; replace HB := bs hb; have BK622 := Aside0.mk hbox; clear hb hbox hg; obtain ⟨hcz58_0, hcz58_1, hcz58_2, hcz58_3, hfz58_0, hfz58_1, hfz58_2, hfz58_3⟩ := cc4 BK622; obtain ⟨Ao59, co59, eo59⟩ := Kd.S_slice HO618.out; subst eo59) | ((with_reducible refine gate_callee (f := 17) rfl ?_); refine gL (some 44) Try.func17 #[.agg #[.int .i64 t613, .int .i64 t614, .int .i64 t615, .slice Ao59 t616.length co59], .int .i64 t620, .int .i64 t621] ?_; (with_reducible refine (impl_PiecesIn.calls k1 t613 t614 t615 _ _ t616 t620 t621 t623 _ ?side1 ?side2 A18.out).mono ?_); (case side1 => refine (Kd.S_reads' (e := 105) (base := w.heap.size) (ok := fun k_ => True) (n := t616.length) (c := co59) ?_).2.2; exact (by (with_reducible repeat (first | apply Kd.S_alloc | apply Kd.S_drewN | apply Kd.S_drew)); exact (Kd.S_mono (Kd.S_far (p := ⟨gb622, 3, none⟩) (Kd.S_far (p := ⟨gb622, 2, none⟩) (Kd.S_far (p := ⟨gb622, 1, none⟩) (Kd.S_far (p := ⟨gb622, 0, none⟩) (Kd.S_types HO618.out BK622.out (by decide)) (fun _ hk => hk.2) (.int .i64 t613)) (fun _ hk => hk.2) (.int .i64 t614)) (fun _ hk => hk.2) (.int .i64 t615)) (fun _ hk => hk.2) (.slice Ao59 t616.length co59)) (fun _ h_ => h_.1)))); (case side2 => exact (Kd.S_reads' HO618.out).2.1); rintro e w60 ⟨v624, rfl, ho0, hb⟩; refine ⟨_, rfl, ?_⟩; replace HO_3 := Aside0.mk (Kd.S_elder' (by (with_reducible repeat (first | apply Kd.S_alloc | apply Kd.S_drewN | apply Kd.S_drew)); exact (Kd.S_mono (Kd.S_far (p := ⟨gb622, 3, none⟩) (Kd.S_far (p := ⟨gb622, 2, none⟩) (Kd.S_far (p := ⟨gb622, 1, none⟩) (Kd.S_far (p := ⟨gb622, 0, none⟩) (Kd.S_types HO_3.out BK622.out (by decide)) (fun _ hk => hk.2) (.int .i64 t613)) (fun _ hk => hk.2) (.int .i64 t614)) (fun _ hk => hk.2) (.int .i64 t615)) (fun _ hk => hk.2) (.slice Ao59 t616.length co59)) (fun _ h_ => h_.1))) (Kd.R_base ho0) hb); replace HO618 := Aside0.mk (Kd.S_elder' (by (with_reducible repeat (first | apply Kd.S_alloc | apply Kd.S_drewN | apply Kd.S_drew)); exact (Kd.S_mono (Kd.S_far (p := ⟨gb622, 3, none⟩) (Kd.S_far (p := ⟨gb622, 2, none⟩) (Kd.S_far (p := ⟨gb622, 1, none⟩) (Kd.S_far (p := ⟨gb622, 0, none⟩) (Kd.S_types HO618.out BK622.out (by decide)) (fun _ hk => hk.2) (.int .i64 t613)) (fun _ hk => hk.2) (.int .i64 t614)) (fun _ hk => hk.2) (.int .i64 t615)) (fun _ hk => hk.2) (.slice Ao59 t616.length co59)) (fun _ h_ => h_.1))) (Kd.R_base ho0) hb); have HO625 := Aside0.mk (Kd.R_lower ho0 (below_size (sbw))); replace BK622 := Aside0.mk (blk_below (g := gb622) (o := .cells #[.int .i64 t613, .int .i64 t614, .int .i64 t615, .slice Ao59 t616.length co59] 31 (0, 0)) (sp BK622) hb); replace HB := bsw hb; (try clear hb); (try clear hb2); (try clear hk); (try clear hi); (try clear ho0); obtain ⟨Ao61, co61, eo61⟩ := Kd.R_slice HO625.out; subst eo61; obtain ⟨hcz62_0, hcz62_1, hcz62_2, hcz62_3, hfz62_0, hfz62_1, hfz62_2, hfz62_3⟩ := cc4 BK622) | ((with_reducible refine gate_callee (f := 18) rfl ?_); refine gL (some 50) Try.func18 #[.agg #[.int .i64 t613, .int .i64 t614, .int .i64 t615, .slice Ao59 t616.length co59], .int .i64 t620, .int .i64 t621] ?_; (with_reducible refine (spec_PiecesIn.calls k1 t613 t614 t615 _ _ t616 t620 t621 t626 _ ?side1 ?side2 A19.out).mono ?_); (case side1 => repeat (first | exact (Kd.S_reads' HO618.out).2.2 | (with_reducible refine Kd.C_alloc ?_ _) | (with_reducible refine Kd.C_drewN ?_ _) | (with_reducible refine Kd.C_drew ?_))); (case side2 => exact (Kd.S_reads' HO618.out).2.1); rintro e w63 ⟨v627, rfl, ho0, hb⟩; refine ⟨_, rfl, ?_⟩; replace HO_3 := Aside0.mk (Kd.S_elder' (ss HO_3) (Kd.R_base ho0) hb); replace HO618 := Aside0.mk (Kd.S_elder' (ss HO618) (Kd.R_base ho0) hb); have HO628 := Aside0.mk (Kd.R_lower (Kd.R_new' ho0 (Kd.R_lt (sr HO625))) (below_size (sbw))); replace HO625 := Aside0.mk (Kd.R_elder' (sr HO625) (Kd.R_base ho0) hb); replace BK622 := bb BK622 hb; replace HB := bsw hb; (try clear hb); (try clear hb2); (try clear hk); (try clear hi); (try clear ho0); obtain ⟨Ao64, co64, eo64⟩ := Kd.R_slice HO628.out; subst eo64))
      go_ret
      exact ⟨se, sbw⟩

/-- THE ONE PURE STATEMENT of laws_FnMixtures: yours. -/
def laws_FnMixtures.Pure : Prop := ∀ (l0 : List Int), l0.length ≤ maxLen → l0.length * 1 ≤ 140737488351232 → (∀ x ∈ l0, (Lit.int .u8 x).wf = true) → ∃ k, laws_FnMixtures.f k l0 = some true
theorem laws_FnMixtures.walk (P : laws_FnMixtures.Pure) (a0 : Option Addr) (len0 cap0 : Nat) (z0 : List Int) (w : World) (w0 : (a0 = none ∧ len0 = 0 ∧ cap0 = 0 ∧ z0 = []) ∨ ∃ x, a0 = some x ∧ len0 ≤ cap0 ∧ cap0 ≤ maxLen ∧ z0.length = cap0 ∧ (∀ i, i < z0.length → w.cell? (x.add i) = some (.int .u8 (z0.getD i 0))) ∧ ∀ n ∈ z0, (Lit.int .u8 n).wf = true) (y0 : len0 * 1 ≤ 140737488351232) :
    Calls Try.prog 3 #[.slice a0 len0 cap0] w fun e w' => e = .returned (.bool true) ∧ Below w.heap.size w w' := by
 obtain ⟨l0, rfl, hr0, hm0, hw0, hc0⟩ := ReadsInt.ofRowC w0
 obtain ⟨k, h⟩ := P l0 hm0 y0 hw0
 refine (laws_FnMixtures.calls k _ _ l0 true w (Kd.C_of_reads (d := (0 : Int)) (h1 := fun _ => rfl) hr0) hc0 h).mono ?_
 rintro e w' ⟨rfl, hd⟩
 exact ⟨rfl, hd⟩

end Go.Proofs.Ytiihaabhjphaeaa.QFnMixtures
