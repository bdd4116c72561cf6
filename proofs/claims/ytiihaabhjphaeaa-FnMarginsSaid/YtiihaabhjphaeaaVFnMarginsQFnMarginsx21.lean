/- Printed by a program of the session. Conditions: none. (squeezed). -/
import Derived.Test.YtiihaabhjphaeaaVFnMarginsQFnMarginsx19
import Derived.Test.YtiihaabhjphaeaaVFnMarginsQFnMarginsx20
namespace Go.Proofs.Ytiihaabhjphaeaa.QFnMargins
set_option maxHeartbeats 8000000
set_option maxRecDepth 100000
open Go.RowKit Go.Proofs.YtiihaabhjphaeaaW.PrintWords Go.Proofs.YtiihaabhjphaeaaW.PrintLast Go.Proofs.YtiihaabhjphaeaaW.PrintMore Go.Proofs.Ytiihaabhjphaeaa.Open Go.Proofs.Ytiihaabhjphaeaa.Sq
attribute [local go_sem] max2_int min2_int max_two min_two max_three min_three max_four min_four   -- for this text's walks alone
attribute [local go_sem] isSome_set
set_option linter.unusedVariables false
set_option linter.unusedSimpArgs false

mutual
def laws_FnMargins.j1 : Nat → List Int → Option (Bool)
  | 0, _ => none
  | k + 1, x0 => (spec_DrawUseSpans.f k x0).bind fun bt671 => ((impl_UseSpans.f k bt671.1 bt671.2.1 bt671.2.2.1 bt671.2.2.2.1 bt671.2.2.2.2.1 bt671.2.2.2.2.2).bind fun t680 => (laws_FnMargins.l1 k bt671.2.2.2.2.1 bt671.2.2.2.2.2 t680 0 0 bt671.1 bt671.2.1 bt671.2.2.1 bt671.2.2.2.1))
def laws_FnMargins.l1 : Nat → Int → Int → List (S102) → Int → Int → Int → Int → Int → List (S105) → Option (Bool)
  | 0, _, _, _, _, _, _, _, _, _ => none
  | k + 1, x9, x10, x11, x12, x13, x680000, x680001, x680002, x680003 => if x13 ≤ 60 then ((impl_IsLinked.f x680000 x680001 x680002 x680003 x9 x10 x13).bind fun t686 => (if t686 = true then (laws_FnMargins.j3 k x9 x10 x11 (wrap64 (x12 + 1)) x13 x680000 x680001 x680002 x680003) else (laws_FnMargins.j3 k x9 x10 x11 x12 x13 x680000 x680001 x680002 x680003))) else (if x12 > 60 then (some true) else ((impl_IsProgram.f k x680000 x680001 x680002 x680003).bind fun t683 => (if t683 = true then ((impl_TicksOf.f k x11).bind fun t684 => ((impl_LostToClocks.f k x680000 x680001 x680002 x680003 x9 x10).bind fun t685 => (some (decide ((wrap64 (t684 + t685)) ≥ x12))))) else (some true))))
def laws_FnMargins.j3 : Nat → Int → Int → List (S102) → Int → Int → Int → Int → Int → List (S105) → Option (Bool)
  | 0, _, _, _, _, _, _, _, _, _ => none
  | k + 1, x9, x10, x11, x12, x13, x680000, x680001, x680002, x680003 => (impl_InSpans.f k x11 x13).bind fun t687 => (if t687 = true then ((impl_IsLinked.f x680000 x680001 x680002 x680003 x9 x10 x13).bind fun t688 => (if t688 = true then (laws_FnMargins.l1 k x9 x10 x11 x12 (wrap64 (x13 + 1)) x680000 x680001 x680002 x680003) else (some false))) else (laws_FnMargins.l1 k x9 x10 x11 x12 (wrap64 (x13 + 1)) x680000 x680001 x680002 x680003))
def laws_FnMargins.l0 : Nat → List Int → Int → Int → Int → Int → Int → Int → Int → List (S105) → Option (Bool)
  | 0, _, _, _, _, _, _, _, _, _ => none
  | k + 1, x0, x4, x5, x6, x7, x667000, x667001, x667002, x667003 => if x7 ≤ (wrap64 (x6 + x667002)) then ((impl_IsLinked.f x667000 x667001 x667002 x667003 x4 x5 x7).bind fun t670 => (if t670 = true then (laws_FnMargins.l0 k x0 x4 x5 x6 (wrap64 (x7 + 1)) x667000 x667001 x667002 x667003) else (some false))) else (laws_FnMargins.j1 k x0)
end
def laws_FnMargins.f (k : Nat) (l0 : List Int) : Option (Bool) := (laws_big.f l0).bind fun t656 => (if t656 = true then (some true) else ((spec_DrawMayUse.f k l0).bind fun bt657 => ((impl_MayUse.f k bt657.1 bt657.2.1 bt657.2.2.1 bt657.2.2.2.1 bt657.2.2.2.2.1 bt657.2.2.2.2.2.1 bt657.2.2.2.2.2.2).bind fun t667 => ((spec_MayUse.f k bt657.1 bt657.2.1 bt657.2.2.1 bt657.2.2.2.1 bt657.2.2.2.2.1 bt657.2.2.2.2.2.1 bt657.2.2.2.2.2.2).bind fun t668 => (if (t667 != t668) = true then (some false) else ((impl_MayUse.f k bt657.1 bt657.2.1 bt657.2.2.1 bt657.2.2.2.1 bt657.2.2.2.2.1 bt657.2.2.2.2.2.1 bt657.2.2.2.2.2.2).bind fun t669 => (if t669 = true then (laws_FnMargins.l0 k l0 bt657.2.2.2.2.1 bt657.2.2.2.2.2.1 bt657.2.2.2.2.2.2 (wrap64 (bt657.2.2.2.2.2.2 - bt657.2.2.1)) bt657.1 bt657.2.1 bt657.2.2.1 bt657.2.2.2.1) else (laws_FnMargins.j1 k l0))))))))
theorem laws_FnMargins.mono_l : ∀ k, (∀ y0, LeO (laws_FnMargins.j1 k y0) (laws_FnMargins.j1 (k + 1) y0)) ∧ (∀ y0 y1 y2 y3 y4 y5 y6 y7 y8, LeO (laws_FnMargins.l1 k y0 y1 y2 y3 y4 y5 y6 y7 y8) (laws_FnMargins.l1 (k + 1) y0 y1 y2 y3 y4 y5 y6 y7 y8)) ∧ (∀ y0 y1 y2 y3 y4 y5 y6 y7 y8, LeO (laws_FnMargins.j3 k y0 y1 y2 y3 y4 y5 y6 y7 y8) (laws_FnMargins.j3 (k + 1) y0 y1 y2 y3 y4 y5 y6 y7 y8)) ∧ (∀ y0 y1 y2 y3 y4 y5 y6 y7 y8, LeO (laws_FnMargins.l0 k y0 y1 y2 y3 y4 y5 y6 y7 y8) (laws_FnMargins.l0 (k + 1) y0 y1 y2 y3 y4 y5 y6 y7 y8))
  | 0 => ⟨fun _ r h => by simp [laws_FnMargins.j1] at h, fun _ _ _ _ _ _ _ _ _ r h => by simp [laws_FnMargins.l1] at h, fun _ _ _ _ _ _ _ _ _ r h => by simp [laws_FnMargins.j3] at h, fun _ _ _ _ _ _ _ _ _ r h => by simp [laws_FnMargins.l0] at h⟩
  | k + 1 => by
    obtain ⟨ih0, ih1, ih2, ih3⟩ := laws_FnMargins.mono_l k
    refine ⟨?_, ?_, ?_, ?_⟩
    · intro y0
      unfold laws_FnMargins.j1
      repeat' first
      | (with_reducible exact ih0 _)
      | (with_reducible exact ih1 _ _ _ _ _ _ _ _ _)
      | (with_reducible exact ih2 _ _ _ _ _ _ _ _ _)
      | (with_reducible exact ih3 _ _ _ _ _ _ _ _ _)
      | (with_reducible exact impl_InSpans.mono _ _ _)
      | (with_reducible exact impl_IsProgram.mono _ _ _ _ _)
      | (with_reducible exact impl_LostToClocks.mono _ _ _ _ _ _ _)
      | (with_reducible exact impl_MayUse.mono _ _ _ _ _ _ _ _)
      | (with_reducible exact impl_TicksOf.mono _ _)
      | (with_reducible exact impl_UseSpans.mono _ _ _ _ _ _ _)
      | (with_reducible exact spec_DrawMayUse.mono _ _)
      | (with_reducible exact spec_DrawUseSpans.mono _ _)
      | (with_reducible exact spec_MayUse.mono _ _ _ _ _ _ _ _)
      | (with_reducible exact LeO.refl _)
      | (with_reducible exact LeO.none _)
      | (with_reducible refine LeO.ite ?_ ?_)
      | (with_reducible refine LeO.bind ?_ (fun _ => ?_))
      | exact ih0 _
      | exact ih1 _ _ _ _ _ _ _ _ _
      | exact ih2 _ _ _ _ _ _ _ _ _
      | exact ih3 _ _ _ _ _ _ _ _ _
      | exact impl_InSpans.mono _ _ _
      | exact impl_IsProgram.mono _ _ _ _ _
      | exact impl_LostToClocks.mono _ _ _ _ _ _ _
      | exact impl_MayUse.mono _ _ _ _ _ _ _ _
      | exact impl_TicksOf.mono _ _
      | exact impl_UseSpans.mono _ _ _ _ _ _ _
      | exact spec_DrawMayUse.mono _ _
      | exact spec_DrawUseSpans.mono _ _
      | exact spec_MayUse.mono _ _ _ _ _ _ _ _
      | exact LeO.none _
      | refine LeO.ite ?_ ?_
      | refine LeO.bind ?_ (fun _ => ?_)
    · intro y0 y1 y2 y3 y4 y5 y6 y7 y8
      unfold laws_FnMargins.l1
      repeat' first
      | (with_reducible exact ih0 _)
      | (with_reducible exact ih1 _ _ _ _ _ _ _ _ _)
      | (with_reducible exact ih2 _ _ _ _ _ _ _ _ _)
      | (with_reducible exact ih3 _ _ _ _ _ _ _ _ _)
      | (with_reducible exact impl_InSpans.mono _ _ _)
      | (with_reducible exact impl_IsProgram.mono _ _ _ _ _)
      | (with_reducible exact impl_LostToClocks.mono _ _ _ _ _ _ _)
      | (with_reducible exact impl_MayUse.mono _ _ _ _ _ _ _ _)
      | (with_reducible exact impl_TicksOf.mono _ _)
      | (with_reducible exact impl_UseSpans.mono _ _ _ _ _ _ _)
      | (with_reducible exact spec_DrawMayUse.mono _ _)
      | (with_reducible exact spec_DrawUseSpans.mono _ _)
      | (with_reducible exact spec_MayUse.mono _ _ _ _ _ _ _ _)
      | (with_reducible exact LeO.refl _)
      | (with_reducible exact LeO.none _)
      | (with_reducible refine LeO.ite ?_ ?_)
      | (with_reducible refine LeO.bind ?_ (fun _ => ?_))
      | exact ih0 _
      | exact ih1 _ _ _ _ _ _ _ _ _
      | exact ih2 _ _ _ _ _ _ _ _ _
      | exact ih3 _ _ _ _ _ _ _ _ _
      | exact impl_InSpans.mono _ _ _
      | exact impl_IsProgram.mono _ _ _ _ _
      | exact impl_LostToClocks.mono _ _ _ _ _ _ _
      | exact impl_MayUse.mono _ _ _ _ _ _ _ _
      | exact impl_TicksOf.mono _ _
      | exact impl_UseSpans.mono _ _ _ _ _ _ _
      | exact spec_DrawMayUse.mono _ _
      | exact spec_DrawUseSpans.mono _ _
      | exact spec_MayUse.mono _ _ _ _ _ _ _ _
      | exact LeO.none _
      | refine LeO.ite ?_ ?_
      | refine LeO.bind ?_ (fun _ => ?_)
    · intro y0 y1 y2 y3 y4 y5 y6 y7 y8
      unfold laws_FnMargins.j3
      repeat' first
      | (with_reducible exact ih0 _)
      | (with_reducible exact ih1 _ _ _ _ _ _ _ _ _)
      | (with_reducible exact ih2 _ _ _ _ _ _ _ _ _)
      | (with_reducible exact ih3 _ _ _ _ _ _ _ _ _)
      | (with_reducible exact impl_InSpans.mono _ _ _)
      | (with_reducible exact impl_IsProgram.mono _ _ _ _ _)
      | (with_reducible exact impl_LostToClocks.mono _ _ _ _ _ _ _)
      | (with_reducible exact impl_MayUse.mono _ _ _ _ _ _ _ _)
      | (with_reducible exact impl_TicksOf.mono _ _)
      | (with_reducible exact impl_UseSpans.mono _ _ _ _ _ _ _)
      | (with_reducible exact spec_DrawMayUse.mono _ _)
      | (with_reducible exact spec_DrawUseSpans.mono _ _)
      | (with_reducible exact spec_MayUse.mono _ _ _ _ _ _ _ _)
      | (with_reducible exact LeO.refl _)
      | (with_reducible exact LeO.none _)
      | (with_reducible refine LeO.ite ?_ ?_)
      | (with_reducible refine LeO.bind ?_ (fun _ => ?_))
      | exact ih0 _
      | exact ih1 _ _ _ _ _ _ _ _ _
      | exact ih2 _ _ _ _ _ _ _ _ _
      | exact ih3 _ _ _ _ _ _ _ _ _
      | exact impl_InSpans.mono _ _ _
      | exact impl_IsProgram.mono _ _ _ _ _
      | exact impl_LostToClocks.mono _ _ _ _ _ _ _
      | exact impl_MayUse.mono _ _ _ _ _ _ _ _
      | exact impl_TicksOf.mono _ _
      | exact impl_UseSpans.mono _ _ _ _ _ _ _
      | exact spec_DrawMayUse.mono _ _
      | exact spec_DrawUseSpans.mono _ _
      | exact spec_MayUse.mono _ _ _ _ _ _ _ _
      | exact LeO.none _
      | refine LeO.ite ?_ ?_
      | refine LeO.bind ?_ (fun _ => ?_)
    · intro y0 y1 y2 y3 y4 y5 y6 y7 y8
      unfold laws_FnMargins.l0
      repeat' first
      | (with_reducible exact ih0 _)
      | (with_reducible exact ih1 _ _ _ _ _ _ _ _ _)
      | (with_reducible exact ih2 _ _ _ _ _ _ _ _ _)
      | (with_reducible exact ih3 _ _ _ _ _ _ _ _ _)
      | (with_reducible exact impl_InSpans.mono _ _ _)
      | (with_reducible exact impl_IsProgram.mono _ _ _ _ _)
      | (with_reducible exact impl_LostToClocks.mono _ _ _ _ _ _ _)
      | (with_reducible exact impl_MayUse.mono _ _ _ _ _ _ _ _)
      | (with_reducible exact impl_TicksOf.mono _ _)
      | (with_reducible exact impl_UseSpans.mono _ _ _ _ _ _ _)
      | (with_reducible exact spec_DrawMayUse.mono _ _)
      | (with_reducible exact spec_DrawUseSpans.mono _ _)
      | (with_reducible exact spec_MayUse.mono _ _ _ _ _ _ _ _)
      | (with_reducible exact LeO.refl _)
      | (with_reducible exact LeO.none _)
      | (with_reducible refine LeO.ite ?_ ?_)
      | (with_reducible refine LeO.bind ?_ (fun _ => ?_))
      | exact ih0 _
      | exact ih1 _ _ _ _ _ _ _ _ _
      | exact ih2 _ _ _ _ _ _ _ _ _
      | exact ih3 _ _ _ _ _ _ _ _ _
      | exact impl_InSpans.mono _ _ _
      | exact impl_IsProgram.mono _ _ _ _ _
      | exact impl_LostToClocks.mono _ _ _ _ _ _ _
      | exact impl_MayUse.mono _ _ _ _ _ _ _ _
      | exact impl_TicksOf.mono _ _
      | exact impl_UseSpans.mono _ _ _ _ _ _ _
      | exact spec_DrawMayUse.mono _ _
      | exact spec_DrawUseSpans.mono _ _
      | exact spec_MayUse.mono _ _ _ _ _ _ _ _
      | exact LeO.none _
      | refine LeO.ite ?_ ?_
      | refine LeO.bind ?_ (fun _ => ?_)
theorem laws_FnMargins.mono : ∀ a0 k, LeO (laws_FnMargins.f k a0) (laws_FnMargins.f (k + 1) a0) := by
  intro a0 k
  obtain ⟨ih0, ih1, ih2, ih3⟩ := laws_FnMargins.mono_l k
  unfold laws_FnMargins.f
  repeat' first
      | (with_reducible exact ih0 _)
      | (with_reducible exact ih1 _ _ _ _ _ _ _ _ _)
      | (with_reducible exact ih2 _ _ _ _ _ _ _ _ _)
      | (with_reducible exact ih3 _ _ _ _ _ _ _ _ _)
      | (with_reducible exact impl_InSpans.mono _ _ _)
      | (with_reducible exact impl_IsProgram.mono _ _ _ _ _)
      | (with_reducible exact impl_LostToClocks.mono _ _ _ _ _ _ _)
      | (with_reducible exact impl_MayUse.mono _ _ _ _ _ _ _ _)
      | (with_reducible exact impl_TicksOf.mono _ _)
      | (with_reducible exact impl_UseSpans.mono _ _ _ _ _ _ _)
      | (with_reducible exact spec_DrawMayUse.mono _ _)
      | (with_reducible exact spec_DrawUseSpans.mono _ _)
      | (with_reducible exact spec_MayUse.mono _ _ _ _ _ _ _ _)
      | (with_reducible exact LeO.refl _)
      | (with_reducible exact LeO.none _)
      | (with_reducible refine LeO.ite ?_ ?_)
      | (with_reducible refine LeO.bind ?_ (fun _ => ?_))
      | exact ih0 _
      | exact ih1 _ _ _ _ _ _ _ _ _
      | exact ih2 _ _ _ _ _ _ _ _ _
      | exact ih3 _ _ _ _ _ _ _ _ _
      | exact impl_InSpans.mono _ _ _
      | exact impl_IsProgram.mono _ _ _ _ _
      | exact impl_LostToClocks.mono _ _ _ _ _ _ _
      | exact impl_MayUse.mono _ _ _ _ _ _ _ _
      | exact impl_TicksOf.mono _ _
      | exact impl_UseSpans.mono _ _ _ _ _ _ _
      | exact spec_DrawMayUse.mono _ _
      | exact spec_DrawUseSpans.mono _ _
      | exact spec_MayUse.mono _ _ _ _ _ _ _ _
      | exact LeO.none _
      | refine LeO.ite ?_ ?_
      | refine LeO.bind ?_ (fun _ => ?_)
def laws_FnMargins.T4 : Bool × List (List Nat × List Nat) := (true, [([], []), ([], []), ([], []), ([], []), ([0, 1, 2, 3], [0, 1, 2, 3]), ([], []), ([], []), ([], []), ([], []), ([5, 6, 7, 8, 4], [5, 6, 7, 8]), ([4, 9], [4, 9])])
def laws_FnMargins.B4 : List Nat := [0, 0, 0, 0, 15, 0, 0, 0, 0, 511, 1023]
theorem laws_FnMargins.tab4 : rtab .any (opsOf Try.f5 4) = laws_FnMargins.T4 := by kernel_rfl
theorem laws_FnMargins.bits4 : waitsOk laws_FnMargins.T4.2 laws_FnMargins.B4 = true := by kernel_rfl
def laws_FnMargins.T22 : Bool × List (List Nat × List Nat) := (true, [([], []), ([0], [0]), ([1], [1]), ([2], [2]), ([3, 2, 2], [2, 3]), ([4, 2], [2, 4]), ([2, 5], [2, 5]), ([6, 4], [6]), ([7], [7]), ([8, 7, 7], [7, 8]), ([7], [7]), ([7], [7]), ([7], [7]), ([10, 11, 12, 9, 7], [7, 10, 11, 12]), ([9, 13, 7], [7, 9, 13]), ([7], [7]), ([14, 15, 7], [7, 14, 15]), ([7, 16], [7, 16]), ([17, 13, 0, 1, 2, 3, 4, 5, 6, 7, 8, 9, 10, 11, 12, 13, 14, 15, 16, 17], [17])])
def laws_FnMargins.B22 : List Nat := [0, 1, 3, 7, 15, 31, 63, 127, 255, 511, 255, 255, 255, 8191, 16383, 255, 65535, 131071, 262143]
theorem laws_FnMargins.tab22 : rtab .any (opsOf Try.f5 22) = laws_FnMargins.T22 := by kernel_rfl
theorem laws_FnMargins.bits22 : waitsOk laws_FnMargins.T22.2 laws_FnMargins.B22 = true := by kernel_rfl
theorem laws_FnMargins.calls (k : Nat) (A0 : Option Addr) (c0 : Nat) (l0 : List Int) (r : Bool) (w : World) (hr0 : Kd.C (Kd.int .u8) w A0 l0.length l0) (hc0 : l0.length ≤ c0) (h : laws_FnMargins.f k l0 = some r) :
    Calls Try.prog 5 #[.slice A0 l0.length c0] w fun e w' => e = .returned (.bool r) ∧ Below w.heap.size w w' := by
 have hu31 := Try.underlying31
 have HR0 := am hr0
 have HC0 := am hc0
 clear hr0 hc0
 have HB := am (Below.refl w.heap.size w)
 have H : ((laws_big.f l0).bind fun t656 => (if t656 = true then (some true) else ((spec_DrawMayUse.f k l0).bind fun bt657 => ((impl_MayUse.f k bt657.1 bt657.2.1 bt657.2.2.1 bt657.2.2.2.1 bt657.2.2.2.2.1 bt657.2.2.2.2.2.1 bt657.2.2.2.2.2.2).bind fun t667 => ((spec_MayUse.f k bt657.1 bt657.2.1 bt657.2.2.1 bt657.2.2.2.1 bt657.2.2.2.2.1 bt657.2.2.2.2.2.1 bt657.2.2.2.2.2.2).bind fun t668 => (if (t667 != t668) = true then (some false) else ((impl_MayUse.f k bt657.1 bt657.2.1 bt657.2.2.1 bt657.2.2.2.1 bt657.2.2.2.2.1 bt657.2.2.2.2.2.1 bt657.2.2.2.2.2.2).bind fun t669 => (if t669 = true then (laws_FnMargins.l0 k l0 bt657.2.2.2.2.1 bt657.2.2.2.2.2.1 bt657.2.2.2.2.2.2 (wrap64 (bt657.2.2.2.2.2.2 - bt657.2.2.1)) bt657.1 bt657.2.1 bt657.2.2.1 bt657.2.2.2.1) else (laws_FnMargins.j1 k l0))))))))) = some r := h
 clear h
 obtain ⟨t656, A2, H⟩ := bnd H
 obtain rfl | rfl := tt t656
 ·replace H := ip H
  obtain rfl := Option.some.inj H
  go_enter Try.func5, Try.ntmps5
  go_wp2_with (first | ((with_reducible refine gc 12 rfl ?_); refine gL (some 15) Try.func12 #[.slice A0 l0.length c0] ?_; (with_reducible refine (laws_big.calls _ _ l0 true _ ?side1 ?side2 A2.out).mono ?_); (case side1 => repeat (first | exact HR0.out | (with_reducible refine Kd.C_alloc ?_ _) | (with_reducible refine Kd.C_drewN ?_ _) | (with_reducible refine Kd.C_drew ?_))); (case side2 => exact HC0.out); rintro e w' ⟨rfl, ⟨nd, rfl⟩⟩; refine ⟨_, rfl, ?_⟩))
  go_ret
  exact ⟨se, sb⟩
 ·replace H := im H
  obtain ⟨⟨t657, t658, t659, t660, t663, t664, t665⟩, A4, H⟩ := bnd H
  replace H : ((impl_MayUse.f k t657 t658 t659 t660 t663 t664 t665).bind fun t667 => ((spec_MayUse.f k t657 t658 t659 t660 t663 t664 t665).bind fun t668 => (if (t667 != t668) = true then (some false) else ((impl_MayUse.f k t657 t658 t659 t660 t663 t664 t665).bind fun t669 => (if t669 = true then (laws_FnMargins.l0 k l0 t663 t664 t665 (wrap64 (t665 - t659)) t657 t658 t659 t660) else (laws_FnMargins.j1 k l0)))))) = some r := H
  obtain ⟨t667, A5, H⟩ := bnd H
  obtain ⟨t668, A6, H⟩ := bnd H
  obtain ⟨c7, H⟩ | ⟨c7, H⟩ := ie_ H
  ·have c7b0 : (t667 != t668) = true := c7
   (try (have c7b1 : decide (t667 = t668) = false := by simpa using c7))
   (try (have c7b2 : (t667 == t668) = false := by simpa using c7))
   (try (have c7b3 : ¬ (t667 = t668) := by simpa using c7))
   clear c7
   obtain rfl := Option.some.inj H
   go_enter Try.func5, Try.ntmps5
   try go_wp2_with (first | ((with_reducible refine gc 12 rfl ?_); refine gL (some 15) Try.func12 #[.slice A0 l0.length c0] ?_; (with_reducible refine (laws_big.calls _ _ l0 false _ ?side1 ?side2 A2.out).mono ?_); (case side1 => repeat (first | exact HR0.out | (with_reducible refine Kd.C_alloc ?_ _) | (with_reducible refine Kd.C_drewN ?_ _) | (with_reducible refine Kd.C_drew ?_))); (case side2 => exact HC0.out); rintro e w' ⟨rfl, ⟨nd, rfl⟩⟩; refine ⟨_, rfl, ?_⟩) | ((with_reducible refine gc 29 rfl ?_); refine gL (some 18) Try.func29 #[.slice A0 l0.length c0] ?_; (with_reducible refine (spec_DrawMayUse.calls k _ _ l0 t657 t658 t659 t660 t663 t664 t665 _ ?side1 ?side2 A4.out).mono ?_); (case side1 => repeat (first | exact HR0.out | (with_reducible refine Kd.C_alloc ?_ _) | (with_reducible refine Kd.C_drewN ?_ _) | (with_reducible refine Kd.C_drew ?_))); (case side2 => exact HC0.out); rintro e w8 ⟨v661, rfl, ho0, hb⟩; refine ⟨_, rfl, ?_⟩; have HO662 := am (Kd.S_lower ho0 (below_size (sb))); replace HB := bs hb; (try clear hb); (try clear hb2); (try clear hk); (try clear hi); (try clear ho0)) | ((with_reducible refine gd 3 rfl ?_); refine bx 3 #[.int .i64 0, .int .i64 0, .int .i64 0, .slice none 0 0] 31 ?_; intro gb666 hg w9 hbox hb; replace HO662 := am (Kd.S_below (ss HO662) hb); have GW666 := bz w hg; have GE666 := bz w hg; replace HB := bs hb; have BK666 := am hbox; clear hb hbox hg; obtain ⟨hcz10_0, hcz10_1, hcz10_2, hcz10_3, hfz10_0, hfz10_1, hfz10_2, hfz10_3⟩ := cc4 BK666; obtain ⟨Ao11, co11, eo11⟩ := Kd.S_slice HO662.out; subst eo11))
   have n0_ : Aside0 (Kd.S k105 105 ((((w9.setCell ⟨gb666, 0, none⟩ (.int .i64 t657)).setCell ⟨gb666, 1, none⟩ (.int .i64 t658)).setCell ⟨gb666, 2, none⟩ (.int .i64 t659)).setCell ⟨gb666, 3, none⟩ (.slice Ao11 t660.length co11)) w.heap.size (fun _ => True) (.slice Ao11 t660.length co11) t660) := ⟨by (with_reducible repeat (first | apply Kd.S_alloc | apply Kd.S_drewN | apply Kd.S_drew)); exact Kd.S_mono (Kd.S_far (p := ⟨gb666, 3, none⟩) (Kd.S_far (p := ⟨gb666, 2, none⟩) (Kd.S_far (p := ⟨gb666, 1, none⟩) (Kd.S_far (p := ⟨gb666, 0, none⟩) (Kd.S_types HO662.out BK666.out (by decide)) (fun _ hk => hk.2) (.int .i64 t657)) (fun _ hk => hk.2) (.int .i64 t658)) (fun _ hk => hk.2) (.int .i64 t659)) (fun _ hk => hk.2) (.slice Ao11 t660.length co11)) (fun _ hk => trivial)⟩
   have n1_ : Aside0 (((((w9.setCell ⟨gb666, 0, none⟩ (.int .i64 t657)).setCell ⟨gb666, 1, none⟩ (.int .i64 t658)).setCell ⟨gb666, 2, none⟩ (.int .i64 t659)).setCell ⟨gb666, 3, none⟩ (.slice Ao11 t660.length co11)).heap[gb666]? = some (.cells #[.int .i64 t657, .int .i64 t658, .int .i64 t659, .slice Ao11 t660.length co11] 31 (0, 0))) := ⟨sp BK666⟩
   have n2_ : Aside0 (Below w.heap.size w ((((w9.setCell ⟨gb666, 0, none⟩ (.int .i64 t657)).setCell ⟨gb666, 1, none⟩ (.int .i64 t658)).setCell ⟨gb666, 2, none⟩ (.int .i64 t659)).setCell ⟨gb666, 3, none⟩ (.slice Ao11 t660.length co11))) := ⟨sbw⟩
   (try clear HO662)
   (try clear BK666)
   (try clear HB)
   generalize ((((w9.setCell ⟨gb666, 0, none⟩ (.int .i64 t657)).setCell ⟨gb666, 1, none⟩ (.int .i64 t658)).setCell ⟨gb666, 2, none⟩ (.int .i64 t659)).setCell ⟨gb666, 3, none⟩ (.slice Ao11 t660.length co11)) = w12 at n0_ n1_ n2_ ⊢
   have HO662 := n0_
   have BK666 := n1_
   have HB := n2_
   clear n0_ n1_ n2_
   replace HO662 := am (Kd.S_drew HO662.out)
   replace BK666 := am (blk_drew BK666.out)
   replace HB := am (below_drew1 HB.out)
   refine start_ (n := 11) (S := fun w' => w'.cell? ⟨gb666, 0, none⟩ = some (.int .i64 t657) ∧ w'.cell? ⟨gb666, 1, none⟩ = some (.int .i64 t658) ∧ w'.cell? ⟨gb666, 2, none⟩ = some (.int .i64 t659) ∧ w'.cell? ⟨gb666, 3, none⟩ = some (.slice Ao11 t660.length co11)) (ds := []) #[false, false, false, false, false, false, false, false, false, false, false] (by kernel_rfl) rfl rfl ⟨bc0 BK666, bc1 BK666, bc2 BK666, bc3 BK666⟩ (fun hHeld => ?_); refine with_tabW laws_FnMargins.tab4 laws_FnMargins.bits4 (fun HT_ HW_ => ?_)
   generalize w12.drew = w13 at HO662 BK666 HB hHeld ⊢
   refine put 1 24 (bt 11 2) HT_ ?_
   refine put 2 25 (bt 11 6) HT_ ?_
   refine put 3 26 (bt 11 14) HT_ ?_
   refine put 6 29 (bt 11 78) HT_ ?_
   refine put 7 30 (bt 11 206) HT_ ?_
   refine put 8 31 (bt 11 462) HT_ ?_
   refine tat4 0 23 (bt 11 463) HT_ HW_ hHeld ?_
   refine tat4 5 28 (bt 11 495) HT_ HW_ hHeld ?_
   refine one_ (i := 4) (N := some 27) (bt 11 511) rfl rfl (one_of HT_.out (by kernel_rfl)) (by decide) (fun K hK => ?_)
   refine goes_ Try.func30 (by kernel_rfl) rfl #[.agg #[.int .i64 t657, .int .i64 t658, .int .i64 t659, .slice Ao11 t660.length co11], .int .i64 t663, .int .i64 t664, .int .i64 t665] (by rfl) rfl rfl sl ?_
   with_reducible refine (impl_MayUse.calls k t657 t658 t659 _ _ t660 t663 t664 t665 t667 _ ?side1 ?side2 A5.out).mono ?_
   (case side1 => repeat (first | exact (Kd.S_reads' HO662.out).2.2 | (with_reducible refine Kd.C_alloc ?_ _) | (with_reducible refine Kd.C_drewN ?_ _) | (with_reducible refine Kd.C_drew ?_)))
   (case side2 => exact (Kd.S_reads' HO662.out).2.1)
   rintro e w14 ⟨rfl, hb⟩
   refine ⟨_, rfl, ?_⟩
   replace HO662 := am (Kd.S_below (ss HO662) hb)
   replace BK666 := bb BK666 hb
   replace HB := bsw hb
   (try clear hb)
   (try clear hb2)
   (try clear hk)
   (try clear hi)
   refine hK.out _ _ ⟨bc0 BK666, bc1 BK666, bc2 BK666, bc3 BK666⟩ (fun hHeld => ?_)
   clear hK K
   refine nm 27 ?_
   refine one_ (i := 9) (N := some 32) (bt 11 1023) rfl rfl (one_of HT_.out (by kernel_rfl)) (by decide) (fun K hK => ?_)
   refine goes_ Try.func31 (by kernel_rfl) rfl #[.agg #[.int .i64 t657, .int .i64 t658, .int .i64 t659, .slice Ao11 t660.length co11], .int .i64 t663, .int .i64 t664, .int .i64 t665] (by rfl) rfl rfl sl ?_
   with_reducible refine (spec_MayUse.calls k t657 t658 t659 _ _ t660 t663 t664 t665 t668 _ ?side1 ?side2 A6.out).mono ?_
   (case side1 => repeat (first | exact (Kd.S_reads' HO662.out).2.2 | (with_reducible refine Kd.C_alloc ?_ _) | (with_reducible refine Kd.C_drewN ?_ _) | (with_reducible refine Kd.C_drew ?_)))
   (case side2 => exact (Kd.S_reads' HO662.out).2.1)
   rintro e w15 ⟨rfl, hb⟩
   refine ⟨_, rfl, ?_⟩
   replace HO662 := am (Kd.S_below (ss HO662) hb)
   replace BK666 := bb BK666 hb
   replace HB := bsw hb
   (try clear hb)
   (try clear hb2)
   (try clear hk)
   (try clear hi)
   refine hK.out _ _ ⟨bc0 BK666, bc1 BK666, bc2 BK666, bc3 BK666⟩ (fun hHeld => ?_)
   clear hK K
   refine nm 32 ?_
   refine put 10 33 (bt 11 2047) HT_ ?_
   refine done_ (done_of HT_.out (by kernel_rfl)) ?_
   try go_wp2
   go_ret
   exact ⟨se, sbw⟩
  ·have c7b0 : (t667 != t668) = false := by simpa using c7
   (try (have c7b1 : decide (t667 = t668) = true := by simpa using c7))
   (try (have c7b2 : (t667 == t668) = true := by simpa using c7))
   clear c7
   obtain ⟨t669, A16, H⟩ := bnd H
   have HC17 := am H
   clear H
   go_enter Try.func5, Try.ntmps5
   try go_wp2_with (first | ((with_reducible refine gc 12 rfl ?_); refine gL (some 15) Try.func12 #[.slice A0 l0.length c0] ?_; (with_reducible refine (laws_big.calls _ _ l0 false _ ?side1 ?side2 A2.out).mono ?_); (case side1 => repeat (first | exact HR0.out | (with_reducible refine Kd.C_alloc ?_ _) | (with_reducible refine Kd.C_drewN ?_ _) | (with_reducible refine Kd.C_drew ?_))); (case side2 => exact HC0.out); rintro e w' ⟨rfl, ⟨nd, rfl⟩⟩; refine ⟨_, rfl, ?_⟩) | ((with_reducible refine gc 29 rfl ?_); refine gL (some 18) Try.func29 #[.slice A0 l0.length c0] ?_; (with_reducible refine (spec_DrawMayUse.calls k _ _ l0 t657 t658 t659 t660 t663 t664 t665 _ ?side1 ?side2 A4.out).mono ?_); (case side1 => repeat (first | exact HR0.out | (with_reducible refine Kd.C_alloc ?_ _) | (with_reducible refine Kd.C_drewN ?_ _) | (with_reducible refine Kd.C_drew ?_))); (case side2 => exact HC0.out); rintro e w18 ⟨v661, rfl, ho0, hb⟩; refine ⟨_, rfl, ?_⟩; have HO662 := am (Kd.S_lower ho0 (below_size (sb))); replace HB := bs hb; (try clear hb); (try clear hb2); (try clear hk); (try clear hi); (try clear ho0)) | ((with_reducible refine gd 3 rfl ?_); refine bx 3 #[.int .i64 0, .int .i64 0, .int .i64 0, .slice none 0 0] 31 ?_; intro gb666 hg w19 hbox hb; replace HO662 := am (Kd.S_below (ss HO662) hb); have GW666 := bz w hg; have GE666 := bz w hg; replace HB := bs hb; have BK666 := am hbox; clear hb hbox hg; obtain ⟨hcz20_0, hcz20_1, hcz20_2, hcz20_3, hfz20_0, hfz20_1, hfz20_2, hfz20_3⟩ := cc4 BK666; obtain ⟨Ao21, co21, eo21⟩ := Kd.S_slice HO662.out; subst eo21))
   have n0_ : Aside0 (Kd.S k105 105 ((((w19.setCell ⟨gb666, 0, none⟩ (.int .i64 t657)).setCell ⟨gb666, 1, none⟩ (.int .i64 t658)).setCell ⟨gb666, 2, none⟩ (.int .i64 t659)).setCell ⟨gb666, 3, none⟩ (.slice Ao21 t660.length co21)) w.heap.size (fun _ => True) (.slice Ao21 t660.length co21) t660) := ⟨by (with_reducible repeat (first | apply Kd.S_alloc | apply Kd.S_drewN | apply Kd.S_drew)); exact Kd.S_mono (Kd.S_far (p := ⟨gb666, 3, none⟩) (Kd.S_far (p := ⟨gb666, 2, none⟩) (Kd.S_far (p := ⟨gb666, 1, none⟩) (Kd.S_far (p := ⟨gb666, 0, none⟩) (Kd.S_types HO662.out BK666.out (by decide)) (fun _ hk => hk.2) (.int .i64 t657)) (fun _ hk => hk.2) (.int .i64 t658)) (fun _ hk => hk.2) (.int .i64 t659)) (fun _ hk => hk.2) (.slice Ao21 t660.length co21)) (fun _ hk => trivial)⟩
   have n1_ : Aside0 (((((w19.setCell ⟨gb666, 0, none⟩ (.int .i64 t657)).setCell ⟨gb666, 1, none⟩ (.int .i64 t658)).setCell ⟨gb666, 2, none⟩ (.int .i64 t659)).setCell ⟨gb666, 3, none⟩ (.slice Ao21 t660.length co21)).heap[gb666]? = some (.cells #[.int .i64 t657, .int .i64 t658, .int .i64 t659, .slice Ao21 t660.length co21] 31 (0, 0))) := ⟨sp BK666⟩
   have n2_ : Aside0 (Below w.heap.size w ((((w19.setCell ⟨gb666, 0, none⟩ (.int .i64 t657)).setCell ⟨gb666, 1, none⟩ (.int .i64 t658)).setCell ⟨gb666, 2, none⟩ (.int .i64 t659)).setCell ⟨gb666, 3, none⟩ (.slice Ao21 t660.length co21))) := ⟨sbw⟩
   (try clear HO662)
   (try clear BK666)
   (try clear HB)
   generalize ((((w19.setCell ⟨gb666, 0, none⟩ (.int .i64 t657)).setCell ⟨gb666, 1, none⟩ (.int .i64 t658)).setCell ⟨gb666, 2, none⟩ (.int .i64 t659)).setCell ⟨gb666, 3, none⟩ (.slice Ao21 t660.length co21)) = w22 at n0_ n1_ n2_ ⊢
   have HO662 := n0_
   have BK666 := n1_
   have HB := n2_
   clear n0_ n1_ n2_
   replace HO662 := am (Kd.S_drew HO662.out)
   replace BK666 := am (blk_drew BK666.out)
   replace HB := am (below_drew1 HB.out)
   refine start_ (n := 11) (S := fun w' => w'.cell? ⟨gb666, 0, none⟩ = some (.int .i64 t657) ∧ w'.cell? ⟨gb666, 1, none⟩ = some (.int .i64 t658) ∧ w'.cell? ⟨gb666, 2, none⟩ = some (.int .i64 t659) ∧ w'.cell? ⟨gb666, 3, none⟩ = some (.slice Ao21 t660.length co21)) (ds := []) #[false, false, false, false, false, false, false, false, false, false, false] (by kernel_rfl) rfl rfl ⟨bc0 BK666, bc1 BK666, bc2 BK666, bc3 BK666⟩ (fun hHeld => ?_); refine with_tabW laws_FnMargins.tab4 laws_FnMargins.bits4 (fun HT_ HW_ => ?_)
   generalize w22.drew = w23 at HO662 BK666 HB hHeld ⊢
   refine put 1 24 (bt 11 2) HT_ ?_
   refine put 2 25 (bt 11 6) HT_ ?_
   refine put 3 26 (bt 11 14) HT_ ?_
   refine put 6 29 (bt 11 78) HT_ ?_
   refine put 7 30 (bt 11 206) HT_ ?_
   refine put 8 31 (bt 11 462) HT_ ?_
   refine tat4 0 23 (bt 11 463) HT_ HW_ hHeld ?_
   refine tat4 5 28 (bt 11 495) HT_ HW_ hHeld ?_
   refine one_ (i := 4) (N := some 27) (bt 11 511) rfl rfl (one_of HT_.out (by kernel_rfl)) (by decide) (fun K hK => ?_)
   refine goes_ Try.func30 (by kernel_rfl) rfl #[.agg #[.int .i64 t657, .int .i64 t658, .int .i64 t659, .slice Ao21 t660.length co21], .int .i64 t663, .int .i64 t664, .int .i64 t665] (by rfl) rfl rfl sl ?_
   with_reducible refine (impl_MayUse.calls k t657 t658 t659 _ _ t660 t663 t664 t665 t667 _ ?side1 ?side2 A5.out).mono ?_
   (case side1 => repeat (first | exact (Kd.S_reads' HO662.out).2.2 | (with_reducible refine Kd.C_alloc ?_ _) | (with_reducible refine Kd.C_drewN ?_ _) | (with_reducible refine Kd.C_drew ?_)))
   (case side2 => exact (Kd.S_reads' HO662.out).2.1)
   rintro e w24 ⟨rfl, hb⟩
   refine ⟨_, rfl, ?_⟩
   replace HO662 := am (Kd.S_below (ss HO662) hb)
   replace BK666 := bb BK666 hb
   replace HB := bsw hb
   (try clear hb)
   (try clear hb2)
   (try clear hk)
   (try clear hi)
   refine hK.out _ _ ⟨bc0 BK666, bc1 BK666, bc2 BK666, bc3 BK666⟩ (fun hHeld => ?_)
   clear hK K
   refine nm 27 ?_
   refine one_ (i := 9) (N := some 32) (bt 11 1023) rfl rfl (one_of HT_.out (by kernel_rfl)) (by decide) (fun K hK => ?_)
   refine goes_ Try.func31 (by kernel_rfl) rfl #[.agg #[.int .i64 t657, .int .i64 t658, .int .i64 t659, .slice Ao21 t660.length co21], .int .i64 t663, .int .i64 t664, .int .i64 t665] (by rfl) rfl rfl sl ?_
   with_reducible refine (spec_MayUse.calls k t657 t658 t659 _ _ t660 t663 t664 t665 t668 _ ?side1 ?side2 A6.out).mono ?_
   (case side1 => repeat (first | exact (Kd.S_reads' HO662.out).2.2 | (with_reducible refine Kd.C_alloc ?_ _) | (with_reducible refine Kd.C_drewN ?_ _) | (with_reducible refine Kd.C_drew ?_)))
   (case side2 => exact (Kd.S_reads' HO662.out).2.1)
   rintro e w25 ⟨rfl, hb⟩
   refine ⟨_, rfl, ?_⟩
   replace HO662 := am (Kd.S_below (ss HO662) hb)
   replace BK666 := bb BK666 hb
   replace HB := bsw hb
   (try clear hb)
   (try clear hb2)
   (try clear hk)
   (try clear hi)
   refine hK.out _ _ ⟨bc0 BK666, bc1 BK666, bc2 BK666, bc3 BK666⟩ (fun hHeld => ?_)
   clear hK K
   refine nm 32 ?_
   refine put 10 33 (bt 11 2047) HT_ ?_
   refine done_ (done_of HT_.out (by kernel_rfl)) ?_
   obtain ⟨hcz26_0, hcz26_1, hcz26_2, hcz26_3, hfz26_0, hfz26_1, hfz26_2, hfz26_3⟩ := cc4 BK666
   go_upto_if 38 with (first | ((with_reducible refine gc 30 rfl ?_); refine goesL_ (some 38) rfl rfl Try.func30 (by kernel_rfl) rfl #[.agg #[.int .i64 t657, .int .i64 t658, .int .i64 t659, .slice Ao21 t660.length co21], .int .i64 t663, .int .i64 t664, .int .i64 t665] rfl sl ?_; (with_reducible refine (impl_MayUse.calls k t657 t658 t659 _ _ t660 t663 t664 t665 t669 _ ?side1 ?side2 A16.out).mono ?_); (case side1 => repeat (first | exact (Kd.S_reads' HO662.out).2.2 | (with_reducible refine Kd.C_alloc ?_ _) | (with_reducible refine Kd.C_drewN ?_ _) | (with_reducible refine Kd.C_drew ?_))); (case side2 => exact (Kd.S_reads' HO662.out).2.1); rintro e w27 ⟨rfl, hb⟩; refine ⟨_, rfl, ?_⟩; have n0_ := am (Kd.S_below (ss HO662) hb); have n1_ := bb BK666 hb; have n2_ := am (below_step (sbw) hb); clear HO662; clear BK666; clear HB; have HO662 := n0_; have BK666 := n1_; have HB := n2_; clear n0_ n1_ n2_; (try clear hb); (try clear hb2); (try clear hk); (try clear hi)))
   (try simp only [Act.put, List.setIfInBounds_toArray, List.set_cons_zero, List.set_cons_succ])
   go_cut [] (fun wc => ∃ (kq : Nat), Aside0 (laws_FnMargins.j1 kq l0 = some r) ∧ Aside0 (kq ≤ k) ∧ Aside0 (Kd.S k105 105 wc w.heap.size (fun _ => True) (.slice Ao21 t660.length co21) t660) ∧ Aside0 (wc.heap[gb666]? = some (.cells #[.int .i64 t657, .int .i64 t658, .int .i64 t659, (.slice Ao21 t660.length co21)] 31 (0, 0))) ∧ Aside0 (Below w.heap.size w wc))
   case first =>
    have H := HC17.out
    clear HC17
    obtain rfl | rfl := tt t669
    ·replace H := ip H
     have H' := am H
     clear H
     obtain ⟨hcz29_0, hcz29_1, hcz29_2, hcz29_3, hfz29_0, hfz29_1, hfz29_2, hfz29_3⟩ := cc4 BK666
     go_wp2
     go_loopg [7] k (fun kq v7 w' => ∃ (x7_1 : Int), v7 = .int .i64 x7_1 ∧ Aside0 (laws_FnMargins.l0 kq l0 t663 t664 t665 x7_1 t657 t658 t659 t660 = some r) ∧ Aside0 (kq ≤ k) ∧ Aside0 (Kd.S k105 105 w' w.heap.size (fun _ => True) (.slice Ao21 t660.length co21) t660) ∧ Aside0 (w'.heap[gb666]? = some (.cells #[.int .i64 t657, .int .i64 t658, .int .i64 t659, (.slice Ao21 t660.length co21)] 31 (0, 0))) ∧ Aside0 (Below w.heap.size w w'))
     case atStart => exact ⟨(wrap64 (t665 - t659)), sc, H', kk0, ⟨ss HO662⟩, ⟨sk BK666⟩, ⟨sbw⟩⟩
     case round =>
      clear H'
      try clear c7
      try clear c7b0
      try clear c7b1
      try clear c7b2
      try clear hcz26_0
      try clear hcz26_1
      try clear hcz26_2
      try clear hcz26_3
      try clear hcz29_0
      try clear hcz29_1
      try clear hcz29_2
      try clear hcz29_3
      try clear hfz26_0
      try clear hfz26_1
      try clear hfz26_2
      try clear hfz26_3
      try clear hfz29_0
      try clear hfz29_1
      try clear hfz29_2
      try clear hfz29_3
      obtain ⟨x7_1, rfl, HA, HK1, HO_667003, BK666, HB⟩ := hrel
      cases gk with
      | zero => exact absurd HA.out (by simp [laws_FnMargins.l0])
      | succ k1 =>
       have H := HA.out
       clear HA
       simp only [laws_FnMargins.l0] at H
       obtain ⟨c30, H⟩ | ⟨c30, H⟩ := ie_ H
       ·have c30b0 := decide_eq_true c30
        clear c30
        (first | rw [c30b0] | (simp only [i64_w, i32_w]; rw [c30b0]) | rw [c30b1] | skip)
        obtain ⟨t670, A31, H⟩ := bnd H
        obtain rfl | rfl := tt t670
        ·replace H := ip H
         have H' := am H
         clear H
         obtain ⟨hcz33_0, hcz33_1, hcz33_2, hcz33_3, hfz33_0, hfz33_1, hfz33_2, hfz33_3⟩ := cc4 BK666
         go_wp2_with (first | ((with_reducible refine gc 32 rfl ?_); refine gL (some 55) Try.func32 #[.agg #[.int .i64 t657, .int .i64 t658, .int .i64 t659, .slice Ao21 t660.length co21], .int .i64 t663, .int .i64 t664, .int .i64 x7_1] ?_; (with_reducible refine (impl_IsLinked.calls t657 t658 t659 _ _ t660 t663 t664 x7_1 true _ ?side1 ?side2 A31.out).mono ?_); (case side1 => repeat (first | exact (Kd.S_reads' HO_667003.out).2.2 | (with_reducible refine Kd.C_alloc ?_ _) | (with_reducible refine Kd.C_drewN ?_ _) | (with_reducible refine Kd.C_drew ?_))); (case side2 => exact (Kd.S_reads' HO_667003.out).2.1); rintro e w34 ⟨rfl, hb⟩; refine ⟨_, rfl, ?_⟩; replace HO_667003 := am (Kd.S_below (ss HO_667003) hb); replace BK666 := bb BK666 hb; replace HB := bsw hb; (try clear hb); (try clear hb2); (try clear hk); (try clear hi)))
         go_roundg k1
         case measure => have := HK1.out; omega
         case rel => exact ⟨(wrap64 (x7_1 + 1)), sc, H', kk1, ⟨ss HO_667003⟩, ⟨sk BK666⟩, ⟨sbw⟩⟩
        ·replace H := im H
         obtain rfl := Option.some.inj H
         obtain ⟨hcz35_0, hcz35_1, hcz35_2, hcz35_3, hfz35_0, hfz35_1, hfz35_2, hfz35_3⟩ := cc4 BK666
         go_wp2_with (first | ((with_reducible refine gc 32 rfl ?_); refine gL (some 55) Try.func32 #[.agg #[.int .i64 t657, .int .i64 t658, .int .i64 t659, .slice Ao21 t660.length co21], .int .i64 t663, .int .i64 t664, .int .i64 x7_1] ?_; (with_reducible refine (impl_IsLinked.calls t657 t658 t659 _ _ t660 t663 t664 x7_1 false _ ?side1 ?side2 A31.out).mono ?_); (case side1 => repeat (first | exact (Kd.S_reads' HO_667003.out).2.2 | (with_reducible refine Kd.C_alloc ?_ _) | (with_reducible refine Kd.C_drewN ?_ _) | (with_reducible refine Kd.C_drew ?_))); (case side2 => exact (Kd.S_reads' HO_667003.out).2.1); rintro e w36 ⟨rfl, hb⟩; refine ⟨_, rfl, ?_⟩; replace HO_667003 := am (Kd.S_below (ss HO_667003) hb); replace BK666 := bb BK666 hb; replace HB := bsw hb; (try clear hb); (try clear hb2); (try clear hk); (try clear hi)))
         go_ret
         exact ⟨se, sbw⟩
       ·have c30b0 := decide_eq_false c30
        clear c30
        (first | rw [c30b0] | (simp only [i64_w, i32_w]; rw [c30b0]) | rw [c30b1] | skip)
        have H' := am H
        clear H
        obtain ⟨hcz37_0, hcz37_1, hcz37_2, hcz37_3, hfz37_0, hfz37_1, hfz37_2, hfz37_3⟩ := cc4 BK666
        go_wp2
        go_meet
        case rel => exact ⟨_, H', ⟨by have := HK1.out; first | omega | exact Nat.le_refl _⟩, ⟨ss HO_667003⟩, ⟨sk BK666⟩, ⟨sbw⟩⟩
    ·replace H := im H
     have H' := am H
     clear H
     go_wp2
     go_meet
     case rel => exact ⟨_, H', ⟨by first | omega | exact Nat.le_refl _⟩, ⟨ss HO662⟩, ⟨sk BK666⟩, ⟨sbw⟩⟩
   case rest =>
    clear HC17
    try clear c7
    try clear c7b0
    try clear c7b1
    try clear c7b2
    try clear c30
    try clear c30b0
    try clear hcz26_0
    try clear hcz26_1
    try clear hcz26_2
    try clear hcz26_3
    try clear hcz29_0
    try clear hcz29_1
    try clear hcz29_2
    try clear hcz29_3
    try clear hcz33_0
    try clear hcz33_1
    try clear hcz33_2
    try clear hcz33_3
    try clear hcz35_0
    try clear hcz35_1
    try clear hcz35_2
    try clear hcz35_3
    try clear hcz37_0
    try clear hcz37_1
    try clear hcz37_2
    try clear hcz37_3
    try clear hfz26_0
    try clear hfz26_1
    try clear hfz26_2
    try clear hfz26_3
    try clear hfz29_0
    try clear hfz29_1
    try clear hfz29_2
    try clear hfz29_3
    try clear hfz33_0
    try clear hfz33_1
    try clear hfz33_2
    try clear hfz33_3
    try clear hfz35_0
    try clear hfz35_1
    try clear hfz35_2
    try clear hfz35_3
    try clear hfz37_0
    try clear hfz37_1
    try clear hfz37_2
    try clear hfz37_3
    obtain ⟨kq, HA, HJ16, HO_667003, BK666, HB⟩ := hcut
    cases kq with
    | zero => exact absurd HA.out (by simp [laws_FnMargins.j1])
    | succ kj16 =>
     have H := HA.out
     clear HA
     simp only [laws_FnMargins.j1] at H
     obtain ⟨⟨t671, t672, t673, t674, t677, t678⟩, A38, H⟩ := bnd H
     replace H : ((impl_UseSpans.f kj16 t671 t672 t673 t674 t677 t678).bind fun t680 => (laws_FnMargins.l1 kj16 t677 t678 t680 0 0 t671 t672 t673 t674)) = some r := H
     obtain ⟨t680, A39, H⟩ := bnd H
     have H' := am H
     clear H
     go_wp2_with (first | ((with_reducible refine gc 33 rfl ?_); refine gL (some 59) Try.func33 #[.slice A0 l0.length c0] ?_; (with_reducible refine (spec_DrawUseSpans.calls kj16 _ _ l0 t671 t672 t673 t674 t677 t678 _ ?side1 ?side2 A38.out).mono ?_); (case side1 => exact cb HR0); (case side2 => exact HC0.out); rintro e w40 ⟨v675, rfl, ho0, hb⟩; refine ⟨_, rfl, ?_⟩; have HO676 := am (Kd.S_lower (Kd.S_new' ho0 (Kd.S_lt (ss HO_667003))) (below_size (sbw))); replace HO_667003 := am (Kd.S_elder' (ss HO_667003) (Kd.S_base ho0) hb); replace BK666 := bb BK666 hb; replace HB := bsw hb; (try clear hb); (try clear hb2); (try clear hk); (try clear hi); (try clear ho0)) | ((with_reducible refine gd 8 rfl ?_); refine bx 8 #[.int .i64 0, .int .i64 0, .int .i64 0, .slice none 0 0] 31 ?_; intro gb679 hg w41 hbox hb; replace HO_667003 := am (Kd.S_below (ss HO_667003) hb); replace HO676 := am (Kd.S_below (ss HO676) hb); have GW679 := bzw w hg; have GE679 := bzw w hg; replace HB := bsw hb; have BK679 := am hbox; have NB666_679 := nl BK666 hg; have NB679_666 := ng BK666 hg; replace BK666 := bb BK666 hb; clear hb hbox hg; have hnb42 := NB679_666.out; have hnc42 := NB666_679.out; obtain ⟨hcz43_0, hcz43_1, hcz43_2, hcz43_3, hfz43_0, hfz43_1, hfz43_2, hfz43_3⟩ := cc4 BK679; obtain ⟨Ao44, co44, eo44⟩ := Kd.S_slice HO676.out; subst eo44) | ((with_reducible refine gc 34 rfl ?_); refine gL (some 66) Try.func34 #[.agg #[.int .i64 t671, .int .i64 t672, .int .i64 t673, .slice Ao44 t674.length co44], .int .i64 t677, .int .i64 t678] ?_; (with_reducible refine (impl_UseSpans.calls kj16 t671 t672 t673 _ _ t674 t677 t678 t680 _ ?side1 ?side2 A39.out).mono ?_); (case side1 => refine (Kd.S_reads' (e := 105) (base := w.heap.size) (ok := fun k_ => (True ∧ some k_ ≠ (.slice Ao21 t660.length co21 : Value).ownBlock)) (n := t674.length) (c := co44) ?_).2.2; exact (by (with_reducible repeat (first | apply Kd.S_alloc | apply Kd.S_drewN | apply Kd.S_drew)); exact (Kd.S_mono (Kd.S_far (p := ⟨gb679, 3, none⟩) (Kd.S_far (p := ⟨gb679, 2, none⟩) (Kd.S_far (p := ⟨gb679, 1, none⟩) (Kd.S_far (p := ⟨gb679, 0, none⟩) (Kd.S_types HO676.out BK679.out (by decide)) (fun _ hk => hk.2) (.int .i64 t671)) (fun _ hk => hk.2) (.int .i64 t672)) (fun _ hk => hk.2) (.int .i64 t673)) (fun _ hk => hk.2) (.slice Ao44 t674.length co44)) (fun _ h_ => h_.1)))); (case side2 => exact (Kd.S_reads' HO676.out).2.1); rintro e w45 ⟨v681, rfl, ho0, hb⟩; refine ⟨_, rfl, ?_⟩; replace HO_667003 := am (Kd.S_below (by (with_reducible repeat (first | apply Kd.S_alloc | apply Kd.S_drewN | apply Kd.S_drew)); exact (Kd.S_mono (Kd.S_far (p := ⟨gb679, 3, none⟩) (Kd.S_far (p := ⟨gb679, 2, none⟩) (Kd.S_far (p := ⟨gb679, 1, none⟩) (Kd.S_far (p := ⟨gb679, 0, none⟩) (Kd.S_types HO_667003.out BK679.out (by decide)) (fun _ hk => hk.2) (.int .i64 t671)) (fun _ hk => hk.2) (.int .i64 t672)) (fun _ hk => hk.2) (.int .i64 t673)) (fun _ hk => hk.2) (.slice Ao44 t674.length co44)) (fun _ h_ => h_.1))) hb); replace HO676 := am (Kd.S_below (by (with_reducible repeat (first | apply Kd.S_alloc | apply Kd.S_drewN | apply Kd.S_drew)); exact (Kd.S_mono (Kd.S_far (p := ⟨gb679, 3, none⟩) (Kd.S_far (p := ⟨gb679, 2, none⟩) (Kd.S_far (p := ⟨gb679, 1, none⟩) (Kd.S_far (p := ⟨gb679, 0, none⟩) (Kd.S_types HO676.out BK679.out (by decide)) (fun _ hk => hk.2) (.int .i64 t671)) (fun _ hk => hk.2) (.int .i64 t672)) (fun _ hk => hk.2) (.int .i64 t673)) (fun _ hk => hk.2) (.slice Ao44 t674.length co44)) (fun _ h_ => h_.1))) hb); have HO682 := am (Kd.R_lower ho0 (below_size (sbw))); replace BK666 := am (blk_below (g := gb666) (o := .cells #[.int .i64 t657, .int .i64 t658, .int .i64 t659, .slice Ao21 t660.length co21] 31 (0, 0)) (sp BK666) hb); replace BK679 := am (blk_below (g := gb679) (o := .cells #[.int .i64 t671, .int .i64 t672, .int .i64 t673, .slice Ao44 t674.length co44] 31 (0, 0)) (sp BK679) hb); replace HB := bsw hb; (try clear hb); (try clear hb2); (try clear hk); (try clear hi); (try clear ho0)))
     go_loopg [12, 13] kj16 (fun kq v12 v13 w' => ∃ (x12_2 : Int) (x13_2 : Int), v12 = .int .i64 x12_2 ∧ v13 = .int .i64 x13_2 ∧ Aside0 (laws_FnMargins.l1 kq t677 t678 t680 x12_2 x13_2 t671 t672 t673 t674 = some r) ∧ Aside0 (kq ≤ kj16) ∧ Aside0 (Kd.R k102 102 w' w.heap.size (fun _ => True) v681 t680) ∧ Aside0 (Kd.S k105 105 w' w.heap.size (fun k_ => some k_ ≠ ((.slice Ao44 t674.length co44) : Value).ownBlock) (.slice Ao21 t660.length co21) t660) ∧ Aside0 (Kd.S k105 105 w' w.heap.size (fun k_ => some k_ ≠ ((.slice Ao21 t660.length co21) : Value).ownBlock) (.slice Ao44 t674.length co44) t674) ∧ Aside0 (w'.heap[gb666]? = some (.cells #[.int .i64 t657, .int .i64 t658, .int .i64 t659, (.slice Ao21 t660.length co21)] 31 (0, 0))) ∧ Aside0 (w'.heap[gb679]? = some (.cells #[.int .i64 t671, .int .i64 t672, .int .i64 t673, (.slice Ao44 t674.length co44)] 31 (0, 0))) ∧ Aside0 (Below w.heap.size w w'))
     case atStart => exact ⟨(0), (0), sc, sc, H', kk0, ⟨sr HO682⟩, ⟨by (with_reducible repeat (first | apply Kd.S_alloc | apply Kd.S_drewN | apply Kd.S_drew)); exact Kd.S_mono HO_667003.out (fun _ hk => hk.2)⟩, ⟨by (with_reducible repeat (first | apply Kd.S_alloc | apply Kd.S_drewN | apply Kd.S_drew)); exact Kd.S_mono HO676.out (fun _ hk => hk.2)⟩, ⟨sk BK666⟩, ⟨sk BK679⟩, ⟨sbw⟩⟩
     case round =>
      clear H'
      try clear c7
      try clear c7b0
      try clear c7b1
      try clear c7b2
      try clear c30
      try clear c30b0
      try clear hcz26_0
      try clear hcz26_1
      try clear hcz26_2
      try clear hcz26_3
      try clear hcz29_0
      try clear hcz29_1
      try clear hcz29_2
      try clear hcz29_3
      try clear hcz33_0
      try clear hcz33_1
      try clear hcz33_2
      try clear hcz33_3
      try clear hcz35_0
      try clear hcz35_1
      try clear hcz35_2
      try clear hcz35_3
      try clear hcz37_0
      try clear hcz37_1
      try clear hcz37_2
      try clear hcz37_3
      try clear hfz26_0
      try clear hfz26_1
      try clear hfz26_2
      try clear hfz26_3
      try clear hfz29_0
      try clear hfz29_1
      try clear hfz29_2
      try clear hfz29_3
      try clear hfz33_0
      try clear hfz33_1
      try clear hfz33_2
      try clear hfz33_3
      try clear hfz35_0
      try clear hfz35_1
      try clear hfz35_2
      try clear hfz35_3
      try clear hfz37_0
      try clear hfz37_1
      try clear hfz37_2
      try clear hfz37_3
      obtain ⟨x12_2, x13_2, rfl, rfl, HA, HK2, HO_11, HO_667003, HO_680003, BK666, BK679, HB⟩ := hrel
      cases gk with
      | zero => exact absurd HA.out (by simp [laws_FnMargins.l1])
      | succ k2 =>
       have H := HA.out
       clear HA
       simp only [laws_FnMargins.l1] at H
       obtain ⟨c46, H⟩ | ⟨c46, H⟩ := ie_ H
       ·have c46b0 := decide_eq_true c46
        clear c46
        obtain ⟨t686, A47, H⟩ := bnd H
        have HC48 := am H
        clear H
        have hnb49 := NB679_666.out
        have hnc49 := NB666_679.out
        obtain ⟨hcz50_0, hcz50_1, hcz50_2, hcz50_3, hfz50_0, hfz50_1, hfz50_2, hfz50_3⟩ := cc4 BK679
        go_upto_if 75 with (first | ((with_reducible refine gc 32 rfl ?_); refine goesL_ (some 75) rfl rfl Try.func32 (by kernel_rfl) rfl #[.agg #[.int .i64 t671, .int .i64 t672, .int .i64 t673, .slice Ao44 t674.length co44], .int .i64 t677, .int .i64 t678, .int .i64 x13_2] rfl sl ?_; (with_reducible refine (impl_IsLinked.calls t671 t672 t673 _ _ t674 t677 t678 x13_2 t686 _ ?side1 ?side2 A47.out).mono ?_); (case side1 => repeat (first | exact (Kd.S_reads' HO_680003.out).2.2 | (with_reducible refine Kd.C_alloc ?_ _) | (with_reducible refine Kd.C_drewN ?_ _) | (with_reducible refine Kd.C_drew ?_))); (case side2 => exact (Kd.S_reads' HO_680003.out).2.1); rintro e w51 ⟨rfl, hb⟩; refine ⟨_, rfl, ?_⟩; have n0_ := rb HO_11 hb; have n1_ := am (Kd.S_below (ss HO_667003) hb); have n2_ := am (Kd.S_below (ss HO_680003) hb); have n3_ := bb BK666 hb; have n4_ := bb BK679 hb; have n5_ := am (below_step (sbw) hb); clear HO_11; clear HO_667003; clear HO_680003; clear BK666; clear BK679; clear HB; have HO_11 := n0_; have HO_667003 := n1_; have HO_680003 := n2_; have BK666 := n3_; have BK679 := n4_; have HB := n5_; clear n0_ n1_ n2_ n3_ n4_ n5_; (try clear hb); (try clear hb2); (try clear hk); (try clear hi)))
        (try simp only [Act.put, List.setIfInBounds_toArray, List.set_cons_zero, List.set_cons_succ])
        go_cut [12] (fun v12 wc => ∃ (kq : Nat) (x12_47 : Int), v12 = .int .i64 x12_47 ∧ Aside0 (laws_FnMargins.j3 kq t677 t678 t680 x12_47 x13_2 t671 t672 t673 t674 = some r) ∧ Aside0 (kq ≤ k2) ∧ Aside0 (Kd.R k102 102 wc w.heap.size (fun _ => True) v681 t680) ∧ Aside0 (Kd.S k105 105 wc w.heap.size (fun k_ => some k_ ≠ ((.slice Ao44 t674.length co44) : Value).ownBlock) (.slice Ao21 t660.length co21) t660) ∧ Aside0 (Kd.S k105 105 wc w.heap.size (fun k_ => some k_ ≠ ((.slice Ao21 t660.length co21) : Value).ownBlock) (.slice Ao44 t674.length co44) t674) ∧ Aside0 (wc.heap[gb666]? = some (.cells #[.int .i64 t657, .int .i64 t658, .int .i64 t659, (.slice Ao21 t660.length co21)] 31 (0, 0))) ∧ Aside0 (wc.heap[gb679]? = some (.cells #[.int .i64 t671, .int .i64 t672, .int .i64 t673, (.slice Ao44 t674.length co44)] 31 (0, 0))) ∧ Aside0 (Below w.heap.size w wc))
        case first =>
         have H := HC48.out
         clear HC48
         obtain rfl | rfl := tt t686
         ·replace H := ip H
          have H' := am H
          clear H
          go_wp2
          go_meet
          case rel => exact ⟨_, (wrap64 (x12_2 + 1)), sc, H', ⟨by have := HJ16.out; have := HK2.out; first | omega | exact Nat.le_refl _⟩, ⟨sr HO_11⟩, ⟨ss HO_667003⟩, ⟨ss HO_680003⟩, ⟨sk BK666⟩, ⟨sk BK679⟩, ⟨sbw⟩⟩
         ·replace H := im H
          have H' := am H
          clear H
          go_wp2
          go_meet
          case rel => exact ⟨_, (x12_2), sc, H', ⟨by have := HJ16.out; have := HK2.out; first | omega | exact Nat.le_refl _⟩, ⟨sr HO_11⟩, ⟨ss HO_667003⟩, ⟨ss HO_680003⟩, ⟨sk BK666⟩, ⟨sk BK679⟩, ⟨sbw⟩⟩
        case rest =>
         clear HC48
         try clear c7
         try clear c7b0
         try clear c7b1
         try clear c7b2
         try clear c30
         try clear c30b0
         try clear c46
         try clear c46b0
         try clear hcz26_0
         try clear hcz26_1
         try clear hcz26_2
         try clear hcz26_3
         try clear hcz29_0
         try clear hcz29_1
         try clear hcz29_2
         try clear hcz29_3
         try clear hcz33_0
         try clear hcz33_1
         try clear hcz33_2
         try clear hcz33_3
         try clear hcz35_0
         try clear hcz35_1
         try clear hcz35_2
         try clear hcz35_3
         try clear hcz37_0
         try clear hcz37_1
         try clear hcz37_2
         try clear hcz37_3
         try clear hcz50_0
         try clear hcz50_1
         try clear hcz50_2
         try clear hcz50_3
         try clear hfz26_0
         try clear hfz26_1
         try clear hfz26_2
         try clear hfz26_3
         try clear hfz29_0
         try clear hfz29_1
         try clear hfz29_2
         try clear hfz29_3
         try clear hfz33_0
         try clear hfz33_1
         try clear hfz33_2
         try clear hfz33_3
         try clear hfz35_0
         try clear hfz35_1
         try clear hfz35_2
         try clear hfz35_3
         try clear hfz37_0
         try clear hfz37_1
         try clear hfz37_2
         try clear hfz37_3
         try clear hfz50_0
         try clear hfz50_1
         try clear hfz50_2
         try clear hfz50_3
         obtain ⟨kq, x12_47, rfl, HA, HJ47, HO_11, HO_667003, HO_680003, BK666, BK679, HB⟩ := hcut
         cases kq with
         | zero => exact absurd HA.out (by simp [laws_FnMargins.j3])
         | succ kj47 =>
          have H := HA.out
          clear HA
          simp only [laws_FnMargins.j3] at H
          obtain ⟨t687, A53, H⟩ := bnd H
          obtain rfl | rfl := tt t687
          ·replace H := ip H
           obtain ⟨t688, A55, H⟩ := bnd H
           obtain rfl | rfl := tt t688
           ·replace H := ip H
            have H' := am H
            clear H
            obtain ⟨Ao57, co57, eo57⟩ := Kd.R_slice HO_11.out
            subst eo57
            go_wp2_with (first | ((with_reducible refine gc 35 rfl ?_); refine gL (some 80) Try.func35 #[.slice Ao57 t680.length co57, .int .i64 x13_2] ?_; (with_reducible refine (impl_InSpans.calls kj47 _ _ t680 x13_2 true _ ?side1 ?side2 A53.out).mono ?_); (case side1 => exact cr HO_11); (case side2 => exact (Kd.R_reads' HO_11.out).2.1); rintro e w58 ⟨rfl, hb⟩; refine ⟨_, rfl, ?_⟩; replace HO_11 := rb HO_11 hb; replace HO_667003 := am (Kd.S_below (ss HO_667003) hb); replace HO_680003 := am (Kd.S_below (ss HO_680003) hb); replace BK666 := bb BK666 hb; replace BK679 := bb BK679 hb; replace HB := bsw hb; (try clear hb); (try clear hb2); (try clear hk); (try clear hi); have hnb59 := NB679_666.out; have hnc59 := NB666_679.out; obtain ⟨hcz60_0, hcz60_1, hcz60_2, hcz60_3, hfz60_0, hfz60_1, hfz60_2, hfz60_3⟩ := cc4 BK679) | (go_at_call 32; (with_reducible refine (impl_IsLinked.calls t671 t672 t673 _ _ t674 t677 t678 x13_2 true _ ?side1 ?side2 A55.out).mono ?_); (case side1 => repeat (first | exact (Kd.S_reads' HO_680003.out).2.2 | (with_reducible refine Kd.C_alloc ?_ _) | (with_reducible refine Kd.C_drewN ?_ _) | (with_reducible refine Kd.C_drew ?_))); (case side2 => exact (Kd.S_reads' HO_680003.out).2.1); rintro e w61 ⟨rfl, hb⟩; replace HO_11 := rb HO_11 hb; replace HO_667003 := am (Kd.S_below (ss HO_667003) hb); replace HO_680003 := am (Kd.S_below (ss HO_680003) hb); replace BK666 := bb BK666 hb; replace BK679 := bb BK679 hb; replace HB := bsw hb; (try clear hb); (try clear hb2); (try clear hk); (try clear hi)))
            go_roundg kj47
            case measure => have := HJ16.out; have := HK2.out; have := HJ47.out; omega
            case rel => exact ⟨(x12_47), (wrap64 (x13_2 + 1)), sc, sc, H', ⟨by have := HJ16.out; have := HK2.out; have := HJ47.out; omega⟩, ⟨sr HO_11⟩, ⟨ss HO_667003⟩, ⟨ss HO_680003⟩, ⟨sk BK666⟩, ⟨sk BK679⟩, ⟨sbw⟩⟩
           ·replace H := im H
            obtain rfl := Option.some.inj H
            obtain ⟨Ao62, co62, eo62⟩ := Kd.R_slice HO_11.out
            subst eo62
            go_wp2_with (first | ((with_reducible refine gc 35 rfl ?_); refine gL (some 80) Try.func35 #[.slice Ao62 t680.length co62, .int .i64 x13_2] ?_; (with_reducible refine (impl_InSpans.calls kj47 _ _ t680 x13_2 true _ ?side1 ?side2 A53.out).mono ?_); (case side1 => exact cr HO_11); (case side2 => exact (Kd.R_reads' HO_11.out).2.1); rintro e w63 ⟨rfl, hb⟩; refine ⟨_, rfl, ?_⟩; replace HO_11 := rb HO_11 hb; replace HO_667003 := am (Kd.S_below (ss HO_667003) hb); replace HO_680003 := am (Kd.S_below (ss HO_680003) hb); replace BK666 := bb BK666 hb; replace BK679 := bb BK679 hb; replace HB := bsw hb; (try clear hb); (try clear hb2); (try clear hk); (try clear hi); have hnb64 := NB679_666.out; have hnc64 := NB666_679.out; obtain ⟨hcz65_0, hcz65_1, hcz65_2, hcz65_3, hfz65_0, hfz65_1, hfz65_2, hfz65_3⟩ := cc4 BK679) | (go_at_call 32; (with_reducible refine (impl_IsLinked.calls t671 t672 t673 _ _ t674 t677 t678 x13_2 false _ ?side1 ?side2 A55.out).mono ?_); (case side1 => repeat (first | exact (Kd.S_reads' HO_680003.out).2.2 | (with_reducible refine Kd.C_alloc ?_ _) | (with_reducible refine Kd.C_drewN ?_ _) | (with_reducible refine Kd.C_drew ?_))); (case side2 => exact (Kd.S_reads' HO_680003.out).2.1); rintro e w66 ⟨rfl, hb⟩; replace HO_11 := rb HO_11 hb; replace HO_667003 := am (Kd.S_below (ss HO_667003) hb); replace HO_680003 := am (Kd.S_below (ss HO_680003) hb); replace BK666 := bb BK666 hb; replace BK679 := bb BK679 hb; replace HB := bsw hb; (try clear hb); (try clear hb2); (try clear hk); (try clear hi)))
            go_ret
            exact ⟨se, sbw⟩
          ·replace H := im H
           have H' := am H
           clear H
           obtain ⟨Ao67, co67, eo67⟩ := Kd.R_slice HO_11.out
           subst eo67
           go_wp2_with (first | ((with_reducible refine gc 35 rfl ?_); refine gL (some 80) Try.func35 #[.slice Ao67 t680.length co67, .int .i64 x13_2] ?_; (with_reducible refine (impl_InSpans.calls kj47 _ _ t680 x13_2 false _ ?side1 ?side2 A53.out).mono ?_); (case side1 => exact cr HO_11); (case side2 => exact (Kd.R_reads' HO_11.out).2.1); rintro e w68 ⟨rfl, hb⟩; refine ⟨_, rfl, ?_⟩; replace HO_11 := rb HO_11 hb; replace HO_667003 := am (Kd.S_below (ss HO_667003) hb); replace HO_680003 := am (Kd.S_below (ss HO_680003) hb); replace BK666 := bb BK666 hb; replace BK679 := bb BK679 hb; replace HB := bsw hb; (try clear hb); (try clear hb2); (try clear hk); (try clear hi)))
           go_roundg kj47
           case measure => have := HJ16.out; have := HK2.out; have := HJ47.out; omega
           case rel => exact ⟨(x12_47), (wrap64 (x13_2 + 1)), sc, sc, H', ⟨by have := HJ16.out; have := HK2.out; have := HJ47.out; omega⟩, ⟨sr HO_11⟩, ⟨ss HO_667003⟩, ⟨ss HO_680003⟩, ⟨sk BK666⟩, ⟨sk BK679⟩, ⟨sbw⟩⟩
       ·have c46b0 := decide_eq_false c46
        clear c46
        obtain ⟨c69, H⟩ | ⟨c69, H⟩ := ie_ H
        ·have c69b0 := decide_eq_true c69
         clear c69
         obtain rfl := Option.some.inj H
         try go_wp2
         replace HO_11 := am (Kd.R_drew HO_11.out)
         replace HO_667003 := am (Kd.S_drew HO_667003.out)
         replace HO_680003 := am (Kd.S_drew HO_680003.out)
         replace BK666 := am (blk_drew BK666.out)
         replace BK679 := am (blk_drew BK679.out)
         replace HB := am (below_drew1 HB.out)
         refine start_ (n := 19) (S := fun w' => True) (ds := []) #[false, false, false, false, false, false, false, false, false, false, false, false, false, false, false, false, false, false, false] (by kernel_rfl) rfl rfl trivial (fun hHeld => ?_); refine with_tabW laws_FnMargins.tab22 laws_FnMargins.bits22 (fun HT_ HW_ => ?_)
         generalize wr.drew = w70 at HO_11 HO_667003 HO_680003 BK666 BK679 HB hHeld ⊢
         refine put 0 89 (bt 19 1) HT_ ?_
         refine put 1 90 (bt 19 3) HT_ ?_
         refine put 2 91 (bt 19 7) HT_ ?_
         refine pn 3 92 (bt 19 15) HT_ ?_
         refine pn 4 93 (bt 19 31) HT_ ?_
         refine pn 5 94 (bt 19 63) HT_ ?_
         refine put 6 95 (bt 19 127) HT_ ?_
         refine put 7 96 (bt 19 255) HT_ ?_
         refine pn 8 97 (bt 19 511) HT_ ?_
         refine pn 9 98 (bt 19 1023) HT_ ?_
         refine pn 10 99 (bt 19 2047) HT_ ?_
         refine pn 11 100 (bt 19 4095) HT_ ?_
         refine pn 12 101 (bt 19 8191) HT_ ?_
         refine pn 13 102 (bt 19 16383) HT_ ?_
         refine pn 14 103 (bt 19 32767) HT_ ?_
         refine pn 15 104 (bt 19 65535) HT_ ?_
         refine pn 16 105 (bt 19 131071) HT_ ?_
         refine put 17 106 (bt 19 262143) HT_ ?_
         refine put 18 2 (bt 19 524287) HT_ ?_
         refine done_ (done_of HT_.out (by kernel_rfl)) ?_
         try go_wp2
         go_ret
         exact ⟨se, sbw⟩
        ·have c69b0 := decide_eq_false c69
         clear c69
         obtain ⟨t683, A71, H⟩ := bnd H
         obtain rfl | rfl := tt t683
         ·replace H := ip H
          obtain ⟨t684, A73, H⟩ := bnd H
          obtain ⟨t685, A74, H⟩ := bnd H
          obtain rfl := Option.some.inj H
          try go_wp2
          replace HO_11 := am (Kd.R_drew HO_11.out)
          replace HO_667003 := am (Kd.S_drew HO_667003.out)
          replace HO_680003 := am (Kd.S_drew HO_680003.out)
          replace BK666 := am (blk_drew BK666.out)
          replace BK679 := am (blk_drew BK679.out)
          replace HB := am (below_drew1 HB.out)
          refine start_ (n := 19) (S := fun w' => w'.cell? ⟨gb679, 0, none⟩ = some (.int .i64 t671) ∧ w'.cell? ⟨gb679, 1, none⟩ = some (.int .i64 t672) ∧ w'.cell? ⟨gb679, 2, none⟩ = some (.int .i64 t673) ∧ w'.cell? ⟨gb679, 3, none⟩ = some (.slice Ao44 t674.length co44)) (ds := []) #[false, false, false, false, false, false, false, false, false, false, false, false, false, false, false, false, false, false, false] (by kernel_rfl) rfl rfl ⟨bc0 BK679, bc1 BK679, bc2 BK679, bc3 BK679⟩ (fun hHeld => ?_); refine with_tabW laws_FnMargins.tab22 laws_FnMargins.bits22 (fun HT_ HW_ => ?_)
          generalize wr.drew = w75 at HO_11 HO_667003 HO_680003 BK666 BK679 HB hHeld ⊢
          refine put 0 89 (bt 19 1) HT_ ?_
          refine put 1 90 (bt 19 3) HT_ ?_
          refine put 2 91 (bt 19 7) HT_ ?_
          refine tat4 3 92 (bt 19 15) HT_ HW_ hHeld ?_
          refine one_ (i := 4) (N := some 93) (bt 19 31) rfl rfl (one_of HT_.out (by kernel_rfl)) (by decide) (fun K hK => ?_)
          refine goes_ Try.func36 (by kernel_rfl) rfl #[.agg #[.int .i64 t671, .int .i64 t672, .int .i64 t673, .slice Ao44 t674.length co44]] (by rfl) rfl rfl sl ?_
          with_reducible refine (impl_IsProgram.calls k2 t671 t672 t673 _ _ t674 true _ ?side1 ?side2 A71.out).mono ?_
          (case side1 => repeat (first | exact (Kd.S_reads' HO_680003.out).2.2 | (with_reducible refine Kd.C_alloc ?_ _) | (with_reducible refine Kd.C_drewN ?_ _) | (with_reducible refine Kd.C_drew ?_)))
          (case side2 => exact (Kd.S_reads' HO_680003.out).2.1)
          rintro e w76 ⟨rfl, hb⟩
          refine ⟨_, rfl, ?_⟩
          replace HO_11 := rb HO_11 hb
          replace HO_667003 := am (Kd.S_below (ss HO_667003) hb)
          replace HO_680003 := am (Kd.S_below (ss HO_680003) hb)
          replace BK666 := bb BK666 hb
          replace BK679 := bb BK679 hb
          replace HB := bsw hb
          (try clear hb)
          (try clear hb2)
          (try clear hk)
          (try clear hi)
          obtain ⟨Ao77, co77, eo77⟩ := Kd.R_slice HO_11.out
          (first | subst eo77 | (injection eo77 with f1_ f2_ f3_; have f4_ := f1_.symm; have f5_ := f3_.symm; clear f1_ f2_ f3_; subst f4_; subst f5_))
          refine hK.out _ _ ⟨bc0 BK679, bc1 BK679, bc2 BK679, bc3 BK679⟩ (fun hHeld => ?_)
          clear hK K
          refine nm 93 ?_
          refine put 5 94 (bt 19 63) HT_ ?_
          refine put 6 95 (bt 19 127) HT_ ?_
          refine put 7 96 (bt 19 255) HT_ ?_
          refine put 8 97 (bt 19 511) HT_ ?_
          refine put 11 100 (bt 19 2559) HT_ ?_
          refine put 12 101 (bt 19 6655) HT_ ?_
          refine put 15 104 (bt 19 39423) HT_ ?_
          refine tat4 10 99 (bt 19 40447) HT_ HW_ hHeld ?_
          refine one_ (i := 9) (N := some 98) (bt 19 40959) rfl rfl (one_of HT_.out (by kernel_rfl)) (by decide) (fun K hK => ?_)
          refine goes_ Try.func37 (by kernel_rfl) rfl #[.slice Ao77 t680.length co77] (by rfl) rfl rfl sl ?_
          with_reducible refine (impl_TicksOf.calls k2 _ _ t680 t684 _ ?side1 ?side2 A73.out).mono ?_
          (case side1 => exact cr HO_11)
          (case side2 => exact (Kd.R_reads' HO_11.out).2.1)
          rintro e w78 ⟨rfl, hb⟩
          refine ⟨_, rfl, ?_⟩
          replace HO_11 := rb HO_11 hb
          replace HO_667003 := am (Kd.S_below (ss HO_667003) hb)
          replace HO_680003 := am (Kd.S_below (ss HO_680003) hb)
          replace BK666 := bb BK666 hb
          replace BK679 := bb BK679 hb
          replace HB := bsw hb
          (try clear hb)
          (try clear hb2)
          (try clear hk)
          (try clear hi)
          refine hK.out _ _ ⟨bc0 BK679, bc1 BK679, bc2 BK679, bc3 BK679⟩ (fun hHeld => ?_)
          clear hK K
          refine nm 98 ?_
          refine one_ (i := 13) (N := some 102) (bt 19 49151) rfl rfl (one_of HT_.out (by kernel_rfl)) (by decide) (fun K hK => ?_)
          refine goes_ Try.func38 (by kernel_rfl) rfl #[.agg #[.int .i64 t671, .int .i64 t672, .int .i64 t673, .slice Ao44 t674.length co44], .int .i64 t677, .int .i64 t678] (by rfl) rfl rfl sl ?_
          with_reducible refine (impl_LostToClocks.calls k2 t671 t672 t673 _ _ t674 t677 t678 t685 _ ?side1 ?side2 A74.out).mono ?_
          (case side1 => repeat (first | exact (Kd.S_reads' HO_680003.out).2.2 | (with_reducible refine Kd.C_alloc ?_ _) | (with_reducible refine Kd.C_drewN ?_ _) | (with_reducible refine Kd.C_drew ?_)))
          (case side2 => exact (Kd.S_reads' HO_680003.out).2.1)
          rintro e w79 ⟨rfl, hb⟩
          refine ⟨_, rfl, ?_⟩
          replace HO_11 := rb HO_11 hb
          replace HO_667003 := am (Kd.S_below (ss HO_667003) hb)
          replace HO_680003 := am (Kd.S_below (ss HO_680003) hb)
          replace BK666 := bb BK666 hb
          replace BK679 := bb BK679 hb
          replace HB := bsw hb
          (try clear hb)
          (try clear hb2)
          (try clear hk)
          (try clear hi)
          refine hK.out _ _ ⟨bc0 BK679, bc1 BK679, bc2 BK679, bc3 BK679⟩ (fun hHeld => ?_)
          clear hK K
          refine nm 102 ?_
          refine put 14 103 (bt 19 65535) HT_ ?_
          refine put 16 105 (bt 19 131071) HT_ ?_
          refine put 17 106 (bt 19 262143) HT_ ?_
          refine put 18 2 (bt 19 524287) HT_ ?_
          refine done_ (done_of HT_.out (by kernel_rfl)) ?_
          try go_wp2
          go_ret
          exact ⟨se, sbw⟩
         ·replace H := im H
          obtain rfl := Option.some.inj H
          try go_wp2
          replace HO_11 := am (Kd.R_drew HO_11.out)
          replace HO_667003 := am (Kd.S_drew HO_667003.out)
          replace HO_680003 := am (Kd.S_drew HO_680003.out)
          replace BK666 := am (blk_drew BK666.out)
          replace BK679 := am (blk_drew BK679.out)
          replace HB := am (below_drew1 HB.out)
          refine start_ (n := 19) (S := fun w' => w'.cell? ⟨gb679, 0, none⟩ = some (.int .i64 t671) ∧ w'.cell? ⟨gb679, 1, none⟩ = some (.int .i64 t672) ∧ w'.cell? ⟨gb679, 2, none⟩ = some (.int .i64 t673) ∧ w'.cell? ⟨gb679, 3, none⟩ = some (.slice Ao44 t674.length co44)) (ds := []) #[false, false, false, false, false, false, false, false, false, false, false, false, false, false, false, false, false, false, false] (by kernel_rfl) rfl rfl ⟨bc0 BK679, bc1 BK679, bc2 BK679, bc3 BK679⟩ (fun hHeld => ?_); refine with_tabW laws_FnMargins.tab22 laws_FnMargins.bits22 (fun HT_ HW_ => ?_)
          generalize wr.drew = w80 at HO_11 HO_667003 HO_680003 BK666 BK679 HB hHeld ⊢
          refine put 0 89 (bt 19 1) HT_ ?_
          refine put 1 90 (bt 19 3) HT_ ?_
          refine put 2 91 (bt 19 7) HT_ ?_
          refine tat4 3 92 (bt 19 15) HT_ HW_ hHeld ?_
          refine one_ (i := 4) (N := some 93) (bt 19 31) rfl rfl (one_of HT_.out (by kernel_rfl)) (by decide) (fun K hK => ?_)
          refine goes_ Try.func36 (by kernel_rfl) rfl #[.agg #[.int .i64 t671, .int .i64 t672, .int .i64 t673, .slice Ao44 t674.length co44]] (by rfl) rfl rfl sl ?_
          with_reducible refine (impl_IsProgram.calls k2 t671 t672 t673 _ _ t674 false _ ?side1 ?side2 A71.out).mono ?_
          (case side1 => repeat (first | exact (Kd.S_reads' HO_680003.out).2.2 | (with_reducible refine Kd.C_alloc ?_ _) | (with_reducible refine Kd.C_drewN ?_ _) | (with_reducible refine Kd.C_drew ?_)))
          (case side2 => exact (Kd.S_reads' HO_680003.out).2.1)
          rintro e w81 ⟨rfl, hb⟩
          refine ⟨_, rfl, ?_⟩
          replace HO_11 := rb HO_11 hb
          replace HO_667003 := am (Kd.S_below (ss HO_667003) hb)
          replace HO_680003 := am (Kd.S_below (ss HO_680003) hb)
          replace BK666 := bb BK666 hb
          replace BK679 := bb BK679 hb
          replace HB := bsw hb
          (try clear hb)
          (try clear hb2)
          (try clear hk)
          (try clear hi)
          refine hK.out _ _ ⟨bc0 BK679, bc1 BK679, bc2 BK679, bc3 BK679⟩ (fun hHeld => ?_)
          clear hK K
          refine nm 93 ?_
          refine put 5 94 (bt 19 63) HT_ ?_
          refine put 6 95 (bt 19 127) HT_ ?_
          refine put 7 96 (bt 19 255) HT_ ?_
          refine pn 8 97 (bt 19 511) HT_ ?_
          refine pn 9 98 (bt 19 1023) HT_ ?_
          refine pn 10 99 (bt 19 2047) HT_ ?_
          refine pn 11 100 (bt 19 4095) HT_ ?_
          refine pn 12 101 (bt 19 8191) HT_ ?_
          refine pn 13 102 (bt 19 16383) HT_ ?_
          refine pn 14 103 (bt 19 32767) HT_ ?_
          refine pn 15 104 (bt 19 65535) HT_ ?_
          refine pn 16 105 (bt 19 131071) HT_ ?_
          refine put 17 106 (bt 19 262143) HT_ ?_
          refine put 18 2 (bt 19 524287) HT_ ?_
          refine done_ (done_of HT_.out (by kernel_rfl)) ?_
          try go_wp2
          go_ret
          exact ⟨se, sbw⟩

/-- THE ONE PURE STATEMENT of laws_FnMargins: yours. -/
def laws_FnMargins.Pure : Prop := ∀ (l0 : List Int), l0.length ≤ maxLen → l0.length * 1 ≤ 140737488351232 → (∀ x ∈ l0, (Lit.int .u8 x).wf = true) → ∃ k, laws_FnMargins.f k l0 = some true
theorem laws_FnMargins.walk (P : laws_FnMargins.Pure) (a0 : Option Addr) (len0 cap0 : Nat) (z0 : List Int) (w : World) (w0 : (a0 = none ∧ len0 = 0 ∧ cap0 = 0 ∧ z0 = []) ∨ ∃ x, a0 = some x ∧ len0 ≤ cap0 ∧ cap0 ≤ maxLen ∧ z0.length = cap0 ∧ (∀ i, i < z0.length → w.cell? (x.add i) = some (.int .u8 (z0.getD i 0))) ∧ ∀ n ∈ z0, (Lit.int .u8 n).wf = true) (y0 : len0 * 1 ≤ 140737488351232) :
    Calls Try.prog 5 #[.slice a0 len0 cap0] w fun e w' => e = .returned (.bool true) ∧ Below w.heap.size w w' := by
 obtain ⟨l0, rfl, hr0, hm0, hw0, hc0⟩ := ReadsInt.ofRowC w0
 obtain ⟨k, h⟩ := P l0 hm0 y0 hw0
 refine (laws_FnMargins.calls k _ _ l0 true w (Kd.C_of_reads (d := (0 : Int)) (h1 := fun _ => rfl) hr0) hc0 h).mono ?_
 rintro e w' ⟨rfl, hd⟩
 exact ⟨rfl, hd⟩

end Go.Proofs.Ytiihaabhjphaeaa.QFnMargins
