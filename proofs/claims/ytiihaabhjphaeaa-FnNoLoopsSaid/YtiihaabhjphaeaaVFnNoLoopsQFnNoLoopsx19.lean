/- Printed by a program of the session. Conditions: none. (squeezed). -/
import Derived.Test.YtiihaabhjphaeaaVFnNoLoopsQFnNoLoopsx18
namespace Go.Proofs.Ytiihaabhjphaeaa.QFnNoLoops
set_option maxHeartbeats 8000000
set_option maxRecDepth 100000
open Go.RowKit Go.Proofs.YtiihaabhjphaeaaW.PrintWords Go.Proofs.YtiihaabhjphaeaaW.PrintLast Go.Proofs.YtiihaabhjphaeaaW.PrintMore Go.Proofs.Ytiihaabhjphaeaa.Open Go.Proofs.Ytiihaabhjphaeaa.Sq
attribute [local go_sem] max2_int min2_int max_two min_two max_three min_three max_four min_four   -- for this text's walks alone
attribute [local go_sem] isSome_set
set_option linter.unusedVariables false
set_option linter.unusedSimpArgs false

def spec_l18Steps.l0 : Nat → List (List Int) → Int → Int → List Int → Int → Option (List Int)
  | 0, _, _, _, _, _ => none
  | k + 1, x0, x1, x2, x7, x8 => if x8 < (x0.length : Int) then (if 0 ≤ x8 then (if x2 < ((rd_L2 x0 x8).length : Int) then (if 0 ≤ x2 then ((spec_l1In.f (rd (rd_L2 x0 x8) x2) 0 (wrap64 (x1 - 1))).bind fun t662 => (if t662 = true then ((spec_l15Has.f k x7 (rd (rd_L2 x0 x8) x2)).bind fun t665 => (if t665 = true then (spec_l18Steps.l0 k x0 x1 x2 x7 (wrap64 (x8 + 1))) else (if x7.length < 17592186044416 then (spec_l18Steps.l0 k x0 x1 x2 (x7 ++ [rd (rd_L2 x0 x8) x2]) (wrap64 (x8 + 1))) else (none)))) else (spec_l18Steps.l0 k x0 x1 x2 x7 (wrap64 (x8 + 1))))) else (none)) else (spec_l18Steps.l0 k x0 x1 x2 x7 (wrap64 (x8 + 1)))) else (none)) else (some x7)
def spec_l18Steps.f (k : Nat) (l0 : List (List Int)) (a1 : Int) (a2 : Int) : Option (List Int) := spec_l18Steps.l0 k l0 a1 a2 (([] : List Int)) 0
theorem spec_l18Steps.mono_l : ∀ k, (∀ y0 y1 y2 y3 y4, LeO (spec_l18Steps.l0 k y0 y1 y2 y3 y4) (spec_l18Steps.l0 (k + 1) y0 y1 y2 y3 y4))
  | 0 => fun _ _ _ _ _ r h => by simp [spec_l18Steps.l0] at h
  | k + 1 => by
    have ih0 := spec_l18Steps.mono_l k
    · intro y0 y1 y2 y3 y4
      unfold spec_l18Steps.l0
      have m0 := @spec_l15Has.mono
      exact mo
theorem spec_l18Steps.mono : ∀ a0 a1 a2 k, LeO (spec_l18Steps.f k a0 a1 a2) (spec_l18Steps.f (k + 1) a0 a1 a2) := by
  intro a0 a1 a2 k
  have ih0 := spec_l18Steps.mono_l k
  unfold spec_l18Steps.f
  have m0 := @spec_l15Has.mono
  exact mo
theorem e19_0 {P : Prop} (h : P := by
 go_wp2_with (first | (have _ := A12; go_at_call 85; (try simp only [i64_w, i32_w]); (with_reducible refine (spec_l1In.calls (rd (rd_L2 l0 x8_1) a2) 0 (wrap64 (a1 - 1)) true _ A10.out).mono ?_); rintro e w' ⟨rfl, ⟨nd, rfl⟩⟩; obtain ⟨p663, q663, ad663, A663_0, c663_0, e663, _, hx663_0, HC663_0, HR663_0⟩ := aT_L2 HR0 HB x8_1; obtain rfl : ad659 = ad663 := (by injection e663); have ea_ := Option.some.inj (hx659_0.symm.trans hx663_0); injection ea_ with ea_ en_ ec_; subst ea_; subst ec_; clear en_; obtain ⟨p664, q664, ad664, e664, _, hx664_0⟩ := at_i HR663_0 HB a2; cases e664; obtain ⟨Ao14, co14, eo14⟩ := Kd.R_slice HO_7.out; subst eo14) | (have _ := A12; go_at_call 205; (with_reducible refine (spec_l15Has.calls k1 _ _ x7_1 (rd (rd_L2 l0 x8_1) a2) true _ ?side1 ?side2 A12.out).mono ?_); (case side1 => exact cr HO_7); (case side2 => exact (Kd.R_reads' HO_7.out).2.1); rintro e w' ⟨rfl, ⟨nd, rfl⟩⟩) | (go_at_call 85; (try simp only [i64_w, i32_w]); (with_reducible refine (spec_l1In.calls (rd (rd_L2 l0 x8_1) a2) 0 (wrap64 (a1 - 1)) false _ A10.out).mono ?_); rintro e w' ⟨rfl, ⟨nd, rfl⟩⟩))
 go_roundg k1
 case measure => have := HK1.out; omega
 case rel => exact ⟨(x7_1), (wrap64 (x8_1 + 1)), sc, H', kk1, ⟨sr HO_7⟩, ⟨sb⟩⟩) : P := h
theorem spec_l18Steps.calls (k : Nat) (A0 : Option Addr) (c0 : Nat) (l0 : List (List Int)) (a1 : Int) (a2 : Int) (r : List Int) (w : World) (hr0 : Kd.C (Kd.slice 3 (Kd.int .i64)) w A0 l0.length l0) (hc0 : l0.length ≤ c0) (h : spec_l18Steps.f k l0 a1 a2 = some r) :
    Calls Try.prog 204 #[.slice A0 l0.length c0, .int .i64 a1, .int .i64 a2] w fun e w' => ∃ v0_ : Value, e = .returned (v0_) ∧ Kd.R (Kd.int .i64) 3 w' w.heap.size (fun _ => True) v0_ r ∧ Below w.heap.size w w' := by
 have HR0 := am hr0
 have HC0 := am hc0
 clear hr0 hc0
 have HB := am (Below.refl w.heap.size w)
 have H := h; unfold spec_l18Steps.f at H
 clear h
 obtain ⟨y656, hy656⟩ : ∃ y_ : List Int, y_ = (([] : List Int)) := ⟨_, rfl⟩
 replace H : (spec_l18Steps.l0 k l0 a1 a2 y656 0) = some r := ry hy656 H
 have Ny656 := am hy656
 clear hy656
 have H' := am H
 clear H
 go_enter Try.func204, Try.ntmps204
 go_wp2_with (first | ((with_reducible refine gd 9 rfl ?_); refine Kd.R_lit (Kd.int .i64) _ 3 ?hg (N := 9) ?hd (xs := ([] : List Int)) (inner := []) (ok := fun _ => True) (okp := fun _ => True) ?hr ?hp (fun _ hk => hk) trivial (Below.refl _ _) (Nat.le_refl _) (by simp) ?_; (case hd => rfl); (case hg => rfl); (case hr => first | (go_simp; done) | (go_simp; rfl)); (case hp => exact (Reps.none _ _)); intro v657 w4 ho5 hb hg_ hnew_; clear hg_ hnew_; (first | rw [← Ny656.out] at ho5 | (simp only [Int.reduceToNat] at ho5; rw [← Ny656.out] at ho5)); have HO658 := am (Kd.R_lower ho5 (below_size (sb))); replace HB := bs hb; clear hb ho5))
 go_loopg [7, 8] k (fun kq v7 v8 w' => ∃ (x7_1 : List Int) (x8_1 : Int), v8 = .int .i64 x8_1 ∧ Aside0 (spec_l18Steps.l0 kq l0 a1 a2 x7_1 x8_1 = some r) ∧ Aside0 (kq ≤ k) ∧ Aside0 (Kd.R (Kd.int .i64) 3 w' w.heap.size (fun _ => True) v7 x7_1) ∧ Aside0 (Below w.heap.size w w'))
 case atStart => exact ⟨(y656), (0), sc, H', kk0, ⟨sr HO658⟩, ⟨sb⟩⟩
 case round =>
  clear H'
  obtain ⟨x7_1, x8_1, rfl, HA, HK1, HO_7, HB⟩ := hrel
  cases gk with
  | zero => exact absurd HA.out (by simp [spec_l18Steps.l0])
  | succ k1 =>
   have H := HA.out
   clear HA
   simp only [spec_l18Steps.l0] at H
   obtain ⟨-, c6b0, H⟩ | ⟨-, c6b0, H⟩ := ic_ H
   ·obtain ⟨c7b0, H⟩ := id_ H
    obtain ⟨-, c8b0, H⟩ | ⟨-, c8b0, H⟩ := ic_ H
    ·obtain ⟨c9b0, H⟩ := id_ H
     obtain ⟨t662, A10, H⟩ := bnd H
     obtain rfl | rfl := tt t662
     ·replace H := ip H
      obtain ⟨t665, A12, H⟩ := bnd H
      obtain rfl | rfl := tt t665
      ·replace H := ip H
       have H' := am H
       clear H
       obtain ⟨p659, q659, ad659, A659_0, c659_0, e659, _, hx659_0, HC659_0, HR659_0⟩ := aT_L2 HR0 HB x8_1
       cases e659
       obtain ⟨p660, q660, ad660, A660_0, c660_0, e660, _, hx660_0, HC660_0, HR660_0⟩ := aT_L2 HR0 HB x8_1
       obtain rfl : ad659 = ad660 := (by injection e660)
       have ea_ := Option.some.inj (hx659_0.symm.trans hx660_0)
       injection ea_ with ea_ en_ ec_
       subst ea_
       subst ec_
       clear en_
       obtain ⟨p661, q661, ad661, e661, _, hx661_0⟩ := at_i HR660_0 HB a2
       cases e661
       exact e19_0
      ·replace H := im H
       obtain ⟨LMc15, H⟩ := il_ H
       obtain ⟨y668, hy668⟩ : ∃ y_ : List Int, y_ = (x7_1 ++ [rd (rd_L2 l0 x8_1) a2]) := ⟨_, rfl⟩
       replace H : (spec_l18Steps.l0 k1 l0 a1 a2 y668 (wrap64 (x8_1 + 1))) = some r := ry hy668 H
       have Ny668 := am hy668
       clear hy668
       have H' := am H
       clear H
       obtain ⟨p659, q659, ad659, A659_0, c659_0, e659, _, hx659_0, HC659_0, HR659_0⟩ := aT_L2 HR0 HB x8_1
       cases e659
       obtain ⟨p660, q660, ad660, A660_0, c660_0, e660, _, hx660_0, HC660_0, HR660_0⟩ := aT_L2 HR0 HB x8_1
       obtain rfl : ad659 = ad660 := (by injection e660)
       have ea_ := Option.some.inj (hx659_0.symm.trans hx660_0)
       injection ea_ with ea_ en_ ec_
       subst ea_
       subst ec_
       clear en_
       obtain ⟨p661, q661, ad661, e661, _, hx661_0⟩ := at_i HR660_0 HB a2
       cases e661
       go_wp2_with (first | (go_at_call 85; (try simp only [i64_w, i32_w]); (with_reducible refine (spec_l1In.calls (rd (rd_L2 l0 x8_1) a2) 0 (wrap64 (a1 - 1)) true _ A10.out).mono ?_); rintro e w' ⟨rfl, ⟨nd, rfl⟩⟩; obtain ⟨p663, q663, ad663, A663_0, c663_0, e663, _, hx663_0, HC663_0, HR663_0⟩ := aT_L2 HR0 HB x8_1; obtain rfl : ad659 = ad663 := (by injection e663); have ea_ := Option.some.inj (hx659_0.symm.trans hx663_0); injection ea_ with ea_ en_ ec_; subst ea_; subst ec_; clear en_; obtain ⟨p664, q664, ad664, e664, _, hx664_0⟩ := at_i HR663_0 HB a2; cases e664; obtain ⟨Ao16, co16, eo16⟩ := Kd.R_slice HO_7.out; subst eo16) | (go_at_call 205; (with_reducible refine (spec_l15Has.calls k1 _ _ x7_1 (rd (rd_L2 l0 x8_1) a2) false _ ?side1 ?side2 A12.out).mono ?_); (case side1 => exact cr HO_7); (case side2 => exact (Kd.R_reads' HO_7.out).2.1); rintro e w' ⟨rfl, ⟨nd, rfl⟩⟩; obtain ⟨p666, q666, ad666, A666_0, c666_0, e666, _, hx666_0, HC666_0, HR666_0⟩ := aT_L2 HR0 HB x8_1; obtain rfl : ad659 = ad666 := (by injection e666); have ea_ := Option.some.inj (hx659_0.symm.trans hx666_0); injection ea_ with ea_ en_ ec_; subst ea_; subst ec_; clear en_; obtain ⟨p667, q667, ad667, e667, _, hx667_0⟩ := at_i HR666_0 HB a2; cases e667) | ((with_reducible refine gate_builtin (b := .append) (xs := #[.tmp 47, .tmp 55]) rfl ?_); at_builtin; refine Kd.R_append (Kd.int .i64) (w0 := w) w.heap.size rfl (.tmp 47) (.tmp 55) 28 3 (.int .i64 0) 8 rfl Try.underlying28 info3 rfl (by decide) (by omega) (.slice Ao16 x7_1.length co16) x7_1 (rd (rd_L2 l0 x8_1) a2) [.int .i64 (rd (rd_L2 l0 x8_1) a2)] (fun _ => True) (fun _ => False) rfl rfl ?aP (fun _ hk => hk.elim) ?aF ?aO ?aB ?aS ?aL ?_; (case aP => exact rfl); (case aB => exact (sb)); (case aF => exact (fun _ _ => trivial)); (case aO => exact (sr HO_7)); (case aS => exact (below_size (sb))); (case aL => have := LMc15.out; omega); intro v669 w17 ho hb hg hat; rw [← Ny668.out] at ho; replace HB := am hb; have HO670 := am ho; clear HO_7; clear ho hb hg hat))
       go_roundg k1
       case measure => have := HK1.out; omega
       case rel => exact ⟨(y668), (wrap64 (x8_1 + 1)), sc, H', kk1, ⟨sr HO670⟩, ⟨sb⟩⟩
     ·replace H := im H
      have H' := am H
      clear H
      obtain ⟨p659, q659, ad659, A659_0, c659_0, e659, _, hx659_0, HC659_0, HR659_0⟩ := aT_L2 HR0 HB x8_1
      cases e659
      obtain ⟨p660, q660, ad660, A660_0, c660_0, e660, _, hx660_0, HC660_0, HR660_0⟩ := aT_L2 HR0 HB x8_1
      obtain rfl : ad659 = ad660 := (by injection e660)
      have ea_ := Option.some.inj (hx659_0.symm.trans hx660_0)
      injection ea_ with ea_ en_ ec_
      subst ea_
      subst ec_
      clear en_
      obtain ⟨p661, q661, ad661, e661, _, hx661_0⟩ := at_i HR660_0 HB a2
      cases e661
      exact e19_0
    ·have H' := am H
     clear H
     obtain ⟨p659, q659, ad659, A659_0, c659_0, e659, _, hx659_0, HC659_0, HR659_0⟩ := aT_L2 HR0 HB x8_1
     cases e659
     go_wp2
     go_roundg k1
     case measure => have := HK1.out; omega
     case rel => exact ⟨(x7_1), (wrap64 (x8_1 + 1)), sc, H', kk1, ⟨sr HO_7⟩, ⟨sb⟩⟩
   ·obtain rfl := Option.some.inj H
    go_wp2
    go_ret
    exact ⟨_, se, sr HO_7, sb⟩

mutual
def spec_UnionHasLoop.l0 : Nat → List (List Int) → Int → Int → Option (Bool)
  | 0, _, _, _ => none
  | k + 1, x0, x3, x4 => if x4 < x3 then ((spec_l18Steps.f k x0 x3 x4).bind fun t672 => (spec_UnionHasLoop.l1 k x0 x3 x4 t672 0)) else (some false)
def spec_UnionHasLoop.l1 : Nat → List (List Int) → Int → Int → List Int → Int → Option (Bool)
  | 0, _, _, _, _, _ => none
  | k + 1, x0, x3, x4, x5, x6 => if x6 < (x5.length : Int) then (if 0 ≤ x6 then (if (rd x5 x6) = x4 then (some true) else ((spec_l18Steps.f k x0 x3 (rd x5 x6)).bind fun t677 => (spec_UnionHasLoop.l2 k x0 x3 x4 x5 x6 t677 0))) else (none)) else (spec_UnionHasLoop.l0 k x0 x3 (wrap64 (x4 + 1)))
def spec_UnionHasLoop.l2 : Nat → List (List Int) → Int → Int → List Int → Int → List Int → Int → Option (Bool)
  | 0, _, _, _, _, _, _, _ => none
  | k + 1, x0, x3, x4, x5, x6, x7, x8 => if x8 < (x7.length : Int) then (if 0 ≤ x8 then ((spec_l15Has.f k x5 (rd x7 x8)).bind fun t681 => (if t681 = true then (spec_UnionHasLoop.l2 k x0 x3 x4 x5 x6 x7 (wrap64 (x8 + 1))) else (if x5.length < 17592186044416 then (spec_UnionHasLoop.l2 k x0 x3 x4 (x5 ++ [rd x7 x8]) x6 x7 (wrap64 (x8 + 1))) else (none)))) else (none)) else (spec_UnionHasLoop.l1 k x0 x3 x4 x5 (wrap64 (x6 + 1)))
end
def spec_UnionHasLoop.f (k : Nat) (l0 : List (List Int)) : Option (Bool) := (spec_l18Size.f k l0).bind fun t671 => (spec_UnionHasLoop.l0 k l0 t671 0)
theorem spec_UnionHasLoop.mono_l : ∀ k, (∀ y0 y1 y2, LeO (spec_UnionHasLoop.l0 k y0 y1 y2) (spec_UnionHasLoop.l0 (k + 1) y0 y1 y2)) ∧ (∀ y0 y1 y2 y3 y4, LeO (spec_UnionHasLoop.l1 k y0 y1 y2 y3 y4) (spec_UnionHasLoop.l1 (k + 1) y0 y1 y2 y3 y4)) ∧ (∀ y0 y1 y2 y3 y4 y5 y6, LeO (spec_UnionHasLoop.l2 k y0 y1 y2 y3 y4 y5 y6) (spec_UnionHasLoop.l2 (k + 1) y0 y1 y2 y3 y4 y5 y6))
  | 0 => ⟨fun _ _ _ r h => by simp [spec_UnionHasLoop.l0] at h, fun _ _ _ _ _ r h => by simp [spec_UnionHasLoop.l1] at h, fun _ _ _ _ _ _ _ r h => by simp [spec_UnionHasLoop.l2] at h⟩
  | k + 1 => by
    obtain ⟨ih0, ih1, ih2⟩ := spec_UnionHasLoop.mono_l k
    refine ⟨?_, ?_, ?_⟩
    · intro y0 y1 y2
      unfold spec_UnionHasLoop.l0
      have m0 := @spec_l15Has.mono
      have m1 := @spec_l18Size.mono
      have m2 := @spec_l18Steps.mono
      exact mo
    · intro y0 y1 y2 y3 y4
      unfold spec_UnionHasLoop.l1
      have m0 := @spec_l15Has.mono
      have m1 := @spec_l18Size.mono
      have m2 := @spec_l18Steps.mono
      exact mo
    · intro y0 y1 y2 y3 y4 y5 y6
      unfold spec_UnionHasLoop.l2
      have m0 := @spec_l15Has.mono
      have m1 := @spec_l18Size.mono
      have m2 := @spec_l18Steps.mono
      exact mo
theorem spec_UnionHasLoop.mono : ∀ a0 k, LeO (spec_UnionHasLoop.f k a0) (spec_UnionHasLoop.f (k + 1) a0) := by
  intro a0 k
  obtain ⟨ih0, ih1, ih2⟩ := spec_UnionHasLoop.mono_l k
  unfold spec_UnionHasLoop.f
  have m0 := @spec_l15Has.mono
  have m1 := @spec_l18Size.mono
  have m2 := @spec_l18Steps.mono
  exact mo
theorem spec_UnionHasLoop.calls (k : Nat) (A0 : Option Addr) (c0 : Nat) (l0 : List (List Int)) (r : Bool) (w : World) (hr0 : Kd.C (Kd.slice 3 (Kd.int .i64)) w A0 l0.length l0) (hc0 : l0.length ≤ c0) (h : spec_UnionHasLoop.f k l0 = some r) :
    Calls Try.prog 174 #[.slice A0 l0.length c0] w fun e w' => e = .returned (.bool r) ∧ Below w.heap.size w w' := by
 have HR0 := am hr0
 have HC0 := am hc0
 clear hr0 hc0
 have HB := am (Below.refl w.heap.size w)
 have H := h; unfold spec_UnionHasLoop.f at H
 clear h
 obtain ⟨t671, A2, H⟩ := bnd H
 have H' := am H
 clear H
 go_enter Try.func174, Try.ntmps174
 go_wp2_with (first | ((with_reducible refine gc 203 rfl ?_); refine gL (some 10) Try.func203 #[.slice A0 l0.length c0] ?_; (with_reducible refine (spec_l18Size.calls k _ _ l0 t671 _ ?side1 ?side2 A2.out).mono ?_); (case side1 => repeat (first | exact HR0.out | (with_reducible refine Kd.C_alloc ?_ _) | (with_reducible refine Kd.C_drewN ?_ _) | (with_reducible refine Kd.C_drew ?_))); (case side2 => exact HC0.out); rintro e w' ⟨rfl, ⟨nd, rfl⟩⟩; refine ⟨_, rfl, ?_⟩))
 go_loopg [4] k (fun kq v4 w' => ∃ (x4_1 : Int), v4 = .int .i64 x4_1 ∧ Aside0 (spec_UnionHasLoop.l0 kq l0 t671 x4_1 = some r) ∧ Aside0 (kq ≤ k) ∧ Aside0 (Below w.heap.size w w'))
 case atStart => exact ⟨(0), sc, H', kk0, ⟨sb⟩⟩
 case round =>
  clear H'
  obtain ⟨x4_1, rfl, HA, HK1, HB⟩ := hrel
  cases gk with
  | zero => exact absurd HA.out (by simp [spec_UnionHasLoop.l0])
  | succ k1 =>
   have H := HA.out
   clear HA
   simp only [spec_UnionHasLoop.l0] at H
   obtain ⟨-, c3b0, H⟩ | ⟨-, c3b0, H⟩ := ic_ H
   ·obtain ⟨t672, A4, H⟩ := bnd H
    have H' := am H
    clear H
    go_wp2_with (first | ((with_reducible refine gc 204 rfl ?_); refine gL (some 19) Try.func204 #[.slice A0 l0.length c0, .int .i64 t671, .int .i64 x4_1] ?_; (with_reducible refine (spec_l18Steps.calls k1 _ _ l0 t671 x4_1 t672 _ ?side1 ?side2 A4.out).mono ?_); (case side1 => exact cb HR0); (case side2 => exact HC0.out); rintro e w5 ⟨v673, rfl, ho0, hb⟩; refine ⟨_, rfl, ?_⟩; have HO674 := am (Kd.R_lower ho0 (below_size (sb))); replace HB := bs hb; (try clear hb); (try clear ho0)))
    go_loopg [5, 6] k1 (fun kq v5 v6 w' => ∃ (x5_2 : List Int) (x6_2 : Int), v6 = .int .i64 x6_2 ∧ Aside0 (spec_UnionHasLoop.l1 kq l0 t671 x4_1 x5_2 x6_2 = some r) ∧ Aside0 (kq ≤ k1) ∧ Aside0 (Kd.R (Kd.int .i64) 3 w' w.heap.size (fun _ => True) v5 x5_2) ∧ Aside0 (Below w.heap.size w w'))
    case atStart => exact ⟨(t672), (0), sc, H', kk0, ⟨sr HO674⟩, ⟨sb⟩⟩
    case round =>
     clear H'
     try clear c3
     try clear c3b0
     obtain ⟨x5_2, x6_2, rfl, HA, HK2, HO_5, HB⟩ := hrel
     cases gk with
     | zero => exact absurd HA.out (by simp [spec_UnionHasLoop.l1])
     | succ k2 =>
      have H := HA.out
      clear HA
      simp only [spec_UnionHasLoop.l1] at H
      obtain ⟨-, c6b0, H⟩ | ⟨-, c6b0, H⟩ := ic_ H
      ·obtain ⟨c7b0, H⟩ := id_ H
       obtain ⟨-, c8b0, c8b1, H⟩ | ⟨c8, c8b0, c8b1, H⟩ := ib_ H
       ·obtain rfl := Option.some.inj H
        obtain ⟨Ao9, co9, eo9⟩ := Kd.R_slice HO_5.out
        subst eo9
        have p675 : 0 ≤ (x6_2 : Int) := sa
        have q675 : x6_2 < (x5_2.length : Int) := sa
        obtain ⟨ad675, e675, hx675_0⟩ := Kd.at_int (Kd.R_reads' HO_5.out).2.2 x6_2 p675 q675
        cases e675
        replace p675 := eq_true p675
        replace q675 := eq_true q675
        go_wp2
        go_ret
        exact ⟨se, sb⟩
       ·obtain ⟨t677, A10, H⟩ := bnd H
        have H' := am H
        clear H
        obtain ⟨Ao11, co11, eo11⟩ := Kd.R_slice HO_5.out
        subst eo11
        have p675 : 0 ≤ (x6_2 : Int) := sa
        have q675 : x6_2 < (x5_2.length : Int) := sa
        obtain ⟨ad675, e675, hx675_0⟩ := Kd.at_int (Kd.R_reads' HO_5.out).2.2 x6_2 p675 q675
        cases e675
        replace p675 := eq_true p675
        replace q675 := eq_true q675
        have p676 : 0 ≤ (x6_2 : Int) := sa
        have q676 : x6_2 < (x5_2.length : Int) := sa
        obtain ⟨ad676, e676, hx676_0⟩ := Kd.at_int (Kd.R_reads' HO_5.out).2.2 x6_2 p676 q676
        obtain rfl : ad675 = ad676 := (by injection e676)
        replace p676 := eq_true p676
        replace q676 := eq_true q676
        go_wp2_with (first | ((with_reducible refine gc 204 rfl ?_); refine gL (some 38) Try.func204 #[.slice A0 l0.length c0, .int .i64 t671, .int .i64 (rd x5_2 x6_2)] ?_; (with_reducible refine (spec_l18Steps.calls k2 _ _ l0 t671 (rd x5_2 x6_2) t677 _ ?side1 ?side2 A10.out).mono ?_); (case side1 => exact cb HR0); (case side2 => exact HC0.out); rintro e w12 ⟨v678, rfl, ho0, hb⟩; refine ⟨_, rfl, ?_⟩; have HO679 := am (Kd.R_lower (Kd.R_new' ho0 (Kd.R_lt (sr HO_5))) (below_size (sb))); replace HO_5 := am (Kd.R_elder' (sr HO_5) (Kd.R_base ho0) hb); replace HB := bs hb; (try clear hb); (try clear ho0)))
        go_loopg [5, 8] k2 (fun kq v5 v8 w' => ∃ (x5_3 : List Int) (x8_3 : Int), v8 = .int .i64 x8_3 ∧ Aside0 (spec_UnionHasLoop.l2 kq l0 t671 x4_1 x5_3 x6_2 t677 x8_3 = some r) ∧ Aside0 (kq ≤ k2) ∧ Aside0 (Kd.R (Kd.int .i64) 3 w' w.heap.size (fun k_ => some k_ ≠ (v678 : Value).ownBlock) v5 x5_3) ∧ Aside0 (Kd.R (Kd.int .i64) 3 w' w.heap.size (fun k_ => some k_ ≠ (v5 : Value).ownBlock) v678 t677) ∧ Aside0 (Below w.heap.size w w'))
        case atStart => exact ⟨(x5_2), (0), sc, H', kk0, ⟨by exact rm HO_5 (fun _ hk => hk.2)⟩, ⟨by exact rm HO679 (fun _ hk => hk.2)⟩, ⟨sb⟩⟩
        case round =>
         clear H'
         try clear c3
         try clear c3b0
         try clear c6
         try clear c6b0
         try clear c7b0
         try clear c8
         try clear c8b0
         try clear c8b1
         try clear hx675_0
         try clear hx676_0
         try clear p675
         try clear p676
         try clear q675
         try clear q676
         obtain ⟨x5_3, x8_3, rfl, HA, HK3, HO_5, HO_7, HB⟩ := hrel
         cases gk with
         | zero => exact absurd HA.out (by simp [spec_UnionHasLoop.l2])
         | succ k3 =>
          have H := HA.out
          clear HA
          simp only [spec_UnionHasLoop.l2] at H
          obtain ⟨-, c13b0, H⟩ | ⟨-, c13b0, H⟩ := ic_ H
          ·obtain ⟨c14b0, H⟩ := id_ H
           obtain ⟨t681, A15, H⟩ := bnd H
           obtain rfl | rfl := tt t681
           ·replace H := ip H
            have H' := am H
            clear H
            obtain ⟨Ao17, co17, eo17⟩ := Kd.R_slice HO_7.out
            subst eo17
            have p680 : 0 ≤ (x8_3 : Int) := sa
            have q680 : x8_3 < (t677.length : Int) := sa
            obtain ⟨ad680, e680, hx680_0⟩ := Kd.at_int (Kd.R_reads' HO_7.out).2.2 x8_3 p680 q680
            cases e680
            replace p680 := eq_true p680
            replace q680 := eq_true q680
            obtain ⟨Ao18, co18, eo18⟩ := Kd.R_slice HO_5.out
            subst eo18
            go_wp2_with (first | ((with_reducible refine gc 205 rfl ?_); refine gL (some 50) Try.func205 #[.slice Ao18 x5_3.length co18, .int .i64 (rd t677 x8_3)] ?_; (with_reducible refine (spec_l15Has.calls k3 _ _ x5_3 (rd t677 x8_3) true _ ?side1 ?side2 A15.out).mono ?_); (case side1 => exact cr HO_5); (case side2 => exact (Kd.R_reads' HO_5.out).2.1); rintro e w' ⟨rfl, ⟨nd, rfl⟩⟩; refine ⟨_, rfl, ?_⟩))
            go_roundg k3
            case measure => have := HK1.out; have := HK2.out; have := HK3.out; omega
            case rel => exact ⟨(x5_3), (wrap64 (x8_3 + 1)), sc, H', kk3, ⟨sr HO_5⟩, ⟨sr HO_7⟩, ⟨sb⟩⟩
           ·replace H := im H
            obtain ⟨LMc19, H⟩ := il_ H
            obtain ⟨y683, hy683⟩ : ∃ y_ : List Int, y_ = (x5_3 ++ [rd t677 x8_3]) := ⟨_, rfl⟩
            replace H : (spec_UnionHasLoop.l2 k3 l0 t671 x4_1 y683 x6_2 t677 (wrap64 (x8_3 + 1))) = some r := ry hy683 H
            have Ny683 := am hy683
            clear hy683
            have H' := am H
            clear H
            obtain ⟨Ao20, co20, eo20⟩ := Kd.R_slice HO_7.out
            subst eo20
            have p680 : 0 ≤ (x8_3 : Int) := sa
            have q680 : x8_3 < (t677.length : Int) := sa
            obtain ⟨ad680, e680, hx680_0⟩ := Kd.at_int (Kd.R_reads' HO_7.out).2.2 x8_3 p680 q680
            cases e680
            replace p680 := eq_true p680
            replace q680 := eq_true q680
            obtain ⟨Ao21, co21, eo21⟩ := Kd.R_slice HO_5.out
            subst eo21
            go_wp2_with (first | ((with_reducible refine gc 205 rfl ?_); refine gL (some 50) Try.func205 #[.slice Ao21 x5_3.length co21, .int .i64 (rd t677 x8_3)] ?_; (with_reducible refine (spec_l15Has.calls k3 _ _ x5_3 (rd t677 x8_3) false _ ?side1 ?side2 A15.out).mono ?_); (case side1 => exact cr HO_5); (case side2 => exact (Kd.R_reads' HO_5.out).2.1); rintro e w' ⟨rfl, ⟨nd, rfl⟩⟩; refine ⟨_, rfl, ?_⟩; have p682 : 0 ≤ (x8_3 : Int) := sa; have q682 : x8_3 < (t677.length : Int) := sa; obtain ⟨ad682, e682, hx682_0⟩ := Kd.at_int (Kd.R_reads' HO_7.out).2.2 x8_3 p682 q682; obtain rfl : ad680 = ad682 := (by injection e682); replace p682 := eq_true p682; replace q682 := eq_true q682) | ((with_reducible refine gate_builtin (b := .append) (xs := #[.tmp 52, .tmp 57]) rfl ?_); at_builtin; refine Kd.R_append (Kd.int .i64) (w0 := w) w.heap.size rfl (.tmp 52) (.tmp 57) 28 3 (.int .i64 0) 8 rfl Try.underlying28 info3 rfl (by decide) (by omega) (.slice Ao21 x5_3.length co21) x5_3 (rd t677 x8_3) [.int .i64 (rd t677 x8_3)] (fun k_ => some k_ ≠ (.slice (some ad680) t677.length co20 : Value).ownBlock) (fun _ => False) rfl rfl ?aP (fun _ hk => hk.elim) ?aF ?aO ?aB ?aS ?aL ?_; (case aP => exact rfl); (case aB => exact (sb)); (case aF => exact (fun k_ hk => Kd.fresh' (Kd.R_lt (sr HO_7)) k_ hk)); (case aO => exact (sr HO_5)); (case aS => exact (below_size (sb))); (case aL => have := LMc19.out; omega); intro v684 w22 ho hb hg hat; rw [← Ny683.out] at ho; replace HO_7 := am (Kd.R_after (ok := (fun _ => True)) (by exact rm HO_7 (fun _ hk => ⟨trivial, hk⟩)) hg hat); replace HB := am hb; have HO685 := am ho; clear HO_5; clear ho hb hg hat))
            go_roundg k3
            case measure => have := HK1.out; have := HK2.out; have := HK3.out; omega
            case rel => exact ⟨(y683), (wrap64 (x8_3 + 1)), sc, H', kk3, ⟨sr HO685⟩, ⟨by exact rm HO_7 (fun _ hk => hk.2)⟩, ⟨sb⟩⟩
          ·have H' := am H
           clear H
           obtain ⟨Ao23, co23, eo23⟩ := Kd.R_slice HO_7.out
           subst eo23
           go_wp2
           go_roundg k3
           case measure => have := HK1.out; have := HK2.out; have := HK3.out; omega
           case rel => exact ⟨(x5_3), (wrap64 (x6_2 + 1)), sc, H', kk3, ⟨by exact rm HO_5 (fun _ hk => trivial)⟩, ⟨sb⟩⟩
      ·have H' := am H
       clear H
       obtain ⟨Ao24, co24, eo24⟩ := Kd.R_slice HO_5.out
       subst eo24
       go_wp2
       go_roundg k2
       case measure => have := HK1.out; have := HK2.out; omega
       case rel => exact ⟨(wrap64 (x4_1 + 1)), sc, H', kk2, ⟨sb⟩⟩
   ·obtain rfl := Option.some.inj H
    go_wp2
    go_ret
    exact ⟨se, sb⟩

end Go.Proofs.Ytiihaabhjphaeaa.QFnNoLoops
