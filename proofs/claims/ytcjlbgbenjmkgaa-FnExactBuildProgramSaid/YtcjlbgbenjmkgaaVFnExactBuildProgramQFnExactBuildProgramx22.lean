/- What the Go functions of the law FnExactBuildProgram come to, as Lean functions, and that they do: by a program of the session, out of the kit's printer. Conditions: none. (squeezed). -/
import Derived.Test.YtcjlbgbenjmkgaaVFnExactBuildProgramSq
import Derived.Test.YtcjlbgbenjmkgaaVFnExactBuildProgramQFnExactBuildProgramx0
namespace Go.Proofs.Ytcjlbgbenjmkgaa.QFnExactBuildProgram
open Go.RowKit Go.Proofs.YtcjlbgbenjmkgaaW.PrintWords Go.Proofs.YtcjlbgbenjmkgaaW.PrintLast Go.Proofs.YtcjlbgbenjmkgaaW.PrintMore Go.Proofs.Ytcjlbgbenjmkgaa.Open Go.Proofs.Ytcjlbgbenjmkgaa.Sq
attribute [local go_sem] max2_int min2_int max_two min_two max_three min_three max_four min_four   -- for this text's walks alone
attribute [local go_sem] isSome_set
set_option linter.unusedVariables false
set_option linter.unusedSimpArgs false

/-! ### laws_heldLinkS: function 49 -/
def laws_heldLinkS.l0 : Nat → List (S60) → Int → Int → Option (Int)
  | 0, _, _, _ => none
  | k + 1, x0, x1, x5 => if x5 < (x0.length : Int) then (if 0 ≤ x5 then (if ((rd_T60 x0 x5).f0) = x1 then (if ((rd_T60 x0 x5).f1) = (wrap64 (x1 + 1)) then (laws_heldLinkS.l0 k x0 (wrap64 ((wrap64 (x1 + 1)) + 1)) (wrap64 (x5 + 1))) else (some (-1))) else (some (-1))) else (none)) else (some x1)
def laws_heldLinkS.f (k : Nat) (l0 : List (S60)) (a1 : Int) : Option (Int) := laws_heldLinkS.l0 k l0 a1 0
theorem laws_heldLinkS.mono_l : ∀ k, (∀ y0 y1 y2, LeO (laws_heldLinkS.l0 k y0 y1 y2) (laws_heldLinkS.l0 (k + 1) y0 y1 y2))
  | 0 => fun _ _ _ r h => by simp [laws_heldLinkS.l0] at h
  | k + 1 => by
    have ih0 := laws_heldLinkS.mono_l k
    · intro y0 y1 y2
      unfold laws_heldLinkS.l0
      exact mo
theorem laws_heldLinkS.mono : ∀ a0 a1 k, LeO (laws_heldLinkS.f k a0 a1) (laws_heldLinkS.f (k + 1) a0 a1) := by
  intro a0 a1 k
  have ih0 := laws_heldLinkS.mono_l k
  unfold laws_heldLinkS.f
  exact mo
set_option maxHeartbeats 8000000 in
set_option maxRecDepth 100000 in
theorem laws_heldLinkS.calls (k : Nat) (A0 : Option Addr) (c0 : Nat) (l0 : List (S60)) (a1 : Int) (r : Int) (w : World) (hr0 : Kd.C k60 w A0 l0.length l0) (hc0 : l0.length ≤ c0) (h : laws_heldLinkS.f k l0 a1 = some r) :
    Calls Try.prog 49 #[.slice A0 l0.length c0, .int .i64 a1] w fun e w' => e = .returned (.int .i64 r) ∧ Drawn0 w w' := by
 have HR0 := Aside0.mk hr0
 have HC0 := Aside0.mk hc0
 clear hr0 hc0
 have H : (laws_heldLinkS.l0 k l0 a1 0) = some r := h
 clear h
 have H' := Aside0.mk H
 clear H
 go_enter Try.func49, Try.ntmps49
 go_wp2
 go_loopg [1, 5] k (fun kq v1 v5 w' => ∃ (x1_1 : Int) (x5_1 : Int), v1 = .int .i64 x1_1 ∧ v5 = .int .i64 x5_1 ∧ Aside0 (laws_heldLinkS.l0 kq l0 x1_1 x5_1 = some r) ∧ Aside0 (kq ≤ k) ∧ Drawn0 w w')
 case atStart => exact ⟨(a1), (0), sc, sc, H', kk0, sd⟩
 case round =>
  clear H'
  obtain ⟨x1_1, x5_1, rfl, rfl, HA, HK1, ⟨m1, rfl⟩⟩ := hrel
  cases gk with
  | zero => exact absurd HA.out (by simp [laws_heldLinkS.l0])
  | succ k1 =>
   have H := HA.out
   clear HA
   simp only [laws_heldLinkS.l0] at H
   obtain ⟨c3, H⟩ | ⟨c3, H⟩ := ie_ H
   ·have c3b0 := decide_eq_true c3
    clear c3
    obtain ⟨c4b0, H⟩ := id_ H
    obtain ⟨c5, H⟩ | ⟨c5, H⟩ := ie_ H
    ·have c5b0 : (((rd_T60 l0 x5_1).f0) == x1_1) = true := beq_iff_eq.mpr c5
     have c5b1 : (((rd_T60 l0 x5_1).f0) != x1_1) = false := bne_eq_false_iff_eq.mpr c5
     clear c5
     obtain ⟨c6, H⟩ | ⟨c6, H⟩ := ie_ H
     ·have c6b0 : (((rd_T60 l0 x5_1).f1) == (wrap64 (x1_1 + 1))) = true := beq_iff_eq.mpr c6
      have c6b1 : (((rd_T60 l0 x5_1).f1) != (wrap64 (x1_1 + 1))) = false := bne_eq_false_iff_eq.mpr c6
      clear c6
      have H' := Aside0.mk H
      clear H
      have p558 : 0 ≤ (x5_1 : Int) := sa
      have q558 : x5_1 < (l0.length : Int) := sa
      obtain ⟨ad558, e558, hx558_0, hx558_1⟩ := at_T60 HR0.out x5_1 p558 q558
      cases e558
      replace p558 := eq_true p558
      replace q558 := eq_true q558
      have p559 : 0 ≤ (x5_1 : Int) := sa
      have q559 : x5_1 < (l0.length : Int) := sa
      obtain ⟨ad559, e559, hx559_0, hx559_1⟩ := at_T60 HR0.out x5_1 p559 q559
      obtain rfl : ad558 = ad559 := (by injection e559)
      replace p559 := eq_true p559
      replace q559 := eq_true q559
      go_wp2
      go_roundg k1
      case measure => have := HK1.out; omega
      case rel => exact ⟨(wrap64 ((wrap64 (x1_1 + 1)) + 1)), (wrap64 (x5_1 + 1)), sc, sc, H', kk1, sd⟩
     ·have c6b0 : (((rd_T60 l0 x5_1).f1) == (wrap64 (x1_1 + 1))) = false := beq_eq_false_iff_ne.mpr c6
      have c6b1 : (((rd_T60 l0 x5_1).f1) != (wrap64 (x1_1 + 1))) = true := bne_iff_ne.mpr c6
      obtain rfl := Option.some.inj H
      have p558 : 0 ≤ (x5_1 : Int) := sa
      have q558 : x5_1 < (l0.length : Int) := sa
      obtain ⟨ad558, e558, hx558_0, hx558_1⟩ := at_T60 HR0.out x5_1 p558 q558
      cases e558
      replace p558 := eq_true p558
      replace q558 := eq_true q558
      have p559 : 0 ≤ (x5_1 : Int) := sa
      have q559 : x5_1 < (l0.length : Int) := sa
      obtain ⟨ad559, e559, hx559_0, hx559_1⟩ := at_T60 HR0.out x5_1 p559 q559
      obtain rfl : ad558 = ad559 := (by injection e559)
      replace p559 := eq_true p559
      replace q559 := eq_true q559
      go_wp2
      go_ret
      exact ⟨sc, sd⟩
    ·have c5b0 : (((rd_T60 l0 x5_1).f0) == x1_1) = false := beq_eq_false_iff_ne.mpr c5
     have c5b1 : (((rd_T60 l0 x5_1).f0) != x1_1) = true := bne_iff_ne.mpr c5
     obtain rfl := Option.some.inj H
     have p558 : 0 ≤ (x5_1 : Int) := sa
     have q558 : x5_1 < (l0.length : Int) := sa
     obtain ⟨ad558, e558, hx558_0, hx558_1⟩ := at_T60 HR0.out x5_1 p558 q558
     cases e558
     replace p558 := eq_true p558
     replace q558 := eq_true q558
     go_wp2
     go_ret
     exact ⟨sc, sd⟩
   ·have c3b0 := decide_eq_false c3
    clear c3
    obtain rfl := Option.some.inj H
    go_wp2
    go_ret
    exact ⟨sc, sd⟩

/-! ### laws_heldIntS: function 65 -/
def laws_heldIntS.l0 : Nat → List Int → Int → Int → Option (Int)
  | 0, _, _, _ => none
  | k + 1, x0, x1, x5 => if x5 < (x0.length : Int) then (if 0 ≤ x5 then (if (rd x0 x5) = x1 then (laws_heldIntS.l0 k x0 (wrap64 (x1 + 1)) (wrap64 (x5 + 1))) else (some (-1))) else (none)) else (some x1)
def laws_heldIntS.f (k : Nat) (l0 : List Int) (a1 : Int) : Option (Int) := laws_heldIntS.l0 k l0 a1 0
theorem laws_heldIntS.mono_l : ∀ k, (∀ y0 y1 y2, LeO (laws_heldIntS.l0 k y0 y1 y2) (laws_heldIntS.l0 (k + 1) y0 y1 y2))
  | 0 => fun _ _ _ r h => by simp [laws_heldIntS.l0] at h
  | k + 1 => by
    have ih0 := laws_heldIntS.mono_l k
    · intro y0 y1 y2
      unfold laws_heldIntS.l0
      exact mo
theorem laws_heldIntS.mono : ∀ a0 a1 k, LeO (laws_heldIntS.f k a0 a1) (laws_heldIntS.f (k + 1) a0 a1) := by
  intro a0 a1 k
  have ih0 := laws_heldIntS.mono_l k
  unfold laws_heldIntS.f
  exact mo
set_option maxHeartbeats 8000000 in
set_option maxRecDepth 100000 in
theorem laws_heldIntS.calls (k : Nat) (A0 : Option Addr) (c0 : Nat) (l0 : List Int) (a1 : Int) (r : Int) (w : World) (hr0 : Kd.C (Kd.int .i64) w A0 l0.length l0) (hc0 : l0.length ≤ c0) (h : laws_heldIntS.f k l0 a1 = some r) :
    Calls Try.prog 65 #[.slice A0 l0.length c0, .int .i64 a1] w fun e w' => e = .returned (.int .i64 r) ∧ Drawn0 w w' := by
 have HR0 := Aside0.mk hr0
 have HC0 := Aside0.mk hc0
 clear hr0 hc0
 have H : (laws_heldIntS.l0 k l0 a1 0) = some r := h
 clear h
 have H' := Aside0.mk H
 clear H
 go_enter Try.func65, Try.ntmps65
 go_wp2
 go_loopg [1, 5] k (fun kq v1 v5 w' => ∃ (x1_1 : Int) (x5_1 : Int), v1 = .int .i64 x1_1 ∧ v5 = .int .i64 x5_1 ∧ Aside0 (laws_heldIntS.l0 kq l0 x1_1 x5_1 = some r) ∧ Aside0 (kq ≤ k) ∧ Drawn0 w w')
 case atStart => exact ⟨(a1), (0), sc, sc, H', kk0, sd⟩
 case round =>
  clear H'
  obtain ⟨x1_1, x5_1, rfl, rfl, HA, HK1, ⟨m1, rfl⟩⟩ := hrel
  cases gk with
  | zero => exact absurd HA.out (by simp [laws_heldIntS.l0])
  | succ k1 =>
   have H := HA.out
   clear HA
   simp only [laws_heldIntS.l0] at H
   obtain ⟨c3, H⟩ | ⟨c3, H⟩ := ie_ H
   ·have c3b0 := decide_eq_true c3
    clear c3
    obtain ⟨c4b0, H⟩ := id_ H
    obtain ⟨c5, H⟩ | ⟨c5, H⟩ := ie_ H
    ·have c5b0 : ((rd l0 x5_1) == x1_1) = true := beq_iff_eq.mpr c5
     have c5b1 : ((rd l0 x5_1) != x1_1) = false := bne_eq_false_iff_eq.mpr c5
     clear c5
     have H' := Aside0.mk H
     clear H
     have p560 : 0 ≤ (x5_1 : Int) := sa
     have q560 : x5_1 < (l0.length : Int) := sa
     obtain ⟨ad560, e560, hx560_0⟩ := Kd.at_int HR0.out x5_1 p560 q560
     cases e560
     replace p560 := eq_true p560
     replace q560 := eq_true q560
     go_wp2
     go_roundg k1
     case measure => have := HK1.out; omega
     case rel => exact ⟨(wrap64 (x1_1 + 1)), (wrap64 (x5_1 + 1)), sc, sc, H', kk1, sd⟩
    ·have c5b0 : ((rd l0 x5_1) == x1_1) = false := beq_eq_false_iff_ne.mpr c5
     have c5b1 : ((rd l0 x5_1) != x1_1) = true := bne_iff_ne.mpr c5
     obtain rfl := Option.some.inj H
     have p560 : 0 ≤ (x5_1 : Int) := sa
     have q560 : x5_1 < (l0.length : Int) := sa
     obtain ⟨ad560, e560, hx560_0⟩ := Kd.at_int HR0.out x5_1 p560 q560
     cases e560
     replace p560 := eq_true p560
     replace q560 := eq_true q560
     go_wp2
     go_ret
     exact ⟨sc, sd⟩
   ·have c3b0 := decide_eq_false c3
    clear c3
    obtain rfl := Option.some.inj H
    go_wp2
    go_ret
    exact ⟨sc, sd⟩

/-! ### laws_heldTableS: function 50 -/
def laws_heldTableS.l0 : Nat → List (S63) → Int → Int → Option (Int)
  | 0, _, _, _ => none
  | k + 1, x0, x1, x5 => if x5 < (x0.length : Int) then (if 0 ≤ x5 then (if ((rd_T63 x0 x5).f0) = x1 then ((laws_heldIntS.f k ((rd_T63 x0 x5).f1) (wrap64 (x1 + 1))).bind fun t563 => (if t563 < 0 then (some (-1)) else ((laws_heldIntS.f k ((rd_T63 x0 x5).f2) t563).bind fun t565 => (if t565 < 0 then (some (-1)) else (laws_heldTableS.l0 k x0 t565 (wrap64 (x5 + 1))))))) else (some (-1))) else (none)) else (some x1)
def laws_heldTableS.f (k : Nat) (l0 : List (S63)) (a1 : Int) : Option (Int) := laws_heldTableS.l0 k l0 a1 0
theorem laws_heldTableS.mono_l : ∀ k, (∀ y0 y1 y2, LeO (laws_heldTableS.l0 k y0 y1 y2) (laws_heldTableS.l0 (k + 1) y0 y1 y2))
  | 0 => fun _ _ _ r h => by simp [laws_heldTableS.l0] at h
  | k + 1 => by
    have ih0 := laws_heldTableS.mono_l k
    · intro y0 y1 y2
      unfold laws_heldTableS.l0
      have m0 := @laws_heldIntS.mono
      exact mo
theorem laws_heldTableS.mono : ∀ a0 a1 k, LeO (laws_heldTableS.f k a0 a1) (laws_heldTableS.f (k + 1) a0 a1) := by
  intro a0 a1 k
  have ih0 := laws_heldTableS.mono_l k
  unfold laws_heldTableS.f
  have m0 := @laws_heldIntS.mono
  exact mo
set_option maxHeartbeats 8000000 in
set_option maxRecDepth 100000 in
theorem laws_heldTableS.calls (k : Nat) (A0 : Option Addr) (c0 : Nat) (l0 : List (S63)) (a1 : Int) (r : Int) (w : World) (hr0 : Kd.C k63 w A0 l0.length l0) (hc0 : l0.length ≤ c0) (h : laws_heldTableS.f k l0 a1 = some r) :
    Calls Try.prog 50 #[.slice A0 l0.length c0, .int .i64 a1] w fun e w' => e = .returned (.int .i64 r) ∧ Drawn0 w w' := by
 have HR0 := Aside0.mk hr0
 have HC0 := Aside0.mk hc0
 clear hr0 hc0
 have H : (laws_heldTableS.l0 k l0 a1 0) = some r := h
 clear h
 have H' := Aside0.mk H
 clear H
 go_enter Try.func50, Try.ntmps50
 go_wp2
 go_loopg [1, 5] k (fun kq v1 v5 w' => ∃ (x1_1 : Int) (x5_1 : Int), v1 = .int .i64 x1_1 ∧ v5 = .int .i64 x5_1 ∧ Aside0 (laws_heldTableS.l0 kq l0 x1_1 x5_1 = some r) ∧ Aside0 (kq ≤ k) ∧ Drawn0 w w')
 case atStart => exact ⟨(a1), (0), sc, sc, H', kk0, sd⟩
 case round =>
  clear H'
  obtain ⟨x1_1, x5_1, rfl, rfl, HA, HK1, ⟨m1, rfl⟩⟩ := hrel
  cases gk with
  | zero => exact absurd HA.out (by simp [laws_heldTableS.l0])
  | succ k1 =>
   have H := HA.out
   clear HA
   simp only [laws_heldTableS.l0] at H
   obtain ⟨c3, H⟩ | ⟨c3, H⟩ := ie_ H
   ·have c3b0 := decide_eq_true c3
    clear c3
    obtain ⟨c4b0, H⟩ := id_ H
    obtain ⟨c5, H⟩ | ⟨c5, H⟩ := ie_ H
    ·have c5b0 : (((rd_T63 l0 x5_1).f0) == x1_1) = true := beq_iff_eq.mpr c5
     have c5b1 : (((rd_T63 l0 x5_1).f0) != x1_1) = false := bne_eq_false_iff_eq.mpr c5
     clear c5
     obtain ⟨t563, A6, H⟩ := bnd H
     obtain ⟨c7, H⟩ | ⟨c7, H⟩ := ie_ H
     ·have c7b0 := decide_eq_true c7
      clear c7
      obtain rfl := Option.some.inj H
      have p561 : 0 ≤ (x5_1 : Int) := sa
      have q561 : x5_1 < (l0.length : Int) := sa
      obtain ⟨ad561, A561_1, c561_1, A561_2, c561_2, e561, hx561_0, hx561_1, hx561_2, hl561_1, hi561_1, hl561_2, hi561_2⟩ := at_T63 HR0.out x5_1 p561 q561
      cases e561
      have HR561_1 := Aside0.mk hi561_1
      have HC561_1 := Aside0.mk hl561_1
      clear hi561_1 hl561_1
      have HR561_2 := Aside0.mk hi561_2
      have HC561_2 := Aside0.mk hl561_2
      clear hi561_2 hl561_2
      replace p561 := eq_true p561
      replace q561 := eq_true q561
      have p562 : 0 ≤ (x5_1 : Int) := sa
      have q562 : x5_1 < (l0.length : Int) := sa
      obtain ⟨ad562, A562_1, c562_1, A562_2, c562_2, e562, hx562_0, hx562_1, hx562_2, hl562_1, hi562_1, hl562_2, hi562_2⟩ := at_T63 HR0.out x5_1 p562 q562
      obtain rfl : ad561 = ad562 := (by injection e562)
      have HR562_1 := Aside0.mk hi562_1
      have HC562_1 := Aside0.mk hl562_1
      clear hi562_1 hl562_1
      have HR562_2 := Aside0.mk hi562_2
      have HC562_2 := Aside0.mk hl562_2
      clear hi562_2 hl562_2
      replace p562 := eq_true p562
      replace q562 := eq_true q562
      have ea_ := Option.some.inj (hx561_1.symm.trans hx562_1)
      injection ea_ with ea_ en_ ec_
      subst ea_
      subst ec_
      clear en_
      have ea_ := Option.some.inj (hx561_2.symm.trans hx562_2)
      injection ea_ with ea_ en_ ec_
      subst ea_
      subst ec_
      clear en_
      go_wp2_with (first | ((with_reducible refine gate_callee (f := 65) rfl ?_); refine gL (some 27) Try.func65 #[.slice A561_1 ((rd_T63 l0 x5_1).f1).length c561_1, .int .i64 (wrap64 (x1_1 + 1))] ?_; (with_reducible refine (laws_heldIntS.calls k1 _ _ ((rd_T63 l0 x5_1).f1) (wrap64 (x1_1 + 1)) t563 _ ?side1 ?side2 A6.out).mono ?_); (case side1 => repeat (first | exact HR562_1.out | (with_reducible refine Kd.C_alloc ?_ _) | (with_reducible refine Kd.C_drewN ?_ _) | (with_reducible refine Kd.C_drew ?_))); (case side2 => exact HC562_1.out); rintro e w' ⟨rfl, ⟨nd, rfl⟩⟩; refine ⟨_, rfl, ?_⟩))
      go_ret
      exact ⟨sc, sd⟩
     ·have c7b0 := decide_eq_false c7
      clear c7
      obtain ⟨t565, A8, H⟩ := bnd H
      obtain ⟨c9, H⟩ | ⟨c9, H⟩ := ie_ H
      ·have c9b0 := decide_eq_true c9
       clear c9
       obtain rfl := Option.some.inj H
       have p561 : 0 ≤ (x5_1 : Int) := sa
       have q561 : x5_1 < (l0.length : Int) := sa
       obtain ⟨ad561, A561_1, c561_1, A561_2, c561_2, e561, hx561_0, hx561_1, hx561_2, hl561_1, hi561_1, hl561_2, hi561_2⟩ := at_T63 HR0.out x5_1 p561 q561
       cases e561
       have HR561_1 := Aside0.mk hi561_1
       have HC561_1 := Aside0.mk hl561_1
       clear hi561_1 hl561_1
       have HR561_2 := Aside0.mk hi561_2
       have HC561_2 := Aside0.mk hl561_2
       clear hi561_2 hl561_2
       replace p561 := eq_true p561
       replace q561 := eq_true q561
       have p562 : 0 ≤ (x5_1 : Int) := sa
       have q562 : x5_1 < (l0.length : Int) := sa
       obtain ⟨ad562, A562_1, c562_1, A562_2, c562_2, e562, hx562_0, hx562_1, hx562_2, hl562_1, hi562_1, hl562_2, hi562_2⟩ := at_T63 HR0.out x5_1 p562 q562
       obtain rfl : ad561 = ad562 := (by injection e562)
       have HR562_1 := Aside0.mk hi562_1
       have HC562_1 := Aside0.mk hl562_1
       clear hi562_1 hl562_1
       have HR562_2 := Aside0.mk hi562_2
       have HC562_2 := Aside0.mk hl562_2
       clear hi562_2 hl562_2
       replace p562 := eq_true p562
       replace q562 := eq_true q562
       have ea_ := Option.some.inj (hx561_1.symm.trans hx562_1)
       injection ea_ with ea_ en_ ec_
       subst ea_
       subst ec_
       clear en_
       have ea_ := Option.some.inj (hx561_2.symm.trans hx562_2)
       injection ea_ with ea_ en_ ec_
       subst ea_
       subst ec_
       clear en_
       go_wp2_with (first | ((with_reducible refine gate_callee (f := 65) rfl ?_); refine gL (some 27) Try.func65 #[.slice A561_1 ((rd_T63 l0 x5_1).f1).length c561_1, .int .i64 (wrap64 (x1_1 + 1))] ?_; (with_reducible refine (laws_heldIntS.calls k1 _ _ ((rd_T63 l0 x5_1).f1) (wrap64 (x1_1 + 1)) t563 _ ?side1 ?side2 A6.out).mono ?_); (case side1 => repeat (first | exact HR562_1.out | (with_reducible refine Kd.C_alloc ?_ _) | (with_reducible refine Kd.C_drewN ?_ _) | (with_reducible refine Kd.C_drew ?_))); (case side2 => exact HC562_1.out); rintro e w' ⟨rfl, ⟨nd, rfl⟩⟩; refine ⟨_, rfl, ?_⟩; have p564 : 0 ≤ (x5_1 : Int) := sa; have q564 : x5_1 < (l0.length : Int) := sa; obtain ⟨ad564, A564_1, c564_1, A564_2, c564_2, e564, hx564_0, hx564_1, hx564_2, hl564_1, hi564_1, hl564_2, hi564_2⟩ := at_T63 HR0.out x5_1 p564 q564; obtain rfl : ad561 = ad564 := (by injection e564); have HR564_1 := Aside0.mk hi564_1; have HC564_1 := Aside0.mk hl564_1; clear hi564_1 hl564_1; have HR564_2 := Aside0.mk hi564_2; have HC564_2 := Aside0.mk hl564_2; clear hi564_2 hl564_2; replace p564 := eq_true p564; replace q564 := eq_true q564; have ea_ := Option.some.inj (hx561_1.symm.trans hx564_1); injection ea_ with ea_ en_ ec_; subst ea_; subst ec_; clear en_; have ea_ := Option.some.inj (hx561_2.symm.trans hx564_2); injection ea_ with ea_ en_ ec_; subst ea_; subst ec_; clear en_) | ((with_reducible refine gate_callee (f := 65) rfl ?_); refine gL (some 36) Try.func65 #[.slice A561_2 ((rd_T63 l0 x5_1).f2).length c561_2, .int .i64 t563] ?_; (with_reducible refine (laws_heldIntS.calls k1 _ _ ((rd_T63 l0 x5_1).f2) t563 t565 _ ?side1 ?side2 A8.out).mono ?_); (case side1 => repeat (first | exact HR564_2.out | (with_reducible refine Kd.C_alloc ?_ _) | (with_reducible refine Kd.C_drewN ?_ _) | (with_reducible refine Kd.C_drew ?_))); (case side2 => exact HC564_2.out); rintro e w' ⟨rfl, ⟨nd, rfl⟩⟩; refine ⟨_, rfl, ?_⟩))
       go_ret
       exact ⟨sc, sd⟩
      ·have c9b0 := decide_eq_false c9
       clear c9
       have H' := Aside0.mk H
       clear H
       have p561 : 0 ≤ (x5_1 : Int) := sa
       have q561 : x5_1 < (l0.length : Int) := sa
       obtain ⟨ad561, A561_1, c561_1, A561_2, c561_2, e561, hx561_0, hx561_1, hx561_2, hl561_1, hi561_1, hl561_2, hi561_2⟩ := at_T63 HR0.out x5_1 p561 q561
       cases e561
       have HR561_1 := Aside0.mk hi561_1
       have HC561_1 := Aside0.mk hl561_1
       clear hi561_1 hl561_1
       have HR561_2 := Aside0.mk hi561_2
       have HC561_2 := Aside0.mk hl561_2
       clear hi561_2 hl561_2
       replace p561 := eq_true p561
       replace q561 := eq_true q561
       have p562 : 0 ≤ (x5_1 : Int) := sa
       have q562 : x5_1 < (l0.length : Int) := sa
       obtain ⟨ad562, A562_1, c562_1, A562_2, c562_2, e562, hx562_0, hx562_1, hx562_2, hl562_1, hi562_1, hl562_2, hi562_2⟩ := at_T63 HR0.out x5_1 p562 q562
       obtain rfl : ad561 = ad562 := (by injection e562)
       have HR562_1 := Aside0.mk hi562_1
       have HC562_1 := Aside0.mk hl562_1
       clear hi562_1 hl562_1
       have HR562_2 := Aside0.mk hi562_2
       have HC562_2 := Aside0.mk hl562_2
       clear hi562_2 hl562_2
       replace p562 := eq_true p562
       replace q562 := eq_true q562
       have ea_ := Option.some.inj (hx561_1.symm.trans hx562_1)
       injection ea_ with ea_ en_ ec_
       subst ea_
       subst ec_
       clear en_
       have ea_ := Option.some.inj (hx561_2.symm.trans hx562_2)
       injection ea_ with ea_ en_ ec_
       subst ea_
       subst ec_
       clear en_
       go_wp2_with (first | ((with_reducible refine gate_callee (f := 65) rfl ?_); refine gL (some 27) Try.func65 #[.slice A561_1 ((rd_T63 l0 x5_1).f1).length c561_1, .int .i64 (wrap64 (x1_1 + 1))] ?_; (with_reducible refine (laws_heldIntS.calls k1 _ _ ((rd_T63 l0 x5_1).f1) (wrap64 (x1_1 + 1)) t563 _ ?side1 ?side2 A6.out).mono ?_); (case side1 => repeat (first | exact HR562_1.out | (with_reducible refine Kd.C_alloc ?_ _) | (with_reducible refine Kd.C_drewN ?_ _) | (with_reducible refine Kd.C_drew ?_))); (case side2 => exact HC562_1.out); rintro e w' ⟨rfl, ⟨nd, rfl⟩⟩; refine ⟨_, rfl, ?_⟩; have p564 : 0 ≤ (x5_1 : Int) := sa; have q564 : x5_1 < (l0.length : Int) := sa; obtain ⟨ad564, A564_1, c564_1, A564_2, c564_2, e564, hx564_0, hx564_1, hx564_2, hl564_1, hi564_1, hl564_2, hi564_2⟩ := at_T63 HR0.out x5_1 p564 q564; obtain rfl : ad561 = ad564 := (by injection e564); have HR564_1 := Aside0.mk hi564_1; have HC564_1 := Aside0.mk hl564_1; clear hi564_1 hl564_1; have HR564_2 := Aside0.mk hi564_2; have HC564_2 := Aside0.mk hl564_2; clear hi564_2 hl564_2; replace p564 := eq_true p564; replace q564 := eq_true q564; have ea_ := Option.some.inj (hx561_1.symm.trans hx564_1); injection ea_ with ea_ en_ ec_; subst ea_; subst ec_; clear en_; have ea_ := Option.some.inj (hx561_2.symm.trans hx564_2); injection ea_ with ea_ en_ ec_; subst ea_; subst ec_; clear en_) | ((with_reducible refine gate_callee (f := 65) rfl ?_); refine gL (some 36) Try.func65 #[.slice A561_2 ((rd_T63 l0 x5_1).f2).length c561_2, .int .i64 t563] ?_; (with_reducible refine (laws_heldIntS.calls k1 _ _ ((rd_T63 l0 x5_1).f2) t563 t565 _ ?side1 ?side2 A8.out).mono ?_); (case side1 => repeat (first | exact HR564_2.out | (with_reducible refine Kd.C_alloc ?_ _) | (with_reducible refine Kd.C_drewN ?_ _) | (with_reducible refine Kd.C_drew ?_))); (case side2 => exact HC564_2.out); rintro e w' ⟨rfl, ⟨nd, rfl⟩⟩; refine ⟨_, rfl, ?_⟩))
       go_roundg k1
       case measure => have := HK1.out; omega
       case rel => exact ⟨(t565), (wrap64 (x5_1 + 1)), sc, sc, H', kk1, sd⟩
    ·have c5b0 : (((rd_T63 l0 x5_1).f0) == x1_1) = false := beq_eq_false_iff_ne.mpr c5
     have c5b1 : (((rd_T63 l0 x5_1).f0) != x1_1) = true := bne_iff_ne.mpr c5
     obtain rfl := Option.some.inj H
     have p561 : 0 ≤ (x5_1 : Int) := sa
     have q561 : x5_1 < (l0.length : Int) := sa
     obtain ⟨ad561, A561_1, c561_1, A561_2, c561_2, e561, hx561_0, hx561_1, hx561_2, hl561_1, hi561_1, hl561_2, hi561_2⟩ := at_T63 HR0.out x5_1 p561 q561
     cases e561
     have HR561_1 := Aside0.mk hi561_1
     have HC561_1 := Aside0.mk hl561_1
     clear hi561_1 hl561_1
     have HR561_2 := Aside0.mk hi561_2
     have HC561_2 := Aside0.mk hl561_2
     clear hi561_2 hl561_2
     replace p561 := eq_true p561
     replace q561 := eq_true q561
     go_wp2
     go_ret
     exact ⟨sc, sd⟩
   ·have c3b0 := decide_eq_false c3
    clear c3
    obtain rfl := Option.some.inj H
    go_wp2
    go_ret
    exact ⟨sc, sd⟩

end Go.Proofs.Ytcjlbgbenjmkgaa.QFnExactBuildProgram
