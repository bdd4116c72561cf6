/- Printed by a program of the session. Conditions: none. (squeezed). -/
import Derived.Test.YtiihaabhjphaeaaVFnProgramsQFnProgramsx0
namespace Go.Proofs.Ytiihaabhjphaeaa.QFnPrograms
set_option maxHeartbeats 8000000
set_option maxRecDepth 100000
open Go.RowKit Go.Proofs.YtiihaabhjphaeaaW.PrintWords Go.Proofs.YtiihaabhjphaeaaW.PrintLast Go.Proofs.YtiihaabhjphaeaaW.PrintMore Go.Proofs.Ytiihaabhjphaeaa.Open Go.Proofs.Ytiihaabhjphaeaa.Sq
attribute [local go_sem] max2_int min2_int max_two min_two max_three min_three max_four min_four   -- for this text's walks alone
attribute [local go_sem] isSome_set
set_option linter.unusedVariables false
set_option linter.unusedSimpArgs false

mutual
def spec_NeighborsIn.l0 : Nat → List (S134) → Int → List Int → Int → Option (List Int)
  | 0, _, _, _, _ => none
  | k + 1, x0, x1, x5, x6 => if x6 < (x0.length : Int) then (if 0 ≤ x6 then (if ((rd_T134 x0 x6).f0) = x1 then (spec_NeighborsIn.j1 k x0 x1 x5 x6 ((rd_T134 x0 x6).f1)) else (if ((rd_T134 x0 x6).f1) = x1 then (spec_NeighborsIn.j1 k x0 x1 x5 x6 ((rd_T134 x0 x6).f0)) else (spec_NeighborsIn.l0 k x0 x1 x5 (wrap64 (x6 + 1))))) else (none)) else (some x5)
def spec_NeighborsIn.j1 : Nat → List (S134) → Int → List Int → Int → Int → Option (List Int)
  | 0, _, _, _, _, _ => none
  | k + 1, x0, x1, x5, x6, x7 => spec_NeighborsIn.l1 k x0 x1 x5 x6 x7 0
def spec_NeighborsIn.l1 : Nat → List (S134) → Int → List Int → Int → Int → Int → Option (List Int)
  | 0, _, _, _, _, _, _ => none
  | k + 1, x0, x1, x5, x6, x7, x8 => if x8 < (x5.length : Int) then (if 0 ≤ x8 then (if (rd x5 x8) < x7 then (spec_NeighborsIn.l1 k x0 x1 x5 x6 x7 (wrap64 (x8 + 1))) else (if x8 = (x5.length : Int) then ((some (([] : List Int) : List Int)).bind fun y529 => (if x8 ≤ (x5.length : Int) then ((some (x5.take (x8 : Int).toNat : List Int)).bind fun y532 => (if y529.length + y532.length < 17592186044416 then ((some (y529 ++ y532 : List Int)).bind fun y536 => ((some (([x7] : List Int) : List Int)).bind fun y539 => (if y536.length + y539.length < 17592186044416 then ((some (y536 ++ y539 : List Int)).bind fun y542 => ((some (x5.drop (x8 : Int).toNat : List Int)).bind fun y545 => (if y542.length + y545.length < 17592186044416 then (spec_NeighborsIn.l0 k x0 x1 (y542 ++ y545) (wrap64 (x6 + 1))) else (none)))) else (none)))) else (none))) else (none))) else (if (rd x5 x8) = x7 then (spec_NeighborsIn.l0 k x0 x1 x5 (wrap64 (x6 + 1))) else ((some (([] : List Int) : List Int)).bind fun y553 => (if x8 ≤ (x5.length : Int) then ((some (x5.take (x8 : Int).toNat : List Int)).bind fun y556 => (if y553.length + y556.length < 17592186044416 then ((some (y553 ++ y556 : List Int)).bind fun y560 => ((some (([x7] : List Int) : List Int)).bind fun y563 => (if y560.length + y563.length < 17592186044416 then ((some (y560 ++ y563 : List Int)).bind fun y566 => ((some (x5.drop (x8 : Int).toNat : List Int)).bind fun y569 => (if y566.length + y569.length < 17592186044416 then (spec_NeighborsIn.l0 k x0 x1 (y566 ++ y569) (wrap64 (x6 + 1))) else (none)))) else (none)))) else (none))) else (none)))))) else (none)) else (if x8 = (x5.length : Int) then ((some (([] : List Int) : List Int)).bind fun y576 => (if 0 ≤ x8 then (if x8 ≤ (x5.length : Int) then ((some (x5.take (x8 : Int).toNat : List Int)).bind fun y579 => (if y576.length + y579.length < 17592186044416 then ((some (y576 ++ y579 : List Int)).bind fun y583 => ((some (([x7] : List Int) : List Int)).bind fun y586 => (if y583.length + y586.length < 17592186044416 then ((some (y583 ++ y586 : List Int)).bind fun y589 => ((some (x5.drop (x8 : Int).toNat : List Int)).bind fun y592 => (if y589.length + y592.length < 17592186044416 then (spec_NeighborsIn.l0 k x0 x1 (y589 ++ y592) (wrap64 (x6 + 1))) else (none)))) else (none)))) else (none))) else (none)) else (none))) else (if 0 ≤ x8 then (none) else (none)))
end
def spec_NeighborsIn.f (k : Nat) (l0 : List (S134)) (a1 : Int) : Option (List Int) := spec_NeighborsIn.l0 k l0 a1 (([] : List Int)) 0
theorem spec_NeighborsIn.mono_l : ∀ k, (∀ y0 y1 y2 y3, LeO (spec_NeighborsIn.l0 k y0 y1 y2 y3) (spec_NeighborsIn.l0 (k + 1) y0 y1 y2 y3)) ∧ (∀ y0 y1 y2 y3 y4, LeO (spec_NeighborsIn.j1 k y0 y1 y2 y3 y4) (spec_NeighborsIn.j1 (k + 1) y0 y1 y2 y3 y4)) ∧ (∀ y0 y1 y2 y3 y4 y5, LeO (spec_NeighborsIn.l1 k y0 y1 y2 y3 y4 y5) (spec_NeighborsIn.l1 (k + 1) y0 y1 y2 y3 y4 y5))
  | 0 => ⟨fun _ _ _ _ r h => by simp [spec_NeighborsIn.l0] at h, fun _ _ _ _ _ r h => by simp [spec_NeighborsIn.j1] at h, fun _ _ _ _ _ _ r h => by simp [spec_NeighborsIn.l1] at h⟩
  | k + 1 => by
    obtain ⟨ih0, ih1, ih2⟩ := spec_NeighborsIn.mono_l k
    refine ⟨?_, ?_, ?_⟩
    · intro y0 y1 y2 y3
      unfold spec_NeighborsIn.l0
      exact mo
    · intro y0 y1 y2 y3 y4
      unfold spec_NeighborsIn.j1
      exact mo
    · intro y0 y1 y2 y3 y4 y5
      unfold spec_NeighborsIn.l1
      exact mo
theorem spec_NeighborsIn.mono : ∀ a0 a1 k, LeO (spec_NeighborsIn.f k a0 a1) (spec_NeighborsIn.f (k + 1) a0 a1) := by
  intro a0 a1 k
  obtain ⟨ih0, ih1, ih2⟩ := spec_NeighborsIn.mono_l k
  unfold spec_NeighborsIn.f
  exact mo
def spec_NeighborsIn.T14 : Bool × List (List Nat × List Nat) := (true, [([], []), ([], []), ([], []), ([1, 2], [1, 2]), ([0, 3], [0, 3]), ([], []), ([5], [5]), ([4, 6, 4], [4, 6]), ([], []), ([], []), ([8, 9], [8, 9]), ([7, 10, 7], [7, 10]), ([11, 11, 0, 1, 2, 3, 4, 5, 6, 7, 8, 9, 10, 11], [1, 8, 11])])
def spec_NeighborsIn.B14 : List Nat := [0, 0, 0, 6, 15, 0, 32, 127, 0, 0, 768, 2047, 4095]
theorem spec_NeighborsIn.tab14 : rtab .any (opsOf Try.f127 14) = spec_NeighborsIn.T14 := by kernel_rfl
theorem spec_NeighborsIn.bits14 : waitsOk spec_NeighborsIn.T14.2 spec_NeighborsIn.B14 = true := by kernel_rfl
theorem spec_NeighborsIn.calls (k : Nat) (A0 : Option Addr) (c0 : Nat) (l0 : List (S134)) (a1 : Int) (r : List Int) (w : World) (hr0 : Kd.C k134 w A0 l0.length l0) (hc0 : l0.length ≤ c0) (h : spec_NeighborsIn.f k l0 a1 = some r) :
    Calls Try.prog 127 #[.slice A0 l0.length c0, .int .i64 a1] w fun e w' => ∃ v0_ : Value, e = .returned (v0_) ∧ Kd.R (Kd.int .i64) 3 w' w.heap.size (fun _ => True) v0_ r ∧ Below w.heap.size w w' := by
 have HR0 := am hr0
 have HC0 := am hc0
 clear hr0 hc0
 have HB := am (Below.refl w.heap.size w)
 have H := h; unfold spec_NeighborsIn.f at H
 clear h
 obtain ⟨y521, hy521⟩ : ∃ y_ : List Int, y_ = (([] : List Int)) := ⟨_, rfl⟩
 replace H : (spec_NeighborsIn.l0 k l0 a1 y521 0) = some r := ry hy521 H
 have Ny521 := am hy521
 clear hy521
 have H' := am H
 clear H
 go_enter Try.func127, Try.ntmps127
 go_wp2_with (first | ((with_reducible refine gd 9 rfl ?_); refine Kd.R_lit (Kd.int .i64) _ 3 ?hg (N := 9) ?hd (xs := ([] : List Int)) (inner := []) (ok := fun _ => True) (okp := fun _ => True) ?hr ?hp (fun _ hk => hk) trivial (Below.refl _ _) (Nat.le_refl _) (by simp) ?_; (case hd => rfl); (case hg => rfl); (case hr => first | (go_simp; done) | (go_simp; rfl)); (case hp => exact (Reps.none _ _)); intro v522 w3 ho4 hb hg_ hnew_; clear hg_ hnew_; (first | rw [← Ny521.out] at ho4 | (simp only [Int.reduceToNat] at ho4; rw [← Ny521.out] at ho4)); have HO523 := am (Kd.R_lower ho4 (below_size (sb))); replace HB := bs hb; clear hb ho4))
 go_loopg [5, 6] k (fun kq v5 v6 w' => ∃ (x5_1 : List Int) (x6_1 : Int), v6 = .int .i64 x6_1 ∧ Aside0 (spec_NeighborsIn.l0 kq l0 a1 x5_1 x6_1 = some r) ∧ Aside0 (kq ≤ k) ∧ Aside0 (Kd.R (Kd.int .i64) 3 w' w.heap.size (fun _ => True) v5 x5_1) ∧ Aside0 (Below w.heap.size w w'))
 case atStart => exact ⟨(y521), (0), sc, H', kk0, ⟨sr HO523⟩, ⟨sb⟩⟩
 case round =>
  clear H'
  try clear c1
  obtain ⟨x5_1, x6_1, rfl, HA, HK1, HO_5, HB⟩ := hrel
  cases gk with
  | zero => exact absurd HA.out (by simp [spec_NeighborsIn.l0])
  | succ k1 =>
   have H := HA.out
   clear HA
   simp only [spec_NeighborsIn.l0] at H
   obtain ⟨c5, H⟩ | ⟨c5, H⟩ := ie_ H
   ·have c5b0 := decide_eq_true c5
    clear c5
    obtain ⟨c6b0, H⟩ := id_ H
    have HC7 := am H
    clear H
    obtain ⟨p524, q524, ad524, e524, _, _, hx524_0, hx524_1⟩ := aT_T134 HR0 HB x6_1
    cases e524
    go_upto_if 22 with (fail)
    go_cut [7] (fun v7 wc => ∃ (kq : Nat) (x7_6 : Int), v7 = .int .i64 x7_6 ∧ Aside0 (spec_NeighborsIn.j1 kq l0 a1 x5_1 x6_1 x7_6 = some r) ∧ Aside0 (kq ≤ k1) ∧ Aside0 (Kd.R (Kd.int .i64) 3 wc w.heap.size (fun _ => True) u5 x5_1) ∧ Aside0 (Below w.heap.size w wc))
    case first =>
     have H := HC7.out
     clear HC7
     obtain ⟨c8, H⟩ | ⟨c8, H⟩ := ie_ H
     ·have c8b0 : (((rd_T134 l0 x6_1).f0) == a1) = true := beq_iff_eq.mpr c8
      have c8b1 : (((rd_T134 l0 x6_1).f0) != a1) = false := bne_eq_false_iff_eq.mpr c8
      clear c8
      (first | rw [c8b0] | (simp only [i64_w, i32_w]; rw [c8b0]) | rw [c8b1] | skip)
      have H' := am H
      clear H
      obtain ⟨p525, q525, ad525, e525, _, _, hx525_0, hx525_1⟩ := aT_T134 HR0 HB x6_1
      obtain rfl : ad524 = ad525 := (by injection e525)
      go_wp2
      go_meet
      case rel => exact ⟨_, ((rd_T134 l0 x6_1).f1), sc, H', ⟨by have := HK1.out; first | omega | exact Nat.le_refl _⟩, ⟨sr HO_5⟩, ⟨sb⟩⟩
     ·have c8b0 : (((rd_T134 l0 x6_1).f0) == a1) = false := beq_eq_false_iff_ne.mpr c8
      have c8b1 : (((rd_T134 l0 x6_1).f0) != a1) = true := bne_iff_ne.mpr c8
      (first | rw [c8b0] | (simp only [i64_w, i32_w]; rw [c8b0]) | rw [c8b1] | skip)
      obtain ⟨c9, H⟩ | ⟨c9, H⟩ := ie_ H
      ·have c9b0 : (((rd_T134 l0 x6_1).f1) == a1) = true := beq_iff_eq.mpr c9
       have c9b1 : (((rd_T134 l0 x6_1).f1) != a1) = false := bne_eq_false_iff_eq.mpr c9
       clear c9
       have H' := am H
       clear H
       obtain ⟨p526, q526, ad526, e526, _, _, hx526_0, hx526_1⟩ := aT_T134 HR0 HB x6_1
       obtain rfl : ad524 = ad526 := (by injection e526)
       obtain ⟨p527, q527, ad527, e527, _, _, hx527_0, hx527_1⟩ := aT_T134 HR0 HB x6_1
       obtain rfl : ad524 = ad527 := (by injection e527)
       go_wp2
       go_meet
       case rel => exact ⟨_, ((rd_T134 l0 x6_1).f0), sc, H', ⟨by have := HK1.out; first | omega | exact Nat.le_refl _⟩, ⟨sr HO_5⟩, ⟨sb⟩⟩
      ·have c9b0 : (((rd_T134 l0 x6_1).f1) == a1) = false := beq_eq_false_iff_ne.mpr c9
       have c9b1 : (((rd_T134 l0 x6_1).f1) != a1) = true := bne_iff_ne.mpr c9
       have H' := am H
       clear H
       obtain ⟨p526, q526, ad526, e526, _, _, hx526_0, hx526_1⟩ := aT_T134 HR0 HB x6_1
       obtain rfl : ad524 = ad526 := (by injection e526)
       go_wp2
       go_roundg k1
       case measure => have := HK1.out; omega
       case rel => exact ⟨(x5_1), (wrap64 (x6_1 + 1)), sc, H', kk1, ⟨sr HO_5⟩, ⟨sb⟩⟩
    case rest =>
     clear HC7
     try clear c1
     try clear c5
     try clear c5b0
     try clear c6b0
     try clear c8
     try clear c8b0
     try clear c8b1
     try clear c9
     try clear c9b0
     try clear c9b1
     try clear hx524_0
     try clear hx524_1
     try clear hx525_0
     try clear hx525_1
     try clear hx526_0
     try clear hx526_1
     try clear hx527_0
     try clear hx527_1
     try clear p524
     try clear p525
     try clear p526
     try clear p527
     try clear q524
     try clear q525
     try clear q526
     try clear q527
     obtain ⟨kq, x7_6, rfl, HA, HJ6, HO_5, HB⟩ := hcut
     cases kq with
     | zero => exact absurd HA.out (by simp [spec_NeighborsIn.j1])
     | succ kj6 =>
      have H := HA.out
      clear HA
      simp only [spec_NeighborsIn.j1] at H
      have H' := am H
      clear H
      go_wp2
      go_loopg [8] kj6 (fun kq v8 w' => ∃ (x8_3 : Int), v8 = .int .i64 x8_3 ∧ Aside0 (spec_NeighborsIn.l1 kq l0 a1 x5_1 x6_1 x7_6 x8_3 = some r) ∧ Aside0 (kq ≤ kj6) ∧ Aside0 (Kd.R (Kd.int .i64) 3 w' w.heap.size (fun _ => True) u5 x5_1) ∧ Aside0 (Below w.heap.size w w'))
      case atStart => exact ⟨(0), sc, H', kk0, ⟨sr HO_5⟩, ⟨sb⟩⟩
      case round =>
       clear H'
       try clear c1
       try clear c5
       try clear c5b0
       try clear c6b0
       try clear c8
       try clear c8b0
       try clear c8b1
       try clear c9
       try clear c9b0
       try clear c9b1
       try clear hx524_0
       try clear hx524_1
       try clear hx525_0
       try clear hx525_1
       try clear hx526_0
       try clear hx526_1
       try clear hx527_0
       try clear hx527_1
       try clear p524
       try clear p525
       try clear p526
       try clear p527
       try clear q524
       try clear q525
       try clear q526
       try clear q527
       obtain ⟨x8_3, rfl, HA, HK3, HO_5, HB⟩ := hrel
       cases gk with
       | zero => exact absurd HA.out (by simp [spec_NeighborsIn.l1])
       | succ k3 =>
        have H := HA.out
        clear HA
        simp only [spec_NeighborsIn.l1] at H
        obtain ⟨c10, H⟩ | ⟨c10, H⟩ := ie_ H
        ·have c10b0 := decide_eq_true c10
         clear c10
         obtain ⟨c11b0, H⟩ := id_ H
         obtain ⟨c12, H⟩ | ⟨c12, H⟩ := ie_ H
         ·have c12b0 := decide_eq_true c12
          clear c12
          have H' := am H
          clear H
          obtain ⟨Ao13, co13, eo13⟩ := Kd.R_slice HO_5.out
          subst eo13
          have p528 : 0 ≤ (x8_3 : Int) := sa
          have q528 : x8_3 < (x5_1.length : Int) := sa
          obtain ⟨ad528, e528, hx528_0⟩ := Kd.at_int (Kd.R_reads' HO_5.out).2.2 x8_3 p528 q528
          cases e528
          replace p528 := eq_true p528
          replace q528 := eq_true q528
          go_wp2
          go_roundg k3
          case measure => have := HK1.out; have := HJ6.out; have := HK3.out; omega
          case rel => exact ⟨(wrap64 (x8_3 + 1)), sc, H', ⟨by have := HK1.out; have := HJ6.out; have := HK3.out; omega⟩, ⟨sr HO_5⟩, ⟨sb⟩⟩
         ·have c12b0 := decide_eq_false c12
          clear c12
          obtain ⟨c14, H⟩ | ⟨c14, H⟩ := ie_ H
          ·have c14b0 : (x8_3 == (x5_1.length : Int)) = true := beq_iff_eq.mpr c14
           have c14b1 : (x8_3 != (x5_1.length : Int)) = false := bne_eq_false_iff_eq.mpr c14
           clear c14
           obtain ⟨y529, hy529⟩ : ∃ y_ : List Int, y_ = (([] : List Int)) := ⟨_, rfl⟩
           replace H : (if x8_3 ≤ (x5_1.length : Int) then ((some (x5_1.take (x8_3 : Int).toNat : List Int)).bind fun y532 => (if y529.length + y532.length < 17592186044416 then ((some (y529 ++ y532 : List Int)).bind fun y536 => ((some (([x7_6] : List Int) : List Int)).bind fun y539 => (if y536.length + y539.length < 17592186044416 then ((some (y536 ++ y539 : List Int)).bind fun y542 => ((some (x5_1.drop (x8_3 : Int).toNat : List Int)).bind fun y545 => (if y542.length + y545.length < 17592186044416 then (spec_NeighborsIn.l0 k3 l0 a1 (y542 ++ y545) (wrap64 (x6_1 + 1))) else (none)))) else (none)))) else (none))) else (none)) = some r := ry hy529 H
           have Ny529 := am hy529
           clear hy529
           have c15b0 := eq_true (sa : 0 ≤ x8_3)
           obtain ⟨c16, H⟩ := ia_ H
           have c16b0 := eq_true c16
           have c16b1 := decide_eq_true c16
           clear c16
           obtain ⟨y532, hy532⟩ : ∃ y_ : List Int, y_ = (x5_1.take (x8_3 : Int).toNat) := ⟨_, rfl⟩
           replace H : (if y529.length + y532.length < 17592186044416 then ((some (y529 ++ y532 : List Int)).bind fun y536 => ((some (([x7_6] : List Int) : List Int)).bind fun y539 => (if y536.length + y539.length < 17592186044416 then ((some (y536 ++ y539 : List Int)).bind fun y542 => ((some (x5_1.drop (x8_3 : Int).toNat : List Int)).bind fun y545 => (if y542.length + y545.length < 17592186044416 then (spec_NeighborsIn.l0 k3 l0 a1 (y542 ++ y545) (wrap64 (x6_1 + 1))) else (none)))) else (none)))) else (none)) = some r := ry hy532 H
           have Ny532 := am hy532
           clear hy532
           obtain ⟨LMc17, H⟩ := il_ H
           obtain ⟨y536, hy536⟩ : ∃ y_ : List Int, y_ = (y529 ++ y532) := ⟨_, rfl⟩
           replace H : ((some (([x7_6] : List Int) : List Int)).bind fun y539 => (if y536.length + y539.length < 17592186044416 then ((some (y536 ++ y539 : List Int)).bind fun y542 => ((some (x5_1.drop (x8_3 : Int).toNat : List Int)).bind fun y545 => (if y542.length + y545.length < 17592186044416 then (spec_NeighborsIn.l0 k3 l0 a1 (y542 ++ y545) (wrap64 (x6_1 + 1))) else (none)))) else (none))) = some r := ry hy536 H
           have Ny536 := am hy536
           clear hy536
           obtain ⟨y539, hy539⟩ : ∃ y_ : List Int, y_ = (([x7_6] : List Int)) := ⟨_, rfl⟩
           replace H : (if y536.length + y539.length < 17592186044416 then ((some (y536 ++ y539 : List Int)).bind fun y542 => ((some (x5_1.drop (x8_3 : Int).toNat : List Int)).bind fun y545 => (if y542.length + y545.length < 17592186044416 then (spec_NeighborsIn.l0 k3 l0 a1 (y542 ++ y545) (wrap64 (x6_1 + 1))) else (none)))) else (none)) = some r := ry hy539 H
           have Ny539 := am hy539
           clear hy539
           obtain ⟨LMc18, H⟩ := il_ H
           obtain ⟨y542, hy542⟩ : ∃ y_ : List Int, y_ = (y536 ++ y539) := ⟨_, rfl⟩
           replace H : ((some (x5_1.drop (x8_3 : Int).toNat : List Int)).bind fun y545 => (if y542.length + y545.length < 17592186044416 then (spec_NeighborsIn.l0 k3 l0 a1 (y542 ++ y545) (wrap64 (x6_1 + 1))) else (none))) = some r := ry hy542 H
           have Ny542 := am hy542
           clear hy542
           have c19b0 := eq_true (sa : 0 ≤ x8_3)
           have c20b0 := eq_true (sa : x8_3 ≤ (x5_1.length : Int))
           obtain ⟨y545, hy545⟩ : ∃ y_ : List Int, y_ = (x5_1.drop (x8_3 : Int).toNat) := ⟨_, rfl⟩
           replace H : (if y542.length + y545.length < 17592186044416 then (spec_NeighborsIn.l0 k3 l0 a1 (y542 ++ y545) (wrap64 (x6_1 + 1))) else (none)) = some r := ry hy545 H
           have Ny545 := am hy545
           clear hy545
           obtain ⟨LMc21, H⟩ := il_ H
           obtain ⟨y549, hy549⟩ : ∃ y_ : List Int, y_ = (y542 ++ y545) := ⟨_, rfl⟩
           replace H : (spec_NeighborsIn.l0 k3 l0 a1 y549 (wrap64 (x6_1 + 1))) = some r := ry hy549 H
           have Ny549 := am hy549
           clear hy549
           have H' := am H
           clear H
           obtain ⟨Ao22, co22, eo22⟩ := Kd.R_slice HO_5.out
           subst eo22
           have p528 : 0 ≤ (x8_3 : Int) := sa
           have q528 : x8_3 < (x5_1.length : Int) := sa
           obtain ⟨ad528, e528, hx528_0⟩ := Kd.at_int (Kd.R_reads' HO_5.out).2.2 x8_3 p528 q528
           cases e528
           replace p528 := eq_true p528
           replace q528 := eq_true q528
           try go_wp2
           replace HO_5 := am (Kd.R_drew HO_5.out)
           replace HB := am (below_drew1 HB.out)
           have q24 : (x8_3 : Int) ≤ ((x5_1.length : Int) : Int) := sa
           obtain ⟨i024, hi024, _, hsz24, _⟩ := info_parts info3
           have hroom24 : x5_1.length ≤ co22 := (Kd.R_reads' HO_5.out).2.1
           have hC24 : Kd.C (Kd.int .i64) _ (some ad528) x5_1.length x5_1 := (Kd.R_reads' HO_5.out).2.2
           have hcut24 := cut_to (P := Try.prog) 28 3 .i64 Try.underlying28 hi024 (some ad528) x5_1.length co22 x8_3 (sa) q24 hroom24
           have hr24 := Kd.C_take (m := (x8_3 : Int).toNat) hC24 (by omega)
           have hy24 : y532.length = (x8_3 : Int).toNat := (by rw [Ny532.out, List.length_take]; omega)
           rw [← Ny532.out] at hr24
           rw [← hy24] at hcut24
           have HR535 := am hr24
           have HC535 := am (show y532.length ≤ co22 from by omega)
           clear hr24 hC24 hroom24 hi024 hsz24
           have KY24 := am hy24
           clear hy24
           have KL24 := am (show (x8_3 : Int).toNat ≤ x5_1.length from by omega)
           replace q24 := eq_true q24
           have q25 : (x8_3 : Int) ≤ ((x5_1.length : Int) : Int) := sa
           obtain ⟨i025, hi025, _, hsz25, _⟩ := info_parts info3
           have hroom25 : x5_1.length ≤ co22 := (Kd.R_reads' HO_5.out).2.1
           have hC25 : Kd.C (Kd.int .i64) _ (some ad528) x5_1.length x5_1 := (Kd.R_reads' HO_5.out).2.2
           have q025 : (0 : Int) ≤ (x8_3 : Int) := sa
           have hcut25 := cut_from (P := Try.prog) 28 3 .i64 Try.underlying28 hi025 1 hsz25 (some ad528) x5_1.length co22 x8_3 q025 q25
           have hr25 := Kd.C_drop (m := (x8_3 : Int).toNat) (c := co22) hC25 (by omega) hroom25
           obtain ⟨A25, hA25⟩ : ∃ A1, A1 = (if co22 = (x8_3 : Int).toNat then (some ad528) else ((some ad528) : Option Addr).map (·.add ((x8_3 : Int).toNat * 1))) := ⟨_, rfl⟩
           obtain ⟨c25, hc25⟩ : ∃ c1, c1 = co22 - (x8_3 : Int).toNat := ⟨_, rfl⟩
           have hy25 : y545.length = x5_1.length - (x8_3 : Int).toNat := (by rw [Ny545.out, List.length_drop] <;> omega)
           rw [show (x5_1).drop (x8_3 : Int).toNat = y545 from Ny545.out.symm] at hr25
           replace hr25 : Kd.C (Kd.int .i64) _ A25 y545.length y545 := (by rw [hA25]; exact hr25)
           rw [← hy25, ← hA25, ← hc25] at hcut25
           have HR548 := am hr25
           have HC548 := am (show y545.length ≤ c25 from by rw [hy25, hc25]; exact Nat.sub_le_sub_right hroom25 _)
           clear hr25 hC25 hroom25 hi025 hsz25 hc25
           have KY25 := am hy25
           have KA25 := am hA25
           clear hy25 hA25
           have KL25 := am (show (x8_3 : Int).toNat ≤ x5_1.length from by omega)
           replace q25 := eq_true q25
           refine start_ (n := 13) (S := fun w' => True) (ds := []) #[false, false, false, false, false, false, false, false, false, false, false, false, false] (by kernel_rfl) rfl rfl trivial (fun hHeld => ?_); refine with_tabW spec_NeighborsIn.tab14 spec_NeighborsIn.bits14 (fun HT_ HW_ => ?_)
           generalize wr.drew = w23 at HO_5 HB HR535 HR548 hHeld ⊢
           refine put 1 67 (bt 13 2) HT_ ?_
           refine put 2 68 (bt 13 6) HT_ ?_
           refine put 3 69 (bt 13 14) HT_ ?_
           refine put 5 71 (bt 13 46) HT_ ?_
           refine put 8 74 (bt 13 302) HT_ ?_
           refine put 9 75 (bt 13 814) HT_ ?_
           refine put 10 76 (bt 13 1838) HT_ ?_
           refine join_ (σ := Value × Value × Value) 3 (bt 13 1919) (fun s_ => [(66, s_.1), (70, s_.2.1), (72, s_.2.2)]) (fun s_ w' => (Kd.R (Kd.int .i64) 3 w' w.heap.size (fun k_ => some k_ ≠ (s_.2.2 : Value).ownBlock ∧ some k_ ≠ (.slice (some ad528) x5_1.length co22 : Value).ownBlock) s_.2.1 y536) ∧ (Kd.R (Kd.int .i64) 3 w' w.heap.size (fun k_ => some k_ ≠ (s_.2.1 : Value).ownBlock ∧ some k_ ≠ (.slice (some ad528) x5_1.length co22 : Value).ownBlock) s_.2.2 y539) ∧ (Kd.R (Kd.int .i64) 3 w' w.heap.size (fun k_ => some k_ ≠ (s_.2.1 : Value).ownBlock ∧ some k_ ≠ (s_.2.2 : Value).ownBlock) (.slice (some ad528) x5_1.length co22) x5_1) ∧ (Below w.heap.size w w')) ?_ ?_
           rotate_left
           ·intro hCont
            refine two_ (i := 0) (j := 6) (Ni := some 66) (Nj := some 72) (bt 13 1839) (bt 13 1902) rfl rfl rfl rfl (two_of HT_.out (by kernel_rfl)) (by decide) (by decide) (fun K hK => ?_) (fun K hK => ?_)
            ·skip
             refine Kd.R_lit_step (Kd.int .i64) _ 3 ?hg (N := 66) ?hd (xs := ([] : List Int)) (inner := []) (ok := fun _ => True) (okp := fun _ => True) ?hr ?hp (fun _ hk => hk) trivial (Below.refl _ _) (Nat.le_refl _) (by simp) ?_; (case hd => rfl); (case hg => rfl); (case hr => first | (go_simp; done) | (go_simp; rfl)); (case hp => exact (Reps.none _ _))
             intro v530 w26 ho27 hb hg_ hnew_
             clear hg_ hnew_
             (first | rw [← Ny529.out] at ho27 | (simp only [Int.reduceToNat] at ho27; rw [← Ny529.out] at ho27))
             have HO531 := am (Kd.R_lower (Kd.R_new' ho27 (Kd.R_lt (sr HO_5))) (below_size (sb)))
             replace HO_5 := am (Kd.R_elder' (sr HO_5) (Kd.R_base ho27) hb)
             replace HR535 := am (Kd.C_below (ca HR535) hb)
             replace HR548 := am (Kd.C_below (ca HR548) hb)
             replace HB := bs hb
             clear hb ho27
             refine hK.out _ _ trivial (fun hHeld => ?_)
             clear hK K
             refine nm 66 ?_
             refine two_ (i := 4) (j := 6) (Ni := some 70) (Nj := some 72) (bt 13 1855) (bt 13 1903) rfl rfl rfl rfl (two_of HT_.out (by kernel_rfl)) (by decide) (by decide) (fun K hK => ?_) (fun K hK => ?_)
             ·skip
              refine Kd.R_append_rows_step (Kd.int .i64) (w0 := w) w.heap.size (by rfl) (.tmp 66) (.tmp 69) 28 3 (.int .i64 0) 8 rfl Try.underlying28 info3 rfl (by decide) (by omega) v530 y529 y532 _ _ _ (fun k_ => some k_ ≠ (.slice (some ad528) x5_1.length co22 : Value).ownBlock) (fun _ => False) rfl rfl ?aO ?aR (fun _ _ h => h) (fun _ h => h.elim) ?aF ?aB ?aS ?aL ?_
              (case aR => repeat (first | exact (ca HR535) | (with_reducible refine Kd.C_alloc ?_ _) | (with_reducible refine Kd.C_drewN ?_ _) | (with_reducible refine Kd.C_drew ?_)))
              (case aB => exact (sb))
              (case aF => exact (fun k_ hk => Kd.fresh' (Kd.R_lt (sr HO_5)) k_ hk))
              (case aO => exact (by (with_reducible repeat (first | apply Kd.R_alloc | apply Kd.R_drewN | apply Kd.R_drew)); exact Kd.R_mono HO531.out (fun _ hk => hk.2)))
              (case aS => exact (below_size (sb)))
              (case aL => have := LMc17.out; omega)
              intro v537 w28 ho hb hg hat
              rw [← Ny536.out] at ho
              replace HB := am hb
              replace HR535 := am ((show Kd.C (Kd.int .i64) w28 (some ad528) y532.length y532 from by rw [Ny532.out]; exact Kd.C_take (m := (x8_3 : Int).toNat) ((Kd.R_reads' (Kd.R_after (ok := (fun _ => True)) (sr HO_5) hg hat)).2.2) KL24.out))
              replace HR548 := am ((show Kd.C (Kd.int .i64) w28 A25 y545.length y545 from by rw [Ny545.out, KA25.out]; exact Kd.C_drop (m := (x8_3 : Int).toNat) (c := co22) ((Kd.R_reads' (Kd.R_after (ok := (fun _ => True)) (sr HO_5) hg hat)).2.2) KL25.out ((Kd.R_reads' (Kd.R_after (ok := (fun _ => True)) (sr HO_5) hg hat)).2.1)))
              replace HO_5 := am (Kd.R_after (ok := (fun _ => True)) (sr HO_5) hg hat)
              have HO538 := am ho
              clear HO531 ho hb hg hat
              refine hK.out _ _ trivial (fun hHeld => ?_)
              clear hK K
              refine nm 70 ?_
              refine one_ (i := 6) (N := some 72) (bt 13 1919) rfl rfl (one_of HT_.out (by kernel_rfl)) (by decide) (fun K hK => ?_)
              refine Kd.R_lit_step (Kd.int .i64) _ 3 ?hg (N := 72) ?hd (xs := ([x7_6] : List Int)) (inner := [.int .i64 x7_6]) (ok := fun _ => True) (okp := fun _ => True) ?hr ?hp (fun _ hk => hk) trivial (Below.refl _ _) (Nat.le_refl _) (by simp) ?_; (case hd => rfl); (case hg => rfl); (case hr => first | (go_simp; done) | (go_simp; rfl)); (case hp => exact (Reps.one (show Kd.M (Kd.int .i64) _ _ _ x7_6 [.int .i64 x7_6] from rfl) (Reps.none _ _)))
              intro v540 w29 ho30 hb hg_ hnew_
              clear hg_ hnew_
              (first | rw [← Ny539.out] at ho30 | (simp only [Int.reduceToNat] at ho30; rw [← Ny539.out] at ho30))
              have HO541 := am (Kd.R_lower (Kd.R_new' (Kd.R_new' ho30 (Kd.R_lt (sr HO_5))) (Kd.R_lt (sr HO538))) (below_size (sb)))
              replace HO_5 := am (Kd.R_elder' (sr HO_5) (Kd.R_base ho30) hb)
              replace HO538 := am (Kd.R_elder' (sr HO538) (Kd.R_base ho30) hb)
              replace HR535 := am (Kd.C_below (ca HR535) hb)
              replace HR548 := am (Kd.C_below (ca HR548) hb)
              replace HB := bs hb
              clear hb ho30
              refine hK.out _ _ trivial (fun hHeld => ?_)
              clear hK K
              refine nm 72 ?_
              exact norm_ (by simp only [putAll, Act.put, List.setIfInBounds_toArray, List.set_cons_zero, List.set_cons_succ]) (hCont (v530, v537, v540) _ ⟨(by (with_reducible repeat (first | apply Kd.R_alloc | apply Kd.R_drewN | apply Kd.R_drew)); exact Kd.R_mono HO538.out (fun _ hk => ⟨hk.2, hk.1⟩)), (by (with_reducible repeat (first | apply Kd.R_alloc | apply Kd.R_drewN | apply Kd.R_drew)); exact Kd.R_mono HO541.out (fun _ hk => ⟨hk.2, hk.1.2⟩)), (by (with_reducible repeat (first | apply Kd.R_alloc | apply Kd.R_drewN | apply Kd.R_drew)); exact Kd.R_mono HO_5.out (fun _ hk => ⟨hk.1.2, hk.2⟩)), (sb)⟩)
             ·skip
              refine Kd.R_lit_step (Kd.int .i64) _ 3 ?hg (N := 72) ?hd (xs := ([x7_6] : List Int)) (inner := [.int .i64 x7_6]) (ok := fun _ => True) (okp := fun _ => True) ?hr ?hp (fun _ hk => hk) trivial (Below.refl _ _) (Nat.le_refl _) (by simp) ?_; (case hd => rfl); (case hg => rfl); (case hr => first | (go_simp; done) | (go_simp; rfl)); (case hp => exact (Reps.one (show Kd.M (Kd.int .i64) _ _ _ x7_6 [.int .i64 x7_6] from rfl) (Reps.none _ _)))
              intro v540 w28 ho29 hb hg_ hnew_
              clear hg_ hnew_
              (first | rw [← Ny539.out] at ho29 | (simp only [Int.reduceToNat] at ho29; rw [← Ny539.out] at ho29))
              have HO541 := am (Kd.R_lower (Kd.R_new' (Kd.R_new' ho29 (Kd.R_lt (sr HO_5))) (Kd.R_lt (sr HO531))) (below_size (sb)))
              replace HO_5 := am (Kd.R_elder' (sr HO_5) (Kd.R_base ho29) hb)
              replace HO531 := am (Kd.R_elder' (sr HO531) (Kd.R_base ho29) hb)
              replace HR535 := am (Kd.C_below (ca HR535) hb)
              replace HR548 := am (Kd.C_below (ca HR548) hb)
              replace HB := bs hb
              clear hb ho29
              refine hK.out _ _ trivial (fun hHeld => ?_)
              clear hK K
              refine nm 72 ?_
              refine one_ (i := 4) (N := some 70) (bt 13 1919) rfl rfl (one_of HT_.out (by kernel_rfl)) (by decide) (fun K hK => ?_)
              refine Kd.R_append_rows_step (Kd.int .i64) (w0 := w) w.heap.size (by rfl) (.tmp 66) (.tmp 69) 28 3 (.int .i64 0) 8 rfl Try.underlying28 info3 rfl (by decide) (by omega) v530 y529 y532 _ _ _ (fun k_ => some k_ ≠ (.slice (some ad528) x5_1.length co22 : Value).ownBlock ∧ some k_ ≠ (v540 : Value).ownBlock) (fun _ => False) rfl rfl ?aO ?aR (fun _ _ h => h) (fun _ h => h.elim) ?aF ?aB ?aS ?aL ?_
              (case aR => repeat (first | exact (ca HR535) | (with_reducible refine Kd.C_alloc ?_ _) | (with_reducible refine Kd.C_drewN ?_ _) | (with_reducible refine Kd.C_drew ?_)))
              (case aB => exact (sb))
              (case aF => exact (fun k_ hk => ⟨Kd.fresh' (Kd.R_lt (sr HO_5)) k_ hk, Kd.fresh' (Kd.R_lt (sr HO541)) k_ hk⟩))
              (case aO => exact (by (with_reducible repeat (first | apply Kd.R_alloc | apply Kd.R_drewN | apply Kd.R_drew)); exact Kd.R_mono HO531.out (fun _ hk => ⟨hk.1.2, hk.2⟩)))
              (case aS => exact (below_size (sb)))
              (case aL => have := LMc17.out; omega)
              intro v537 w30 ho hb hg hat
              rw [← Ny536.out] at ho
              replace HO541 := am (Kd.R_after (ok := (fun k_ => some k_ ≠ (.slice (some ad528) x5_1.length co22 : Value).ownBlock)) (by (with_reducible repeat (first | apply Kd.R_alloc | apply Kd.R_drewN | apply Kd.R_drew)); exact Kd.R_mono HO541.out (fun _ hk => ⟨hk.1.2, hk.2⟩)) hg hat)
              replace HB := am hb
              replace HR535 := am ((show Kd.C (Kd.int .i64) w30 (some ad528) y532.length y532 from by rw [Ny532.out]; exact Kd.C_take (m := (x8_3 : Int).toNat) ((Kd.R_reads' (Kd.R_after (ok := (fun k_ => some k_ ≠ (v540 : Value).ownBlock)) (by (with_reducible repeat (first | apply Kd.R_alloc | apply Kd.R_drewN | apply Kd.R_drew)); exact Kd.R_mono HO_5.out (fun _ hk => ⟨hk.2, hk.1.2⟩)) hg hat)).2.2) KL24.out))
              replace HR548 := am ((show Kd.C (Kd.int .i64) w30 A25 y545.length y545 from by rw [Ny545.out, KA25.out]; exact Kd.C_drop (m := (x8_3 : Int).toNat) (c := co22) ((Kd.R_reads' (Kd.R_after (ok := (fun k_ => some k_ ≠ (v540 : Value).ownBlock)) (by (with_reducible repeat (first | apply Kd.R_alloc | apply Kd.R_drewN | apply Kd.R_drew)); exact Kd.R_mono HO_5.out (fun _ hk => ⟨hk.2, hk.1.2⟩)) hg hat)).2.2) KL25.out ((Kd.R_reads' (Kd.R_after (ok := (fun k_ => some k_ ≠ (v540 : Value).ownBlock)) (by (with_reducible repeat (first | apply Kd.R_alloc | apply Kd.R_drewN | apply Kd.R_drew)); exact Kd.R_mono HO_5.out (fun _ hk => ⟨hk.2, hk.1.2⟩)) hg hat)).2.1)))
              replace HO_5 := am (Kd.R_after (ok := (fun k_ => some k_ ≠ (v540 : Value).ownBlock)) (by (with_reducible repeat (first | apply Kd.R_alloc | apply Kd.R_drewN | apply Kd.R_drew)); exact Kd.R_mono HO_5.out (fun _ hk => ⟨hk.2, hk.1.2⟩)) hg hat)
              have HO538 := am ho
              clear HO531 ho hb hg hat
              refine hK.out _ _ trivial (fun hHeld => ?_)
              clear hK K
              refine nm 70 ?_
              exact norm_ (by simp only [putAll, Act.put, List.setIfInBounds_toArray, List.set_cons_zero, List.set_cons_succ]) (hCont (v530, v537, v540) _ ⟨(by (with_reducible repeat (first | apply Kd.R_alloc | apply Kd.R_drewN | apply Kd.R_drew)); exact Kd.R_mono HO538.out (fun _ hk => ⟨hk.2, hk.1⟩)), (by (with_reducible repeat (first | apply Kd.R_alloc | apply Kd.R_drewN | apply Kd.R_drew)); exact Kd.R_mono HO541.out (fun _ hk => ⟨hk.2, hk.1⟩)), (by (with_reducible repeat (first | apply Kd.R_alloc | apply Kd.R_drewN | apply Kd.R_drew)); exact Kd.R_mono HO_5.out (fun _ hk => ⟨hk.2, hk.1⟩)), (sb)⟩)
            ·skip
             refine Kd.R_lit_step (Kd.int .i64) _ 3 ?hg (N := 72) ?hd (xs := ([x7_6] : List Int)) (inner := [.int .i64 x7_6]) (ok := fun _ => True) (okp := fun _ => True) ?hr ?hp (fun _ hk => hk) trivial (Below.refl _ _) (Nat.le_refl _) (by simp) ?_; (case hd => rfl); (case hg => rfl); (case hr => first | (go_simp; done) | (go_simp; rfl)); (case hp => exact (Reps.one (show Kd.M (Kd.int .i64) _ _ _ x7_6 [.int .i64 x7_6] from rfl) (Reps.none _ _)))
             intro v540 w26 ho27 hb hg_ hnew_
             clear hg_ hnew_
             (first | rw [← Ny539.out] at ho27 | (simp only [Int.reduceToNat] at ho27; rw [← Ny539.out] at ho27))
             have HO541 := am (Kd.R_lower (Kd.R_new' ho27 (Kd.R_lt (sr HO_5))) (below_size (sb)))
             replace HO_5 := am (Kd.R_elder' (sr HO_5) (Kd.R_base ho27) hb)
             replace HR535 := am (Kd.C_below (ca HR535) hb)
             replace HR548 := am (Kd.C_below (ca HR548) hb)
             replace HB := bs hb
             clear hb ho27
             refine hK.out _ _ trivial (fun hHeld => ?_)
             clear hK K
             refine nm 72 ?_
             refine one_ (i := 0) (N := some 66) (bt 13 1903) rfl rfl (one_of HT_.out (by kernel_rfl)) (by decide) (fun K hK => ?_)
             refine Kd.R_lit_step (Kd.int .i64) _ 3 ?hg (N := 66) ?hd (xs := ([] : List Int)) (inner := []) (ok := fun _ => True) (okp := fun _ => True) ?hr ?hp (fun _ hk => hk) trivial (Below.refl _ _) (Nat.le_refl _) (by simp) ?_; (case hd => rfl); (case hg => rfl); (case hr => first | (go_simp; done) | (go_simp; rfl)); (case hp => exact (Reps.none _ _))
             intro v530 w28 ho29 hb hg_ hnew_
             clear hg_ hnew_
             (first | rw [← Ny529.out] at ho29 | (simp only [Int.reduceToNat] at ho29; rw [← Ny529.out] at ho29))
             have HO531 := am (Kd.R_lower (Kd.R_new' (Kd.R_new' ho29 (Kd.R_lt (sr HO_5))) (Kd.R_lt (sr HO541))) (below_size (sb)))
             replace HO_5 := am (Kd.R_elder' (sr HO_5) (Kd.R_base ho29) hb)
             replace HO541 := am (Kd.R_elder' (sr HO541) (Kd.R_base ho29) hb)
             replace HR535 := am (Kd.C_below (ca HR535) hb)
             replace HR548 := am (Kd.C_below (ca HR548) hb)
             replace HB := bs hb
             clear hb ho29
             refine hK.out _ _ trivial (fun hHeld => ?_)
             clear hK K
             refine nm 66 ?_
             refine one_ (i := 4) (N := some 70) (bt 13 1919) rfl rfl (one_of HT_.out (by kernel_rfl)) (by decide) (fun K hK => ?_)
             refine Kd.R_append_rows_step (Kd.int .i64) (w0 := w) w.heap.size (by rfl) (.tmp 66) (.tmp 69) 28 3 (.int .i64 0) 8 rfl Try.underlying28 info3 rfl (by decide) (by omega) v530 y529 y532 _ _ _ (fun k_ => some k_ ≠ (.slice (some ad528) x5_1.length co22 : Value).ownBlock ∧ some k_ ≠ (v540 : Value).ownBlock) (fun _ => False) rfl rfl ?aO ?aR (fun _ _ h => h) (fun _ h => h.elim) ?aF ?aB ?aS ?aL ?_
             (case aR => repeat (first | exact (ca HR535) | (with_reducible refine Kd.C_alloc ?_ _) | (with_reducible refine Kd.C_drewN ?_ _) | (with_reducible refine Kd.C_drew ?_)))
             (case aB => exact (sb))
             (case aF => exact (fun k_ hk => ⟨Kd.fresh' (Kd.R_lt (sr HO_5)) k_ hk, Kd.fresh' (Kd.R_lt (sr HO541)) k_ hk⟩))
             (case aO => exact (by (with_reducible repeat (first | apply Kd.R_alloc | apply Kd.R_drewN | apply Kd.R_drew)); exact Kd.R_mono HO531.out (fun _ hk => ⟨hk.1.2, hk.2⟩)))
             (case aS => exact (below_size (sb)))
             (case aL => have := LMc17.out; omega)
             intro v537 w30 ho hb hg hat
             rw [← Ny536.out] at ho
             replace HO541 := am (Kd.R_after (ok := (fun k_ => some k_ ≠ (.slice (some ad528) x5_1.length co22 : Value).ownBlock)) (by (with_reducible repeat (first | apply Kd.R_alloc | apply Kd.R_drewN | apply Kd.R_drew)); exact Kd.R_mono HO541.out (fun _ hk => ⟨hk.1.2, hk.2⟩)) hg hat)
             replace HB := am hb
             replace HR535 := am ((show Kd.C (Kd.int .i64) w30 (some ad528) y532.length y532 from by rw [Ny532.out]; exact Kd.C_take (m := (x8_3 : Int).toNat) ((Kd.R_reads' (Kd.R_after (ok := (fun k_ => some k_ ≠ (v540 : Value).ownBlock)) (by (with_reducible repeat (first | apply Kd.R_alloc | apply Kd.R_drewN | apply Kd.R_drew)); exact Kd.R_mono HO_5.out (fun _ hk => ⟨hk.1.2, hk.2⟩)) hg hat)).2.2) KL24.out))
             replace HR548 := am ((show Kd.C (Kd.int .i64) w30 A25 y545.length y545 from by rw [Ny545.out, KA25.out]; exact Kd.C_drop (m := (x8_3 : Int).toNat) (c := co22) ((Kd.R_reads' (Kd.R_after (ok := (fun k_ => some k_ ≠ (v540 : Value).ownBlock)) (by (with_reducible repeat (first | apply Kd.R_alloc | apply Kd.R_drewN | apply Kd.R_drew)); exact Kd.R_mono HO_5.out (fun _ hk => ⟨hk.1.2, hk.2⟩)) hg hat)).2.2) KL25.out ((Kd.R_reads' (Kd.R_after (ok := (fun k_ => some k_ ≠ (v540 : Value).ownBlock)) (by (with_reducible repeat (first | apply Kd.R_alloc | apply Kd.R_drewN | apply Kd.R_drew)); exact Kd.R_mono HO_5.out (fun _ hk => ⟨hk.1.2, hk.2⟩)) hg hat)).2.1)))
             replace HO_5 := am (Kd.R_after (ok := (fun k_ => some k_ ≠ (v540 : Value).ownBlock)) (by (with_reducible repeat (first | apply Kd.R_alloc | apply Kd.R_drewN | apply Kd.R_drew)); exact Kd.R_mono HO_5.out (fun _ hk => ⟨hk.1.2, hk.2⟩)) hg hat)
             have HO538 := am ho
             clear HO531 ho hb hg hat
             refine hK.out _ _ trivial (fun hHeld => ?_)
             clear hK K
             refine nm 70 ?_
             exact norm_ (by simp only [putAll, Act.put, List.setIfInBounds_toArray, List.set_cons_zero, List.set_cons_succ]) (hCont (v530, v537, v540) _ ⟨(by (with_reducible repeat (first | apply Kd.R_alloc | apply Kd.R_drewN | apply Kd.R_drew)); exact Kd.R_mono HO538.out (fun _ hk => ⟨hk.2, hk.1⟩)), (by (with_reducible repeat (first | apply Kd.R_alloc | apply Kd.R_drewN | apply Kd.R_drew)); exact Kd.R_mono HO541.out (fun _ hk => ⟨hk.2, hk.1⟩)), (by (with_reducible repeat (first | apply Kd.R_alloc | apply Kd.R_drewN | apply Kd.R_drew)); exact Kd.R_mono HO_5.out (fun _ hk => ⟨hk.2, hk.1⟩)), (sb)⟩)
           rintro ⟨v530, v537, v540⟩ w31 ⟨h0_, h1_, h2_, h3_⟩
           have HO538 : Aside0 (Kd.R (Kd.int .i64) 3 w31 w.heap.size (fun k_ => some k_ ≠ (v540 : Value).ownBlock ∧ some k_ ≠ (.slice (some ad528) x5_1.length co22 : Value).ownBlock) v537 y536) := ⟨h0_⟩
           have HO541 : Aside0 (Kd.R (Kd.int .i64) 3 w31 w.heap.size (fun k_ => some k_ ≠ (v537 : Value).ownBlock ∧ some k_ ≠ (.slice (some ad528) x5_1.length co22 : Value).ownBlock) v540 y539) := ⟨h1_⟩
           replace HO_5 : Aside0 (Kd.R (Kd.int .i64) 3 w31 w.heap.size (fun k_ => some k_ ≠ (v537 : Value).ownBlock ∧ some k_ ≠ (v540 : Value).ownBlock) (.slice (some ad528) x5_1.length co22) x5_1) := ⟨h2_⟩
           replace HB : Aside0 (Below w.heap.size w w31) := ⟨h3_⟩
           clear h0_ h1_ h2_ h3_
           have hHeld := trivial
           obtain ⟨Ao33, co33, eo33⟩ := Kd.R_slice HO541.out
           (first | subst eo33 | (injection eo33 with f1_ f2_ f3_; have f4_ := f1_.symm; have f5_ := f3_.symm; clear f1_ f2_ f3_; subst f4_; subst f5_))
           refine norm_ (a' := ?_) ?_ ?_
           rotate_left
           ·simp only [putAll, Act.put, List.setIfInBounds_toArray, List.set_cons_zero, List.set_cons_succ]
            rfl
           refine one_ (i := 7) (N := some 73) (bt 13 2047) rfl rfl (one_of HT_.out (by kernel_rfl)) (by decide) (fun K hK => ?_)
           refine Kd.R_append_rows_step (Kd.int .i64) (w0 := w) w.heap.size (by rfl) (.tmp 70) (.tmp 72) 28 3 (.int .i64 0) 8 rfl Try.underlying28 info3 rfl (by decide) (by omega) v537 y536 y539 _ _ _ (fun k_ => some k_ ≠ (.slice (some ad528) x5_1.length co22 : Value).ownBlock ∧ some k_ ≠ (.slice Ao33 y539.length co33 : Value).ownBlock) (fun _ => False) rfl rfl ?aO ?aR (fun _ _ h => h) (fun _ h => h.elim) ?aF ?aB ?aS ?aL ?_
           (case aR => repeat (first | exact (Kd.R_reads' HO541.out).2.2 | (with_reducible refine Kd.C_alloc ?_ _) | (with_reducible refine Kd.C_drewN ?_ _) | (with_reducible refine Kd.C_drew ?_)))
           (case aB => exact (sb))
           (case aF => exact (fun k_ hk => ⟨Kd.fresh' (Kd.R_lt (sr HO_5)) k_ hk, Kd.fresh' (Kd.R_lt (sr HO541)) k_ hk⟩))
           (case aO => exact (by (with_reducible repeat (first | apply Kd.R_alloc | apply Kd.R_drewN | apply Kd.R_drew)); exact Kd.R_mono HO538.out (fun _ hk => ⟨hk.2, hk.1⟩)))
           (case aS => exact (below_size (sb)))
           (case aL => have := LMc18.out; omega)
           intro v543 w32 ho hb hg hat
           rw [← Ny542.out] at ho
           replace HO_5 := am (Kd.R_after (ok := (fun k_ => some k_ ≠ (.slice Ao33 y539.length co33 : Value).ownBlock)) (by (with_reducible repeat (first | apply Kd.R_alloc | apply Kd.R_drewN | apply Kd.R_drew)); exact Kd.R_mono HO_5.out (fun _ hk => ⟨hk.2, hk.1⟩)) hg hat)
           replace HO541 := am (Kd.R_after (ok := (fun k_ => some k_ ≠ (.slice (some ad528) x5_1.length co22 : Value).ownBlock)) (by (with_reducible repeat (first | apply Kd.R_alloc | apply Kd.R_drewN | apply Kd.R_drew)); exact Kd.R_mono HO541.out (fun _ hk => ⟨hk.2, hk.1⟩)) hg hat)
           replace HB := am hb
           have HO544 := am ho
           clear HO538 ho hb hg hat
           refine hK.out _ _ trivial (fun hHeld => ?_)
           clear hK K
           refine nm 73 ?_
           refine one_ (i := 11) (N := some 77) (bt 13 4095) rfl rfl (one_of HT_.out (by kernel_rfl)) (by decide) (fun K hK => ?_)
           refine Kd.R_append_rows_step (Kd.int .i64) (w0 := w) w.heap.size (by rfl) (.tmp 73) (.tmp 76) 28 3 (.int .i64 0) 8 rfl Try.underlying28 info3 rfl (by decide) (by omega) v543 y542 y545 _ _ _ (fun k_ => some k_ ≠ (.slice (some ad528) x5_1.length co22 : Value).ownBlock ∧ some k_ ≠ (.slice Ao33 y539.length co33 : Value).ownBlock) (fun _ => False) rfl rfl ?aO ?aR (fun _ _ h => h) (fun _ h => h.elim) ?aF ?aB ?aS ?aL ?_
           (case aR => exact (show Kd.C (Kd.int .i64) _ A25 y545.length y545 from by rw [Ny545.out, KA25.out]; exact Kd.C_drop (m := (x8_3 : Int).toNat) (c := co22) ((Kd.R_reads' (sr HO_5)).2.2) KL25.out ((Kd.R_reads' HO_5.out).2.1)))
           (case aB => exact (sb))
           (case aF => exact (fun k_ hk => ⟨Kd.fresh' (Kd.R_lt (sr HO_5)) k_ hk, Kd.fresh' (Kd.R_lt (sr HO541)) k_ hk⟩))
           (case aO => exact (sr HO544))
           (case aS => exact (below_size (sb)))
           (case aL => have := LMc21.out; omega)
           intro v550 w34 ho hb hg hat
           rw [← Ny549.out] at ho
           replace HO_5 := am (Kd.R_after (ok := (fun k_ => some k_ ≠ (.slice Ao33 y539.length co33 : Value).ownBlock)) (sr HO_5) hg hat)
           replace HO541 := am (Kd.R_after (ok := (fun k_ => some k_ ≠ (.slice (some ad528) x5_1.length co22 : Value).ownBlock)) (sr HO541) hg hat)
           replace HB := am hb
           have HO551 := am ho
           clear HO544 ho hb hg hat
           refine hK.out _ _ trivial (fun hHeld => ?_)
           clear hK K
           refine nm 77 ?_
           refine put 12 5 (bt 13 8191) HT_ ?_
           refine done_ (done_of HT_.out (by kernel_rfl)) ?_
           try go_wp2
           go_roundg k3
           case measure => have := HK1.out; have := HJ6.out; have := HK3.out; omega
           case rel => exact ⟨(y549), (wrap64 (x6_1 + 1)), sc, H', ⟨by have := HK1.out; have := HJ6.out; have := HK3.out; omega⟩, ⟨by (with_reducible repeat (first | apply Kd.R_alloc | apply Kd.R_drewN | apply Kd.R_drew)); exact Kd.R_mono HO551.out (fun _ hk => trivial)⟩, ⟨sb⟩⟩
          ·have c14b0 : (x8_3 == (x5_1.length : Int)) = false := beq_eq_false_iff_ne.mpr c14
           have c14b1 : (x8_3 != (x5_1.length : Int)) = true := bne_iff_ne.mpr c14
           obtain ⟨c35, H⟩ | ⟨c35, H⟩ := ie_ H
           ·have c35b0 : ((rd x5_1 x8_3) == x7_6) = true := beq_iff_eq.mpr c35
            have c35b1 : ((rd x5_1 x8_3) != x7_6) = false := bne_eq_false_iff_eq.mpr c35
            clear c35
            have H' := am H
            clear H
            obtain ⟨Ao36, co36, eo36⟩ := Kd.R_slice HO_5.out
            subst eo36
            have p528 : 0 ≤ (x8_3 : Int) := sa
            have q528 : x8_3 < (x5_1.length : Int) := sa
            obtain ⟨ad528, e528, hx528_0⟩ := Kd.at_int (Kd.R_reads' HO_5.out).2.2 x8_3 p528 q528
            cases e528
            replace p528 := eq_true p528
            replace q528 := eq_true q528
            have p552 : 0 ≤ (x8_3 : Int) := sa
            have q552 : x8_3 < (x5_1.length : Int) := sa
            obtain ⟨ad552, e552, hx552_0⟩ := Kd.at_int (Kd.R_reads' HO_5.out).2.2 x8_3 p552 q552
            obtain rfl : ad528 = ad552 := (by injection e552)
            replace p552 := eq_true p552
            replace q552 := eq_true q552
            go_wp2
            go_roundg k3
            case measure => have := HK1.out; have := HJ6.out; have := HK3.out; omega
            case rel => exact ⟨(x5_1), (wrap64 (x6_1 + 1)), sc, H', ⟨by have := HK1.out; have := HJ6.out; have := HK3.out; omega⟩, ⟨sr HO_5⟩, ⟨sb⟩⟩
           ·have c35b0 : ((rd x5_1 x8_3) == x7_6) = false := beq_eq_false_iff_ne.mpr c35
            have c35b1 : ((rd x5_1 x8_3) != x7_6) = true := bne_iff_ne.mpr c35
            obtain ⟨y553, hy553⟩ : ∃ y_ : List Int, y_ = (([] : List Int)) := ⟨_, rfl⟩
            replace H : (if x8_3 ≤ (x5_1.length : Int) then ((some (x5_1.take (x8_3 : Int).toNat : List Int)).bind fun y556 => (if y553.length + y556.length < 17592186044416 then ((some (y553 ++ y556 : List Int)).bind fun y560 => ((some (([x7_6] : List Int) : List Int)).bind fun y563 => (if y560.length + y563.length < 17592186044416 then ((some (y560 ++ y563 : List Int)).bind fun y566 => ((some (x5_1.drop (x8_3 : Int).toNat : List Int)).bind fun y569 => (if y566.length + y569.length < 17592186044416 then (spec_NeighborsIn.l0 k3 l0 a1 (y566 ++ y569) (wrap64 (x6_1 + 1))) else (none)))) else (none)))) else (none))) else (none)) = some r := ry hy553 H
            have Ny553 := am hy553
            clear hy553
            have c37b0 := eq_true (sa : 0 ≤ x8_3)
            obtain ⟨c38, H⟩ := ia_ H
            have c38b0 := eq_true c38
            have c38b1 := decide_eq_true c38
            clear c38
            obtain ⟨y556, hy556⟩ : ∃ y_ : List Int, y_ = (x5_1.take (x8_3 : Int).toNat) := ⟨_, rfl⟩
            replace H : (if y553.length + y556.length < 17592186044416 then ((some (y553 ++ y556 : List Int)).bind fun y560 => ((some (([x7_6] : List Int) : List Int)).bind fun y563 => (if y560.length + y563.length < 17592186044416 then ((some (y560 ++ y563 : List Int)).bind fun y566 => ((some (x5_1.drop (x8_3 : Int).toNat : List Int)).bind fun y569 => (if y566.length + y569.length < 17592186044416 then (spec_NeighborsIn.l0 k3 l0 a1 (y566 ++ y569) (wrap64 (x6_1 + 1))) else (none)))) else (none)))) else (none)) = some r := ry hy556 H
            have Ny556 := am hy556
            clear hy556
            obtain ⟨LMc39, H⟩ := il_ H
            obtain ⟨y560, hy560⟩ : ∃ y_ : List Int, y_ = (y553 ++ y556) := ⟨_, rfl⟩
            replace H : ((some (([x7_6] : List Int) : List Int)).bind fun y563 => (if y560.length + y563.length < 17592186044416 then ((some (y560 ++ y563 : List Int)).bind fun y566 => ((some (x5_1.drop (x8_3 : Int).toNat : List Int)).bind fun y569 => (if y566.length + y569.length < 17592186044416 then (spec_NeighborsIn.l0 k3 l0 a1 (y566 ++ y569) (wrap64 (x6_1 + 1))) else (none)))) else (none))) = some r := ry hy560 H
            have Ny560 := am hy560
            clear hy560
            obtain ⟨y563, hy563⟩ : ∃ y_ : List Int, y_ = (([x7_6] : List Int)) := ⟨_, rfl⟩
            replace H : (if y560.length + y563.length < 17592186044416 then ((some (y560 ++ y563 : List Int)).bind fun y566 => ((some (x5_1.drop (x8_3 : Int).toNat : List Int)).bind fun y569 => (if y566.length + y569.length < 17592186044416 then (spec_NeighborsIn.l0 k3 l0 a1 (y566 ++ y569) (wrap64 (x6_1 + 1))) else (none)))) else (none)) = some r := ry hy563 H
            have Ny563 := am hy563
            clear hy563
            obtain ⟨LMc40, H⟩ := il_ H
            obtain ⟨y566, hy566⟩ : ∃ y_ : List Int, y_ = (y560 ++ y563) := ⟨_, rfl⟩
            replace H : ((some (x5_1.drop (x8_3 : Int).toNat : List Int)).bind fun y569 => (if y566.length + y569.length < 17592186044416 then (spec_NeighborsIn.l0 k3 l0 a1 (y566 ++ y569) (wrap64 (x6_1 + 1))) else (none))) = some r := ry hy566 H
            have Ny566 := am hy566
            clear hy566
            have c41b0 := eq_true (sa : 0 ≤ x8_3)
            have c42b0 := eq_true (sa : x8_3 ≤ (x5_1.length : Int))
            obtain ⟨y569, hy569⟩ : ∃ y_ : List Int, y_ = (x5_1.drop (x8_3 : Int).toNat) := ⟨_, rfl⟩
            replace H : (if y566.length + y569.length < 17592186044416 then (spec_NeighborsIn.l0 k3 l0 a1 (y566 ++ y569) (wrap64 (x6_1 + 1))) else (none)) = some r := ry hy569 H
            have Ny569 := am hy569
            clear hy569
            obtain ⟨LMc43, H⟩ := il_ H
            obtain ⟨y573, hy573⟩ : ∃ y_ : List Int, y_ = (y566 ++ y569) := ⟨_, rfl⟩
            replace H : (spec_NeighborsIn.l0 k3 l0 a1 y573 (wrap64 (x6_1 + 1))) = some r := ry hy573 H
            have Ny573 := am hy573
            clear hy573
            have H' := am H
            clear H
            obtain ⟨Ao44, co44, eo44⟩ := Kd.R_slice HO_5.out
            subst eo44
            have p528 : 0 ≤ (x8_3 : Int) := sa
            have q528 : x8_3 < (x5_1.length : Int) := sa
            obtain ⟨ad528, e528, hx528_0⟩ := Kd.at_int (Kd.R_reads' HO_5.out).2.2 x8_3 p528 q528
            cases e528
            replace p528 := eq_true p528
            replace q528 := eq_true q528
            have p552 : 0 ≤ (x8_3 : Int) := sa
            have q552 : x8_3 < (x5_1.length : Int) := sa
            obtain ⟨ad552, e552, hx552_0⟩ := Kd.at_int (Kd.R_reads' HO_5.out).2.2 x8_3 p552 q552
            obtain rfl : ad528 = ad552 := (by injection e552)
            replace p552 := eq_true p552
            replace q552 := eq_true q552
            try go_wp2
            replace HO_5 := am (Kd.R_drew HO_5.out)
            replace HB := am (below_drew1 HB.out)
            have q46 : (x8_3 : Int) ≤ ((x5_1.length : Int) : Int) := sa
            obtain ⟨i046, hi046, _, hsz46, _⟩ := info_parts info3
            have hroom46 : x5_1.length ≤ co44 := (Kd.R_reads' HO_5.out).2.1
            have hC46 : Kd.C (Kd.int .i64) _ (some ad528) x5_1.length x5_1 := (Kd.R_reads' HO_5.out).2.2
            have hcut46 := cut_to (P := Try.prog) 28 3 .i64 Try.underlying28 hi046 (some ad528) x5_1.length co44 x8_3 (sa) q46 hroom46
            have hr46 := Kd.C_take (m := (x8_3 : Int).toNat) hC46 (by omega)
            have hy46 : y556.length = (x8_3 : Int).toNat := (by rw [Ny556.out, List.length_take]; omega)
            rw [← Ny556.out] at hr46
            rw [← hy46] at hcut46
            have HR559 := am hr46
            have HC559 := am (show y556.length ≤ co44 from by omega)
            clear hr46 hC46 hroom46 hi046 hsz46
            have KY46 := am hy46
            clear hy46
            have KL46 := am (show (x8_3 : Int).toNat ≤ x5_1.length from by omega)
            replace q46 := eq_true q46
            have q47 : (x8_3 : Int) ≤ ((x5_1.length : Int) : Int) := sa
            obtain ⟨i047, hi047, _, hsz47, _⟩ := info_parts info3
            have hroom47 : x5_1.length ≤ co44 := (Kd.R_reads' HO_5.out).2.1
            have hC47 : Kd.C (Kd.int .i64) _ (some ad528) x5_1.length x5_1 := (Kd.R_reads' HO_5.out).2.2
            have q047 : (0 : Int) ≤ (x8_3 : Int) := sa
            have hcut47 := cut_from (P := Try.prog) 28 3 .i64 Try.underlying28 hi047 1 hsz47 (some ad528) x5_1.length co44 x8_3 q047 q47
            have hr47 := Kd.C_drop (m := (x8_3 : Int).toNat) (c := co44) hC47 (by omega) hroom47
            obtain ⟨A47, hA47⟩ : ∃ A1, A1 = (if co44 = (x8_3 : Int).toNat then (some ad528) else ((some ad528) : Option Addr).map (·.add ((x8_3 : Int).toNat * 1))) := ⟨_, rfl⟩
            obtain ⟨c47, hc47⟩ : ∃ c1, c1 = co44 - (x8_3 : Int).toNat := ⟨_, rfl⟩
            have hy47 : y569.length = x5_1.length - (x8_3 : Int).toNat := (by rw [Ny569.out, List.length_drop] <;> omega)
            rw [show (x5_1).drop (x8_3 : Int).toNat = y569 from Ny569.out.symm] at hr47
            replace hr47 : Kd.C (Kd.int .i64) _ A47 y569.length y569 := (by rw [hA47]; exact hr47)
            rw [← hy47, ← hA47, ← hc47] at hcut47
            have HR572 := am hr47
            have HC572 := am (show y569.length ≤ c47 from by rw [hy47, hc47]; exact Nat.sub_le_sub_right hroom47 _)
            clear hr47 hC47 hroom47 hi047 hsz47 hc47
            have KY47 := am hy47
            have KA47 := am hA47
            clear hy47 hA47
            have KL47 := am (show (x8_3 : Int).toNat ≤ x5_1.length from by omega)
            replace q47 := eq_true q47
            refine start_ (n := 13) (S := fun w' => True) (ds := []) #[false, false, false, false, false, false, false, false, false, false, false, false, false] (by kernel_rfl) rfl rfl trivial (fun hHeld => ?_); refine with_tabW spec_NeighborsIn.tab14 spec_NeighborsIn.bits14 (fun HT_ HW_ => ?_)
            generalize wr.drew = w45 at HO_5 HB HR559 HR572 hHeld ⊢
            refine put 1 67 (bt 13 2) HT_ ?_
            refine put 2 68 (bt 13 6) HT_ ?_
            refine put 3 69 (bt 13 14) HT_ ?_
            refine put 5 71 (bt 13 46) HT_ ?_
            refine put 8 74 (bt 13 302) HT_ ?_
            refine put 9 75 (bt 13 814) HT_ ?_
            refine put 10 76 (bt 13 1838) HT_ ?_
            refine join_ (σ := Value × Value × Value) 3 (bt 13 1919) (fun s_ => [(66, s_.1), (70, s_.2.1), (72, s_.2.2)]) (fun s_ w' => (Kd.R (Kd.int .i64) 3 w' w.heap.size (fun k_ => some k_ ≠ (s_.2.2 : Value).ownBlock ∧ some k_ ≠ (.slice (some ad528) x5_1.length co44 : Value).ownBlock) s_.2.1 y560) ∧ (Kd.R (Kd.int .i64) 3 w' w.heap.size (fun k_ => some k_ ≠ (s_.2.1 : Value).ownBlock ∧ some k_ ≠ (.slice (some ad528) x5_1.length co44 : Value).ownBlock) s_.2.2 y563) ∧ (Kd.R (Kd.int .i64) 3 w' w.heap.size (fun k_ => some k_ ≠ (s_.2.1 : Value).ownBlock ∧ some k_ ≠ (s_.2.2 : Value).ownBlock) (.slice (some ad528) x5_1.length co44) x5_1) ∧ (Below w.heap.size w w')) ?_ ?_
            rotate_left
            ·intro hCont
             refine two_ (i := 0) (j := 6) (Ni := some 66) (Nj := some 72) (bt 13 1839) (bt 13 1902) rfl rfl rfl rfl (two_of HT_.out (by kernel_rfl)) (by decide) (by decide) (fun K hK => ?_) (fun K hK => ?_)
             ·skip
              refine Kd.R_lit_step (Kd.int .i64) _ 3 ?hg (N := 66) ?hd (xs := ([] : List Int)) (inner := []) (ok := fun _ => True) (okp := fun _ => True) ?hr ?hp (fun _ hk => hk) trivial (Below.refl _ _) (Nat.le_refl _) (by simp) ?_; (case hd => rfl); (case hg => rfl); (case hr => first | (go_simp; done) | (go_simp; rfl)); (case hp => exact (Reps.none _ _))
              intro v554 w48 ho49 hb hg_ hnew_
              clear hg_ hnew_
              (first | rw [← Ny553.out] at ho49 | (simp only [Int.reduceToNat] at ho49; rw [← Ny553.out] at ho49))
              have HO555 := am (Kd.R_lower (Kd.R_new' ho49 (Kd.R_lt (sr HO_5))) (below_size (sb)))
              replace HO_5 := am (Kd.R_elder' (sr HO_5) (Kd.R_base ho49) hb)
              replace HR559 := am (Kd.C_below (ca HR559) hb)
              replace HR572 := am (Kd.C_below (ca HR572) hb)
              replace HB := bs hb
              clear hb ho49
              refine hK.out _ _ trivial (fun hHeld => ?_)
              clear hK K
              refine nm 66 ?_
              refine two_ (i := 4) (j := 6) (Ni := some 70) (Nj := some 72) (bt 13 1855) (bt 13 1903) rfl rfl rfl rfl (two_of HT_.out (by kernel_rfl)) (by decide) (by decide) (fun K hK => ?_) (fun K hK => ?_)
              ·skip
               refine Kd.R_append_rows_step (Kd.int .i64) (w0 := w) w.heap.size (by rfl) (.tmp 66) (.tmp 69) 28 3 (.int .i64 0) 8 rfl Try.underlying28 info3 rfl (by decide) (by omega) v554 y553 y556 _ _ _ (fun k_ => some k_ ≠ (.slice (some ad528) x5_1.length co44 : Value).ownBlock) (fun _ => False) rfl rfl ?aO ?aR (fun _ _ h => h) (fun _ h => h.elim) ?aF ?aB ?aS ?aL ?_
               (case aR => repeat (first | exact (ca HR559) | (with_reducible refine Kd.C_alloc ?_ _) | (with_reducible refine Kd.C_drewN ?_ _) | (with_reducible refine Kd.C_drew ?_)))
               (case aB => exact (sb))
               (case aF => exact (fun k_ hk => Kd.fresh' (Kd.R_lt (sr HO_5)) k_ hk))
               (case aO => exact (by (with_reducible repeat (first | apply Kd.R_alloc | apply Kd.R_drewN | apply Kd.R_drew)); exact Kd.R_mono HO555.out (fun _ hk => hk.2)))
               (case aS => exact (below_size (sb)))
               (case aL => have := LMc39.out; omega)
               intro v561 w50 ho hb hg hat
               rw [← Ny560.out] at ho
               replace HB := am hb
               replace HR559 := am ((show Kd.C (Kd.int .i64) w50 (some ad528) y556.length y556 from by rw [Ny556.out]; exact Kd.C_take (m := (x8_3 : Int).toNat) ((Kd.R_reads' (Kd.R_after (ok := (fun _ => True)) (sr HO_5) hg hat)).2.2) KL46.out))
               replace HR572 := am ((show Kd.C (Kd.int .i64) w50 A47 y569.length y569 from by rw [Ny569.out, KA47.out]; exact Kd.C_drop (m := (x8_3 : Int).toNat) (c := co44) ((Kd.R_reads' (Kd.R_after (ok := (fun _ => True)) (sr HO_5) hg hat)).2.2) KL47.out ((Kd.R_reads' (Kd.R_after (ok := (fun _ => True)) (sr HO_5) hg hat)).2.1)))
               replace HO_5 := am (Kd.R_after (ok := (fun _ => True)) (sr HO_5) hg hat)
               have HO562 := am ho
               clear HO555 ho hb hg hat
               refine hK.out _ _ trivial (fun hHeld => ?_)
               clear hK K
               refine nm 70 ?_
               refine one_ (i := 6) (N := some 72) (bt 13 1919) rfl rfl (one_of HT_.out (by kernel_rfl)) (by decide) (fun K hK => ?_)
               refine Kd.R_lit_step (Kd.int .i64) _ 3 ?hg (N := 72) ?hd (xs := ([x7_6] : List Int)) (inner := [.int .i64 x7_6]) (ok := fun _ => True) (okp := fun _ => True) ?hr ?hp (fun _ hk => hk) trivial (Below.refl _ _) (Nat.le_refl _) (by simp) ?_; (case hd => rfl); (case hg => rfl); (case hr => first | (go_simp; done) | (go_simp; rfl)); (case hp => exact (Reps.one (show Kd.M (Kd.int .i64) _ _ _ x7_6 [.int .i64 x7_6] from rfl) (Reps.none _ _)))
               intro v564 w51 ho52 hb hg_ hnew_
               clear hg_ hnew_
               (first | rw [← Ny563.out] at ho52 | (simp only [Int.reduceToNat] at ho52; rw [← Ny563.out] at ho52))
               have HO565 := am (Kd.R_lower (Kd.R_new' (Kd.R_new' ho52 (Kd.R_lt (sr HO_5))) (Kd.R_lt (sr HO562))) (below_size (sb)))
               replace HO_5 := am (Kd.R_elder' (sr HO_5) (Kd.R_base ho52) hb)
               replace HO562 := am (Kd.R_elder' (sr HO562) (Kd.R_base ho52) hb)
               replace HR559 := am (Kd.C_below (ca HR559) hb)
               replace HR572 := am (Kd.C_below (ca HR572) hb)
               replace HB := bs hb
               clear hb ho52
               refine hK.out _ _ trivial (fun hHeld => ?_)
               clear hK K
               refine nm 72 ?_
               exact norm_ (by simp only [putAll, Act.put, List.setIfInBounds_toArray, List.set_cons_zero, List.set_cons_succ]) (hCont (v554, v561, v564) _ ⟨(by (with_reducible repeat (first | apply Kd.R_alloc | apply Kd.R_drewN | apply Kd.R_drew)); exact Kd.R_mono HO562.out (fun _ hk => ⟨hk.2, hk.1⟩)), (by (with_reducible repeat (first | apply Kd.R_alloc | apply Kd.R_drewN | apply Kd.R_drew)); exact Kd.R_mono HO565.out (fun _ hk => ⟨hk.2, hk.1.2⟩)), (by (with_reducible repeat (first | apply Kd.R_alloc | apply Kd.R_drewN | apply Kd.R_drew)); exact Kd.R_mono HO_5.out (fun _ hk => ⟨hk.1.2, hk.2⟩)), (sb)⟩)
              ·skip
               refine Kd.R_lit_step (Kd.int .i64) _ 3 ?hg (N := 72) ?hd (xs := ([x7_6] : List Int)) (inner := [.int .i64 x7_6]) (ok := fun _ => True) (okp := fun _ => True) ?hr ?hp (fun _ hk => hk) trivial (Below.refl _ _) (Nat.le_refl _) (by simp) ?_; (case hd => rfl); (case hg => rfl); (case hr => first | (go_simp; done) | (go_simp; rfl)); (case hp => exact (Reps.one (show Kd.M (Kd.int .i64) _ _ _ x7_6 [.int .i64 x7_6] from rfl) (Reps.none _ _)))
               intro v564 w50 ho51 hb hg_ hnew_
               clear hg_ hnew_
               (first | rw [← Ny563.out] at ho51 | (simp only [Int.reduceToNat] at ho51; rw [← Ny563.out] at ho51))
               have HO565 := am (Kd.R_lower (Kd.R_new' (Kd.R_new' ho51 (Kd.R_lt (sr HO_5))) (Kd.R_lt (sr HO555))) (below_size (sb)))
               replace HO_5 := am (Kd.R_elder' (sr HO_5) (Kd.R_base ho51) hb)
               replace HO555 := am (Kd.R_elder' (sr HO555) (Kd.R_base ho51) hb)
               replace HR559 := am (Kd.C_below (ca HR559) hb)
               replace HR572 := am (Kd.C_below (ca HR572) hb)
               replace HB := bs hb
               clear hb ho51
               refine hK.out _ _ trivial (fun hHeld => ?_)
               clear hK K
               refine nm 72 ?_
               refine one_ (i := 4) (N := some 70) (bt 13 1919) rfl rfl (one_of HT_.out (by kernel_rfl)) (by decide) (fun K hK => ?_)
               refine Kd.R_append_rows_step (Kd.int .i64) (w0 := w) w.heap.size (by rfl) (.tmp 66) (.tmp 69) 28 3 (.int .i64 0) 8 rfl Try.underlying28 info3 rfl (by decide) (by omega) v554 y553 y556 _ _ _ (fun k_ => some k_ ≠ (.slice (some ad528) x5_1.length co44 : Value).ownBlock ∧ some k_ ≠ (v564 : Value).ownBlock) (fun _ => False) rfl rfl ?aO ?aR (fun _ _ h => h) (fun _ h => h.elim) ?aF ?aB ?aS ?aL ?_
               (case aR => repeat (first | exact (ca HR559) | (with_reducible refine Kd.C_alloc ?_ _) | (with_reducible refine Kd.C_drewN ?_ _) | (with_reducible refine Kd.C_drew ?_)))
               (case aB => exact (sb))
               (case aF => exact (fun k_ hk => ⟨Kd.fresh' (Kd.R_lt (sr HO_5)) k_ hk, Kd.fresh' (Kd.R_lt (sr HO565)) k_ hk⟩))
               (case aO => exact (by (with_reducible repeat (first | apply Kd.R_alloc | apply Kd.R_drewN | apply Kd.R_drew)); exact Kd.R_mono HO555.out (fun _ hk => ⟨hk.1.2, hk.2⟩)))
               (case aS => exact (below_size (sb)))
               (case aL => have := LMc39.out; omega)
               intro v561 w52 ho hb hg hat
               rw [← Ny560.out] at ho
               replace HO565 := am (Kd.R_after (ok := (fun k_ => some k_ ≠ (.slice (some ad528) x5_1.length co44 : Value).ownBlock)) (by (with_reducible repeat (first | apply Kd.R_alloc | apply Kd.R_drewN | apply Kd.R_drew)); exact Kd.R_mono HO565.out (fun _ hk => ⟨hk.1.2, hk.2⟩)) hg hat)
               replace HB := am hb
               replace HR559 := am ((show Kd.C (Kd.int .i64) w52 (some ad528) y556.length y556 from by rw [Ny556.out]; exact Kd.C_take (m := (x8_3 : Int).toNat) ((Kd.R_reads' (Kd.R_after (ok := (fun k_ => some k_ ≠ (v564 : Value).ownBlock)) (by (with_reducible repeat (first | apply Kd.R_alloc | apply Kd.R_drewN | apply Kd.R_drew)); exact Kd.R_mono HO_5.out (fun _ hk => ⟨hk.2, hk.1.2⟩)) hg hat)).2.2) KL46.out))
               replace HR572 := am ((show Kd.C (Kd.int .i64) w52 A47 y569.length y569 from by rw [Ny569.out, KA47.out]; exact Kd.C_drop (m := (x8_3 : Int).toNat) (c := co44) ((Kd.R_reads' (Kd.R_after (ok := (fun k_ => some k_ ≠ (v564 : Value).ownBlock)) (by (with_reducible repeat (first | apply Kd.R_alloc | apply Kd.R_drewN | apply Kd.R_drew)); exact Kd.R_mono HO_5.out (fun _ hk => ⟨hk.2, hk.1.2⟩)) hg hat)).2.2) KL47.out ((Kd.R_reads' (Kd.R_after (ok := (fun k_ => some k_ ≠ (v564 : Value).ownBlock)) (by (with_reducible repeat (first | apply Kd.R_alloc | apply Kd.R_drewN | apply Kd.R_drew)); exact Kd.R_mono HO_5.out (fun _ hk => ⟨hk.2, hk.1.2⟩)) hg hat)).2.1)))
               replace HO_5 := am (Kd.R_after (ok := (fun k_ => some k_ ≠ (v564 : Value).ownBlock)) (by (with_reducible repeat (first | apply Kd.R_alloc | apply Kd.R_drewN | apply Kd.R_drew)); exact Kd.R_mono HO_5.out (fun _ hk => ⟨hk.2, hk.1.2⟩)) hg hat)
               have HO562 := am ho
               clear HO555 ho hb hg hat
               refine hK.out _ _ trivial (fun hHeld => ?_)
               clear hK K
               refine nm 70 ?_
               exact norm_ (by simp only [putAll, Act.put, List.setIfInBounds_toArray, List.set_cons_zero, List.set_cons_succ]) (hCont (v554, v561, v564) _ ⟨(by (with_reducible repeat (first | apply Kd.R_alloc | apply Kd.R_drewN | apply Kd.R_drew)); exact Kd.R_mono HO562.out (fun _ hk => ⟨hk.2, hk.1⟩)), (by (with_reducible repeat (first | apply Kd.R_alloc | apply Kd.R_drewN | apply Kd.R_drew)); exact Kd.R_mono HO565.out (fun _ hk => ⟨hk.2, hk.1⟩)), (by (with_reducible repeat (first | apply Kd.R_alloc | apply Kd.R_drewN | apply Kd.R_drew)); exact Kd.R_mono HO_5.out (fun _ hk => ⟨hk.2, hk.1⟩)), (sb)⟩)
             ·skip
              refine Kd.R_lit_step (Kd.int .i64) _ 3 ?hg (N := 72) ?hd (xs := ([x7_6] : List Int)) (inner := [.int .i64 x7_6]) (ok := fun _ => True) (okp := fun _ => True) ?hr ?hp (fun _ hk => hk) trivial (Below.refl _ _) (Nat.le_refl _) (by simp) ?_; (case hd => rfl); (case hg => rfl); (case hr => first | (go_simp; done) | (go_simp; rfl)); (case hp => exact (Reps.one (show Kd.M (Kd.int .i64) _ _ _ x7_6 [.int .i64 x7_6] from rfl) (Reps.none _ _)))
              intro v564 w48 ho49 hb hg_ hnew_
              clear hg_ hnew_
              (first | rw [← Ny563.out] at ho49 | (simp only [Int.reduceToNat] at ho49; rw [← Ny563.out] at ho49))
              have HO565 := am (Kd.R_lower (Kd.R_new' ho49 (Kd.R_lt (sr HO_5))) (below_size (sb)))
              replace HO_5 := am (Kd.R_elder' (sr HO_5) (Kd.R_base ho49) hb)
              replace HR559 := am (Kd.C_below (ca HR559) hb)
              replace HR572 := am (Kd.C_below (ca HR572) hb)
              replace HB := bs hb
              clear hb ho49
              refine hK.out _ _ trivial (fun hHeld => ?_)
              clear hK K
              refine nm 72 ?_
              refine one_ (i := 0) (N := some 66) (bt 13 1903) rfl rfl (one_of HT_.out (by kernel_rfl)) (by decide) (fun K hK => ?_)
              refine Kd.R_lit_step (Kd.int .i64) _ 3 ?hg (N := 66) ?hd (xs := ([] : List Int)) (inner := []) (ok := fun _ => True) (okp := fun _ => True) ?hr ?hp (fun _ hk => hk) trivial (Below.refl _ _) (Nat.le_refl _) (by simp) ?_; (case hd => rfl); (case hg => rfl); (case hr => first | (go_simp; done) | (go_simp; rfl)); (case hp => exact (Reps.none _ _))
              intro v554 w50 ho51 hb hg_ hnew_
              clear hg_ hnew_
              (first | rw [← Ny553.out] at ho51 | (simp only [Int.reduceToNat] at ho51; rw [← Ny553.out] at ho51))
              have HO555 := am (Kd.R_lower (Kd.R_new' (Kd.R_new' ho51 (Kd.R_lt (sr HO_5))) (Kd.R_lt (sr HO565))) (below_size (sb)))
              replace HO_5 := am (Kd.R_elder' (sr HO_5) (Kd.R_base ho51) hb)
              replace HO565 := am (Kd.R_elder' (sr HO565) (Kd.R_base ho51) hb)
              replace HR559 := am (Kd.C_below (ca HR559) hb)
              replace HR572 := am (Kd.C_below (ca HR572) hb)
              replace HB := bs hb
              clear hb ho51
              refine hK.out _ _ trivial (fun hHeld => ?_)
              clear hK K
              refine nm 66 ?_
              refine one_ (i := 4) (N := some 70) (bt 13 1919) rfl rfl (one_of HT_.out (by kernel_rfl)) (by decide) (fun K hK => ?_)
              refine Kd.R_append_rows_step (Kd.int .i64) (w0 := w) w.heap.size (by rfl) (.tmp 66) (.tmp 69) 28 3 (.int .i64 0) 8 rfl Try.underlying28 info3 rfl (by decide) (by omega) v554 y553 y556 _ _ _ (fun k_ => some k_ ≠ (.slice (some ad528) x5_1.length co44 : Value).ownBlock ∧ some k_ ≠ (v564 : Value).ownBlock) (fun _ => False) rfl rfl ?aO ?aR (fun _ _ h => h) (fun _ h => h.elim) ?aF ?aB ?aS ?aL ?_
              (case aR => repeat (first | exact (ca HR559) | (with_reducible refine Kd.C_alloc ?_ _) | (with_reducible refine Kd.C_drewN ?_ _) | (with_reducible refine Kd.C_drew ?_)))
              (case aB => exact (sb))
              (case aF => exact (fun k_ hk => ⟨Kd.fresh' (Kd.R_lt (sr HO_5)) k_ hk, Kd.fresh' (Kd.R_lt (sr HO565)) k_ hk⟩))
              (case aO => exact (by (with_reducible repeat (first | apply Kd.R_alloc | apply Kd.R_drewN | apply Kd.R_drew)); exact Kd.R_mono HO555.out (fun _ hk => ⟨hk.1.2, hk.2⟩)))
              (case aS => exact (below_size (sb)))
              (case aL => have := LMc39.out; omega)
              intro v561 w52 ho hb hg hat
              rw [← Ny560.out] at ho
              replace HO565 := am (Kd.R_after (ok := (fun k_ => some k_ ≠ (.slice (some ad528) x5_1.length co44 : Value).ownBlock)) (by (with_reducible repeat (first | apply Kd.R_alloc | apply Kd.R_drewN | apply Kd.R_drew)); exact Kd.R_mono HO565.out (fun _ hk => ⟨hk.1.2, hk.2⟩)) hg hat)
              replace HB := am hb
              replace HR559 := am ((show Kd.C (Kd.int .i64) w52 (some ad528) y556.length y556 from by rw [Ny556.out]; exact Kd.C_take (m := (x8_3 : Int).toNat) ((Kd.R_reads' (Kd.R_after (ok := (fun k_ => some k_ ≠ (v564 : Value).ownBlock)) (by (with_reducible repeat (first | apply Kd.R_alloc | apply Kd.R_drewN | apply Kd.R_drew)); exact Kd.R_mono HO_5.out (fun _ hk => ⟨hk.1.2, hk.2⟩)) hg hat)).2.2) KL46.out))
              replace HR572 := am ((show Kd.C (Kd.int .i64) w52 A47 y569.length y569 from by rw [Ny569.out, KA47.out]; exact Kd.C_drop (m := (x8_3 : Int).toNat) (c := co44) ((Kd.R_reads' (Kd.R_after (ok := (fun k_ => some k_ ≠ (v564 : Value).ownBlock)) (by (with_reducible repeat (first | apply Kd.R_alloc | apply Kd.R_drewN | apply Kd.R_drew)); exact Kd.R_mono HO_5.out (fun _ hk => ⟨hk.1.2, hk.2⟩)) hg hat)).2.2) KL47.out ((Kd.R_reads' (Kd.R_after (ok := (fun k_ => some k_ ≠ (v564 : Value).ownBlock)) (by (with_reducible repeat (first | apply Kd.R_alloc | apply Kd.R_drewN | apply Kd.R_drew)); exact Kd.R_mono HO_5.out (fun _ hk => ⟨hk.1.2, hk.2⟩)) hg hat)).2.1)))
              replace HO_5 := am (Kd.R_after (ok := (fun k_ => some k_ ≠ (v564 : Value).ownBlock)) (by (with_reducible repeat (first | apply Kd.R_alloc | apply Kd.R_drewN | apply Kd.R_drew)); exact Kd.R_mono HO_5.out (fun _ hk => ⟨hk.1.2, hk.2⟩)) hg hat)
              have HO562 := am ho
              clear HO555 ho hb hg hat
              refine hK.out _ _ trivial (fun hHeld => ?_)
              clear hK K
              refine nm 70 ?_
              exact norm_ (by simp only [putAll, Act.put, List.setIfInBounds_toArray, List.set_cons_zero, List.set_cons_succ]) (hCont (v554, v561, v564) _ ⟨(by (with_reducible repeat (first | apply Kd.R_alloc | apply Kd.R_drewN | apply Kd.R_drew)); exact Kd.R_mono HO562.out (fun _ hk => ⟨hk.2, hk.1⟩)), (by (with_reducible repeat (first | apply Kd.R_alloc | apply Kd.R_drewN | apply Kd.R_drew)); exact Kd.R_mono HO565.out (fun _ hk => ⟨hk.2, hk.1⟩)), (by (with_reducible repeat (first | apply Kd.R_alloc | apply Kd.R_drewN | apply Kd.R_drew)); exact Kd.R_mono HO_5.out (fun _ hk => ⟨hk.2, hk.1⟩)), (sb)⟩)
            rintro ⟨v554, v561, v564⟩ w53 ⟨h0_, h1_, h2_, h3_⟩
            have HO562 : Aside0 (Kd.R (Kd.int .i64) 3 w53 w.heap.size (fun k_ => some k_ ≠ (v564 : Value).ownBlock ∧ some k_ ≠ (.slice (some ad528) x5_1.length co44 : Value).ownBlock) v561 y560) := ⟨h0_⟩
            have HO565 : Aside0 (Kd.R (Kd.int .i64) 3 w53 w.heap.size (fun k_ => some k_ ≠ (v561 : Value).ownBlock ∧ some k_ ≠ (.slice (some ad528) x5_1.length co44 : Value).ownBlock) v564 y563) := ⟨h1_⟩
            replace HO_5 : Aside0 (Kd.R (Kd.int .i64) 3 w53 w.heap.size (fun k_ => some k_ ≠ (v561 : Value).ownBlock ∧ some k_ ≠ (v564 : Value).ownBlock) (.slice (some ad528) x5_1.length co44) x5_1) := ⟨h2_⟩
            replace HB : Aside0 (Below w.heap.size w w53) := ⟨h3_⟩
            clear h0_ h1_ h2_ h3_
            have hHeld := trivial
            obtain ⟨Ao55, co55, eo55⟩ := Kd.R_slice HO565.out
            (first | subst eo55 | (injection eo55 with f1_ f2_ f3_; have f4_ := f1_.symm; have f5_ := f3_.symm; clear f1_ f2_ f3_; subst f4_; subst f5_))
            refine norm_ (a' := ?_) ?_ ?_
            rotate_left
            ·simp only [putAll, Act.put, List.setIfInBounds_toArray, List.set_cons_zero, List.set_cons_succ]
             rfl
            refine one_ (i := 7) (N := some 73) (bt 13 2047) rfl rfl (one_of HT_.out (by kernel_rfl)) (by decide) (fun K hK => ?_)
            refine Kd.R_append_rows_step (Kd.int .i64) (w0 := w) w.heap.size (by rfl) (.tmp 70) (.tmp 72) 28 3 (.int .i64 0) 8 rfl Try.underlying28 info3 rfl (by decide) (by omega) v561 y560 y563 _ _ _ (fun k_ => some k_ ≠ (.slice (some ad528) x5_1.length co44 : Value).ownBlock ∧ some k_ ≠ (.slice Ao55 y563.length co55 : Value).ownBlock) (fun _ => False) rfl rfl ?aO ?aR (fun _ _ h => h) (fun _ h => h.elim) ?aF ?aB ?aS ?aL ?_
            (case aR => repeat (first | exact (Kd.R_reads' HO565.out).2.2 | (with_reducible refine Kd.C_alloc ?_ _) | (with_reducible refine Kd.C_drewN ?_ _) | (with_reducible refine Kd.C_drew ?_)))
            (case aB => exact (sb))
            (case aF => exact (fun k_ hk => ⟨Kd.fresh' (Kd.R_lt (sr HO_5)) k_ hk, Kd.fresh' (Kd.R_lt (sr HO565)) k_ hk⟩))
            (case aO => exact (by (with_reducible repeat (first | apply Kd.R_alloc | apply Kd.R_drewN | apply Kd.R_drew)); exact Kd.R_mono HO562.out (fun _ hk => ⟨hk.2, hk.1⟩)))
            (case aS => exact (below_size (sb)))
            (case aL => have := LMc40.out; omega)
            intro v567 w54 ho hb hg hat
            rw [← Ny566.out] at ho
            replace HO_5 := am (Kd.R_after (ok := (fun k_ => some k_ ≠ (.slice Ao55 y563.length co55 : Value).ownBlock)) (by (with_reducible repeat (first | apply Kd.R_alloc | apply Kd.R_drewN | apply Kd.R_drew)); exact Kd.R_mono HO_5.out (fun _ hk => ⟨hk.2, hk.1⟩)) hg hat)
            replace HO565 := am (Kd.R_after (ok := (fun k_ => some k_ ≠ (.slice (some ad528) x5_1.length co44 : Value).ownBlock)) (by (with_reducible repeat (first | apply Kd.R_alloc | apply Kd.R_drewN | apply Kd.R_drew)); exact Kd.R_mono HO565.out (fun _ hk => ⟨hk.2, hk.1⟩)) hg hat)
            replace HB := am hb
            have HO568 := am ho
            clear HO562 ho hb hg hat
            refine hK.out _ _ trivial (fun hHeld => ?_)
            clear hK K
            refine nm 73 ?_
            refine one_ (i := 11) (N := some 77) (bt 13 4095) rfl rfl (one_of HT_.out (by kernel_rfl)) (by decide) (fun K hK => ?_)
            refine Kd.R_append_rows_step (Kd.int .i64) (w0 := w) w.heap.size (by rfl) (.tmp 73) (.tmp 76) 28 3 (.int .i64 0) 8 rfl Try.underlying28 info3 rfl (by decide) (by omega) v567 y566 y569 _ _ _ (fun k_ => some k_ ≠ (.slice (some ad528) x5_1.length co44 : Value).ownBlock ∧ some k_ ≠ (.slice Ao55 y563.length co55 : Value).ownBlock) (fun _ => False) rfl rfl ?aO ?aR (fun _ _ h => h) (fun _ h => h.elim) ?aF ?aB ?aS ?aL ?_
            (case aR => exact (show Kd.C (Kd.int .i64) _ A47 y569.length y569 from by rw [Ny569.out, KA47.out]; exact Kd.C_drop (m := (x8_3 : Int).toNat) (c := co44) ((Kd.R_reads' (sr HO_5)).2.2) KL47.out ((Kd.R_reads' HO_5.out).2.1)))
            (case aB => exact (sb))
            (case aF => exact (fun k_ hk => ⟨Kd.fresh' (Kd.R_lt (sr HO_5)) k_ hk, Kd.fresh' (Kd.R_lt (sr HO565)) k_ hk⟩))
            (case aO => exact (sr HO568))
            (case aS => exact (below_size (sb)))
            (case aL => have := LMc43.out; omega)
            intro v574 w56 ho hb hg hat
            rw [← Ny573.out] at ho
            replace HO_5 := am (Kd.R_after (ok := (fun k_ => some k_ ≠ (.slice Ao55 y563.length co55 : Value).ownBlock)) (sr HO_5) hg hat)
            replace HO565 := am (Kd.R_after (ok := (fun k_ => some k_ ≠ (.slice (some ad528) x5_1.length co44 : Value).ownBlock)) (sr HO565) hg hat)
            replace HB := am hb
            have HO575 := am ho
            clear HO568 ho hb hg hat
            refine hK.out _ _ trivial (fun hHeld => ?_)
            clear hK K
            refine nm 77 ?_
            refine put 12 5 (bt 13 8191) HT_ ?_
            refine done_ (done_of HT_.out (by kernel_rfl)) ?_
            try go_wp2
            go_roundg k3
            case measure => have := HK1.out; have := HJ6.out; have := HK3.out; omega
            case rel => exact ⟨(y573), (wrap64 (x6_1 + 1)), sc, H', ⟨by have := HK1.out; have := HJ6.out; have := HK3.out; omega⟩, ⟨by (with_reducible repeat (first | apply Kd.R_alloc | apply Kd.R_drewN | apply Kd.R_drew)); exact Kd.R_mono HO575.out (fun _ hk => trivial)⟩, ⟨sb⟩⟩
        ·have c10b0 := decide_eq_false c10
         clear c10
         obtain ⟨c57, H⟩ | ⟨c57, H⟩ := ie_ H
         ·have c57b0 : (x8_3 == (x5_1.length : Int)) = true := beq_iff_eq.mpr c57
          have c57b1 : (x8_3 != (x5_1.length : Int)) = false := bne_eq_false_iff_eq.mpr c57
          clear c57
          obtain ⟨y576, hy576⟩ : ∃ y_ : List Int, y_ = (([] : List Int)) := ⟨_, rfl⟩
          replace H : (if 0 ≤ x8_3 then (if x8_3 ≤ (x5_1.length : Int) then ((some (x5_1.take (x8_3 : Int).toNat : List Int)).bind fun y579 => (if y576.length + y579.length < 17592186044416 then ((some (y576 ++ y579 : List Int)).bind fun y583 => ((some (([x7_6] : List Int) : List Int)).bind fun y586 => (if y583.length + y586.length < 17592186044416 then ((some (y583 ++ y586 : List Int)).bind fun y589 => ((some (x5_1.drop (x8_3 : Int).toNat : List Int)).bind fun y592 => (if y589.length + y592.length < 17592186044416 then (spec_NeighborsIn.l0 k3 l0 a1 (y589 ++ y592) (wrap64 (x6_1 + 1))) else (none)))) else (none)))) else (none))) else (none)) else (none)) = some r := ry hy576 H
          have Ny576 := am hy576
          clear hy576
          obtain ⟨c58, H⟩ := ia_ H
          have c58b0 := eq_true c58
          have c58b1 := decide_eq_true c58
          clear c58
          obtain ⟨c59, H⟩ := ia_ H
          have c59b0 := eq_true c59
          have c59b1 := decide_eq_true c59
          clear c59
          obtain ⟨y579, hy579⟩ : ∃ y_ : List Int, y_ = (x5_1.take (x8_3 : Int).toNat) := ⟨_, rfl⟩
          replace H : (if y576.length + y579.length < 17592186044416 then ((some (y576 ++ y579 : List Int)).bind fun y583 => ((some (([x7_6] : List Int) : List Int)).bind fun y586 => (if y583.length + y586.length < 17592186044416 then ((some (y583 ++ y586 : List Int)).bind fun y589 => ((some (x5_1.drop (x8_3 : Int).toNat : List Int)).bind fun y592 => (if y589.length + y592.length < 17592186044416 then (spec_NeighborsIn.l0 k3 l0 a1 (y589 ++ y592) (wrap64 (x6_1 + 1))) else (none)))) else (none)))) else (none)) = some r := ry hy579 H
          have Ny579 := am hy579
          clear hy579
          obtain ⟨LMc60, H⟩ := il_ H
          obtain ⟨y583, hy583⟩ : ∃ y_ : List Int, y_ = (y576 ++ y579) := ⟨_, rfl⟩
          replace H : ((some (([x7_6] : List Int) : List Int)).bind fun y586 => (if y583.length + y586.length < 17592186044416 then ((some (y583 ++ y586 : List Int)).bind fun y589 => ((some (x5_1.drop (x8_3 : Int).toNat : List Int)).bind fun y592 => (if y589.length + y592.length < 17592186044416 then (spec_NeighborsIn.l0 k3 l0 a1 (y589 ++ y592) (wrap64 (x6_1 + 1))) else (none)))) else (none))) = some r := ry hy583 H
          have Ny583 := am hy583
          clear hy583
          obtain ⟨y586, hy586⟩ : ∃ y_ : List Int, y_ = (([x7_6] : List Int)) := ⟨_, rfl⟩
          replace H : (if y583.length + y586.length < 17592186044416 then ((some (y583 ++ y586 : List Int)).bind fun y589 => ((some (x5_1.drop (x8_3 : Int).toNat : List Int)).bind fun y592 => (if y589.length + y592.length < 17592186044416 then (spec_NeighborsIn.l0 k3 l0 a1 (y589 ++ y592) (wrap64 (x6_1 + 1))) else (none)))) else (none)) = some r := ry hy586 H
          have Ny586 := am hy586
          clear hy586
          obtain ⟨LMc61, H⟩ := il_ H
          obtain ⟨y589, hy589⟩ : ∃ y_ : List Int, y_ = (y583 ++ y586) := ⟨_, rfl⟩
          replace H : ((some (x5_1.drop (x8_3 : Int).toNat : List Int)).bind fun y592 => (if y589.length + y592.length < 17592186044416 then (spec_NeighborsIn.l0 k3 l0 a1 (y589 ++ y592) (wrap64 (x6_1 + 1))) else (none))) = some r := ry hy589 H
          have Ny589 := am hy589
          clear hy589
          have c62b0 := eq_true (sa : 0 ≤ x8_3)
          have c63b0 := eq_true (sa : x8_3 ≤ (x5_1.length : Int))
          obtain ⟨y592, hy592⟩ : ∃ y_ : List Int, y_ = (x5_1.drop (x8_3 : Int).toNat) := ⟨_, rfl⟩
          replace H : (if y589.length + y592.length < 17592186044416 then (spec_NeighborsIn.l0 k3 l0 a1 (y589 ++ y592) (wrap64 (x6_1 + 1))) else (none)) = some r := ry hy592 H
          have Ny592 := am hy592
          clear hy592
          obtain ⟨LMc64, H⟩ := il_ H
          obtain ⟨y596, hy596⟩ : ∃ y_ : List Int, y_ = (y589 ++ y592) := ⟨_, rfl⟩
          replace H : (spec_NeighborsIn.l0 k3 l0 a1 y596 (wrap64 (x6_1 + 1))) = some r := ry hy596 H
          have Ny596 := am hy596
          clear hy596
          have H' := am H
          clear H
          obtain ⟨Ao65, co65, eo65⟩ := Kd.R_slice HO_5.out
          subst eo65
          try go_wp2
          replace HO_5 := am (Kd.R_drew HO_5.out)
          replace HB := am (below_drew1 HB.out)
          have q67 : (x8_3 : Int) ≤ ((x5_1.length : Int) : Int) := sa
          obtain ⟨i067, hi067, _, hsz67, _⟩ := info_parts info3
          have hroom67 : x5_1.length ≤ co65 := (Kd.R_reads' HO_5.out).2.1
          have hC67 : Kd.C (Kd.int .i64) _ Ao65 x5_1.length x5_1 := (Kd.R_reads' HO_5.out).2.2
          have hcut67 := cut_to (P := Try.prog) 28 3 .i64 Try.underlying28 hi067 Ao65 x5_1.length co65 x8_3 (sa) q67 hroom67
          have hr67 := Kd.C_take (m := (x8_3 : Int).toNat) hC67 (by omega)
          have hy67 : y579.length = (x8_3 : Int).toNat := (by rw [Ny579.out, List.length_take]; omega)
          rw [← Ny579.out] at hr67
          rw [← hy67] at hcut67
          have HR582 := am hr67
          have HC582 := am (show y579.length ≤ co65 from by omega)
          clear hr67 hC67 hroom67 hi067 hsz67
          have KY67 := am hy67
          clear hy67
          have KL67 := am (show (x8_3 : Int).toNat ≤ x5_1.length from by omega)
          replace q67 := eq_true q67
          have q68 : (x8_3 : Int) ≤ ((x5_1.length : Int) : Int) := sa
          obtain ⟨i068, hi068, _, hsz68, _⟩ := info_parts info3
          have hroom68 : x5_1.length ≤ co65 := (Kd.R_reads' HO_5.out).2.1
          have hC68 : Kd.C (Kd.int .i64) _ Ao65 x5_1.length x5_1 := (Kd.R_reads' HO_5.out).2.2
          have q068 : (0 : Int) ≤ (x8_3 : Int) := sa
          have hcut68 := cut_from (P := Try.prog) 28 3 .i64 Try.underlying28 hi068 1 hsz68 Ao65 x5_1.length co65 x8_3 q068 q68
          have hr68 := Kd.C_drop (m := (x8_3 : Int).toNat) (c := co65) hC68 (by omega) hroom68
          obtain ⟨A68, hA68⟩ : ∃ A1, A1 = (if co65 = (x8_3 : Int).toNat then Ao65 else (Ao65 : Option Addr).map (·.add ((x8_3 : Int).toNat * 1))) := ⟨_, rfl⟩
          obtain ⟨c68, hc68⟩ : ∃ c1, c1 = co65 - (x8_3 : Int).toNat := ⟨_, rfl⟩
          have hy68 : y592.length = x5_1.length - (x8_3 : Int).toNat := (by rw [Ny592.out, List.length_drop] <;> omega)
          rw [show (x5_1).drop (x8_3 : Int).toNat = y592 from Ny592.out.symm] at hr68
          replace hr68 : Kd.C (Kd.int .i64) _ A68 y592.length y592 := (by rw [hA68]; exact hr68)
          rw [← hy68, ← hA68, ← hc68] at hcut68
          have HR595 := am hr68
          have HC595 := am (show y592.length ≤ c68 from by rw [hy68, hc68]; exact Nat.sub_le_sub_right hroom68 _)
          clear hr68 hC68 hroom68 hi068 hsz68 hc68
          have KY68 := am hy68
          have KA68 := am hA68
          clear hy68 hA68
          have KL68 := am (show (x8_3 : Int).toNat ≤ x5_1.length from by omega)
          replace q68 := eq_true q68
          refine start_ (n := 13) (S := fun w' => True) (ds := []) #[false, false, false, false, false, false, false, false, false, false, false, false, false] (by kernel_rfl) rfl rfl trivial (fun hHeld => ?_); refine with_tabW spec_NeighborsIn.tab14 spec_NeighborsIn.bits14 (fun HT_ HW_ => ?_)
          generalize wr.drew = w66 at HO_5 HB HR582 HR595 hHeld ⊢
          refine put 1 67 (bt 13 2) HT_ ?_
          refine put 2 68 (bt 13 6) HT_ ?_
          refine put 3 69 (bt 13 14) HT_ ?_
          refine put 5 71 (bt 13 46) HT_ ?_
          refine put 8 74 (bt 13 302) HT_ ?_
          refine put 9 75 (bt 13 814) HT_ ?_
          refine put 10 76 (bt 13 1838) HT_ ?_
          refine join_ (σ := Value × Value × Value) 3 (bt 13 1919) (fun s_ => [(66, s_.1), (70, s_.2.1), (72, s_.2.2)]) (fun s_ w' => (Kd.R (Kd.int .i64) 3 w' w.heap.size (fun k_ => some k_ ≠ (s_.2.2 : Value).ownBlock ∧ some k_ ≠ (.slice Ao65 x5_1.length co65 : Value).ownBlock) s_.2.1 y583) ∧ (Kd.R (Kd.int .i64) 3 w' w.heap.size (fun k_ => some k_ ≠ (s_.2.1 : Value).ownBlock ∧ some k_ ≠ (.slice Ao65 x5_1.length co65 : Value).ownBlock) s_.2.2 y586) ∧ (Kd.R (Kd.int .i64) 3 w' w.heap.size (fun k_ => some k_ ≠ (s_.2.1 : Value).ownBlock ∧ some k_ ≠ (s_.2.2 : Value).ownBlock) (.slice Ao65 x5_1.length co65) x5_1) ∧ (Below w.heap.size w w')) ?_ ?_
          rotate_left
          ·intro hCont
           refine two_ (i := 0) (j := 6) (Ni := some 66) (Nj := some 72) (bt 13 1839) (bt 13 1902) rfl rfl rfl rfl (two_of HT_.out (by kernel_rfl)) (by decide) (by decide) (fun K hK => ?_) (fun K hK => ?_)
           ·skip
            refine Kd.R_lit_step (Kd.int .i64) _ 3 ?hg (N := 66) ?hd (xs := ([] : List Int)) (inner := []) (ok := fun _ => True) (okp := fun _ => True) ?hr ?hp (fun _ hk => hk) trivial (Below.refl _ _) (Nat.le_refl _) (by simp) ?_; (case hd => rfl); (case hg => rfl); (case hr => first | (go_simp; done) | (go_simp; rfl)); (case hp => exact (Reps.none _ _))
            intro v577 w69 ho70 hb hg_ hnew_
            clear hg_ hnew_
            (first | rw [← Ny576.out] at ho70 | (simp only [Int.reduceToNat] at ho70; rw [← Ny576.out] at ho70))
            have HO578 := am (Kd.R_lower (Kd.R_new' ho70 (Kd.R_lt (sr HO_5))) (below_size (sb)))
            replace HO_5 := am (Kd.R_elder' (sr HO_5) (Kd.R_base ho70) hb)
            replace HR582 := am (Kd.C_below (ca HR582) hb)
            replace HR595 := am (Kd.C_below (ca HR595) hb)
            replace HB := bs hb
            clear hb ho70
            refine hK.out _ _ trivial (fun hHeld => ?_)
            clear hK K
            refine nm 66 ?_
            refine two_ (i := 4) (j := 6) (Ni := some 70) (Nj := some 72) (bt 13 1855) (bt 13 1903) rfl rfl rfl rfl (two_of HT_.out (by kernel_rfl)) (by decide) (by decide) (fun K hK => ?_) (fun K hK => ?_)
            ·skip
             refine Kd.R_append_rows_step (Kd.int .i64) (w0 := w) w.heap.size (by rfl) (.tmp 66) (.tmp 69) 28 3 (.int .i64 0) 8 rfl Try.underlying28 info3 rfl (by decide) (by omega) v577 y576 y579 _ _ _ (fun k_ => some k_ ≠ (.slice Ao65 x5_1.length co65 : Value).ownBlock) (fun _ => False) rfl rfl ?aO ?aR (fun _ _ h => h) (fun _ h => h.elim) ?aF ?aB ?aS ?aL ?_
             (case aR => repeat (first | exact (ca HR582) | (with_reducible refine Kd.C_alloc ?_ _) | (with_reducible refine Kd.C_drewN ?_ _) | (with_reducible refine Kd.C_drew ?_)))
             (case aB => exact (sb))
             (case aF => exact (fun k_ hk => Kd.fresh' (Kd.R_lt (sr HO_5)) k_ hk))
             (case aO => exact (by (with_reducible repeat (first | apply Kd.R_alloc | apply Kd.R_drewN | apply Kd.R_drew)); exact Kd.R_mono HO578.out (fun _ hk => hk.2)))
             (case aS => exact (below_size (sb)))
             (case aL => have := LMc60.out; omega)
             intro v584 w71 ho hb hg hat
             rw [← Ny583.out] at ho
             replace HB := am hb
             replace HR582 := am ((show Kd.C (Kd.int .i64) w71 Ao65 y579.length y579 from by rw [Ny579.out]; exact Kd.C_take (m := (x8_3 : Int).toNat) ((Kd.R_reads' (Kd.R_after (ok := (fun _ => True)) (sr HO_5) hg hat)).2.2) KL67.out))
             replace HR595 := am ((show Kd.C (Kd.int .i64) w71 A68 y592.length y592 from by rw [Ny592.out, KA68.out]; exact Kd.C_drop (m := (x8_3 : Int).toNat) (c := co65) ((Kd.R_reads' (Kd.R_after (ok := (fun _ => True)) (sr HO_5) hg hat)).2.2) KL68.out ((Kd.R_reads' (Kd.R_after (ok := (fun _ => True)) (sr HO_5) hg hat)).2.1)))
             replace HO_5 := am (Kd.R_after (ok := (fun _ => True)) (sr HO_5) hg hat)
             have HO585 := am ho
             clear HO578 ho hb hg hat
             refine hK.out _ _ trivial (fun hHeld => ?_)
             clear hK K
             refine nm 70 ?_
             refine one_ (i := 6) (N := some 72) (bt 13 1919) rfl rfl (one_of HT_.out (by kernel_rfl)) (by decide) (fun K hK => ?_)
             refine Kd.R_lit_step (Kd.int .i64) _ 3 ?hg (N := 72) ?hd (xs := ([x7_6] : List Int)) (inner := [.int .i64 x7_6]) (ok := fun _ => True) (okp := fun _ => True) ?hr ?hp (fun _ hk => hk) trivial (Below.refl _ _) (Nat.le_refl _) (by simp) ?_; (case hd => rfl); (case hg => rfl); (case hr => first | (go_simp; done) | (go_simp; rfl)); (case hp => exact (Reps.one (show Kd.M (Kd.int .i64) _ _ _ x7_6 [.int .i64 x7_6] from rfl) (Reps.none _ _)))
             intro v587 w72 ho73 hb hg_ hnew_
             clear hg_ hnew_
             (first | rw [← Ny586.out] at ho73 | (simp only [Int.reduceToNat] at ho73; rw [← Ny586.out] at ho73))
             have HO588 := am (Kd.R_lower (Kd.R_new' (Kd.R_new' ho73 (Kd.R_lt (sr HO_5))) (Kd.R_lt (sr HO585))) (below_size (sb)))
             replace HO_5 := am (Kd.R_elder' (sr HO_5) (Kd.R_base ho73) hb)
             replace HO585 := am (Kd.R_elder' (sr HO585) (Kd.R_base ho73) hb)
             replace HR582 := am (Kd.C_below (ca HR582) hb)
             replace HR595 := am (Kd.C_below (ca HR595) hb)
             replace HB := bs hb
             clear hb ho73
             refine hK.out _ _ trivial (fun hHeld => ?_)
             clear hK K
             refine nm 72 ?_
             exact norm_ (by simp only [putAll, Act.put, List.setIfInBounds_toArray, List.set_cons_zero, List.set_cons_succ]) (hCont (v577, v584, v587) _ ⟨(by (with_reducible repeat (first | apply Kd.R_alloc | apply Kd.R_drewN | apply Kd.R_drew)); exact Kd.R_mono HO585.out (fun _ hk => ⟨hk.2, hk.1⟩)), (by (with_reducible repeat (first | apply Kd.R_alloc | apply Kd.R_drewN | apply Kd.R_drew)); exact Kd.R_mono HO588.out (fun _ hk => ⟨hk.2, hk.1.2⟩)), (by (with_reducible repeat (first | apply Kd.R_alloc | apply Kd.R_drewN | apply Kd.R_drew)); exact Kd.R_mono HO_5.out (fun _ hk => ⟨hk.1.2, hk.2⟩)), (sb)⟩)
            ·skip
             refine Kd.R_lit_step (Kd.int .i64) _ 3 ?hg (N := 72) ?hd (xs := ([x7_6] : List Int)) (inner := [.int .i64 x7_6]) (ok := fun _ => True) (okp := fun _ => True) ?hr ?hp (fun _ hk => hk) trivial (Below.refl _ _) (Nat.le_refl _) (by simp) ?_; (case hd => rfl); (case hg => rfl); (case hr => first | (go_simp; done) | (go_simp; rfl)); (case hp => exact (Reps.one (show Kd.M (Kd.int .i64) _ _ _ x7_6 [.int .i64 x7_6] from rfl) (Reps.none _ _)))
             intro v587 w71 ho72 hb hg_ hnew_
             clear hg_ hnew_
             (first | rw [← Ny586.out] at ho72 | (simp only [Int.reduceToNat] at ho72; rw [← Ny586.out] at ho72))
             have HO588 := am (Kd.R_lower (Kd.R_new' (Kd.R_new' ho72 (Kd.R_lt (sr HO_5))) (Kd.R_lt (sr HO578))) (below_size (sb)))
             replace HO_5 := am (Kd.R_elder' (sr HO_5) (Kd.R_base ho72) hb)
             replace HO578 := am (Kd.R_elder' (sr HO578) (Kd.R_base ho72) hb)
             replace HR582 := am (Kd.C_below (ca HR582) hb)
             replace HR595 := am (Kd.C_below (ca HR595) hb)
             replace HB := bs hb
             clear hb ho72
             refine hK.out _ _ trivial (fun hHeld => ?_)
             clear hK K
             refine nm 72 ?_
             refine one_ (i := 4) (N := some 70) (bt 13 1919) rfl rfl (one_of HT_.out (by kernel_rfl)) (by decide) (fun K hK => ?_)
             refine Kd.R_append_rows_step (Kd.int .i64) (w0 := w) w.heap.size (by rfl) (.tmp 66) (.tmp 69) 28 3 (.int .i64 0) 8 rfl Try.underlying28 info3 rfl (by decide) (by omega) v577 y576 y579 _ _ _ (fun k_ => some k_ ≠ (.slice Ao65 x5_1.length co65 : Value).ownBlock ∧ some k_ ≠ (v587 : Value).ownBlock) (fun _ => False) rfl rfl ?aO ?aR (fun _ _ h => h) (fun _ h => h.elim) ?aF ?aB ?aS ?aL ?_
             (case aR => repeat (first | exact (ca HR582) | (with_reducible refine Kd.C_alloc ?_ _) | (with_reducible refine Kd.C_drewN ?_ _) | (with_reducible refine Kd.C_drew ?_)))
             (case aB => exact (sb))
             (case aF => exact (fun k_ hk => ⟨Kd.fresh' (Kd.R_lt (sr HO_5)) k_ hk, Kd.fresh' (Kd.R_lt (sr HO588)) k_ hk⟩))
             (case aO => exact (by (with_reducible repeat (first | apply Kd.R_alloc | apply Kd.R_drewN | apply Kd.R_drew)); exact Kd.R_mono HO578.out (fun _ hk => ⟨hk.1.2, hk.2⟩)))
             (case aS => exact (below_size (sb)))
             (case aL => have := LMc60.out; omega)
             intro v584 w73 ho hb hg hat
             rw [← Ny583.out] at ho
             replace HO588 := am (Kd.R_after (ok := (fun k_ => some k_ ≠ (.slice Ao65 x5_1.length co65 : Value).ownBlock)) (by (with_reducible repeat (first | apply Kd.R_alloc | apply Kd.R_drewN | apply Kd.R_drew)); exact Kd.R_mono HO588.out (fun _ hk => ⟨hk.1.2, hk.2⟩)) hg hat)
             replace HB := am hb
             replace HR582 := am ((show Kd.C (Kd.int .i64) w73 Ao65 y579.length y579 from by rw [Ny579.out]; exact Kd.C_take (m := (x8_3 : Int).toNat) ((Kd.R_reads' (Kd.R_after (ok := (fun k_ => some k_ ≠ (v587 : Value).ownBlock)) (by (with_reducible repeat (first | apply Kd.R_alloc | apply Kd.R_drewN | apply Kd.R_drew)); exact Kd.R_mono HO_5.out (fun _ hk => ⟨hk.2, hk.1.2⟩)) hg hat)).2.2) KL67.out))
             replace HR595 := am ((show Kd.C (Kd.int .i64) w73 A68 y592.length y592 from by rw [Ny592.out, KA68.out]; exact Kd.C_drop (m := (x8_3 : Int).toNat) (c := co65) ((Kd.R_reads' (Kd.R_after (ok := (fun k_ => some k_ ≠ (v587 : Value).ownBlock)) (by (with_reducible repeat (first | apply Kd.R_alloc | apply Kd.R_drewN | apply Kd.R_drew)); exact Kd.R_mono HO_5.out (fun _ hk => ⟨hk.2, hk.1.2⟩)) hg hat)).2.2) KL68.out ((Kd.R_reads' (Kd.R_after (ok := (fun k_ => some k_ ≠ (v587 : Value).ownBlock)) (by (with_reducible repeat (first | apply Kd.R_alloc | apply Kd.R_drewN | apply Kd.R_drew)); exact Kd.R_mono HO_5.out (fun _ hk => ⟨hk.2, hk.1.2⟩)) hg hat)).2.1)))
             replace HO_5 := am (Kd.R_after (ok := (fun k_ => some k_ ≠ (v587 : Value).ownBlock)) (by (with_reducible repeat (first | apply Kd.R_alloc | apply Kd.R_drewN | apply Kd.R_drew)); exact Kd.R_mono HO_5.out (fun _ hk => ⟨hk.2, hk.1.2⟩)) hg hat)
             have HO585 := am ho
             clear HO578 ho hb hg hat
             refine hK.out _ _ trivial (fun hHeld => ?_)
             clear hK K
             refine nm 70 ?_
             exact norm_ (by simp only [putAll, Act.put, List.setIfInBounds_toArray, List.set_cons_zero, List.set_cons_succ]) (hCont (v577, v584, v587) _ ⟨(by (with_reducible repeat (first | apply Kd.R_alloc | apply Kd.R_drewN | apply Kd.R_drew)); exact Kd.R_mono HO585.out (fun _ hk => ⟨hk.2, hk.1⟩)), (by (with_reducible repeat (first | apply Kd.R_alloc | apply Kd.R_drewN | apply Kd.R_drew)); exact Kd.R_mono HO588.out (fun _ hk => ⟨hk.2, hk.1⟩)), (by (with_reducible repeat (first | apply Kd.R_alloc | apply Kd.R_drewN | apply Kd.R_drew)); exact Kd.R_mono HO_5.out (fun _ hk => ⟨hk.2, hk.1⟩)), (sb)⟩)
           ·skip
            refine Kd.R_lit_step (Kd.int .i64) _ 3 ?hg (N := 72) ?hd (xs := ([x7_6] : List Int)) (inner := [.int .i64 x7_6]) (ok := fun _ => True) (okp := fun _ => True) ?hr ?hp (fun _ hk => hk) trivial (Below.refl _ _) (Nat.le_refl _) (by simp) ?_; (case hd => rfl); (case hg => rfl); (case hr => first | (go_simp; done) | (go_simp; rfl)); (case hp => exact (Reps.one (show Kd.M (Kd.int .i64) _ _ _ x7_6 [.int .i64 x7_6] from rfl) (Reps.none _ _)))
            intro v587 w69 ho70 hb hg_ hnew_
            clear hg_ hnew_
            (first | rw [← Ny586.out] at ho70 | (simp only [Int.reduceToNat] at ho70; rw [← Ny586.out] at ho70))
            have HO588 := am (Kd.R_lower (Kd.R_new' ho70 (Kd.R_lt (sr HO_5))) (below_size (sb)))
            replace HO_5 := am (Kd.R_elder' (sr HO_5) (Kd.R_base ho70) hb)
            replace HR582 := am (Kd.C_below (ca HR582) hb)
            replace HR595 := am (Kd.C_below (ca HR595) hb)
            replace HB := bs hb
            clear hb ho70
            refine hK.out _ _ trivial (fun hHeld => ?_)
            clear hK K
            refine nm 72 ?_
            refine one_ (i := 0) (N := some 66) (bt 13 1903) rfl rfl (one_of HT_.out (by kernel_rfl)) (by decide) (fun K hK => ?_)
            refine Kd.R_lit_step (Kd.int .i64) _ 3 ?hg (N := 66) ?hd (xs := ([] : List Int)) (inner := []) (ok := fun _ => True) (okp := fun _ => True) ?hr ?hp (fun _ hk => hk) trivial (Below.refl _ _) (Nat.le_refl _) (by simp) ?_; (case hd => rfl); (case hg => rfl); (case hr => first | (go_simp; done) | (go_simp; rfl)); (case hp => exact (Reps.none _ _))
            intro v577 w71 ho72 hb hg_ hnew_
            clear hg_ hnew_
            (first | rw [← Ny576.out] at ho72 | (simp only [Int.reduceToNat] at ho72; rw [← Ny576.out] at ho72))
            have HO578 := am (Kd.R_lower (Kd.R_new' (Kd.R_new' ho72 (Kd.R_lt (sr HO_5))) (Kd.R_lt (sr HO588))) (below_size (sb)))
            replace HO_5 := am (Kd.R_elder' (sr HO_5) (Kd.R_base ho72) hb)
            replace HO588 := am (Kd.R_elder' (sr HO588) (Kd.R_base ho72) hb)
            replace HR582 := am (Kd.C_below (ca HR582) hb)
            replace HR595 := am (Kd.C_below (ca HR595) hb)
            replace HB := bs hb
            clear hb ho72
            refine hK.out _ _ trivial (fun hHeld => ?_)
            clear hK K
            refine nm 66 ?_
            refine one_ (i := 4) (N := some 70) (bt 13 1919) rfl rfl (one_of HT_.out (by kernel_rfl)) (by decide) (fun K hK => ?_)
            refine Kd.R_append_rows_step (Kd.int .i64) (w0 := w) w.heap.size (by rfl) (.tmp 66) (.tmp 69) 28 3 (.int .i64 0) 8 rfl Try.underlying28 info3 rfl (by decide) (by omega) v577 y576 y579 _ _ _ (fun k_ => some k_ ≠ (.slice Ao65 x5_1.length co65 : Value).ownBlock ∧ some k_ ≠ (v587 : Value).ownBlock) (fun _ => False) rfl rfl ?aO ?aR (fun _ _ h => h) (fun _ h => h.elim) ?aF ?aB ?aS ?aL ?_
            (case aR => repeat (first | exact (ca HR582) | (with_reducible refine Kd.C_alloc ?_ _) | (with_reducible refine Kd.C_drewN ?_ _) | (with_reducible refine Kd.C_drew ?_)))
            (case aB => exact (sb))
            (case aF => exact (fun k_ hk => ⟨Kd.fresh' (Kd.R_lt (sr HO_5)) k_ hk, Kd.fresh' (Kd.R_lt (sr HO588)) k_ hk⟩))
            (case aO => exact (by (with_reducible repeat (first | apply Kd.R_alloc | apply Kd.R_drewN | apply Kd.R_drew)); exact Kd.R_mono HO578.out (fun _ hk => ⟨hk.1.2, hk.2⟩)))
            (case aS => exact (below_size (sb)))
            (case aL => have := LMc60.out; omega)
            intro v584 w73 ho hb hg hat
            rw [← Ny583.out] at ho
            replace HO588 := am (Kd.R_after (ok := (fun k_ => some k_ ≠ (.slice Ao65 x5_1.length co65 : Value).ownBlock)) (by (with_reducible repeat (first | apply Kd.R_alloc | apply Kd.R_drewN | apply Kd.R_drew)); exact Kd.R_mono HO588.out (fun _ hk => ⟨hk.1.2, hk.2⟩)) hg hat)
            replace HB := am hb
            replace HR582 := am ((show Kd.C (Kd.int .i64) w73 Ao65 y579.length y579 from by rw [Ny579.out]; exact Kd.C_take (m := (x8_3 : Int).toNat) ((Kd.R_reads' (Kd.R_after (ok := (fun k_ => some k_ ≠ (v587 : Value).ownBlock)) (by (with_reducible repeat (first | apply Kd.R_alloc | apply Kd.R_drewN | apply Kd.R_drew)); exact Kd.R_mono HO_5.out (fun _ hk => ⟨hk.1.2, hk.2⟩)) hg hat)).2.2) KL67.out))
            replace HR595 := am ((show Kd.C (Kd.int .i64) w73 A68 y592.length y592 from by rw [Ny592.out, KA68.out]; exact Kd.C_drop (m := (x8_3 : Int).toNat) (c := co65) ((Kd.R_reads' (Kd.R_after (ok := (fun k_ => some k_ ≠ (v587 : Value).ownBlock)) (by (with_reducible repeat (first | apply Kd.R_alloc | apply Kd.R_drewN | apply Kd.R_drew)); exact Kd.R_mono HO_5.out (fun _ hk => ⟨hk.1.2, hk.2⟩)) hg hat)).2.2) KL68.out ((Kd.R_reads' (Kd.R_after (ok := (fun k_ => some k_ ≠ (v587 : Value).ownBlock)) (by (with_reducible repeat (first | apply Kd.R_alloc | apply Kd.R_drewN | apply Kd.R_drew)); exact Kd.R_mono HO_5.out (fun _ hk => ⟨hk.1.2, hk.2⟩)) hg hat)).2.1)))
            replace HO_5 := am (Kd.R_after (ok := (fun k_ => some k_ ≠ (v587 : Value).ownBlock)) (by (with_reducible repeat (first | apply Kd.R_alloc | apply Kd.R_drewN | apply Kd.R_drew)); exact Kd.R_mono HO_5.out (fun _ hk => ⟨hk.1.2, hk.2⟩)) hg hat)
            have HO585 := am ho
            clear HO578 ho hb hg hat
            refine hK.out _ _ trivial (fun hHeld => ?_)
            clear hK K
            refine nm 70 ?_
            exact norm_ (by simp only [putAll, Act.put, List.setIfInBounds_toArray, List.set_cons_zero, List.set_cons_succ]) (hCont (v577, v584, v587) _ ⟨(by (with_reducible repeat (first | apply Kd.R_alloc | apply Kd.R_drewN | apply Kd.R_drew)); exact Kd.R_mono HO585.out (fun _ hk => ⟨hk.2, hk.1⟩)), (by (with_reducible repeat (first | apply Kd.R_alloc | apply Kd.R_drewN | apply Kd.R_drew)); exact Kd.R_mono HO588.out (fun _ hk => ⟨hk.2, hk.1⟩)), (by (with_reducible repeat (first | apply Kd.R_alloc | apply Kd.R_drewN | apply Kd.R_drew)); exact Kd.R_mono HO_5.out (fun _ hk => ⟨hk.2, hk.1⟩)), (sb)⟩)
          rintro ⟨v577, v584, v587⟩ w74 ⟨h0_, h1_, h2_, h3_⟩
          have HO585 : Aside0 (Kd.R (Kd.int .i64) 3 w74 w.heap.size (fun k_ => some k_ ≠ (v587 : Value).ownBlock ∧ some k_ ≠ (.slice Ao65 x5_1.length co65 : Value).ownBlock) v584 y583) := ⟨h0_⟩
          have HO588 : Aside0 (Kd.R (Kd.int .i64) 3 w74 w.heap.size (fun k_ => some k_ ≠ (v584 : Value).ownBlock ∧ some k_ ≠ (.slice Ao65 x5_1.length co65 : Value).ownBlock) v587 y586) := ⟨h1_⟩
          replace HO_5 : Aside0 (Kd.R (Kd.int .i64) 3 w74 w.heap.size (fun k_ => some k_ ≠ (v584 : Value).ownBlock ∧ some k_ ≠ (v587 : Value).ownBlock) (.slice Ao65 x5_1.length co65) x5_1) := ⟨h2_⟩
          replace HB : Aside0 (Below w.heap.size w w74) := ⟨h3_⟩
          clear h0_ h1_ h2_ h3_
          have hHeld := trivial
          obtain ⟨Ao76, co76, eo76⟩ := Kd.R_slice HO588.out
          (first | subst eo76 | (injection eo76 with f1_ f2_ f3_; have f4_ := f1_.symm; have f5_ := f3_.symm; clear f1_ f2_ f3_; subst f4_; subst f5_))
          refine norm_ (a' := ?_) ?_ ?_
          rotate_left
          ·simp only [putAll, Act.put, List.setIfInBounds_toArray, List.set_cons_zero, List.set_cons_succ]
           rfl
          refine one_ (i := 7) (N := some 73) (bt 13 2047) rfl rfl (one_of HT_.out (by kernel_rfl)) (by decide) (fun K hK => ?_)
          refine Kd.R_append_rows_step (Kd.int .i64) (w0 := w) w.heap.size (by rfl) (.tmp 70) (.tmp 72) 28 3 (.int .i64 0) 8 rfl Try.underlying28 info3 rfl (by decide) (by omega) v584 y583 y586 _ _ _ (fun k_ => some k_ ≠ (.slice Ao65 x5_1.length co65 : Value).ownBlock ∧ some k_ ≠ (.slice Ao76 y586.length co76 : Value).ownBlock) (fun _ => False) rfl rfl ?aO ?aR (fun _ _ h => h) (fun _ h => h.elim) ?aF ?aB ?aS ?aL ?_
          (case aR => repeat (first | exact (Kd.R_reads' HO588.out).2.2 | (with_reducible refine Kd.C_alloc ?_ _) | (with_reducible refine Kd.C_drewN ?_ _) | (with_reducible refine Kd.C_drew ?_)))
          (case aB => exact (sb))
          (case aF => exact (fun k_ hk => ⟨Kd.fresh' (Kd.R_lt (sr HO_5)) k_ hk, Kd.fresh' (Kd.R_lt (sr HO588)) k_ hk⟩))
          (case aO => exact (by (with_reducible repeat (first | apply Kd.R_alloc | apply Kd.R_drewN | apply Kd.R_drew)); exact Kd.R_mono HO585.out (fun _ hk => ⟨hk.2, hk.1⟩)))
          (case aS => exact (below_size (sb)))
          (case aL => have := LMc61.out; omega)
          intro v590 w75 ho hb hg hat
          rw [← Ny589.out] at ho
          replace HO_5 := am (Kd.R_after (ok := (fun k_ => some k_ ≠ (.slice Ao76 y586.length co76 : Value).ownBlock)) (by (with_reducible repeat (first | apply Kd.R_alloc | apply Kd.R_drewN | apply Kd.R_drew)); exact Kd.R_mono HO_5.out (fun _ hk => ⟨hk.2, hk.1⟩)) hg hat)
          replace HO588 := am (Kd.R_after (ok := (fun k_ => some k_ ≠ (.slice Ao65 x5_1.length co65 : Value).ownBlock)) (by (with_reducible repeat (first | apply Kd.R_alloc | apply Kd.R_drewN | apply Kd.R_drew)); exact Kd.R_mono HO588.out (fun _ hk => ⟨hk.2, hk.1⟩)) hg hat)
          replace HB := am hb
          have HO591 := am ho
          clear HO585 ho hb hg hat
          refine hK.out _ _ trivial (fun hHeld => ?_)
          clear hK K
          refine nm 73 ?_
          refine one_ (i := 11) (N := some 77) (bt 13 4095) rfl rfl (one_of HT_.out (by kernel_rfl)) (by decide) (fun K hK => ?_)
          refine Kd.R_append_rows_step (Kd.int .i64) (w0 := w) w.heap.size (by rfl) (.tmp 73) (.tmp 76) 28 3 (.int .i64 0) 8 rfl Try.underlying28 info3 rfl (by decide) (by omega) v590 y589 y592 _ _ _ (fun k_ => some k_ ≠ (.slice Ao65 x5_1.length co65 : Value).ownBlock ∧ some k_ ≠ (.slice Ao76 y586.length co76 : Value).ownBlock) (fun _ => False) rfl rfl ?aO ?aR (fun _ _ h => h) (fun _ h => h.elim) ?aF ?aB ?aS ?aL ?_
          (case aR => exact (show Kd.C (Kd.int .i64) _ A68 y592.length y592 from by rw [Ny592.out, KA68.out]; exact Kd.C_drop (m := (x8_3 : Int).toNat) (c := co65) ((Kd.R_reads' (sr HO_5)).2.2) KL68.out ((Kd.R_reads' HO_5.out).2.1)))
          (case aB => exact (sb))
          (case aF => exact (fun k_ hk => ⟨Kd.fresh' (Kd.R_lt (sr HO_5)) k_ hk, Kd.fresh' (Kd.R_lt (sr HO588)) k_ hk⟩))
          (case aO => exact (sr HO591))
          (case aS => exact (below_size (sb)))
          (case aL => have := LMc64.out; omega)
          intro v597 w77 ho hb hg hat
          rw [← Ny596.out] at ho
          replace HO_5 := am (Kd.R_after (ok := (fun k_ => some k_ ≠ (.slice Ao76 y586.length co76 : Value).ownBlock)) (sr HO_5) hg hat)
          replace HO588 := am (Kd.R_after (ok := (fun k_ => some k_ ≠ (.slice Ao65 x5_1.length co65 : Value).ownBlock)) (sr HO588) hg hat)
          replace HB := am hb
          have HO598 := am ho
          clear HO591 ho hb hg hat
          refine hK.out _ _ trivial (fun hHeld => ?_)
          clear hK K
          refine nm 77 ?_
          refine put 12 5 (bt 13 8191) HT_ ?_
          refine done_ (done_of HT_.out (by kernel_rfl)) ?_
          try go_wp2
          go_roundg k3
          case measure => have := HK1.out; have := HJ6.out; have := HK3.out; omega
          case rel => exact ⟨(y596), (wrap64 (x6_1 + 1)), sc, H', ⟨by have := HK1.out; have := HJ6.out; have := HK3.out; omega⟩, ⟨by (with_reducible repeat (first | apply Kd.R_alloc | apply Kd.R_drewN | apply Kd.R_drew)); exact Kd.R_mono HO598.out (fun _ hk => trivial)⟩, ⟨sb⟩⟩
         ·have c57b0 : (x8_3 == (x5_1.length : Int)) = false := beq_eq_false_iff_ne.mpr c57
          have c57b1 : (x8_3 != (x5_1.length : Int)) = true := bne_iff_ne.mpr c57
          obtain ⟨c78, H⟩ := ia_ H
          exact ab H
   ·have c5b0 := decide_eq_false c5
    clear c5
    obtain rfl := Option.some.inj H
    go_wp2
    go_ret
    exact ⟨_, se, sr HO_5, sb⟩

end Go.Proofs.Ytiihaabhjphaeaa.QFnPrograms
