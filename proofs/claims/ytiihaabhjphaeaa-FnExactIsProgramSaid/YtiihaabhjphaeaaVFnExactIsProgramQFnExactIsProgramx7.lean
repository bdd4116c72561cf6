/- What the Go functions of the law FnExactIsProgram come to, as Lean functions, and that they do: by a program of the session, out of the kit's printer. Conditions: none. (squeezed). -/
import Derived.Test.YtiihaabhjphaeaaVFnExactIsProgramSq
import Derived.Test.YtiihaabhjphaeaaVFnExactIsProgramQFnExactIsProgramx0
namespace Go.Proofs.Ytiihaabhjphaeaa.QFnExactIsProgram
open Go.RowKit Go.Proofs.YtiihaabhjphaeaaW.PrintWords Go.Proofs.YtiihaabhjphaeaaW.PrintLast Go.Proofs.YtiihaabhjphaeaaW.PrintMore Go.Proofs.Ytiihaabhjphaeaa.Open Go.Proofs.Ytiihaabhjphaeaa.Sq
attribute [local go_sem] max2_int min2_int max_two min_two max_three min_three max_four min_four   -- for this text's walks alone
attribute [local go_sem] isSome_set
set_option linter.unusedVariables false
set_option linter.unusedSimpArgs false

/-! ### spec_NeighborsIn: function 127 -/
mutual
def spec_NeighborsIn.l0 : Nat → List (S134) → Int → List Int → Int → Option (List Int)
  | 0, _, _, _, _ => none
  | k + 1, x0, x1, x5, x6 => if x6 < (x0.length : Int) then (if 0 ≤ x6 then (if ((rd_T134 x0 x6).f0) = x1 then (spec_NeighborsIn.j1 k x0 x1 x5 x6 ((rd_T134 x0 x6).f1)) else (if ((rd_T134 x0 x6).f1) = x1 then (spec_NeighborsIn.j1 k x0 x1 x5 x6 ((rd_T134 x0 x6).f0)) else (spec_NeighborsIn.l0 k x0 x1 x5 (wrap64 (x6 + 1))))) else (none)) else (some x5)
def spec_NeighborsIn.j1 : Nat → List (S134) → Int → List Int → Int → Int → Option (List Int)
  | 0, _, _, _, _, _ => none
  | k + 1, x0, x1, x5, x6, x7 => spec_NeighborsIn.l1 k x0 x1 x5 x6 x7 0
def spec_NeighborsIn.l1 : Nat → List (S134) → Int → List Int → Int → Int → Int → Option (List Int)
  | 0, _, _, _, _, _, _ => none
  | k + 1, x0, x1, x5, x6, x7, x8 => if x8 < (x5.length : Int) then (if 0 ≤ x8 then (if (rd x5 x8) < x7 then (spec_NeighborsIn.l1 k x0 x1 x5 x6 x7 (wrap64 (x8 + 1))) else (if x8 = (x5.length : Int) then ((some (([] : List Int) : List Int)).bind fun y237 => (if x8 ≤ (x5.length : Int) then ((some (x5.take (x8 : Int).toNat : List Int)).bind fun y240 => (if y237.length + y240.length < 17592186044416 then ((some (y237 ++ y240 : List Int)).bind fun y244 => ((some (([x7] : List Int) : List Int)).bind fun y247 => (if y244.length + y247.length < 17592186044416 then ((some (y244 ++ y247 : List Int)).bind fun y250 => ((some (x5.drop (x8 : Int).toNat : List Int)).bind fun y253 => (if y250.length + y253.length < 17592186044416 then (spec_NeighborsIn.l0 k x0 x1 (y250 ++ y253) (wrap64 (x6 + 1))) else (none)))) else (none)))) else (none))) else (none))) else (if (rd x5 x8) = x7 then (spec_NeighborsIn.l0 k x0 x1 x5 (wrap64 (x6 + 1))) else ((some (([] : List Int) : List Int)).bind fun y261 => (if x8 ≤ (x5.length : Int) then ((some (x5.take (x8 : Int).toNat : List Int)).bind fun y264 => (if y261.length + y264.length < 17592186044416 then ((some (y261 ++ y264 : List Int)).bind fun y268 => ((some (([x7] : List Int) : List Int)).bind fun y271 => (if y268.length + y271.length < 17592186044416 then ((some (y268 ++ y271 : List Int)).bind fun y274 => ((some (x5.drop (x8 : Int).toNat : List Int)).bind fun y277 => (if y274.length + y277.length < 17592186044416 then (spec_NeighborsIn.l0 k x0 x1 (y274 ++ y277) (wrap64 (x6 + 1))) else (none)))) else (none)))) else (none))) else (none)))))) else (none)) else (if x8 = (x5.length : Int) then ((some (([] : List Int) : List Int)).bind fun y284 => (if 0 ≤ x8 then (if x8 ≤ (x5.length : Int) then ((some (x5.take (x8 : Int).toNat : List Int)).bind fun y287 => (if y284.length + y287.length < 17592186044416 then ((some (y284 ++ y287 : List Int)).bind fun y291 => ((some (([x7] : List Int) : List Int)).bind fun y294 => (if y291.length + y294.length < 17592186044416 then ((some (y291 ++ y294 : List Int)).bind fun y297 => ((some (x5.drop (x8 : Int).toNat : List Int)).bind fun y300 => (if y297.length + y300.length < 17592186044416 then (spec_NeighborsIn.l0 k x0 x1 (y297 ++ y300) (wrap64 (x6 + 1))) else (none)))) else (none)))) else (none))) else (none)) else (none))) else (if 0 ≤ x8 then (none) else (none)))
end
def spec_NeighborsIn.f (k : Nat) (l0 : List (S134)) (a1 : Int) : Option (List Int) := spec_NeighborsIn.l0 k l0 a1 (([] : List Int)) 0
theorem spec_NeighborsIn.mono_l : ∀ k, (∀ y0 y1 y2 y3, LeO (spec_NeighborsIn.l0 k y0 y1 y2 y3) (spec_NeighborsIn.l0 (k + 1) y0 y1 y2 y3)) ∧ (∀ y0 y1 y2 y3 y4, LeO (spec_NeighborsIn.j1 k y0 y1 y2 y3 y4) (spec_NeighborsIn.j1 (k + 1) y0 y1 y2 y3 y4)) ∧ (∀ y0 y1 y2 y3 y4 y5, LeO (spec_NeighborsIn.l1 k y0 y1 y2 y3 y4 y5) (spec_NeighborsIn.l1 (k + 1) y0 y1 y2 y3 y4 y5))
  | 0 => ⟨fun _ _ _ _ r h => by simp [spec_NeighborsIn.l0] at h, fun _ _ _ _ _ r h => by simp [spec_NeighborsIn.j1] at h, fun _ _ _ _ _ _ r h => by simp [spec_NeighborsIn.l1] at h⟩
  | k + 1 => by
    obtain ⟨ih0, ih1, ih2⟩ := spec_NeighborsIn.mono_l k
    refine ⟨?_, ?_, ?_⟩
    · intro y0 y1 y2 y3
      unfold spec_NeighborsIn.l0
      exact mo
    · intro y0 y1 y2 y3 y4
      unfold spec_NeighborsIn.j1
      exact mo
    · intro y0 y1 y2 y3 y4 y5
      unfold spec_NeighborsIn.l1
      exact mo
theorem spec_NeighborsIn.mono : ∀ a0 a1 k, LeO (spec_NeighborsIn.f k a0 a1) (spec_NeighborsIn.f (k + 1) a0 a1) := by
  intro a0 a1 k
  obtain ⟨ih0, ih1, ih2⟩ := spec_NeighborsIn.mono_l k
  unfold spec_NeighborsIn.f
  exact mo
def spec_NeighborsIn.T14 : Bool × List (List Nat × List Nat) := (true, [([], []), ([], []), ([], []), ([1, 2], [1, 2]), ([0, 3], [0, 3]), ([], []), ([5], [5]), ([4, 6, 4], [4, 6]), ([], []), ([], []), ([8, 9], [8, 9]), ([7, 10, 7], [7, 10]), ([11, 11, 0, 1, 2, 3, 4, 5, 6, 7, 8, 9, 10, 11], [1, 8, 11])])
def spec_NeighborsIn.B14 : List Nat := [0, 0, 0, 6, 15, 0, 32, 127, 0, 0, 768, 2047, 4095]
theorem spec_NeighborsIn.tab14 : rtab .any (opsOf Try.f127 14) = spec_NeighborsIn.T14 := by kernel_rfl
theorem spec_NeighborsIn.bits14 : waitsOk spec_NeighborsIn.T14.2 spec_NeighborsIn.B14 = true := by kernel_rfl
set_option maxHeartbeats 8000000 in
set_option maxRecDepth 100000 in
theorem spec_NeighborsIn.calls (k : Nat) (A0 : Option Addr) (c0 : Nat) (l0 : List (S134)) (a1 : Int) (r : List Int) (w : World) (hr0 : Kd.C k134 w A0 l0.length l0) (hc0 : l0.length ≤ c0) (h : spec_NeighborsIn.f k l0 a1 = some r) :
    Calls Try.prog 127 #[.slice A0 l0.length c0, .int .i64 a1] w fun e w' => ∃ v0_ : Value, e = .returned (v0_) ∧ Kd.R (Kd.int .i64) 3 w' w.heap.size (fun _ => True) v0_ r ∧ Below w.heap.size w w' := by
 have HR0 := Aside0.mk hr0
 have HC0 := Aside0.mk hc0
 clear hr0 hc0
 have HB := Aside0.mk (Below.refl w.heap.size w)
 have H : (spec_NeighborsIn.l0 k l0 a1 (([] : List Int)) 0) = some r := h
 clear h
 obtain ⟨y229, hy229⟩ : ∃ y_ : List Int, y_ = (([] : List Int)) := ⟨_, rfl⟩
 replace H : (spec_NeighborsIn.l0 k l0 a1 y229 0) = some r := by first | (rw [hy229]; with_reducible exact H) | (have H2_ := (Option.bind_some _ _).symm.trans H; rw [hy229]; with_reducible exact H2_) | (have H2_ := (Option.bind_some _ _).symm.trans H; with_reducible exact H2_) | with_reducible exact H | (rw [hy229]; exact H) | exact H
 have Ny229 := Aside0.mk hy229
 clear hy229
 have H' := Aside0.mk H
 clear H
 go_enter Try.func127, Try.ntmps127
 go_wp2_with (first | ((with_reducible refine gate_dst (N := 9) rfl ?_); refine Kd.R_lit (Kd.int .i64) _ 3 ?hg (N := 9) ?hd (xs := ([] : List Int)) (inner := []) (ok := fun _ => True) (okp := fun _ => True) ?hr ?hp (fun _ hk => hk) trivial (Below.refl _ _) (Nat.le_refl _) (by simp) ?_; (case hd => rfl); (case hg => rfl); (case hr => first | (go_simp; done) | (go_simp; rfl)); (case hp => exact (Reps.none _ _)); intro v230 w3 ho4 hb hg_ hnew_; clear hg_ hnew_; (first | rw [← Ny229.out] at ho4 | (simp only [Int.reduceToNat] at ho4; rw [← Ny229.out] at ho4)); have HO231 := Aside0.mk (Kd.R_lower ho4 (below_size (sb))); replace HB := bs hb; clear hb ho4))
 go_loopg [5, 6] k (fun kq v5 v6 w' => ∃ (x5_1 : List Int) (x6_1 : Int), v6 = .int .i64 x6_1 ∧ Aside0 (spec_NeighborsIn.l0 kq l0 a1 x5_1 x6_1 = some r) ∧ Aside0 (kq ≤ k) ∧ Aside0 (Kd.R (Kd.int .i64) 3 w' w.heap.size (fun _ => True) v5 x5_1) ∧ Aside0 (Below w.heap.size w w'))
 case atStart => exact ⟨(y229), (0), sc, H', kk0, ⟨sr HO231⟩, ⟨sb⟩⟩
 case round =>
  clear H'
  try clear c1
  obtain ⟨x5_1, x6_1, rfl, HA, HK1, HO_5, HB⟩ := hrel
  cases gk with
  | zero => exact absurd HA.out (by simp [spec_NeighborsIn.l0])
  | succ k1 =>
   have H := HA.out
   clear HA
   simp only [spec_NeighborsIn.l0] at H
   obtain ⟨c5, H⟩ | ⟨c5, H⟩ := ie_ H
   ·have c5b0 := decide_eq_true c5
    clear c5
    obtain ⟨c6b0, H⟩ := id_ H
    have HC7 := Aside0.mk H
    clear H
    obtain ⟨p232, q232, ad232, e232, _, _, hx232_0, hx232_1⟩ := aT_T134 HR0 HB x6_1
    cases e232
    go_upto_if 22 with (fail)
    go_cut [7] (fun v7 wc => ∃ (kq : Nat) (x7_6 : Int), v7 = .int .i64 x7_6 ∧ Aside0 (spec_NeighborsIn.j1 kq l0 a1 x5_1 x6_1 x7_6 = some r) ∧ Aside0 (kq ≤ k1) ∧ Aside0 (Kd.R (Kd.int .i64) 3 wc w.heap.size (fun _ => True) u5 x5_1) ∧ Aside0 (Below w.heap.size w wc))
    case first =>
     have H := HC7.out
     clear HC7
     obtain ⟨c8, H⟩ | ⟨c8, H⟩ := ie_ H
     ·have c8b0 : (((rd_T134 l0 x6_1).f0) == a1) = true := beq_iff_eq.mpr c8
      have c8b1 : (((rd_T134 l0 x6_1).f0) != a1) = false := bne_eq_false_iff_eq.mpr c8
      clear c8
      (first | rw [c8b0] | (simp only [i64_w, i32_w]; rw [c8b0]) | rw [c8b1] | skip)
      have H' := Aside0.mk H
      clear H
      obtain ⟨p233, q233, ad233, e233, _, _, hx233_0, hx233_1⟩ := aT_T134 HR0 HB x6_1
      obtain rfl : ad232 = ad233 := (by injection e233)
      go_wp2
      go_meet
      case rel => exact ⟨_, ((rd_T134 l0 x6_1).f1), sc, H', ⟨by have := HK1.out; first | omega | exact Nat.le_refl _⟩, ⟨sr HO_5⟩, ⟨sb⟩⟩
     ·have c8b0 : (((rd_T134 l0 x6_1).f0) == a1) = false := beq_eq_false_iff_ne.mpr c8
      have c8b1 : (((rd_T134 l0 x6_1).f0) != a1) = true := bne_iff_ne.mpr c8
      (first | rw [c8b0] | (simp only [i64_w, i32_w]; rw [c8b0]) | rw [c8b1] | skip)
      obtain ⟨c9, H⟩ | ⟨c9, H⟩ := ie_ H
      ·have c9b0 : (((rd_T134 l0 x6_1).f1) == a1) = true := beq_iff_eq.mpr c9
       have c9b1 : (((rd_T134 l0 x6_1).f1) != a1) = false := bne_eq_false_iff_eq.mpr c9
       clear c9
       have H' := Aside0.mk H
       clear H
       obtain ⟨p234, q234, ad234, e234, _, _, hx234_0, hx234_1⟩ := aT_T134 HR0 HB x6_1
       obtain rfl : ad232 = ad234 := (by injection e234)
       obtain ⟨p235, q235, ad235, e235, _, _, hx235_0, hx235_1⟩ := aT_T134 HR0 HB x6_1
       obtain rfl : ad232 = ad235 := (by injection e235)
       go_wp2
       go_meet
       case rel => exact ⟨_, ((rd_T134 l0 x6_1).f0), sc, H', ⟨by have := HK1.out; first | omega | exact Nat.le_refl _⟩, ⟨sr HO_5⟩, ⟨sb⟩⟩
      ·have c9b0 : (((rd_T134 l0 x6_1).f1) == a1) = false := beq_eq_false_iff_ne.mpr c9
       have c9b1 : (((rd_T134 l0 x6_1).f1) != a1) = true := bne_iff_ne.mpr c9
       have H' := Aside0.mk H
       clear H
       obtain ⟨p234, q234, ad234, e234, _, _, hx234_0, hx234_1⟩ := aT_T134 HR0 HB x6_1
       obtain rfl : ad232 = ad234 := (by injection e234)
       go_wp2
       go_roundg k1
       case measure => have := HK1.out; omega
       case rel => exact ⟨(x5_1), (wrap64 (x6_1 + 1)), sc, H', kk1, ⟨sr HO_5⟩, ⟨sb⟩⟩
    case rest =>
     clear HC7
     try clear c1
     try clear c5
     try clear c5b0
     try clear c6b0
     try clear c8
     try clear c8b0
     try clear c8b1
     try clear c9
     try clear c9b0
     try clear c9b1
     try clear hx232_0
     try clear hx232_1
     try clear hx233_0
     try clear hx233_1
     try clear hx234_0
     try clear hx234_1
     try clear hx235_0
     try clear hx235_1
     try clear p232
     try clear p233
     try clear p234
     try clear p235
     try clear q232
     try clear q233
     try clear q234
     try clear q235
     obtain ⟨kq, x7_6, rfl, HA, HJ6, HO_5, HB⟩ := hcut
     cases kq with
     | zero => exact absurd HA.out (by simp [spec_NeighborsIn.j1])
     | succ kj6 =>
      have H := HA.out
      clear HA
      simp only [spec_NeighborsIn.j1] at H
      have H' := Aside0.mk H
      clear H
      go_wp2
      go_loopg [8] kj6 (fun kq v8 w' => ∃ (x8_3 : Int), v8 = .int .i64 x8_3 ∧ Aside0 (spec_NeighborsIn.l1 kq l0 a1 x5_1 x6_1 x7_6 x8_3 = some r) ∧ Aside0 (kq ≤ kj6) ∧ Aside0 (Kd.R (Kd.int .i64) 3 w' w.heap.size (fun _ => True) u5 x5_1) ∧ Aside0 (Below w.heap.size w w'))
      case atStart => exact ⟨(0), sc, H', kk0, ⟨sr HO_5⟩, ⟨sb⟩⟩
      case round =>
       clear H'
       try clear c1
       try clear c5
       try clear c5b0
       try clear c6b0
       try clear c8
       try clear c8b0
       try clear c8b1
       try clear c9
       try clear c9b0
       try clear c9b1
       try clear hx232_0
       try clear hx232_1
       try clear hx233_0
       try clear hx233_1
       try clear hx234_0
       try clear hx234_1
       try clear hx235_0
       try clear hx235_1
       try clear p232
       try clear p233
       try clear p234
       try clear p235
       try clear q232
       try clear q233
       try clear q234
       try clear q235
       obtain ⟨x8_3, rfl, HA, HK3, HO_5, HB⟩ := hrel
       cases gk with
       | zero => exact absurd HA.out (by simp [spec_NeighborsIn.l1])
       | succ k3 =>
        have H := HA.out
        clear HA
        simp only [spec_NeighborsIn.l1] at H
        obtain ⟨c10, H⟩ | ⟨c10, H⟩ := ie_ H
        ·have c10b0 := decide_eq_true c10
         clear c10
         obtain ⟨c11b0, H⟩ := id_ H
         obtain ⟨c12, H⟩ | ⟨c12, H⟩ := ie_ H
         ·have c12b0 := decide_eq_true c12
          clear c12
          have H' := Aside0.mk H
          clear H
          obtain ⟨Ao13, co13, eo13⟩ := Kd.R_slice HO_5.out
          subst eo13
          have p236 : 0 ≤ (x8_3 : Int) := sa
          have q236 : x8_3 < (x5_1.length : Int) := sa
          obtain ⟨ad236, e236, hx236_0⟩ := Kd.at_int (Kd.R_reads' HO_5.out).2.2 x8_3 p236 q236
          cases e236
          replace p236 := eq_true p236
          replace q236 := eq_true q236
          go_wp2
          go_roundg k3
          case measure => have := HK1.out; have := HJ6.out; have := HK3.out; omega
          case rel => exact ⟨(wrap64 (x8_3 + 1)), sc, H', ⟨by have := HK1.out; have := HJ6.out; have := HK3.out; omega⟩, ⟨sr HO_5⟩, ⟨sb⟩⟩
         ·have c12b0 := decide_eq_false c12
          clear c12
          obtain ⟨c14, H⟩ | ⟨c14, H⟩ := ie_ H
          ·have c14b0 : (x8_3 == (x5_1.length : Int)) = true := beq_iff_eq.mpr c14
           have c14b1 : (x8_3 != (x5_1.length : Int)) = false := bne_eq_false_iff_eq.mpr c14
           clear c14
           obtain ⟨y237, hy237⟩ : ∃ y_ : List Int, y_ = (([] : List Int)) := ⟨_, rfl⟩
           replace H : (if x8_3 ≤ (x5_1.length : Int) then ((some (x5_1.take (x8_3 : Int).toNat : List Int)).bind fun y240 => (if y237.length + y240.length < 17592186044416 then ((some (y237 ++ y240 : List Int)).bind fun y244 => ((some (([x7_6] : List Int) : List Int)).bind fun y247 => (if y244.length + y247.length < 17592186044416 then ((some (y244 ++ y247 : List Int)).bind fun y250 => ((some (x5_1.drop (x8_3 : Int).toNat : List Int)).bind fun y253 => (if y250.length + y253.length < 17592186044416 then (spec_NeighborsIn.l0 k3 l0 a1 (y250 ++ y253) (wrap64 (x6_1 + 1))) else (none)))) else (none)))) else (none))) else (none)) = some r := by first | (rw [hy237]; with_reducible exact H) | (have H2_ := (Option.bind_some _ _).symm.trans H; rw [hy237]; with_reducible exact H2_) | (have H2_ := (Option.bind_some _ _).symm.trans H; with_reducible exact H2_) | with_reducible exact H | (rw [hy237]; exact H) | exact H
           have Ny237 := Aside0.mk hy237
           clear hy237
           have c15b0 := eq_true (sa : 0 ≤ x8_3)
           obtain ⟨c16, H⟩ := ia_ H
           have c16b0 := eq_true c16
           have c16b1 := decide_eq_true c16
           clear c16
           obtain ⟨y240, hy240⟩ : ∃ y_ : List Int, y_ = (x5_1.take (x8_3 : Int).toNat) := ⟨_, rfl⟩
           replace H : (if y237.length + y240.length < 17592186044416 then ((some (y237 ++ y240 : List Int)).bind fun y244 => ((some (([x7_6] : List Int) : List Int)).bind fun y247 => (if y244.length + y247.length < 17592186044416 then ((some (y244 ++ y247 : List Int)).bind fun y250 => ((some (x5_1.drop (x8_3 : Int).toNat : List Int)).bind fun y253 => (if y250.length + y253.length < 17592186044416 then (spec_NeighborsIn.l0 k3 l0 a1 (y250 ++ y253) (wrap64 (x6_1 + 1))) else (none)))) else (none)))) else (none)) = some r := by first | (rw [hy240]; with_reducible exact H) | (have H2_ := (Option.bind_some _ _).symm.trans H; rw [hy240]; with_reducible exact H2_) | (have H2_ := (Option.bind_some _ _).symm.trans H; with_reducible exact H2_) | with_reducible exact H | (rw [hy240]; exact H) | exact H
           have Ny240 := Aside0.mk hy240
           clear hy240
           obtain ⟨LMc17, H⟩ := il_ H
           obtain ⟨y244, hy244⟩ : ∃ y_ : List Int, y_ = (y237 ++ y240) := ⟨_, rfl⟩
           replace H : ((some (([x7_6] : List Int) : List Int)).bind fun y247 => (if y244.length + y247.length < 17592186044416 then ((some (y244 ++ y247 : List Int)).bind fun y250 => ((some (x5_1.drop (x8_3 : Int).toNat : List Int)).bind fun y253 => (if y250.length + y253.length < 17592186044416 then (spec_NeighborsIn.l0 k3 l0 a1 (y250 ++ y253) (wrap64 (x6_1 + 1))) else (none)))) else (none))) = some r := by first | (rw [hy244]; with_reducible exact H) | (have H2_ := (Option.bind_some _ _).symm.trans H; rw [hy244]; with_reducible exact H2_) | (have H2_ := (Option.bind_some _ _).symm.trans H; with_reducible exact H2_) | with_reducible exact H | (rw [hy244]; exact H) | exact H
           have Ny244 := Aside0.mk hy244
           clear hy244
           obtain ⟨y247, hy247⟩ : ∃ y_ : List Int, y_ = (([x7_6] : List Int)) := ⟨_, rfl⟩
           replace H : (if y244.length + y247.length < 17592186044416 then ((some (y244 ++ y247 : List Int)).bind fun y250 => ((some (x5_1.drop (x8_3 : Int).toNat : List Int)).bind fun y253 => (if y250.length + y253.length < 17592186044416 then (spec_NeighborsIn.l0 k3 l0 a1 (y250 ++ y253) (wrap64 (x6_1 + 1))) else (none)))) else (none)) = some r := by first | (rw [hy247]; with_reducible exact H) | (have H2_ := (Option.bind_some _ _).symm.trans H; rw [hy247]; with_reducible exact H2_) | (have H2_ := (Option.bind_some _ _).symm.trans H; with_reducible exact H2_) | with_reducible exact H | (rw [hy247]; exact H) | exact H
           have Ny247 := Aside0.mk hy247
           clear hy247
           obtain ⟨LMc18, H⟩ := il_ H
           obtain ⟨y250, hy250⟩ : ∃ y_ : List Int, y_ = (y244 ++ y247) := ⟨_, rfl⟩
           replace H : ((some (x5_1.drop (x8_3 : Int).toNat : List Int)).bind fun y253 => (if y250.length + y253.length < 17592186044416 then (spec_NeighborsIn.l0 k3 l0 a1 (y250 ++ y253) (wrap64 (x6_1 + 1))) else (none))) = some r := by first | (rw [hy250]; with_reducible exact H) | (have H2_ := (Option.bind_some _ _).symm.trans H; rw [hy250]; with_reducible exact H2_) | (have H2_ := (Option.bind_some _ _).symm.trans H; with_reducible exact H2_) | with_reducible exact H | (rw [hy250]; exact H) | exact H
           have Ny250 := Aside0.mk hy250
           clear hy250
           have c19b0 := eq_true (sa : 0 ≤ x8_3)
           have c20b0 := eq_true (sa : x8_3 ≤ (x5_1.length : Int))
           obtain ⟨y253, hy253⟩ : ∃ y_ : List Int, y_ = (x5_1.drop (x8_3 : Int).toNat) := ⟨_, rfl⟩
           replace H : (if y250.length + y253.length < 17592186044416 then (spec_NeighborsIn.l0 k3 l0 a1 (y250 ++ y253) (wrap64 (x6_1 + 1))) else (none)) = some r := by first | (rw [hy253]; with_reducible exact H) | (have H2_ := (Option.bind_some _ _).symm.trans H; rw [hy253]; with_reducible exact H2_) | (have H2_ := (Option.bind_some _ _).symm.trans H; with_reducible exact H2_) | with_reducible exact H | (rw [hy253]; exact H) | exact H
           have Ny253 := Aside0.mk hy253
           clear hy253
           obtain ⟨LMc21, H⟩ := il_ H
           obtain ⟨y257, hy257⟩ : ∃ y_ : List Int, y_ = (y250 ++ y253) := ⟨_, rfl⟩
           replace H : (spec_NeighborsIn.l0 k3 l0 a1 y257 (wrap64 (x6_1 + 1))) = some r := by first | (rw [hy257]; with_reducible exact H) | (have H2_ := (Option.bind_some _ _).symm.trans H; rw [hy257]; with_reducible exact H2_) | (have H2_ := (Option.bind_some _ _).symm.trans H; with_reducible exact H2_) | with_reducible exact H | (rw [hy257]; exact H) | exact H
           have Ny257 := Aside0.mk hy257
           clear hy257
           have H' := Aside0.mk H
           clear H
           obtain ⟨Ao22, co22, eo22⟩ := Kd.R_slice HO_5.out
           subst eo22
           have p236 : 0 ≤ (x8_3 : Int) := sa
           have q236 : x8_3 < (x5_1.length : Int) := sa
           obtain ⟨ad236, e236, hx236_0⟩ := Kd.at_int (Kd.R_reads' HO_5.out).2.2 x8_3 p236 q236
           cases e236
           replace p236 := eq_true p236
           replace q236 := eq_true q236
           try go_wp2
           replace HO_5 := Aside0.mk (Kd.R_drew HO_5.out)
           replace HB := Aside0.mk (below_drew1 HB.out)
           have q24 : (x8_3 : Int) ≤ ((x5_1.length : Int) : Int) := sa
           obtain ⟨i024, hi024, _, hsz24, _⟩ := info_parts info3
           have hroom24 : x5_1.length ≤ co22 := (Kd.R_reads' HO_5.out).2.1
           have hC24 : Kd.C (Kd.int .i64) _ (some ad236) x5_1.length x5_1 := (Kd.R_reads' HO_5.out).2.2
           have hcut24 := cut_to (P := Try.prog) 28 3 .i64 Try.underlying28 hi024 (some ad236) x5_1.length co22 x8_3 (sa) q24 hroom24
           have hr24 := Kd.C_take (m := (x8_3 : Int).toNat) hC24 (by omega)
           have hy24 : y240.length = (x8_3 : Int).toNat := (by rw [Ny240.out, List.length_take]; omega)
           rw [← Ny240.out] at hr24
           rw [← hy24] at hcut24
           have HR243 := Aside0.mk hr24
           have HC243 := Aside0.mk (show y240.length ≤ co22 from by omega)
           clear hr24 hC24 hroom24 hi024 hsz24
           have KY24 := Aside0.mk hy24
           clear hy24
           have KL24 := Aside0.mk (show (x8_3 : Int).toNat ≤ x5_1.length from by omega)
           replace q24 := eq_true q24
           have q25 : (x8_3 : Int) ≤ ((x5_1.length : Int) : Int) := sa
           obtain ⟨i025, hi025, _, hsz25, _⟩ := info_parts info3
           have hroom25 : x5_1.length ≤ co22 := (Kd.R_reads' HO_5.out).2.1
           have hC25 : Kd.C (Kd.int .i64) _ (some ad236) x5_1.length x5_1 := (Kd.R_reads' HO_5.out).2.2
           have q025 : (0 : Int) ≤ (x8_3 : Int) := sa
           have hcut25 := cut_from (P := Try.prog) 28 3 .i64 Try.underlying28 hi025 1 hsz25 (some ad236) x5_1.length co22 x8_3 q025 q25
           have hr25 := Kd.C_drop (m := (x8_3 : Int).toNat) (c := co22) hC25 (by omega) hroom25
           obtain ⟨A25, hA25⟩ : ∃ A1, A1 = (if co22 = (x8_3 : Int).toNat then (some ad236) else ((some ad236) : Option Addr).map (·.add ((x8_3 : Int).toNat * 1))) := ⟨_, rfl⟩
           obtain ⟨c25, hc25⟩ : ∃ c1, c1 = co22 - (x8_3 : Int).toNat := ⟨_, rfl⟩
           have hy25 : y253.length = x5_1.length - (x8_3 : Int).toNat := (by rw [Ny253.out, List.length_drop] <;> omega)
           rw [show (x5_1).drop (x8_3 : Int).toNat = y253 from Ny253.out.symm] at hr25
           replace hr25 : Kd.C (Kd.int .i64) _ A25 y253.length y253 := (by rw [hA25]; exact hr25)
           rw [← hy25, ← hA25, ← hc25] at hcut25
           have HR256 := Aside0.mk hr25
           have HC256 := Aside0.mk (show y253.length ≤ c25 from by rw [hy25, hc25]; exact Nat.sub_le_sub_right hroom25 _)
           clear hr25 hC25 hroom25 hi025 hsz25 hc25
           have KY25 := Aside0.mk hy25
           have KA25 := Aside0.mk hA25
           clear hy25 hA25
           have KL25 := Aside0.mk (show (x8_3 : Int).toNat ≤ x5_1.length from by omega)
           replace q25 := eq_true q25
           refine start_ (n := 13) (S := fun w' => True) (ds := []) #[false, false, false, false, false, false, false, false, false, false, false, false, false] (by kernel_rfl) rfl rfl trivial (fun hHeld => ?_); refine with_tabW spec_NeighborsIn.tab14 spec_NeighborsIn.bits14 (fun HT_ HW_ => ?_)
           generalize wr.drew = w23 at HO_5 HB HR243 HR256 hHeld ⊢
           refine put 1 67 #[false, true, false, false, false, false, false, false, false, false, false, false, false] HT_ ?_
           refine put 2 68 #[false, true, true, false, false, false, false, false, false, false, false, false, false] HT_ ?_
           refine put 3 69 #[false, true, true, true, false, false, false, false, false, false, false, false, false] HT_ ?_
           refine put 5 71 #[false, true, true, true, false, true, false, false, false, false, false, false, false] HT_ ?_
           refine put 8 74 #[false, true, true, true, false, true, false, false, true, false, false, false, false] HT_ ?_
           refine put 9 75 #[false, true, true, true, false, true, false, false, true, true, false, false, false] HT_ ?_
           refine put 10 76 #[false, true, true, true, false, true, false, false, true, true, true, false, false] HT_ ?_
           refine join_ (σ := Value × Value × Value) 3 #[true, true, true, true, true, true, true, false, true, true, true, false, false] (fun s_ => [(66, s_.1), (70, s_.2.1), (72, s_.2.2)]) (fun s_ w' => (Kd.R (Kd.int .i64) 3 w' w.heap.size (fun k_ => some k_ ≠ (s_.2.2 : Value).ownBlock ∧ some k_ ≠ (.slice (some ad236) x5_1.length co22 : Value).ownBlock) s_.2.1 y244) ∧ (Kd.R (Kd.int .i64) 3 w' w.heap.size (fun k_ => some k_ ≠ (s_.2.1 : Value).ownBlock ∧ some k_ ≠ (.slice (some ad236) x5_1.length co22 : Value).ownBlock) s_.2.2 y247) ∧ (Kd.R (Kd.int .i64) 3 w' w.heap.size (fun k_ => some k_ ≠ (s_.2.1 : Value).ownBlock ∧ some k_ ≠ (s_.2.2 : Value).ownBlock) (.slice (some ad236) x5_1.length co22) x5_1) ∧ (Below w.heap.size w w')) ?_ ?_
           rotate_left
           ·intro hCont
            refine two_ (i := 0) (j := 6) (Ni := some 66) (Nj := some 72) #[true, true, true, true, false, true, false, false, true, true, true, false, false] #[false, true, true, true, false, true, true, false, true, true, true, false, false] rfl rfl rfl rfl (two_of HT_.out (by kernel_rfl)) (by decide) (by decide) (fun K hK => ?_) (fun K hK => ?_)
            ·skip
             refine Kd.R_lit_step (Kd.int .i64) _ 3 ?hg (N := 66) ?hd (xs := ([] : List Int)) (inner := []) (ok := fun _ => True) (okp := fun _ => True) ?hr ?hp (fun _ hk => hk) trivial (Below.refl _ _) (Nat.le_refl _) (by simp) ?_; (case hd => rfl); (case hg => rfl); (case hr => first | (go_simp; done) | (go_simp; rfl)); (case hp => exact (Reps.none _ _))
             intro v238 w26 ho27 hb hg_ hnew_
             clear hg_ hnew_
             (first | rw [← Ny237.out] at ho27 | (simp only [Int.reduceToNat] at ho27; rw [← Ny237.out] at ho27))
             have HO239 := Aside0.mk (Kd.R_lower (Kd.R_new' ho27 (Kd.R_lt (sr HO_5))) (below_size (sb)))
             replace HO_5 := Aside0.mk (Kd.R_elder' (sr HO_5) (Kd.R_base ho27) hb)
             replace HR243 := Aside0.mk (Kd.C_below (by repeat (first | (with_reducible exact HR243.out) | (with_reducible refine Kd.C_alloc ?_ _) | (with_reducible refine Kd.C_drewN ?_ _) | (with_reducible refine Kd.C_drew ?_) | exact HR243.out)) hb)
             replace HR256 := Aside0.mk (Kd.C_below (by repeat (first | (with_reducible exact HR256.out) | (with_reducible refine Kd.C_alloc ?_ _) | (with_reducible refine Kd.C_drewN ?_ _) | (with_reducible refine Kd.C_drew ?_) | exact HR256.out)) hb)
             replace HB := bs hb
             clear hb ho27
             refine hK.out _ _ trivial (fun hHeld => ?_)
             clear hK K
             refine norm_ (a' := ?_) ?_ ?_
             rotate_left
             ·show Act.put _ (some 66) _ = _
              simp only [Act.put, List.setIfInBounds_toArray, List.set_cons_zero, List.set_cons_succ, i64_w, i32_w]
              rfl
             refine two_ (i := 4) (j := 6) (Ni := some 70) (Nj := some 72) #[true, true, true, true, true, true, false, false, true, true, true, false, false] #[true, true, true, true, false, true, true, false, true, true, true, false, false] rfl rfl rfl rfl (two_of HT_.out (by kernel_rfl)) (by decide) (by decide) (fun K hK => ?_) (fun K hK => ?_)
             ·skip
              refine Kd.R_append_rows_step (Kd.int .i64) (w0 := w) w.heap.size (by rfl) (.tmp 66) (.tmp 69) 28 3 (.int .i64 0) 8 rfl Try.underlying28 info3 rfl (by decide) (by omega) v238 y237 y240 _ _ _ (fun k_ => some k_ ≠ (.slice (some ad236) x5_1.length co22 : Value).ownBlock) (fun _ => False) rfl rfl ?aO ?aR (fun _ _ h => h) (fun _ h => h.elim) ?aF ?aB ?aS ?aL ?_
              (case aR => repeat (first | exact (by repeat (first | (with_reducible exact HR243.out) | (with_reducible refine Kd.C_alloc ?_ _) | (with_reducible refine Kd.C_drewN ?_ _) | (with_reducible refine Kd.C_drew ?_) | exact HR243.out)) | (with_reducible refine Kd.C_alloc ?_ _) | (with_reducible refine Kd.C_drewN ?_ _) | (with_reducible refine Kd.C_drew ?_)))
              (case aB => exact (sb))
              (case aF => exact (fun k_ hk => Kd.fresh' (Kd.R_lt (sr HO_5)) k_ hk))
              (case aO => exact (by (with_reducible repeat (first | apply Kd.R_alloc | apply Kd.R_drewN | apply Kd.R_drew)); exact Kd.R_mono HO239.out (fun _ hk => hk.2)))
              (case aS => exact (below_size (sb)))
              (case aL => have := LMc17.out; omega)
              intro v245 w28 ho hb hg hat
              rw [← Ny244.out] at ho
              replace HB := Aside0.mk hb
              replace HR243 := Aside0.mk ((show Kd.C (Kd.int .i64) w28 (some ad236) y240.length y240 from by rw [Ny240.out]; exact Kd.C_take (m := (x8_3 : Int).toNat) ((Kd.R_reads' (Kd.R_after (ok := (fun _ => True)) (sr HO_5) hg hat)).2.2) KL24.out))
              replace HR256 := Aside0.mk ((show Kd.C (Kd.int .i64) w28 A25 y253.length y253 from by rw [Ny253.out, KA25.out]; exact Kd.C_drop (m := (x8_3 : Int).toNat) (c := co22) ((Kd.R_reads' (Kd.R_after (ok := (fun _ => True)) (sr HO_5) hg hat)).2.2) KL25.out ((Kd.R_reads' (Kd.R_after (ok := (fun _ => True)) (sr HO_5) hg hat)).2.1)))
              replace HO_5 := Aside0.mk (Kd.R_after (ok := (fun _ => True)) (sr HO_5) hg hat)
              have HO246 := Aside0.mk ho
              clear HO239 ho hb hg hat
              refine hK.out _ _ trivial (fun hHeld => ?_)
              clear hK K
              refine norm_ (a' := ?_) ?_ ?_
              rotate_left
              ·show Act.put _ (some 70) _ = _
               simp only [Act.put, List.setIfInBounds_toArray, List.set_cons_zero, List.set_cons_succ, i64_w, i32_w]
               rfl
              refine one_ (i := 6) (N := some 72) #[true, true, true, true, true, true, true, false, true, true, true, false, false] rfl rfl (one_of HT_.out (by kernel_rfl)) (by decide) (fun K hK => ?_)
              refine Kd.R_lit_step (Kd.int .i64) _ 3 ?hg (N := 72) ?hd (xs := ([x7_6] : List Int)) (inner := [.int .i64 x7_6]) (ok := fun _ => True) (okp := fun _ => True) ?hr ?hp (fun _ hk => hk) trivial (Below.refl _ _) (Nat.le_refl _) (by simp) ?_; (case hd => rfl); (case hg => rfl); (case hr => first | (go_simp; done) | (go_simp; rfl)); (case hp => exact (Reps.one (show Kd.M (Kd.int .i64) _ _ _ x7_6 [.int .i64 x7_6] from rfl) (Reps.none _ _)))
              intro v248 w29 ho30 hb hg_ hnew_
              clear hg_ hnew_
              (first | rw [← Ny247.out] at ho30 | (simp only [Int.reduceToNat] at ho30; rw [← Ny247.out] at ho30))
              have HO249 := Aside0.mk (Kd.R_lower (Kd.R_new' (Kd.R_new' ho30 (Kd.R_lt (sr HO_5))) (Kd.R_lt (sr HO246))) (below_size (sb)))
              replace HO_5 := Aside0.mk (Kd.R_elder' (sr HO_5) (Kd.R_base ho30) hb)
              replace HO246 := Aside0.mk (Kd.R_elder' (sr HO246) (Kd.R_base ho30) hb)
              replace HR243 := Aside0.mk (Kd.C_below (by repeat (first | (with_reducible exact HR243.out) | (with_reducible refine Kd.C_alloc ?_ _) | (with_reducible refine Kd.C_drewN ?_ _) | (with_reducible refine Kd.C_drew ?_) | exact HR243.out)) hb)
              replace HR256 := Aside0.mk (Kd.C_below (by repeat (first | (with_reducible exact HR256.out) | (with_reducible refine Kd.C_alloc ?_ _) | (with_reducible refine Kd.C_drewN ?_ _) | (with_reducible refine Kd.C_drew ?_) | exact HR256.out)) hb)
              replace HB := bs hb
              clear hb ho30
              refine hK.out _ _ trivial (fun hHeld => ?_)
              clear hK K
              refine norm_ (a' := ?_) ?_ ?_
              rotate_left
              ·show Act.put _ (some 72) _ = _
               simp only [Act.put, List.setIfInBounds_toArray, List.set_cons_zero, List.set_cons_succ, i64_w, i32_w]
               rfl
              exact norm_ (by simp only [putAll, Act.put, List.setIfInBounds_toArray, List.set_cons_zero, List.set_cons_succ]) (hCont (v238, v245, v248) _ ⟨(by (with_reducible repeat (first | apply Kd.R_alloc | apply Kd.R_drewN | apply Kd.R_drew)); exact Kd.R_mono HO246.out (fun _ hk => ⟨hk.2, hk.1⟩)), (by (with_reducible repeat (first | apply Kd.R_alloc | apply Kd.R_drewN | apply Kd.R_drew)); exact Kd.R_mono HO249.out (fun _ hk => ⟨hk.2, hk.1.2⟩)), (by (with_reducible repeat (first | apply Kd.R_alloc | apply Kd.R_drewN | apply Kd.R_drew)); exact Kd.R_mono HO_5.out (fun _ hk => ⟨hk.1.2, hk.2⟩)), (sb)⟩)
             ·skip
              refine Kd.R_lit_step (Kd.int .i64) _ 3 ?hg (N := 72) ?hd (xs := ([x7_6] : List Int)) (inner := [.int .i64 x7_6]) (ok := fun _ => True) (okp := fun _ => True) ?hr ?hp (fun _ hk => hk) trivial (Below.refl _ _) (Nat.le_refl _) (by simp) ?_; (case hd => rfl); (case hg => rfl); (case hr => first | (go_simp; done) | (go_simp; rfl)); (case hp => exact (Reps.one (show Kd.M (Kd.int .i64) _ _ _ x7_6 [.int .i64 x7_6] from rfl) (Reps.none _ _)))
              intro v248 w28 ho29 hb hg_ hnew_
              clear hg_ hnew_
              (first | rw [← Ny247.out] at ho29 | (simp only [Int.reduceToNat] at ho29; rw [← Ny247.out] at ho29))
              have HO249 := Aside0.mk (Kd.R_lower (Kd.R_new' (Kd.R_new' ho29 (Kd.R_lt (sr HO_5))) (Kd.R_lt (sr HO239))) (below_size (sb)))
              replace HO_5 := Aside0.mk (Kd.R_elder' (sr HO_5) (Kd.R_base ho29) hb)
              replace HO239 := Aside0.mk (Kd.R_elder' (sr HO239) (Kd.R_base ho29) hb)
              replace HR243 := Aside0.mk (Kd.C_below (by repeat (first | (with_reducible exact HR243.out) | (with_reducible refine Kd.C_alloc ?_ _) | (with_reducible refine Kd.C_drewN ?_ _) | (with_reducible refine Kd.C_drew ?_) | exact HR243.out)) hb)
              replace HR256 := Aside0.mk (Kd.C_below (by repeat (first | (with_reducible exact HR256.out) | (with_reducible refine Kd.C_alloc ?_ _) | (with_reducible refine Kd.C_drewN ?_ _) | (with_reducible refine Kd.C_drew ?_) | exact HR256.out)) hb)
              replace HB := bs hb
              clear hb ho29
              refine hK.out _ _ trivial (fun hHeld => ?_)
              clear hK K
              refine norm_ (a' := ?_) ?_ ?_
              rotate_left
              ·show Act.put _ (some 72) _ = _
               simp only [Act.put, List.setIfInBounds_toArray, List.set_cons_zero, List.set_cons_succ, i64_w, i32_w]
               rfl
              refine one_ (i := 4) (N := some 70) #[true, true, true, true, true, true, true, false, true, true, true, false, false] rfl rfl (one_of HT_.out (by kernel_rfl)) (by decide) (fun K hK => ?_)
              refine Kd.R_append_rows_step (Kd.int .i64) (w0 := w) w.heap.size (by rfl) (.tmp 66) (.tmp 69) 28 3 (.int .i64 0) 8 rfl Try.underlying28 info3 rfl (by decide) (by omega) v238 y237 y240 _ _ _ (fun k_ => some k_ ≠ (.slice (some ad236) x5_1.length co22 : Value).ownBlock ∧ some k_ ≠ (v248 : Value).ownBlock) (fun _ => False) rfl rfl ?aO ?aR (fun _ _ h => h) (fun _ h => h.elim) ?aF ?aB ?aS ?aL ?_
              (case aR => repeat (first | exact (by repeat (first | (with_reducible exact HR243.out) | (with_reducible refine Kd.C_alloc ?_ _) | (with_reducible refine Kd.C_drewN ?_ _) | (with_reducible refine Kd.C_drew ?_) | exact HR243.out)) | (with_reducible refine Kd.C_alloc ?_ _) | (with_reducible refine Kd.C_drewN ?_ _) | (with_reducible refine Kd.C_drew ?_)))
              (case aB => exact (sb))
              (case aF => exact (fun k_ hk => ⟨Kd.fresh' (Kd.R_lt (sr HO_5)) k_ hk, Kd.fresh' (Kd.R_lt (sr HO249)) k_ hk⟩))
              (case aO => exact (by (with_reducible repeat (first | apply Kd.R_alloc | apply Kd.R_drewN | apply Kd.R_drew)); exact Kd.R_mono HO239.out (fun _ hk => ⟨hk.1.2, hk.2⟩)))
              (case aS => exact (below_size (sb)))
              (case aL => have := LMc17.out; omega)
              intro v245 w30 ho hb hg hat
              rw [← Ny244.out] at ho
              replace HO249 := Aside0.mk (Kd.R_after (ok := (fun k_ => some k_ ≠ (.slice (some ad236) x5_1.length co22 : Value).ownBlock)) (by (with_reducible repeat (first | apply Kd.R_alloc | apply Kd.R_drewN | apply Kd.R_drew)); exact Kd.R_mono HO249.out (fun _ hk => ⟨hk.1.2, hk.2⟩)) hg hat)
              replace HB := Aside0.mk hb
              replace HR243 := Aside0.mk ((show Kd.C (Kd.int .i64) w30 (some ad236) y240.length y240 from by rw [Ny240.out]; exact Kd.C_take (m := (x8_3 : Int).toNat) ((Kd.R_reads' (Kd.R_after (ok := (fun k_ => some k_ ≠ (v248 : Value).ownBlock)) (by (with_reducible repeat (first | apply Kd.R_alloc | apply Kd.R_drewN | apply Kd.R_drew)); exact Kd.R_mono HO_5.out (fun _ hk => ⟨hk.2, hk.1.2⟩)) hg hat)).2.2) KL24.out))
              replace HR256 := Aside0.mk ((show Kd.C (Kd.int .i64) w30 A25 y253.length y253 from by rw [Ny253.out, KA25.out]; exact Kd.C_drop (m := (x8_3 : Int).toNat) (c := co22) ((Kd.R_reads' (Kd.R_after (ok := (fun k_ => some k_ ≠ (v248 : Value).ownBlock)) (by (with_reducible repeat (first | apply Kd.R_alloc | apply Kd.R_drewN | apply Kd.R_drew)); exact Kd.R_mono HO_5.out (fun _ hk => ⟨hk.2, hk.1.2⟩)) hg hat)).2.2) KL25.out ((Kd.R_reads' (Kd.R_after (ok := (fun k_ => some k_ ≠ (v248 : Value).ownBlock)) (by (with_reducible repeat (first | apply Kd.R_alloc | apply Kd.R_drewN | apply Kd.R_drew)); exact Kd.R_mono HO_5.out (fun _ hk => ⟨hk.2, hk.1.2⟩)) hg hat)).2.1)))
              replace HO_5 := Aside0.mk (Kd.R_after (ok := (fun k_ => some k_ ≠ (v248 : Value).ownBlock)) (by (with_reducible repeat (first | apply Kd.R_alloc | apply Kd.R_drewN | apply Kd.R_drew)); exact Kd.R_mono HO_5.out (fun _ hk => ⟨hk.2, hk.1.2⟩)) hg hat)
              have HO246 := Aside0.mk ho
              clear HO239 ho hb hg hat
              refine hK.out _ _ trivial (fun hHeld => ?_)
              clear hK K
              refine norm_ (a' := ?_) ?_ ?_
              rotate_left
              ·show Act.put _ (some 70) _ = _
               simp only [Act.put, List.setIfInBounds_toArray, List.set_cons_zero, List.set_cons_succ, i64_w, i32_w]
               rfl
              exact norm_ (by simp only [putAll, Act.put, List.setIfInBounds_toArray, List.set_cons_zero, List.set_cons_succ]) (hCont (v238, v245, v248) _ ⟨(by (with_reducible repeat (first | apply Kd.R_alloc | apply Kd.R_drewN | apply Kd.R_drew)); exact Kd.R_mono HO246.out (fun _ hk => ⟨hk.2, hk.1⟩)), (by (with_reducible repeat (first | apply Kd.R_alloc | apply Kd.R_drewN | apply Kd.R_drew)); exact Kd.R_mono HO249.out (fun _ hk => ⟨hk.2, hk.1⟩)), (by (with_reducible repeat (first | apply Kd.R_alloc | apply Kd.R_drewN | apply Kd.R_drew)); exact Kd.R_mono HO_5.out (fun _ hk => ⟨hk.2, hk.1⟩)), (sb)⟩)
            ·skip
             refine Kd.R_lit_step (Kd.int .i64) _ 3 ?hg (N := 72) ?hd (xs := ([x7_6] : List Int)) (inner := [.int .i64 x7_6]) (ok := fun _ => True) (okp := fun _ => True) ?hr ?hp (fun _ hk => hk) trivial (Below.refl _ _) (Nat.le_refl _) (by simp) ?_; (case hd => rfl); (case hg => rfl); (case hr => first | (go_simp; done) | (go_simp; rfl)); (case hp => exact (Reps.one (show Kd.M (Kd.int .i64) _ _ _ x7_6 [.int .i64 x7_6] from rfl) (Reps.none _ _)))
             intro v248 w26 ho27 hb hg_ hnew_
             clear hg_ hnew_
             (first | rw [← Ny247.out] at ho27 | (simp only [Int.reduceToNat] at ho27; rw [← Ny247.out] at ho27))
             have HO249 := Aside0.mk (Kd.R_lower (Kd.R_new' ho27 (Kd.R_lt (sr HO_5))) (below_size (sb)))
             replace HO_5 := Aside0.mk (Kd.R_elder' (sr HO_5) (Kd.R_base ho27) hb)
             replace HR243 := Aside0.mk (Kd.C_below (by repeat (first | (with_reducible exact HR243.out) | (with_reducible refine Kd.C_alloc ?_ _) | (with_reducible refine Kd.C_drewN ?_ _) | (with_reducible refine Kd.C_drew ?_) | exact HR243.out)) hb)
             replace HR256 := Aside0.mk (Kd.C_below (by repeat (first | (with_reducible exact HR256.out) | (with_reducible refine Kd.C_alloc ?_ _) | (with_reducible refine Kd.C_drewN ?_ _) | (with_reducible refine Kd.C_drew ?_) | exact HR256.out)) hb)
             replace HB := bs hb
             clear hb ho27
             refine hK.out _ _ trivial (fun hHeld => ?_)
             clear hK K
             refine norm_ (a' := ?_) ?_ ?_
             rotate_left
             ·show Act.put _ (some 72) _ = _
              simp only [Act.put, List.setIfInBounds_toArray, List.set_cons_zero, List.set_cons_succ, i64_w, i32_w]
              rfl
             refine one_ (i := 0) (N := some 66) #[true, true, true, true, false, true, true, false, true, true, true, false, false] rfl rfl (one_of HT_.out (by kernel_rfl)) (by decide) (fun K hK => ?_)
             refine Kd.R_lit_step (Kd.int .i64) _ 3 ?hg (N := 66) ?hd (xs := ([] : List Int)) (inner := []) (ok := fun _ => True) (okp := fun _ => True) ?hr ?hp (fun _ hk => hk) trivial (Below.refl _ _) (Nat.le_refl _) (by simp) ?_; (case hd => rfl); (case hg => rfl); (case hr => first | (go_simp; done) | (go_simp; rfl)); (case hp => exact (Reps.none _ _))
             intro v238 w28 ho29 hb hg_ hnew_
             clear hg_ hnew_
             (first | rw [← Ny237.out] at ho29 | (simp only [Int.reduceToNat] at ho29; rw [← Ny237.out] at ho29))
             have HO239 := Aside0.mk (Kd.R_lower (Kd.R_new' (Kd.R_new' ho29 (Kd.R_lt (sr HO_5))) (Kd.R_lt (sr HO249))) (below_size (sb)))
             replace HO_5 := Aside0.mk (Kd.R_elder' (sr HO_5) (Kd.R_base ho29) hb)
             replace HO249 := Aside0.mk (Kd.R_elder' (sr HO249) (Kd.R_base ho29) hb)
             replace HR243 := Aside0.mk (Kd.C_below (by repeat (first | (with_reducible exact HR243.out) | (with_reducible refine Kd.C_alloc ?_ _) | (with_reducible refine Kd.C_drewN ?_ _) | (with_reducible refine Kd.C_drew ?_) | exact HR243.out)) hb)
             replace HR256 := Aside0.mk (Kd.C_below (by repeat (first | (with_reducible exact HR256.out) | (with_reducible refine Kd.C_alloc ?_ _) | (with_reducible refine Kd.C_drewN ?_ _) | (with_reducible refine Kd.C_drew ?_) | exact HR256.out)) hb)
             replace HB := bs hb
             clear hb ho29
             refine hK.out _ _ trivial (fun hHeld => ?_)
             clear hK K
             refine norm_ (a' := ?_) ?_ ?_
             rotate_left
             ·show Act.put _ (some 66) _ = _
              simp only [Act.put, List.setIfInBounds_toArray, List.set_cons_zero, List.set_cons_succ, i64_w, i32_w]
              rfl
             refine one_ (i := 4) (N := some 70) #[true, true, true, true, true, true, true, false, true, true, true, false, false] rfl rfl (one_of HT_.out (by kernel_rfl)) (by decide) (fun K hK => ?_)
             refine Kd.R_append_rows_step (Kd.int .i64) (w0 := w) w.heap.size (by rfl) (.tmp 66) (.tmp 69) 28 3 (.int .i64 0) 8 rfl Try.underlying28 info3 rfl (by decide) (by omega) v238 y237 y240 _ _ _ (fun k_ => some k_ ≠ (.slice (some ad236) x5_1.length co22 : Value).ownBlock ∧ some k_ ≠ (v248 : Value).ownBlock) (fun _ => False) rfl rfl ?aO ?aR (fun _ _ h => h) (fun _ h => h.elim) ?aF ?aB ?aS ?aL ?_
             (case aR => repeat (first | exact (by repeat (first | (with_reducible exact HR243.out) | (with_reducible refine Kd.C_alloc ?_ _) | (with_reducible refine Kd.C_drewN ?_ _) | (with_reducible refine Kd.C_drew ?_) | exact HR243.out)) | (with_reducible refine Kd.C_alloc ?_ _) | (with_reducible refine Kd.C_drewN ?_ _) | (with_reducible refine Kd.C_drew ?_)))
             (case aB => exact (sb))
             (case aF => exact (fun k_ hk => ⟨Kd.fresh' (Kd.R_lt (sr HO_5)) k_ hk, Kd.fresh' (Kd.R_lt (sr HO249)) k_ hk⟩))
             (case aO => exact (by (with_reducible repeat (first | apply Kd.R_alloc | apply Kd.R_drewN | apply Kd.R_drew)); exact Kd.R_mono HO239.out (fun _ hk => ⟨hk.1.2, hk.2⟩)))
             (case aS => exact (below_size (sb)))
             (case aL => have := LMc17.out; omega)
             intro v245 w30 ho hb hg hat
             rw [← Ny244.out] at ho
             replace HO249 := Aside0.mk (Kd.R_after (ok := (fun k_ => some k_ ≠ (.slice (some ad236) x5_1.length co22 : Value).ownBlock)) (by (with_reducible repeat (first | apply Kd.R_alloc | apply Kd.R_drewN | apply Kd.R_drew)); exact Kd.R_mono HO249.out (fun _ hk => ⟨hk.1.2, hk.2⟩)) hg hat)
             replace HB := Aside0.mk hb
             replace HR243 := Aside0.mk ((show Kd.C (Kd.int .i64) w30 (some ad236) y240.length y240 from by rw [Ny240.out]; exact Kd.C_take (m := (x8_3 : Int).toNat) ((Kd.R_reads' (Kd.R_after (ok := (fun k_ => some k_ ≠ (v248 : Value).ownBlock)) (by (with_reducible repeat (first | apply Kd.R_alloc | apply Kd.R_drewN | apply Kd.R_drew)); exact Kd.R_mono HO_5.out (fun _ hk => ⟨hk.1.2, hk.2⟩)) hg hat)).2.2) KL24.out))
             replace HR256 := Aside0.mk ((show Kd.C (Kd.int .i64) w30 A25 y253.length y253 from by rw [Ny253.out, KA25.out]; exact Kd.C_drop (m := (x8_3 : Int).toNat) (c := co22) ((Kd.R_reads' (Kd.R_after (ok := (fun k_ => some k_ ≠ (v248 : Value).ownBlock)) (by (with_reducible repeat (first | apply Kd.R_alloc | apply Kd.R_drewN | apply Kd.R_drew)); exact Kd.R_mono HO_5.out (fun _ hk => ⟨hk.1.2, hk.2⟩)) hg hat)).2.2) KL25.out ((Kd.R_reads' (Kd.R_after (ok := (fun k_ => some k_ ≠ (v248 : Value).ownBlock)) (by (with_reducible repeat (first | apply Kd.R_alloc | apply Kd.R_drewN | apply Kd.R_drew)); exact Kd.R_mono HO_5.out (fun _ hk => ⟨hk.1.2, hk.2⟩)) hg hat)).2.1)))
             replace HO_5 := Aside0.mk (Kd.R_after (ok := (fun k_ => some k_ ≠ (v248 : Value).ownBlock)) (by (with_reducible repeat (first | apply Kd.R_alloc | apply Kd.R_drewN | apply Kd.R_drew)); exact Kd.R_mono HO_5.out (fun _ hk => ⟨hk.1.2, hk.2⟩)) hg hat)
             have HO246 := Aside0.mk ho
             clear HO239 ho hb hg hat
             refine hK.out _ _ trivial (fun hHeld => ?_)
             clear hK K
             refine norm_ (a' := ?_) ?_ ?_
             rotate_left
             ·show Act.put _ (some 70) _ = _
              simp only [Act.put, List.setIfInBounds_toArray, List.set_cons_zero, List.set_cons_succ, i64_w, i32_w]
              rfl
             exact norm_ (by simp only [putAll, Act.put, List.setIfInBounds_toArray, List.set_cons_zero, List.set_cons_succ]) (hCont (v238, v245, v248) _ ⟨(by (with_reducible repeat (first | apply Kd.R_alloc | apply Kd.R_drewN | apply Kd.R_drew)); exact Kd.R_mono HO246.out (fun _ hk => ⟨hk.2, hk.1⟩)), (by (with_reducible repeat (first | apply Kd.R_alloc | apply Kd.R_drewN | apply Kd.R_drew)); exact Kd.R_mono HO249.out (fun _ hk => ⟨hk.2, hk.1⟩)), (by (with_reducible repeat (first | apply Kd.R_alloc | apply Kd.R_drewN | apply Kd.R_drew)); exact Kd.R_mono HO_5.out (fun _ hk => ⟨hk.2, hk.1⟩)), (sb)⟩)
           rintro ⟨v238, v245, v248⟩ w31 ⟨h0_, h1_, h2_, h3_⟩
           have HO246 : Aside0 (Kd.R (Kd.int .i64) 3 w31 w.heap.size (fun k_ => some k_ ≠ (v248 : Value).ownBlock ∧ some k_ ≠ (.slice (some ad236) x5_1.length co22 : Value).ownBlock) v245 y244) := ⟨h0_⟩
           have HO249 : Aside0 (Kd.R (Kd.int .i64) 3 w31 w.heap.size (fun k_ => some k_ ≠ (v245 : Value).ownBlock ∧ some k_ ≠ (.slice (some ad236) x5_1.length co22 : Value).ownBlock) v248 y247) := ⟨h1_⟩
           replace HO_5 : Aside0 (Kd.R (Kd.int .i64) 3 w31 w.heap.size (fun k_ => some k_ ≠ (v245 : Value).ownBlock ∧ some k_ ≠ (v248 : Value).ownBlock) (.slice (some ad236) x5_1.length co22) x5_1) := ⟨h2_⟩
           replace HB : Aside0 (Below w.heap.size w w31) := ⟨h3_⟩
           clear h0_ h1_ h2_ h3_
           have hHeld := trivial
           obtain ⟨Ao33, co33, eo33⟩ := Kd.R_slice HO249.out
           (first | subst eo33 | (injection eo33 with f1_ f2_ f3_; have f4_ := f1_.symm; have f5_ := f3_.symm; clear f1_ f2_ f3_; subst f4_; subst f5_))
           refine norm_ (a' := ?_) ?_ ?_
           rotate_left
           ·simp only [putAll, Act.put, List.setIfInBounds_toArray, List.set_cons_zero, List.set_cons_succ]
            rfl
           refine one_ (i := 7) (N := some 73) #[true, true, true, true, true, true, true, true, true, true, true, false, false] rfl rfl (one_of HT_.out (by kernel_rfl)) (by decide) (fun K hK => ?_)
           refine Kd.R_append_rows_step (Kd.int .i64) (w0 := w) w.heap.size (by rfl) (.tmp 70) (.tmp 72) 28 3 (.int .i64 0) 8 rfl Try.underlying28 info3 rfl (by decide) (by omega) v245 y244 y247 _ _ _ (fun k_ => some k_ ≠ (.slice (some ad236) x5_1.length co22 : Value).ownBlock ∧ some k_ ≠ (.slice Ao33 y247.length co33 : Value).ownBlock) (fun _ => False) rfl rfl ?aO ?aR (fun _ _ h => h) (fun _ h => h.elim) ?aF ?aB ?aS ?aL ?_
           (case aR => repeat (first | exact (Kd.R_reads' HO249.out).2.2 | (with_reducible refine Kd.C_alloc ?_ _) | (with_reducible refine Kd.C_drewN ?_ _) | (with_reducible refine Kd.C_drew ?_)))
           (case aB => exact (sb))
           (case aF => exact (fun k_ hk => ⟨Kd.fresh' (Kd.R_lt (sr HO_5)) k_ hk, Kd.fresh' (Kd.R_lt (sr HO249)) k_ hk⟩))
           (case aO => exact (by (with_reducible repeat (first | apply Kd.R_alloc | apply Kd.R_drewN | apply Kd.R_drew)); exact Kd.R_mono HO246.out (fun _ hk => ⟨hk.2, hk.1⟩)))
           (case aS => exact (below_size (sb)))
           (case aL => have := LMc18.out; omega)
           intro v251 w32 ho hb hg hat
           rw [← Ny250.out] at ho
           replace HO_5 := Aside0.mk (Kd.R_after (ok := (fun k_ => some k_ ≠ (.slice Ao33 y247.length co33 : Value).ownBlock)) (by (with_reducible repeat (first | apply Kd.R_alloc | apply Kd.R_drewN | apply Kd.R_drew)); exact Kd.R_mono HO_5.out (fun _ hk => ⟨hk.2, hk.1⟩)) hg hat)
           replace HO249 := Aside0.mk (Kd.R_after (ok := (fun k_ => some k_ ≠ (.slice (some ad236) x5_1.length co22 : Value).ownBlock)) (by (with_reducible repeat (first | apply Kd.R_alloc | apply Kd.R_drewN | apply Kd.R_drew)); exact Kd.R_mono HO249.out (fun _ hk => ⟨hk.2, hk.1⟩)) hg hat)
           replace HB := Aside0.mk hb
           have HO252 := Aside0.mk ho
           clear HO246 ho hb hg hat
           refine hK.out _ _ trivial (fun hHeld => ?_)
           clear hK K
           refine norm_ (a' := ?_) ?_ ?_
           rotate_left
           ·show Act.put _ (some 73) _ = _
            simp only [Act.put, List.setIfInBounds_toArray, List.set_cons_zero, List.set_cons_succ, i64_w, i32_w]
            rfl
           refine one_ (i := 11) (N := some 77) #[true, true, true, true, true, true, true, true, true, true, true, true, false] rfl rfl (one_of HT_.out (by kernel_rfl)) (by decide) (fun K hK => ?_)
           refine Kd.R_append_rows_step (Kd.int .i64) (w0 := w) w.heap.size (by rfl) (.tmp 73) (.tmp 76) 28 3 (.int .i64 0) 8 rfl Try.underlying28 info3 rfl (by decide) (by omega) v251 y250 y253 _ _ _ (fun k_ => some k_ ≠ (.slice (some ad236) x5_1.length co22 : Value).ownBlock ∧ some k_ ≠ (.slice Ao33 y247.length co33 : Value).ownBlock) (fun _ => False) rfl rfl ?aO ?aR (fun _ _ h => h) (fun _ h => h.elim) ?aF ?aB ?aS ?aL ?_
           (case aR => exact (show Kd.C (Kd.int .i64) _ A25 y253.length y253 from by rw [Ny253.out, KA25.out]; exact Kd.C_drop (m := (x8_3 : Int).toNat) (c := co22) ((Kd.R_reads' (sr HO_5)).2.2) KL25.out ((Kd.R_reads' HO_5.out).2.1)))
           (case aB => exact (sb))
           (case aF => exact (fun k_ hk => ⟨Kd.fresh' (Kd.R_lt (sr HO_5)) k_ hk, Kd.fresh' (Kd.R_lt (sr HO249)) k_ hk⟩))
           (case aO => exact (sr HO252))
           (case aS => exact (below_size (sb)))
           (case aL => have := LMc21.out; omega)
           intro v258 w34 ho hb hg hat
           rw [← Ny257.out] at ho
           replace HO_5 := Aside0.mk (Kd.R_after (ok := (fun k_ => some k_ ≠ (.slice Ao33 y247.length co33 : Value).ownBlock)) (sr HO_5) hg hat)
           replace HO249 := Aside0.mk (Kd.R_after (ok := (fun k_ => some k_ ≠ (.slice (some ad236) x5_1.length co22 : Value).ownBlock)) (sr HO249) hg hat)
           replace HB := Aside0.mk hb
           have HO259 := Aside0.mk ho
           clear HO252 ho hb hg hat
           refine hK.out _ _ trivial (fun hHeld => ?_)
           clear hK K
           refine norm_ (a' := ?_) ?_ ?_
           rotate_left
           ·show Act.put _ (some 77) _ = _
            simp only [Act.put, List.setIfInBounds_toArray, List.set_cons_zero, List.set_cons_succ, i64_w, i32_w]
            rfl
           refine put 12 5 #[true, true, true, true, true, true, true, true, true, true, true, true, true] HT_ ?_
           refine done_ (done_of HT_.out (by kernel_rfl)) ?_
           try go_wp2
           go_roundg k3
           case measure => have := HK1.out; have := HJ6.out; have := HK3.out; omega
           case rel => exact ⟨(y257), (wrap64 (x6_1 + 1)), sc, H', ⟨by have := HK1.out; have := HJ6.out; have := HK3.out; omega⟩, ⟨by (with_reducible repeat (first | apply Kd.R_alloc | apply Kd.R_drewN | apply Kd.R_drew)); exact Kd.R_mono HO259.out (fun _ hk => trivial)⟩, ⟨sb⟩⟩
          ·have c14b0 : (x8_3 == (x5_1.length : Int)) = false := beq_eq_false_iff_ne.mpr c14
           have c14b1 : (x8_3 != (x5_1.length : Int)) = true := bne_iff_ne.mpr c14
           obtain ⟨c35, H⟩ | ⟨c35, H⟩ := ie_ H
           ·have c35b0 : ((rd x5_1 x8_3) == x7_6) = true := beq_iff_eq.mpr c35
            have c35b1 : ((rd x5_1 x8_3) != x7_6) = false := bne_eq_false_iff_eq.mpr c35
            clear c35
            have H' := Aside0.mk H
            clear H
            obtain ⟨Ao36, co36, eo36⟩ := Kd.R_slice HO_5.out
            subst eo36
            have p236 : 0 ≤ (x8_3 : Int) := sa
            have q236 : x8_3 < (x5_1.length : Int) := sa
            obtain ⟨ad236, e236, hx236_0⟩ := Kd.at_int (Kd.R_reads' HO_5.out).2.2 x8_3 p236 q236
            cases e236
            replace p236 := eq_true p236
            replace q236 := eq_true q236
            have p260 : 0 ≤ (x8_3 : Int) := sa
            have q260 : x8_3 < (x5_1.length : Int) := sa
            obtain ⟨ad260, e260, hx260_0⟩ := Kd.at_int (Kd.R_reads' HO_5.out).2.2 x8_3 p260 q260
            obtain rfl : ad236 = ad260 := (by injection e260)
            replace p260 := eq_true p260
            replace q260 := eq_true q260
            go_wp2
            go_roundg k3
            case measure => have := HK1.out; have := HJ6.out; have := HK3.out; omega
            case rel => exact ⟨(x5_1), (wrap64 (x6_1 + 1)), sc, H', ⟨by have := HK1.out; have := HJ6.out; have := HK3.out; omega⟩, ⟨sr HO_5⟩, ⟨sb⟩⟩
           ·have c35b0 : ((rd x5_1 x8_3) == x7_6) = false := beq_eq_false_iff_ne.mpr c35
            have c35b1 : ((rd x5_1 x8_3) != x7_6) = true := bne_iff_ne.mpr c35
            obtain ⟨y261, hy261⟩ : ∃ y_ : List Int, y_ = (([] : List Int)) := ⟨_, rfl⟩
            replace H : (if x8_3 ≤ (x5_1.length : Int) then ((some (x5_1.take (x8_3 : Int).toNat : List Int)).bind fun y264 => (if y261.length + y264.length < 17592186044416 then ((some (y261 ++ y264 : List Int)).bind fun y268 => ((some (([x7_6] : List Int) : List Int)).bind fun y271 => (if y268.length + y271.length < 17592186044416 then ((some (y268 ++ y271 : List Int)).bind fun y274 => ((some (x5_1.drop (x8_3 : Int).toNat : List Int)).bind fun y277 => (if y274.length + y277.length < 17592186044416 then (spec_NeighborsIn.l0 k3 l0 a1 (y274 ++ y277) (wrap64 (x6_1 + 1))) else (none)))) else (none)))) else (none))) else (none)) = some r := by first | (rw [hy261]; with_reducible exact H) | (have H2_ := (Option.bind_some _ _).symm.trans H; rw [hy261]; with_reducible exact H2_) | (have H2_ := (Option.bind_some _ _).symm.trans H; with_reducible exact H2_) | with_reducible exact H | (rw [hy261]; exact H) | exact H
            have Ny261 := Aside0.mk hy261
            clear hy261
            have c37b0 := eq_true (sa : 0 ≤ x8_3)
            obtain ⟨c38, H⟩ := ia_ H
            have c38b0 := eq_true c38
            have c38b1 := decide_eq_true c38
            clear c38
            obtain ⟨y264, hy264⟩ : ∃ y_ : List Int, y_ = (x5_1.take (x8_3 : Int).toNat) := ⟨_, rfl⟩
            replace H : (if y261.length + y264.length < 17592186044416 then ((some (y261 ++ y264 : List Int)).bind fun y268 => ((some (([x7_6] : List Int) : List Int)).bind fun y271 => (if y268.length + y271.length < 17592186044416 then ((some (y268 ++ y271 : List Int)).bind fun y274 => ((some (x5_1.drop (x8_3 : Int).toNat : List Int)).bind fun y277 => (if y274.length + y277.length < 17592186044416 then (spec_NeighborsIn.l0 k3 l0 a1 (y274 ++ y277) (wrap64 (x6_1 + 1))) else (none)))) else (none)))) else (none)) = some r := by first | (rw [hy264]; with_reducible exact H) | (have H2_ := (Option.bind_some _ _).symm.trans H; rw [hy264]; with_reducible exact H2_) | (have H2_ := (Option.bind_some _ _).symm.trans H; with_reducible exact H2_) | with_reducible exact H | (rw [hy264]; exact H) | exact H
            have Ny264 := Aside0.mk hy264
            clear hy264
            obtain ⟨LMc39, H⟩ := il_ H
            obtain ⟨y268, hy268⟩ : ∃ y_ : List Int, y_ = (y261 ++ y264) := ⟨_, rfl⟩
            replace H : ((some (([x7_6] : List Int) : List Int)).bind fun y271 => (if y268.length + y271.length < 17592186044416 then ((some (y268 ++ y271 : List Int)).bind fun y274 => ((some (x5_1.drop (x8_3 : Int).toNat : List Int)).bind fun y277 => (if y274.length + y277.length < 17592186044416 then (spec_NeighborsIn.l0 k3 l0 a1 (y274 ++ y277) (wrap64 (x6_1 + 1))) else (none)))) else (none))) = some r := by first | (rw [hy268]; with_reducible exact H) | (have H2_ := (Option.bind_some _ _).symm.trans H; rw [hy268]; with_reducible exact H2_) | (have H2_ := (Option.bind_some _ _).symm.trans H; with_reducible exact H2_) | with_reducible exact H | (rw [hy268]; exact H) | exact H
            have Ny268 := Aside0.mk hy268
            clear hy268
            obtain ⟨y271, hy271⟩ : ∃ y_ : List Int, y_ = (([x7_6] : List Int)) := ⟨_, rfl⟩
            replace H : (if y268.length + y271.length < 17592186044416 then ((some (y268 ++ y271 : List Int)).bind fun y274 => ((some (x5_1.drop (x8_3 : Int).toNat : List Int)).bind fun y277 => (if y274.length + y277.length < 17592186044416 then (spec_NeighborsIn.l0 k3 l0 a1 (y274 ++ y277) (wrap64 (x6_1 + 1))) else (none)))) else (none)) = some r := by first | (rw [hy271]; with_reducible exact H) | (have H2_ := (Option.bind_some _ _).symm.trans H; rw [hy271]; with_reducible exact H2_) | (have H2_ := (Option.bind_some _ _).symm.trans H; with_reducible exact H2_) | with_reducible exact H | (rw [hy271]; exact H) | exact H
            have Ny271 := Aside0.mk hy271
            clear hy271
            obtain ⟨LMc40, H⟩ := il_ H
            obtain ⟨y274, hy274⟩ : ∃ y_ : List Int, y_ = (y268 ++ y271) := ⟨_, rfl⟩
            replace H : ((some (x5_1.drop (x8_3 : Int).toNat : List Int)).bind fun y277 => (if y274.length + y277.length < 17592186044416 then (spec_NeighborsIn.l0 k3 l0 a1 (y274 ++ y277) (wrap64 (x6_1 + 1))) else (none))) = some r := by first | (rw [hy274]; with_reducible exact H) | (have H2_ := (Option.bind_some _ _).symm.trans H; rw [hy274]; with_reducible exact H2_) | (have H2_ := (Option.bind_some _ _).symm.trans H; with_reducible exact H2_) | with_reducible exact H | (rw [hy274]; exact H) | exact H
            have Ny274 := Aside0.mk hy274
            clear hy274
            have c41b0 := eq_true (sa : 0 ≤ x8_3)
            have c42b0 := eq_true (sa : x8_3 ≤ (x5_1.length : Int))
            obtain ⟨y277, hy277⟩ : ∃ y_ : List Int, y_ = (x5_1.drop (x8_3 : Int).toNat) := ⟨_, rfl⟩
            replace H : (if y274.length + y277.length < 17592186044416 then (spec_NeighborsIn.l0 k3 l0 a1 (y274 ++ y277) (wrap64 (x6_1 + 1))) else (none)) = some r := by first | (rw [hy277]; with_reducible exact H) | (have H2_ := (Option.bind_some _ _).symm.trans H; rw [hy277]; with_reducible exact H2_) | (have H2_ := (Option.bind_some _ _).symm.trans H; with_reducible exact H2_) | with_reducible exact H | (rw [hy277]; exact H) | exact H
            have Ny277 := Aside0.mk hy277
            clear hy277
            obtain ⟨LMc43, H⟩ := il_ H
            obtain ⟨y281, hy281⟩ : ∃ y_ : List Int, y_ = (y274 ++ y277) := ⟨_, rfl⟩
            replace H : (spec_NeighborsIn.l0 k3 l0 a1 y281 (wrap64 (x6_1 + 1))) = some r := by first | (rw [hy281]; with_reducible exact H) | (have H2_ := (Option.bind_some _ _).symm.trans H; rw [hy281]; with_reducible exact H2_) | (have H2_ := (Option.bind_some _ _).symm.trans H; with_reducible exact H2_) | with_reducible exact H | (rw [hy281]; exact H) | exact H
            have Ny281 := Aside0.mk hy281
            clear hy281
            have H' := Aside0.mk H
            clear H
            obtain ⟨Ao44, co44, eo44⟩ := Kd.R_slice HO_5.out
            subst eo44
            have p236 : 0 ≤ (x8_3 : Int) := sa
            have q236 : x8_3 < (x5_1.length : Int) := sa
            obtain ⟨ad236, e236, hx236_0⟩ := Kd.at_int (Kd.R_reads' HO_5.out).2.2 x8_3 p236 q236
            cases e236
            replace p236 := eq_true p236
            replace q236 := eq_true q236
            have p260 : 0 ≤ (x8_3 : Int) := sa
            have q260 : x8_3 < (x5_1.length : Int) := sa
            obtain ⟨ad260, e260, hx260_0⟩ := Kd.at_int (Kd.R_reads' HO_5.out).2.2 x8_3 p260 q260
            obtain rfl : ad236 = ad260 := (by injection e260)
            replace p260 := eq_true p260
            replace q260 := eq_true q260
            try go_wp2
            replace HO_5 := Aside0.mk (Kd.R_drew HO_5.out)
            replace HB := Aside0.mk (below_drew1 HB.out)
            have q46 : (x8_3 : Int) ≤ ((x5_1.length : Int) : Int) := sa
            obtain ⟨i046, hi046, _, hsz46, _⟩ := info_parts info3
            have hroom46 : x5_1.length ≤ co44 := (Kd.R_reads' HO_5.out).2.1
            have hC46 : Kd.C (Kd.int .i64) _ (some ad236) x5_1.length x5_1 := (Kd.R_reads' HO_5.out).2.2
            have hcut46 := cut_to (P := Try.prog) 28 3 .i64 Try.underlying28 hi046 (some ad236) x5_1.length co44 x8_3 (sa) q46 hroom46
            have hr46 := Kd.C_take (m := (x8_3 : Int).toNat) hC46 (by omega)
            have hy46 : y264.length = (x8_3 : Int).toNat := (by rw [Ny264.out, List.length_take]; omega)
            rw [← Ny264.out] at hr46
            rw [← hy46] at hcut46
            have HR267 := Aside0.mk hr46
            have HC267 := Aside0.mk (show y264.length ≤ co44 from by omega)
            clear hr46 hC46 hroom46 hi046 hsz46
            have KY46 := Aside0.mk hy46
            clear hy46
            have KL46 := Aside0.mk (show (x8_3 : Int).toNat ≤ x5_1.length from by omega)
            replace q46 := eq_true q46
            have q47 : (x8_3 : Int) ≤ ((x5_1.length : Int) : Int) := sa
            obtain ⟨i047, hi047, _, hsz47, _⟩ := info_parts info3
            have hroom47 : x5_1.length ≤ co44 := (Kd.R_reads' HO_5.out).2.1
            have hC47 : Kd.C (Kd.int .i64) _ (some ad236) x5_1.length x5_1 := (Kd.R_reads' HO_5.out).2.2
            have q047 : (0 : Int) ≤ (x8_3 : Int) := sa
            have hcut47 := cut_from (P := Try.prog) 28 3 .i64 Try.underlying28 hi047 1 hsz47 (some ad236) x5_1.length co44 x8_3 q047 q47
            have hr47 := Kd.C_drop (m := (x8_3 : Int).toNat) (c := co44) hC47 (by omega) hroom47
            obtain ⟨A47, hA47⟩ : ∃ A1, A1 = (if co44 = (x8_3 : Int).toNat then (some ad236) else ((some ad236) : Option Addr).map (·.add ((x8_3 : Int).toNat * 1))) := ⟨_, rfl⟩
            obtain ⟨c47, hc47⟩ : ∃ c1, c1 = co44 - (x8_3 : Int).toNat := ⟨_, rfl⟩
            have hy47 : y277.length = x5_1.length - (x8_3 : Int).toNat := (by rw [Ny277.out, List.length_drop] <;> omega)
            rw [show (x5_1).drop (x8_3 : Int).toNat = y277 from Ny277.out.symm] at hr47
            replace hr47 : Kd.C (Kd.int .i64) _ A47 y277.length y277 := (by rw [hA47]; exact hr47)
            rw [← hy47, ← hA47, ← hc47] at hcut47
            have HR280 := Aside0.mk hr47
            have HC280 := Aside0.mk (show y277.length ≤ c47 from by rw [hy47, hc47]; exact Nat.sub_le_sub_right hroom47 _)
            clear hr47 hC47 hroom47 hi047 hsz47 hc47
            have KY47 := Aside0.mk hy47
            have KA47 := Aside0.mk hA47
            clear hy47 hA47
            have KL47 := Aside0.mk (show (x8_3 : Int).toNat ≤ x5_1.length from by omega)
            replace q47 := eq_true q47
            refine start_ (n := 13) (S := fun w' => True) (ds := []) #[false, false, false, false, false, false, false, false, false, false, false, false, false] (by kernel_rfl) rfl rfl trivial (fun hHeld => ?_); refine with_tabW spec_NeighborsIn.tab14 spec_NeighborsIn.bits14 (fun HT_ HW_ => ?_)
            generalize wr.drew = w45 at HO_5 HB HR267 HR280 hHeld ⊢
            refine put 1 67 #[false, true, false, false, false, false, false, false, false, false, false, false, false] HT_ ?_
            refine put 2 68 #[false, true, true, false, false, false, false, false, false, false, false, false, false] HT_ ?_
            refine put 3 69 #[false, true, true, true, false, false, false, false, false, false, false, false, false] HT_ ?_
            refine put 5 71 #[false, true, true, true, false, true, false, false, false, false, false, false, false] HT_ ?_
            refine put 8 74 #[false, true, true, true, false, true, false, false, true, false, false, false, false] HT_ ?_
            refine put 9 75 #[false, true, true, true, false, true, false, false, true, true, false, false, false] HT_ ?_
            refine put 10 76 #[false, true, true, true, false, true, false, false, true, true, true, false, false] HT_ ?_
            refine join_ (σ := Value × Value × Value) 3 #[true, true, true, true, true, true, true, false, true, true, true, false, false] (fun s_ => [(66, s_.1), (70, s_.2.1), (72, s_.2.2)]) (fun s_ w' => (Kd.R (Kd.int .i64) 3 w' w.heap.size (fun k_ => some k_ ≠ (s_.2.2 : Value).ownBlock ∧ some k_ ≠ (.slice (some ad236) x5_1.length co44 : Value).ownBlock) s_.2.1 y268) ∧ (Kd.R (Kd.int .i64) 3 w' w.heap.size (fun k_ => some k_ ≠ (s_.2.1 : Value).ownBlock ∧ some k_ ≠ (.slice (some ad236) x5_1.length co44 : Value).ownBlock) s_.2.2 y271) ∧ (Kd.R (Kd.int .i64) 3 w' w.heap.size (fun k_ => some k_ ≠ (s_.2.1 : Value).ownBlock ∧ some k_ ≠ (s_.2.2 : Value).ownBlock) (.slice (some ad236) x5_1.length co44) x5_1) ∧ (Below w.heap.size w w')) ?_ ?_
            rotate_left
            ·intro hCont
             refine two_ (i := 0) (j := 6) (Ni := some 66) (Nj := some 72) #[true, true, true, true, false, true, false, false, true, true, true, false, false] #[false, true, true, true, false, true, true, false, true, true, true, false, false] rfl rfl rfl rfl (two_of HT_.out (by kernel_rfl)) (by decide) (by decide) (fun K hK => ?_) (fun K hK => ?_)
             ·skip
              refine Kd.R_lit_step (Kd.int .i64) _ 3 ?hg (N := 66) ?hd (xs := ([] : List Int)) (inner := []) (ok := fun _ => True) (okp := fun _ => True) ?hr ?hp (fun _ hk => hk) trivial (Below.refl _ _) (Nat.le_refl _) (by simp) ?_; (case hd => rfl); (case hg => rfl); (case hr => first | (go_simp; done) | (go_simp; rfl)); (case hp => exact (Reps.none _ _))
              intro v262 w48 ho49 hb hg_ hnew_
              clear hg_ hnew_
              (first | rw [← Ny261.out] at ho49 | (simp only [Int.reduceToNat] at ho49; rw [← Ny261.out] at ho49))
              have HO263 := Aside0.mk (Kd.R_lower (Kd.R_new' ho49 (Kd.R_lt (sr HO_5))) (below_size (sb)))
              replace HO_5 := Aside0.mk (Kd.R_elder' (sr HO_5) (Kd.R_base ho49) hb)
              replace HR267 := Aside0.mk (Kd.C_below (by repeat (first | (with_reducible exact HR267.out) | (with_reducible refine Kd.C_alloc ?_ _) | (with_reducible refine Kd.C_drewN ?_ _) | (with_reducible refine Kd.C_drew ?_) | exact HR267.out)) hb)
              replace HR280 := Aside0.mk (Kd.C_below (by repeat (first | (with_reducible exact HR280.out) | (with_reducible refine Kd.C_alloc ?_ _) | (with_reducible refine Kd.C_drewN ?_ _) | (with_reducible refine Kd.C_drew ?_) | exact HR280.out)) hb)
              replace HB := bs hb
              clear hb ho49
              refine hK.out _ _ trivial (fun hHeld => ?_)
              clear hK K
              refine norm_ (a' := ?_) ?_ ?_
              rotate_left
              ·show Act.put _ (some 66) _ = _
               simp only [Act.put, List.setIfInBounds_toArray, List.set_cons_zero, List.set_cons_succ, i64_w, i32_w]
               rfl
              refine two_ (i := 4) (j := 6) (Ni := some 70) (Nj := some 72) #[true, true, true, true, true, true, false, false, true, true, true, false, false] #[true, true, true, true, false, true, true, false, true, true, true, false, false] rfl rfl rfl rfl (two_of HT_.out (by kernel_rfl)) (by decide) (by decide) (fun K hK => ?_) (fun K hK => ?_)
              ·skip
               refine Kd.R_append_rows_step (Kd.int .i64) (w0 := w) w.heap.size (by rfl) (.tmp 66) (.tmp 69) 28 3 (.int .i64 0) 8 rfl Try.underlying28 info3 rfl (by decide) (by omega) v262 y261 y264 _ _ _ (fun k_ => some k_ ≠ (.slice (some ad236) x5_1.length co44 : Value).ownBlock) (fun _ => False) rfl rfl ?aO ?aR (fun _ _ h => h) (fun _ h => h.elim) ?aF ?aB ?aS ?aL ?_
               (case aR => repeat (first | exact (by repeat (first | (with_reducible exact HR267.out) | (with_reducible refine Kd.C_alloc ?_ _) | (with_reducible refine Kd.C_drewN ?_ _) | (with_reducible refine Kd.C_drew ?_) | exact HR267.out)) | (with_reducible refine Kd.C_alloc ?_ _) | (with_reducible refine Kd.C_drewN ?_ _) | (with_reducible refine Kd.C_drew ?_)))
               (case aB => exact (sb))
               (case aF => exact (fun k_ hk => Kd.fresh' (Kd.R_lt (sr HO_5)) k_ hk))
               (case aO => exact (by (with_reducible repeat (first | apply Kd.R_alloc | apply Kd.R_drewN | apply Kd.R_drew)); exact Kd.R_mono HO263.out (fun _ hk => hk.2)))
               (case aS => exact (below_size (sb)))
               (case aL => have := LMc39.out; omega)
               intro v269 w50 ho hb hg hat
               rw [← Ny268.out] at ho
               replace HB := Aside0.mk hb
               replace HR267 := Aside0.mk ((show Kd.C (Kd.int .i64) w50 (some ad236) y264.length y264 from by rw [Ny264.out]; exact Kd.C_take (m := (x8_3 : Int).toNat) ((Kd.R_reads' (Kd.R_after (ok := (fun _ => True)) (sr HO_5) hg hat)).2.2) KL46.out))
               replace HR280 := Aside0.mk ((show Kd.C (Kd.int .i64) w50 A47 y277.length y277 from by rw [Ny277.out, KA47.out]; exact Kd.C_drop (m := (x8_3 : Int).toNat) (c := co44) ((Kd.R_reads' (Kd.R_after (ok := (fun _ => True)) (sr HO_5) hg hat)).2.2) KL47.out ((Kd.R_reads' (Kd.R_after (ok := (fun _ => True)) (sr HO_5) hg hat)).2.1)))
               replace HO_5 := Aside0.mk (Kd.R_after (ok := (fun _ => True)) (sr HO_5) hg hat)
               have HO270 := Aside0.mk ho
               clear HO263 ho hb hg hat
               refine hK.out _ _ trivial (fun hHeld => ?_)
               clear hK K
               refine norm_ (a' := ?_) ?_ ?_
               rotate_left
               ·show Act.put _ (some 70) _ = _
                simp only [Act.put, List.setIfInBounds_toArray, List.set_cons_zero, List.set_cons_succ, i64_w, i32_w]
                rfl
               refine one_ (i := 6) (N := some 72) #[true, true, true, true, true, true, true, false, true, true, true, false, false] rfl rfl (one_of HT_.out (by kernel_rfl)) (by decide) (fun K hK => ?_)
               refine Kd.R_lit_step (Kd.int .i64) _ 3 ?hg (N := 72) ?hd (xs := ([x7_6] : List Int)) (inner := [.int .i64 x7_6]) (ok := fun _ => True) (okp := fun _ => True) ?hr ?hp (fun _ hk => hk) trivial (Below.refl _ _) (Nat.le_refl _) (by simp) ?_; (case hd => rfl); (case hg => rfl); (case hr => first | (go_simp; done) | (go_simp; rfl)); (case hp => exact (Reps.one (show Kd.M (Kd.int .i64) _ _ _ x7_6 [.int .i64 x7_6] from rfl) (Reps.none _ _)))
               intro v272 w51 ho52 hb hg_ hnew_
               clear hg_ hnew_
               (first | rw [← Ny271.out] at ho52 | (simp only [Int.reduceToNat] at ho52; rw [← Ny271.out] at ho52))
               have HO273 := Aside0.mk (Kd.R_lower (Kd.R_new' (Kd.R_new' ho52 (Kd.R_lt (sr HO_5))) (Kd.R_lt (sr HO270))) (below_size (sb)))
               replace HO_5 := Aside0.mk (Kd.R_elder' (sr HO_5) (Kd.R_base ho52) hb)
               replace HO270 := Aside0.mk (Kd.R_elder' (sr HO270) (Kd.R_base ho52) hb)
               replace HR267 := Aside0.mk (Kd.C_below (by repeat (first | (with_reducible exact HR267.out) | (with_reducible refine Kd.C_alloc ?_ _) | (with_reducible refine Kd.C_drewN ?_ _) | (with_reducible refine Kd.C_drew ?_) | exact HR267.out)) hb)
               replace HR280 := Aside0.mk (Kd.C_below (by repeat (first | (with_reducible exact HR280.out) | (with_reducible refine Kd.C_alloc ?_ _) | (with_reducible refine Kd.C_drewN ?_ _) | (with_reducible refine Kd.C_drew ?_) | exact HR280.out)) hb)
               replace HB := bs hb
               clear hb ho52
               refine hK.out _ _ trivial (fun hHeld => ?_)
               clear hK K
               refine norm_ (a' := ?_) ?_ ?_
               rotate_left
               ·show Act.put _ (some 72) _ = _
                simp only [Act.put, List.setIfInBounds_toArray, List.set_cons_zero, List.set_cons_succ, i64_w, i32_w]
                rfl
               exact norm_ (by simp only [putAll, Act.put, List.setIfInBounds_toArray, List.set_cons_zero, List.set_cons_succ]) (hCont (v262, v269, v272) _ ⟨(by (with_reducible repeat (first | apply Kd.R_alloc | apply Kd.R_drewN | apply Kd.R_drew)); exact Kd.R_mono HO270.out (fun _ hk => ⟨hk.2, hk.1⟩)), (by (with_reducible repeat (first | apply Kd.R_alloc | apply Kd.R_drewN | apply Kd.R_drew)); exact Kd.R_mono HO273.out (fun _ hk => ⟨hk.2, hk.1.2⟩)), (by (with_reducible repeat (first | apply Kd.R_alloc | apply Kd.R_drewN | apply Kd.R_drew)); exact Kd.R_mono HO_5.out (fun _ hk => ⟨hk.1.2, hk.2⟩)), (sb)⟩)
              ·skip
               refine Kd.R_lit_step (Kd.int .i64) _ 3 ?hg (N := 72) ?hd (xs := ([x7_6] : List Int)) (inner := [.int .i64 x7_6]) (ok := fun _ => True) (okp := fun _ => True) ?hr ?hp (fun _ hk => hk) trivial (Below.refl _ _) (Nat.le_refl _) (by simp) ?_; (case hd => rfl); (case hg => rfl); (case hr => first | (go_simp; done) | (go_simp; rfl)); (case hp => exact (Reps.one (show Kd.M (Kd.int .i64) _ _ _ x7_6 [.int .i64 x7_6] from rfl) (Reps.none _ _)))
               intro v272 w50 ho51 hb hg_ hnew_
               clear hg_ hnew_
               (first | rw [← Ny271.out] at ho51 | (simp only [Int.reduceToNat] at ho51; rw [← Ny271.out] at ho51))
               have HO273 := Aside0.mk (Kd.R_lower (Kd.R_new' (Kd.R_new' ho51 (Kd.R_lt (sr HO_5))) (Kd.R_lt (sr HO263))) (below_size (sb)))
               replace HO_5 := Aside0.mk (Kd.R_elder' (sr HO_5) (Kd.R_base ho51) hb)
               replace HO263 := Aside0.mk (Kd.R_elder' (sr HO263) (Kd.R_base ho51) hb)
               replace HR267 := Aside0.mk (Kd.C_below (by repeat (first | (with_reducible exact HR267.out) | (with_reducible refine Kd.C_alloc ?_ _) | (with_reducible refine Kd.C_drewN ?_ _) | (with_reducible refine Kd.C_drew ?_) | exact HR267.out)) hb)
               replace HR280 := Aside0.mk (Kd.C_below (by repeat (first | (with_reducible exact HR280.out) | (with_reducible refine Kd.C_alloc ?_ _) | (with_reducible refine Kd.C_drewN ?_ _) | (with_reducible refine Kd.C_drew ?_) | exact HR280.out)) hb)
               replace HB := bs hb
               clear hb ho51
               refine hK.out _ _ trivial (fun hHeld => ?_)
               clear hK K
               refine norm_ (a' := ?_) ?_ ?_
               rotate_left
               ·show Act.put _ (some 72) _ = _
                simp only [Act.put, List.setIfInBounds_toArray, List.set_cons_zero, List.set_cons_succ, i64_w, i32_w]
                rfl
               refine one_ (i := 4) (N := some 70) #[true, true, true, true, true, true, true, false, true, true, true, false, false] rfl rfl (one_of HT_.out (by kernel_rfl)) (by decide) (fun K hK => ?_)
               refine Kd.R_append_rows_step (Kd.int .i64) (w0 := w) w.heap.size (by rfl) (.tmp 66) (.tmp 69) 28 3 (.int .i64 0) 8 rfl Try.underlying28 info3 rfl (by decide) (by omega) v262 y261 y264 _ _ _ (fun k_ => some k_ ≠ (.slice (some ad236) x5_1.length co44 : Value).ownBlock ∧ some k_ ≠ (v272 : Value).ownBlock) (fun _ => False) rfl rfl ?aO ?aR (fun _ _ h => h) (fun _ h => h.elim) ?aF ?aB ?aS ?aL ?_
               (case aR => repeat (first | exact (by repeat (first | (with_reducible exact HR267.out) | (with_reducible refine Kd.C_alloc ?_ _) | (with_reducible refine Kd.C_drewN ?_ _) | (with_reducible refine Kd.C_drew ?_) | exact HR267.out)) | (with_reducible refine Kd.C_alloc ?_ _) | (with_reducible refine Kd.C_drewN ?_ _) | (with_reducible refine Kd.C_drew ?_)))
               (case aB => exact (sb))
               (case aF => exact (fun k_ hk => ⟨Kd.fresh' (Kd.R_lt (sr HO_5)) k_ hk, Kd.fresh' (Kd.R_lt (sr HO273)) k_ hk⟩))
               (case aO => exact (by (with_reducible repeat (first | apply Kd.R_alloc | apply Kd.R_drewN | apply Kd.R_drew)); exact Kd.R_mono HO263.out (fun _ hk => ⟨hk.1.2, hk.2⟩)))
               (case aS => exact (below_size (sb)))
               (case aL => have := LMc39.out; omega)
               intro v269 w52 ho hb hg hat
               rw [← Ny268.out] at ho
               replace HO273 := Aside0.mk (Kd.R_after (ok := (fun k_ => some k_ ≠ (.slice (some ad236) x5_1.length co44 : Value).ownBlock)) (by (with_reducible repeat (first | apply Kd.R_alloc | apply Kd.R_drewN | apply Kd.R_drew)); exact Kd.R_mono HO273.out (fun _ hk => ⟨hk.1.2, hk.2⟩)) hg hat)
               replace HB := Aside0.mk hb
               replace HR267 := Aside0.mk ((show Kd.C (Kd.int .i64) w52 (some ad236) y264.length y264 from by rw [Ny264.out]; exact Kd.C_take (m := (x8_3 : Int).toNat) ((Kd.R_reads' (Kd.R_after (ok := (fun k_ => some k_ ≠ (v272 : Value).ownBlock)) (by (with_reducible repeat (first | apply Kd.R_alloc | apply Kd.R_drewN | apply Kd.R_drew)); exact Kd.R_mono HO_5.out (fun _ hk => ⟨hk.2, hk.1.2⟩)) hg hat)).2.2) KL46.out))
               replace HR280 := Aside0.mk ((show Kd.C (Kd.int .i64) w52 A47 y277.length y277 from by rw [Ny277.out, KA47.out]; exact Kd.C_drop (m := (x8_3 : Int).toNat) (c := co44) ((Kd.R_reads' (Kd.R_after (ok := (fun k_ => some k_ ≠ (v272 : Value).ownBlock)) (by (with_reducible repeat (first | apply Kd.R_alloc | apply Kd.R_drewN | apply Kd.R_drew)); exact Kd.R_mono HO_5.out (fun _ hk => ⟨hk.2, hk.1.2⟩)) hg hat)).2.2) KL47.out ((Kd.R_reads' (Kd.R_after (ok := (fun k_ => some k_ ≠ (v272 : Value).ownBlock)) (by (with_reducible repeat (first | apply Kd.R_alloc | apply Kd.R_drewN | apply Kd.R_drew)); exact Kd.R_mono HO_5.out (fun _ hk => ⟨hk.2, hk.1.2⟩)) hg hat)).2.1)))
               replace HO_5 := Aside0.mk (Kd.R_after (ok := (fun k_ => some k_ ≠ (v272 : Value).ownBlock)) (by (with_reducible repeat (first | apply Kd.R_alloc | apply Kd.R_drewN | apply Kd.R_drew)); exact Kd.R_mono HO_5.out (fun _ hk => ⟨hk.2, hk.1.2⟩)) hg hat)
               have HO270 := Aside0.mk ho
               clear HO263 ho hb hg hat
               refine hK.out _ _ trivial (fun hHeld => ?_)
               clear hK K
               refine norm_ (a' := ?_) ?_ ?_
               rotate_left
               ·show Act.put _ (some 70) _ = _
                simp only [Act.put, List.setIfInBounds_toArray, List.set_cons_zero, List.set_cons_succ, i64_w, i32_w]
                rfl
               exact norm_ (by simp only [putAll, Act.put, List.setIfInBounds_toArray, List.set_cons_zero, List.set_cons_succ]) (hCont (v262, v269, v272) _ ⟨(by (with_reducible repeat (first | apply Kd.R_alloc | apply Kd.R_drewN | apply Kd.R_drew)); exact Kd.R_mono HO270.out (fun _ hk => ⟨hk.2, hk.1⟩)), (by (with_reducible repeat (first | apply Kd.R_alloc | apply Kd.R_drewN | apply Kd.R_drew)); exact Kd.R_mono HO273.out (fun _ hk => ⟨hk.2, hk.1⟩)), (by (with_reducible repeat (first | apply Kd.R_alloc | apply Kd.R_drewN | apply Kd.R_drew)); exact Kd.R_mono HO_5.out (fun _ hk => ⟨hk.2, hk.1⟩)), (sb)⟩)
             ·skip
              refine Kd.R_lit_step (Kd.int .i64) _ 3 ?hg (N := 72) ?hd (xs := ([x7_6] : List Int)) (inner := [.int .i64 x7_6]) (ok := fun _ => True) (okp := fun _ => True) ?hr ?hp (fun _ hk => hk) trivial (Below.refl _ _) (Nat.le_refl _) (by simp) ?_; (case hd => rfl); (case hg => rfl); (case hr => first | (go_simp; done) | (go_simp; rfl)); (case hp => exact (Reps.one (show Kd.M (Kd.int .i64) _ _ _ x7_6 [.int .i64 x7_6] from rfl) (Reps.none _ _)))
              intro v272 w48 ho49 hb hg_ hnew_
              clear hg_ hnew_
              (first | rw [← Ny271.out] at ho49 | (simp only [Int.reduceToNat] at ho49; rw [← Ny271.out] at ho49))
              have HO273 := Aside0.mk (Kd.R_lower (Kd.R_new' ho49 (Kd.R_lt (sr HO_5))) (below_size (sb)))
              replace HO_5 := Aside0.mk (Kd.R_elder' (sr HO_5) (Kd.R_base ho49) hb)
              replace HR267 := Aside0.mk (Kd.C_below (by repeat (first | (with_reducible exact HR267.out) | (with_reducible refine Kd.C_alloc ?_ _) | (with_reducible refine Kd.C_drewN ?_ _) | (with_reducible refine Kd.C_drew ?_) | exact HR267.out)) hb)
              replace HR280 := Aside0.mk (Kd.C_below (by repeat (first | (with_reducible exact HR280.out) | (with_reducible refine Kd.C_alloc ?_ _) | (with_reducible refine Kd.C_drewN ?_ _) | (with_reducible refine Kd.C_drew ?_) | exact HR280.out)) hb)
              replace HB := bs hb
              clear hb ho49
              refine hK.out _ _ trivial (fun hHeld => ?_)
              clear hK K
              refine norm_ (a' := ?_) ?_ ?_
              rotate_left
              ·show Act.put _ (some 72) _ = _
               simp only [Act.put, List.setIfInBounds_toArray, List.set_cons_zero, List.set_cons_succ, i64_w, i32_w]
               rfl
              refine one_ (i := 0) (N := some 66) #[true, true, true, true, false, true, true, false, true, true, true, false, false] rfl rfl (one_of HT_.out (by kernel_rfl)) (by decide) (fun K hK => ?_)
              refine Kd.R_lit_step (Kd.int .i64) _ 3 ?hg (N := 66) ?hd (xs := ([] : List Int)) (inner := []) (ok := fun _ => True) (okp := fun _ => True) ?hr ?hp (fun _ hk => hk) trivial (Below.refl _ _) (Nat.le_refl _) (by simp) ?_; (case hd => rfl); (case hg => rfl); (case hr => first | (go_simp; done) | (go_simp; rfl)); (case hp => exact (Reps.none _ _))
              intro v262 w50 ho51 hb hg_ hnew_
              clear hg_ hnew_
              (first | rw [← Ny261.out] at ho51 | (simp only [Int.reduceToNat] at ho51; rw [← Ny261.out] at ho51))
              have HO263 := Aside0.mk (Kd.R_lower (Kd.R_new' (Kd.R_new' ho51 (Kd.R_lt (sr HO_5))) (Kd.R_lt (sr HO273))) (below_size (sb)))
              replace HO_5 := Aside0.mk (Kd.R_elder' (sr HO_5) (Kd.R_base ho51) hb)
              replace HO273 := Aside0.mk (Kd.R_elder' (sr HO273) (Kd.R_base ho51) hb)
              replace HR267 := Aside0.mk (Kd.C_below (by repeat (first | (with_reducible exact HR267.out) | (with_reducible refine Kd.C_alloc ?_ _) | (with_reducible refine Kd.C_drewN ?_ _) | (with_reducible refine Kd.C_drew ?_) | exact HR267.out)) hb)
              replace HR280 := Aside0.mk (Kd.C_below (by repeat (first | (with_reducible exact HR280.out) | (with_reducible refine Kd.C_alloc ?_ _) | (with_reducible refine Kd.C_drewN ?_ _) | (with_reducible refine Kd.C_drew ?_) | exact HR280.out)) hb)
              replace HB := bs hb
              clear hb ho51
              refine hK.out _ _ trivial (fun hHeld => ?_)
              clear hK K
              refine norm_ (a' := ?_) ?_ ?_
              rotate_left
              ·show Act.put _ (some 66) _ = _
               simp only [Act.put, List.setIfInBounds_toArray, List.set_cons_zero, List.set_cons_succ, i64_w, i32_w]
               rfl
              refine one_ (i := 4) (N := some 70) #[true, true, true, true, true, true, true, false, true, true, true, false, false] rfl rfl (one_of HT_.out (by kernel_rfl)) (by decide) (fun K hK => ?_)
              refine Kd.R_append_rows_step (Kd.int .i64) (w0 := w) w.heap.size (by rfl) (.tmp 66) (.tmp 69) 28 3 (.int .i64 0) 8 rfl Try.underlying28 info3 rfl (by decide) (by omega) v262 y261 y264 _ _ _ (fun k_ => some k_ ≠ (.slice (some ad236) x5_1.length co44 : Value).ownBlock ∧ some k_ ≠ (v272 : Value).ownBlock) (fun _ => False) rfl rfl ?aO ?aR (fun _ _ h => h) (fun _ h => h.elim) ?aF ?aB ?aS ?aL ?_
              (case aR => repeat (first | exact (by repeat (first | (with_reducible exact HR267.out) | (with_reducible refine Kd.C_alloc ?_ _) | (with_reducible refine Kd.C_drewN ?_ _) | (with_reducible refine Kd.C_drew ?_) | exact HR267.out)) | (with_reducible refine Kd.C_alloc ?_ _) | (with_reducible refine Kd.C_drewN ?_ _) | (with_reducible refine Kd.C_drew ?_)))
              (case aB => exact (sb))
              (case aF => exact (fun k_ hk => ⟨Kd.fresh' (Kd.R_lt (sr HO_5)) k_ hk, Kd.fresh' (Kd.R_lt (sr HO273)) k_ hk⟩))
              (case aO => exact (by (with_reducible repeat (first | apply Kd.R_alloc | apply Kd.R_drewN | apply Kd.R_drew)); exact Kd.R_mono HO263.out (fun _ hk => ⟨hk.1.2, hk.2⟩)))
              (case aS => exact (below_size (sb)))
              (case aL => have := LMc39.out; omega)
              intro v269 w52 ho hb hg hat
              rw [← Ny268.out] at ho
              replace HO273 := Aside0.mk (Kd.R_after (ok := (fun k_ => some k_ ≠ (.slice (some ad236) x5_1.length co44 : Value).ownBlock)) (by (with_reducible repeat (first | apply Kd.R_alloc | apply Kd.R_drewN | apply Kd.R_drew)); exact Kd.R_mono HO273.out (fun _ hk => ⟨hk.1.2, hk.2⟩)) hg hat)
              replace HB := Aside0.mk hb
              replace HR267 := Aside0.mk ((show Kd.C (Kd.int .i64) w52 (some ad236) y264.length y264 from by rw [Ny264.out]; exact Kd.C_take (m := (x8_3 : Int).toNat) ((Kd.R_reads' (Kd.R_after (ok := (fun k_ => some k_ ≠ (v272 : Value).ownBlock)) (by (with_reducible repeat (first | apply Kd.R_alloc | apply Kd.R_drewN | apply Kd.R_drew)); exact Kd.R_mono HO_5.out (fun _ hk => ⟨hk.1.2, hk.2⟩)) hg hat)).2.2) KL46.out))
              replace HR280 := Aside0.mk ((show Kd.C (Kd.int .i64) w52 A47 y277.length y277 from by rw [Ny277.out, KA47.out]; exact Kd.C_drop (m := (x8_3 : Int).toNat) (c := co44) ((Kd.R_reads' (Kd.R_after (ok := (fun k_ => some k_ ≠ (v272 : Value).ownBlock)) (by (with_reducible repeat (first | apply Kd.R_alloc | apply Kd.R_drewN | apply Kd.R_drew)); exact Kd.R_mono HO_5.out (fun _ hk => ⟨hk.1.2, hk.2⟩)) hg hat)).2.2) KL47.out ((Kd.R_reads' (Kd.R_after (ok := (fun k_ => some k_ ≠ (v272 : Value).ownBlock)) (by (with_reducible repeat (first | apply Kd.R_alloc | apply Kd.R_drewN | apply Kd.R_drew)); exact Kd.R_mono HO_5.out (fun _ hk => ⟨hk.1.2, hk.2⟩)) hg hat)).2.1)))
              replace HO_5 := Aside0.mk (Kd.R_after (ok := (fun k_ => some k_ ≠ (v272 : Value).ownBlock)) (by (with_reducible repeat (first | apply Kd.R_alloc | apply Kd.R_drewN | apply Kd.R_drew)); exact Kd.R_mono HO_5.out (fun _ hk => ⟨hk.1.2, hk.2⟩)) hg hat)
              have HO270 := Aside0.mk ho
              clear HO263 ho hb hg hat
              refine hK.out _ _ trivial (fun hHeld => ?_)
              clear hK K
              refine norm_ (a' := ?_) ?_ ?_
              rotate_left
              ·show Act.put _ (some 70) _ = _
               simp only [Act.put, List.setIfInBounds_toArray, List.set_cons_zero, List.set_cons_succ, i64_w, i32_w]
               rfl
              exact norm_ (by simp only [putAll, Act.put, List.setIfInBounds_toArray, List.set_cons_zero, List.set_cons_succ]) (hCont (v262, v269, v272) _ ⟨(by (with_reducible repeat (first | apply Kd.R_alloc | apply Kd.R_drewN | apply Kd.R_drew)); exact Kd.R_mono HO270.out (fun _ hk => ⟨hk.2, hk.1⟩)), (by (with_reducible repeat (first | apply Kd.R_alloc | apply Kd.R_drewN | apply Kd.R_drew)); exact Kd.R_mono HO273.out (fun _ hk => ⟨hk.2, hk.1⟩)), (by (with_reducible repeat (first | apply Kd.R_alloc | apply Kd.R_drewN | apply Kd.R_drew)); exact Kd.R_mono HO_5.out (fun _ hk => ⟨hk.2, hk.1⟩)), (sb)⟩)
            rintro ⟨v262, v269, v272⟩ w53 ⟨h0_, h1_, h2_, h3_⟩
            have HO270 : Aside0 (Kd.R (Kd.int .i64) 3 w53 w.heap.size (fun k_ => some k_ ≠ (v272 : Value).ownBlock ∧ some k_ ≠ (.slice (some ad236) x5_1.length co44 : Value).ownBlock) v269 y268) := ⟨h0_⟩
            have HO273 : Aside0 (Kd.R (Kd.int .i64) 3 w53 w.heap.size (fun k_ => some k_ ≠ (v269 : Value).ownBlock ∧ some k_ ≠ (.slice (some ad236) x5_1.length co44 : Value).ownBlock) v272 y271) := ⟨h1_⟩
            replace HO_5 : Aside0 (Kd.R (Kd.int .i64) 3 w53 w.heap.size (fun k_ => some k_ ≠ (v269 : Value).ownBlock ∧ some k_ ≠ (v272 : Value).ownBlock) (.slice (some ad236) x5_1.length co44) x5_1) := ⟨h2_⟩
            replace HB : Aside0 (Below w.heap.size w w53) := ⟨h3_⟩
            clear h0_ h1_ h2_ h3_
            have hHeld := trivial
            obtain ⟨Ao55, co55, eo55⟩ := Kd.R_slice HO273.out
            (first | subst eo55 | (injection eo55 with f1_ f2_ f3_; have f4_ := f1_.symm; have f5_ := f3_.symm; clear f1_ f2_ f3_; subst f4_; subst f5_))
            refine norm_ (a' := ?_) ?_ ?_
            rotate_left
            ·simp only [putAll, Act.put, List.setIfInBounds_toArray, List.set_cons_zero, List.set_cons_succ]
             rfl
            refine one_ (i := 7) (N := some 73) #[true, true, true, true, true, true, true, true, true, true, true, false, false] rfl rfl (one_of HT_.out (by kernel_rfl)) (by decide) (fun K hK => ?_)
            refine Kd.R_append_rows_step (Kd.int .i64) (w0 := w) w.heap.size (by rfl) (.tmp 70) (.tmp 72) 28 3 (.int .i64 0) 8 rfl Try.underlying28 info3 rfl (by decide) (by omega) v269 y268 y271 _ _ _ (fun k_ => some k_ ≠ (.slice (some ad236) x5_1.length co44 : Value).ownBlock ∧ some k_ ≠ (.slice Ao55 y271.length co55 : Value).ownBlock) (fun _ => False) rfl rfl ?aO ?aR (fun _ _ h => h) (fun _ h => h.elim) ?aF ?aB ?aS ?aL ?_
            (case aR => repeat (first | exact (Kd.R_reads' HO273.out).2.2 | (with_reducible refine Kd.C_alloc ?_ _) | (with_reducible refine Kd.C_drewN ?_ _) | (with_reducible refine Kd.C_drew ?_)))
            (case aB => exact (sb))
            (case aF => exact (fun k_ hk => ⟨Kd.fresh' (Kd.R_lt (sr HO_5)) k_ hk, Kd.fresh' (Kd.R_lt (sr HO273)) k_ hk⟩))
            (case aO => exact (by (with_reducible repeat (first | apply Kd.R_alloc | apply Kd.R_drewN | apply Kd.R_drew)); exact Kd.R_mono HO270.out (fun _ hk => ⟨hk.2, hk.1⟩)))
            (case aS => exact (below_size (sb)))
            (case aL => have := LMc40.out; omega)
            intro v275 w54 ho hb hg hat
            rw [← Ny274.out] at ho
            replace HO_5 := Aside0.mk (Kd.R_after (ok := (fun k_ => some k_ ≠ (.slice Ao55 y271.length co55 : Value).ownBlock)) (by (with_reducible repeat (first | apply Kd.R_alloc | apply Kd.R_drewN | apply Kd.R_drew)); exact Kd.R_mono HO_5.out (fun _ hk => ⟨hk.2, hk.1⟩)) hg hat)
            replace HO273 := Aside0.mk (Kd.R_after (ok := (fun k_ => some k_ ≠ (.slice (some ad236) x5_1.length co44 : Value).ownBlock)) (by (with_reducible repeat (first | apply Kd.R_alloc | apply Kd.R_drewN | apply Kd.R_drew)); exact Kd.R_mono HO273.out (fun _ hk => ⟨hk.2, hk.1⟩)) hg hat)
            replace HB := Aside0.mk hb
            have HO276 := Aside0.mk ho
            clear HO270 ho hb hg hat
            refine hK.out _ _ trivial (fun hHeld => ?_)
            clear hK K
            refine norm_ (a' := ?_) ?_ ?_
            rotate_left
            ·show Act.put _ (some 73) _ = _
             simp only [Act.put, List.setIfInBounds_toArray, List.set_cons_zero, List.set_cons_succ, i64_w, i32_w]
             rfl
            refine one_ (i := 11) (N := some 77) #[true, true, true, true, true, true, true, true, true, true, true, true, false] rfl rfl (one_of HT_.out (by kernel_rfl)) (by decide) (fun K hK => ?_)
            refine Kd.R_append_rows_step (Kd.int .i64) (w0 := w) w.heap.size (by rfl) (.tmp 73) (.tmp 76) 28 3 (.int .i64 0) 8 rfl Try.underlying28 info3 rfl (by decide) (by omega) v275 y274 y277 _ _ _ (fun k_ => some k_ ≠ (.slice (some ad236) x5_1.length co44 : Value).ownBlock ∧ some k_ ≠ (.slice Ao55 y271.length co55 : Value).ownBlock) (fun _ => False) rfl rfl ?aO ?aR (fun _ _ h => h) (fun _ h => h.elim) ?aF ?aB ?aS ?aL ?_
            (case aR => exact (show Kd.C (Kd.int .i64) _ A47 y277.length y277 from by rw [Ny277.out, KA47.out]; exact Kd.C_drop (m := (x8_3 : Int).toNat) (c := co44) ((Kd.R_reads' (sr HO_5)).2.2) KL47.out ((Kd.R_reads' HO_5.out).2.1)))
            (case aB => exact (sb))
            (case aF => exact (fun k_ hk => ⟨Kd.fresh' (Kd.R_lt (sr HO_5)) k_ hk, Kd.fresh' (Kd.R_lt (sr HO273)) k_ hk⟩))
            (case aO => exact (sr HO276))
            (case aS => exact (below_size (sb)))
            (case aL => have := LMc43.out; omega)
            intro v282 w56 ho hb hg hat
            rw [← Ny281.out] at ho
            replace HO_5 := Aside0.mk (Kd.R_after (ok := (fun k_ => some k_ ≠ (.slice Ao55 y271.length co55 : Value).ownBlock)) (sr HO_5) hg hat)
            replace HO273 := Aside0.mk (Kd.R_after (ok := (fun k_ => some k_ ≠ (.slice (some ad236) x5_1.length co44 : Value).ownBlock)) (sr HO273) hg hat)
            replace HB := Aside0.mk hb
            have HO283 := Aside0.mk ho
            clear HO276 ho hb hg hat
            refine hK.out _ _ trivial (fun hHeld => ?_)
            clear hK K
            refine norm_ (a' := ?_) ?_ ?_
            rotate_left
            ·show Act.put _ (some 77) _ = _
             simp only [Act.put, List.setIfInBounds_toArray, List.set_cons_zero, List.set_cons_succ, i64_w, i32_w]
             rfl
            refine put 12 5 #[true, true, true, true, true, true, true, true, true, true, true, true, true] HT_ ?_
            refine done_ (done_of HT_.out (by kernel_rfl)) ?_
            try go_wp2
            go_roundg k3
            case measure => have := HK1.out; have := HJ6.out; have := HK3.out; omega
            case rel => exact ⟨(y281), (wrap64 (x6_1 + 1)), sc, H', ⟨by have := HK1.out; have := HJ6.out; have := HK3.out; omega⟩, ⟨by (with_reducible repeat (first | apply Kd.R_alloc | apply Kd.R_drewN | apply Kd.R_drew)); exact Kd.R_mono HO283.out (fun _ hk => trivial)⟩, ⟨sb⟩⟩
        ·have c10b0 := decide_eq_false c10
         clear c10
         obtain ⟨c57, H⟩ | ⟨c57, H⟩ := ie_ H
         ·have c57b0 : (x8_3 == (x5_1.length : Int)) = true := beq_iff_eq.mpr c57
          have c57b1 : (x8_3 != (x5_1.length : Int)) = false := bne_eq_false_iff_eq.mpr c57
          clear c57
          obtain ⟨y284, hy284⟩ : ∃ y_ : List Int, y_ = (([] : List Int)) := ⟨_, rfl⟩
          replace H : (if 0 ≤ x8_3 then (if x8_3 ≤ (x5_1.length : Int) then ((some (x5_1.take (x8_3 : Int).toNat : List Int)).bind fun y287 => (if y284.length + y287.length < 17592186044416 then ((some (y284 ++ y287 : List Int)).bind fun y291 => ((some (([x7_6] : List Int) : List Int)).bind fun y294 => (if y291.length + y294.length < 17592186044416 then ((some (y291 ++ y294 : List Int)).bind fun y297 => ((some (x5_1.drop (x8_3 : Int).toNat : List Int)).bind fun y300 => (if y297.length + y300.length < 17592186044416 then (spec_NeighborsIn.l0 k3 l0 a1 (y297 ++ y300) (wrap64 (x6_1 + 1))) else (none)))) else (none)))) else (none))) else (none)) else (none)) = some r := by first | (rw [hy284]; with_reducible exact H) | (have H2_ := (Option.bind_some _ _).symm.trans H; rw [hy284]; with_reducible exact H2_) | (have H2_ := (Option.bind_some _ _).symm.trans H; with_reducible exact H2_) | with_reducible exact H | (rw [hy284]; exact H) | exact H
          have Ny284 := Aside0.mk hy284
          clear hy284
          obtain ⟨c58, H⟩ := ia_ H
          have c58b0 := eq_true c58
          have c58b1 := decide_eq_true c58
          clear c58
          obtain ⟨c59, H⟩ := ia_ H
          have c59b0 := eq_true c59
          have c59b1 := decide_eq_true c59
          clear c59
          obtain ⟨y287, hy287⟩ : ∃ y_ : List Int, y_ = (x5_1.take (x8_3 : Int).toNat) := ⟨_, rfl⟩
          replace H : (if y284.length + y287.length < 17592186044416 then ((some (y284 ++ y287 : List Int)).bind fun y291 => ((some (([x7_6] : List Int) : List Int)).bind fun y294 => (if y291.length + y294.length < 17592186044416 then ((some (y291 ++ y294 : List Int)).bind fun y297 => ((some (x5_1.drop (x8_3 : Int).toNat : List Int)).bind fun y300 => (if y297.length + y300.length < 17592186044416 then (spec_NeighborsIn.l0 k3 l0 a1 (y297 ++ y300) (wrap64 (x6_1 + 1))) else (none)))) else (none)))) else (none)) = some r := by first | (rw [hy287]; with_reducible exact H) | (have H2_ := (Option.bind_some _ _).symm.trans H; rw [hy287]; with_reducible exact H2_) | (have H2_ := (Option.bind_some _ _).symm.trans H; with_reducible exact H2_) | with_reducible exact H | (rw [hy287]; exact H) | exact H
          have Ny287 := Aside0.mk hy287
          clear hy287
          obtain ⟨LMc60, H⟩ := il_ H
          obtain ⟨y291, hy291⟩ : ∃ y_ : List Int, y_ = (y284 ++ y287) := ⟨_, rfl⟩
          replace H : ((some (([x7_6] : List Int) : List Int)).bind fun y294 => (if y291.length + y294.length < 17592186044416 then ((some (y291 ++ y294 : List Int)).bind fun y297 => ((some (x5_1.drop (x8_3 : Int).toNat : List Int)).bind fun y300 => (if y297.length + y300.length < 17592186044416 then (spec_NeighborsIn.l0 k3 l0 a1 (y297 ++ y300) (wrap64 (x6_1 + 1))) else (none)))) else (none))) = some r := by first | (rw [hy291]; with_reducible exact H) | (have H2_ := (Option.bind_some _ _).symm.trans H; rw [hy291]; with_reducible exact H2_) | (have H2_ := (Option.bind_some _ _).symm.trans H; with_reducible exact H2_) | with_reducible exact H | (rw [hy291]; exact H) | exact H
          have Ny291 := Aside0.mk hy291
          clear hy291
          obtain ⟨y294, hy294⟩ : ∃ y_ : List Int, y_ = (([x7_6] : List Int)) := ⟨_, rfl⟩
          replace H : (if y291.length + y294.length < 17592186044416 then ((some (y291 ++ y294 : List Int)).bind fun y297 => ((some (x5_1.drop (x8_3 : Int).toNat : List Int)).bind fun y300 => (if y297.length + y300.length < 17592186044416 then (spec_NeighborsIn.l0 k3 l0 a1 (y297 ++ y300) (wrap64 (x6_1 + 1))) else (none)))) else (none)) = some r := by first | (rw [hy294]; with_reducible exact H) | (have H2_ := (Option.bind_some _ _).symm.trans H; rw [hy294]; with_reducible exact H2_) | (have H2_ := (Option.bind_some _ _).symm.trans H; with_reducible exact H2_) | with_reducible exact H | (rw [hy294]; exact H) | exact H
          have Ny294 := Aside0.mk hy294
          clear hy294
          obtain ⟨LMc61, H⟩ := il_ H
          obtain ⟨y297, hy297⟩ : ∃ y_ : List Int, y_ = (y291 ++ y294) := ⟨_, rfl⟩
          replace H : ((some (x5_1.drop (x8_3 : Int).toNat : List Int)).bind fun y300 => (if y297.length + y300.length < 17592186044416 then (spec_NeighborsIn.l0 k3 l0 a1 (y297 ++ y300) (wrap64 (x6_1 + 1))) else (none))) = some r := by first | (rw [hy297]; with_reducible exact H) | (have H2_ := (Option.bind_some _ _).symm.trans H; rw [hy297]; with_reducible exact H2_) | (have H2_ := (Option.bind_some _ _).symm.trans H; with_reducible exact H2_) | with_reducible exact H | (rw [hy297]; exact H) | exact H
          have Ny297 := Aside0.mk hy297
          clear hy297
          have c62b0 := eq_true (sa : 0 ≤ x8_3)
          have c63b0 := eq_true (sa : x8_3 ≤ (x5_1.length : Int))
          obtain ⟨y300, hy300⟩ : ∃ y_ : List Int, y_ = (x5_1.drop (x8_3 : Int).toNat) := ⟨_, rfl⟩
          replace H : (if y297.length + y300.length < 17592186044416 then (spec_NeighborsIn.l0 k3 l0 a1 (y297 ++ y300) (wrap64 (x6_1 + 1))) else (none)) = some r := by first | (rw [hy300]; with_reducible exact H) | (have H2_ := (Option.bind_some _ _).symm.trans H; rw [hy300]; with_reducible exact H2_) | (have H2_ := (Option.bind_some _ _).symm.trans H; with_reducible exact H2_) | with_reducible exact H | (rw [hy300]; exact H) | exact H
          have Ny300 := Aside0.mk hy300
          clear hy300
          obtain ⟨LMc64, H⟩ := il_ H
          obtain ⟨y304, hy304⟩ : ∃ y_ : List Int, y_ = (y297 ++ y300) := ⟨_, rfl⟩
          replace H : (spec_NeighborsIn.l0 k3 l0 a1 y304 (wrap64 (x6_1 + 1))) = some r := by first | (rw [hy304]; with_reducible exact H) | (have H2_ := (Option.bind_some _ _).symm.trans H; rw [hy304]; with_reducible exact H2_) | (have H2_ := (Option.bind_some _ _).symm.trans H; with_reducible exact H2_) | with_reducible exact H | (rw [hy304]; exact H) | exact H
          have Ny304 := Aside0.mk hy304
          clear hy304
          have H' := Aside0.mk H
          clear H
          obtain ⟨Ao65, co65, eo65⟩ := Kd.R_slice HO_5.out
          subst eo65
          try go_wp2
          replace HO_5 := Aside0.mk (Kd.R_drew HO_5.out)
          replace HB := Aside0.mk (below_drew1 HB.out)
          have q67 : (x8_3 : Int) ≤ ((x5_1.length : Int) : Int) := sa
          obtain ⟨i067, hi067, _, hsz67, _⟩ := info_parts info3
          have hroom67 : x5_1.length ≤ co65 := (Kd.R_reads' HO_5.out).2.1
          have hC67 : Kd.C (Kd.int .i64) _ Ao65 x5_1.length x5_1 := (Kd.R_reads' HO_5.out).2.2
          have hcut67 := cut_to (P := Try.prog) 28 3 .i64 Try.underlying28 hi067 Ao65 x5_1.length co65 x8_3 (sa) q67 hroom67
          have hr67 := Kd.C_take (m := (x8_3 : Int).toNat) hC67 (by omega)
          have hy67 : y287.length = (x8_3 : Int).toNat := (by rw [Ny287.out, List.length_take]; omega)
          rw [← Ny287.out] at hr67
          rw [← hy67] at hcut67
          have HR290 := Aside0.mk hr67
          have HC290 := Aside0.mk (show y287.length ≤ co65 from by omega)
          clear hr67 hC67 hroom67 hi067 hsz67
          have KY67 := Aside0.mk hy67
          clear hy67
          have KL67 := Aside0.mk (show (x8_3 : Int).toNat ≤ x5_1.length from by omega)
          replace q67 := eq_true q67
          have q68 : (x8_3 : Int) ≤ ((x5_1.length : Int) : Int) := sa
          obtain ⟨i068, hi068, _, hsz68, _⟩ := info_parts info3
          have hroom68 : x5_1.length ≤ co65 := (Kd.R_reads' HO_5.out).2.1
          have hC68 : Kd.C (Kd.int .i64) _ Ao65 x5_1.length x5_1 := (Kd.R_reads' HO_5.out).2.2
          have q068 : (0 : Int) ≤ (x8_3 : Int) := sa
          have hcut68 := cut_from (P := Try.prog) 28 3 .i64 Try.underlying28 hi068 1 hsz68 Ao65 x5_1.length co65 x8_3 q068 q68
          have hr68 := Kd.C_drop (m := (x8_3 : Int).toNat) (c := co65) hC68 (by omega) hroom68
          obtain ⟨A68, hA68⟩ : ∃ A1, A1 = (if co65 = (x8_3 : Int).toNat then Ao65 else (Ao65 : Option Addr).map (·.add ((x8_3 : Int).toNat * 1))) := ⟨_, rfl⟩
          obtain ⟨c68, hc68⟩ : ∃ c1, c1 = co65 - (x8_3 : Int).toNat := ⟨_, rfl⟩
          have hy68 : y300.length = x5_1.length - (x8_3 : Int).toNat := (by rw [Ny300.out, List.length_drop] <;> omega)
          rw [show (x5_1).drop (x8_3 : Int).toNat = y300 from Ny300.out.symm] at hr68
          replace hr68 : Kd.C (Kd.int .i64) _ A68 y300.length y300 := (by rw [hA68]; exact hr68)
          rw [← hy68, ← hA68, ← hc68] at hcut68
          have HR303 := Aside0.mk hr68
          have HC303 := Aside0.mk (show y300.length ≤ c68 from by rw [hy68, hc68]; exact Nat.sub_le_sub_right hroom68 _)
          clear hr68 hC68 hroom68 hi068 hsz68 hc68
          have KY68 := Aside0.mk hy68
          have KA68 := Aside0.mk hA68
          clear hy68 hA68
          have KL68 := Aside0.mk (show (x8_3 : Int).toNat ≤ x5_1.length from by omega)
          replace q68 := eq_true q68
          refine start_ (n := 13) (S := fun w' => True) (ds := []) #[false, false, false, false, false, false, false, false, false, false, false, false, false] (by kernel_rfl) rfl rfl trivial (fun hHeld => ?_); refine with_tabW spec_NeighborsIn.tab14 spec_NeighborsIn.bits14 (fun HT_ HW_ => ?_)
          generalize wr.drew = w66 at HO_5 HB HR290 HR303 hHeld ⊢
          refine put 1 67 #[false, true, false, false, false, false, false, false, false, false, false, false, false] HT_ ?_
          refine put 2 68 #[false, true, true, false, false, false, false, false, false, false, false, false, false] HT_ ?_
          refine put 3 69 #[false, true, true, true, false, false, false, false, false, false, false, false, false] HT_ ?_
          refine put 5 71 #[false, true, true, true, false, true, false, false, false, false, false, false, false] HT_ ?_
          refine put 8 74 #[false, true, true, true, false, true, false, false, true, false, false, false, false] HT_ ?_
          refine put 9 75 #[false, true, true, true, false, true, false, false, true, true, false, false, false] HT_ ?_
          refine put 10 76 #[false, true, true, true, false, true, false, false, true, true, true, false, false] HT_ ?_
          refine join_ (σ := Value × Value × Value) 3 #[true, true, true, true, true, true, true, false, true, true, true, false, false] (fun s_ => [(66, s_.1), (70, s_.2.1), (72, s_.2.2)]) (fun s_ w' => (Kd.R (Kd.int .i64) 3 w' w.heap.size (fun k_ => some k_ ≠ (s_.2.2 : Value).ownBlock ∧ some k_ ≠ (.slice Ao65 x5_1.length co65 : Value).ownBlock) s_.2.1 y291) ∧ (Kd.R (Kd.int .i64) 3 w' w.heap.size (fun k_ => some k_ ≠ (s_.2.1 : Value).ownBlock ∧ some k_ ≠ (.slice Ao65 x5_1.length co65 : Value).ownBlock) s_.2.2 y294) ∧ (Kd.R (Kd.int .i64) 3 w' w.heap.size (fun k_ => some k_ ≠ (s_.2.1 : Value).ownBlock ∧ some k_ ≠ (s_.2.2 : Value).ownBlock) (.slice Ao65 x5_1.length co65) x5_1) ∧ (Below w.heap.size w w')) ?_ ?_
          rotate_left
          ·intro hCont
           refine two_ (i := 0) (j := 6) (Ni := some 66) (Nj := some 72) #[true, true, true, true, false, true, false, false, true, true, true, false, false] #[false, true, true, true, false, true, true, false, true, true, true, false, false] rfl rfl rfl rfl (two_of HT_.out (by kernel_rfl)) (by decide) (by decide) (fun K hK => ?_) (fun K hK => ?_)
           ·skip
            refine Kd.R_lit_step (Kd.int .i64) _ 3 ?hg (N := 66) ?hd (xs := ([] : List Int)) (inner := []) (ok := fun _ => True) (okp := fun _ => True) ?hr ?hp (fun _ hk => hk) trivial (Below.refl _ _) (Nat.le_refl _) (by simp) ?_; (case hd => rfl); (case hg => rfl); (case hr => first | (go_simp; done) | (go_simp; rfl)); (case hp => exact (Reps.none _ _))
            intro v285 w69 ho70 hb hg_ hnew_
            clear hg_ hnew_
            (first | rw [← Ny284.out] at ho70 | (simp only [Int.reduceToNat] at ho70; rw [← Ny284.out] at ho70))
            have HO286 := Aside0.mk (Kd.R_lower (Kd.R_new' ho70 (Kd.R_lt (sr HO_5))) (below_size (sb)))
            replace HO_5 := Aside0.mk (Kd.R_elder' (sr HO_5) (Kd.R_base ho70) hb)
            replace HR290 := Aside0.mk (Kd.C_below (by repeat (first | (with_reducible exact HR290.out) | (with_reducible refine Kd.C_alloc ?_ _) | (with_reducible refine Kd.C_drewN ?_ _) | (with_reducible refine Kd.C_drew ?_) | exact HR290.out)) hb)
            replace HR303 := Aside0.mk (Kd.C_below (by repeat (first | (with_reducible exact HR303.out) | (with_reducible refine Kd.C_alloc ?_ _) | (with_reducible refine Kd.C_drewN ?_ _) | (with_reducible refine Kd.C_drew ?_) | exact HR303.out)) hb)
            replace HB := bs hb
            clear hb ho70
            refine hK.out _ _ trivial (fun hHeld => ?_)
            clear hK K
            refine norm_ (a' := ?_) ?_ ?_
            rotate_left
            ·show Act.put _ (some 66) _ = _
             simp only [Act.put, List.setIfInBounds_toArray, List.set_cons_zero, List.set_cons_succ, i64_w, i32_w]
             rfl
            refine two_ (i := 4) (j := 6) (Ni := some 70) (Nj := some 72) #[true, true, true, true, true, true, false, false, true, true, true, false, false] #[true, true, true, true, false, true, true, false, true, true, true, false, false] rfl rfl rfl rfl (two_of HT_.out (by kernel_rfl)) (by decide) (by decide) (fun K hK => ?_) (fun K hK => ?_)
            ·skip
             refine Kd.R_append_rows_step (Kd.int .i64) (w0 := w) w.heap.size (by rfl) (.tmp 66) (.tmp 69) 28 3 (.int .i64 0) 8 rfl Try.underlying28 info3 rfl (by decide) (by omega) v285 y284 y287 _ _ _ (fun k_ => some k_ ≠ (.slice Ao65 x5_1.length co65 : Value).ownBlock) (fun _ => False) rfl rfl ?aO ?aR (fun _ _ h => h) (fun _ h => h.elim) ?aF ?aB ?aS ?aL ?_
             (case aR => repeat (first | exact (by repeat (first | (with_reducible exact HR290.out) | (with_reducible refine Kd.C_alloc ?_ _) | (with_reducible refine Kd.C_drewN ?_ _) | (with_reducible refine Kd.C_drew ?_) | exact HR290.out)) | (with_reducible refine Kd.C_alloc ?_ _) | (with_reducible refine Kd.C_drewN ?_ _) | (with_reducible refine Kd.C_drew ?_)))
             (case aB => exact (sb))
             (case aF => exact (fun k_ hk => Kd.fresh' (Kd.R_lt (sr HO_5)) k_ hk))
             (case aO => exact (by (with_reducible repeat (first | apply Kd.R_alloc | apply Kd.R_drewN | apply Kd.R_drew)); exact Kd.R_mono HO286.out (fun _ hk => hk.2)))
             (case aS => exact (below_size (sb)))
             (case aL => have := LMc60.out; omega)
             intro v292 w71 ho hb hg hat
             rw [← Ny291.out] at ho
             replace HB := Aside0.mk hb
             replace HR290 := Aside0.mk ((show Kd.C (Kd.int .i64) w71 Ao65 y287.length y287 from by rw [Ny287.out]; exact Kd.C_take (m := (x8_3 : Int).toNat) ((Kd.R_reads' (Kd.R_after (ok := (fun _ => True)) (sr HO_5) hg hat)).2.2) KL67.out))
             replace HR303 := Aside0.mk ((show Kd.C (Kd.int .i64) w71 A68 y300.length y300 from by rw [Ny300.out, KA68.out]; exact Kd.C_drop (m := (x8_3 : Int).toNat) (c := co65) ((Kd.R_reads' (Kd.R_after (ok := (fun _ => True)) (sr HO_5) hg hat)).2.2) KL68.out ((Kd.R_reads' (Kd.R_after (ok := (fun _ => True)) (sr HO_5) hg hat)).2.1)))
             replace HO_5 := Aside0.mk (Kd.R_after (ok := (fun _ => True)) (sr HO_5) hg hat)
             have HO293 := Aside0.mk ho
             clear HO286 ho hb hg hat
             refine hK.out _ _ trivial (fun hHeld => ?_)
             clear hK K
             refine norm_ (a' := ?_) ?_ ?_
             rotate_left
             ·show Act.put _ (some 70) _ = _
              simp only [Act.put, List.setIfInBounds_toArray, List.set_cons_zero, List.set_cons_succ, i64_w, i32_w]
              rfl
             refine one_ (i := 6) (N := some 72) #[true, true, true, true, true, true, true, false, true, true, true, false, false] rfl rfl (one_of HT_.out (by kernel_rfl)) (by decide) (fun K hK => ?_)
             refine Kd.R_lit_step (Kd.int .i64) _ 3 ?hg (N := 72) ?hd (xs := ([x7_6] : List Int)) (inner := [.int .i64 x7_6]) (ok := fun _ => True) (okp := fun _ => True) ?hr ?hp (fun _ hk => hk) trivial (Below.refl _ _) (Nat.le_refl _) (by simp) ?_; (case hd => rfl); (case hg => rfl); (case hr => first | (go_simp; done) | (go_simp; rfl)); (case hp => exact (Reps.one (show Kd.M (Kd.int .i64) _ _ _ x7_6 [.int .i64 x7_6] from rfl) (Reps.none _ _)))
             intro v295 w72 ho73 hb hg_ hnew_
             clear hg_ hnew_
             (first | rw [← Ny294.out] at ho73 | (simp only [Int.reduceToNat] at ho73; rw [← Ny294.out] at ho73))
             have HO296 := Aside0.mk (Kd.R_lower (Kd.R_new' (Kd.R_new' ho73 (Kd.R_lt (sr HO_5))) (Kd.R_lt (sr HO293))) (below_size (sb)))
             replace HO_5 := Aside0.mk (Kd.R_elder' (sr HO_5) (Kd.R_base ho73) hb)
             replace HO293 := Aside0.mk (Kd.R_elder' (sr HO293) (Kd.R_base ho73) hb)
             replace HR290 := Aside0.mk (Kd.C_below (by repeat (first | (with_reducible exact HR290.out) | (with_reducible refine Kd.C_alloc ?_ _) | (with_reducible refine Kd.C_drewN ?_ _) | (with_reducible refine Kd.C_drew ?_) | exact HR290.out)) hb)
             replace HR303 := Aside0.mk (Kd.C_below (by repeat (first | (with_reducible exact HR303.out) | (with_reducible refine Kd.C_alloc ?_ _) | (with_reducible refine Kd.C_drewN ?_ _) | (with_reducible refine Kd.C_drew ?_) | exact HR303.out)) hb)
             replace HB := bs hb
             clear hb ho73
             refine hK.out _ _ trivial (fun hHeld => ?_)
             clear hK K
             refine norm_ (a' := ?_) ?_ ?_
             rotate_left
             ·show Act.put _ (some 72) _ = _
              simp only [Act.put, List.setIfInBounds_toArray, List.set_cons_zero, List.set_cons_succ, i64_w, i32_w]
              rfl
             exact norm_ (by simp only [putAll, Act.put, List.setIfInBounds_toArray, List.set_cons_zero, List.set_cons_succ]) (hCont (v285, v292, v295) _ ⟨(by (with_reducible repeat (first | apply Kd.R_alloc | apply Kd.R_drewN | apply Kd.R_drew)); exact Kd.R_mono HO293.out (fun _ hk => ⟨hk.2, hk.1⟩)), (by (with_reducible repeat (first | apply Kd.R_alloc | apply Kd.R_drewN | apply Kd.R_drew)); exact Kd.R_mono HO296.out (fun _ hk => ⟨hk.2, hk.1.2⟩)), (by (with_reducible repeat (first | apply Kd.R_alloc | apply Kd.R_drewN | apply Kd.R_drew)); exact Kd.R_mono HO_5.out (fun _ hk => ⟨hk.1.2, hk.2⟩)), (sb)⟩)
            ·skip
             refine Kd.R_lit_step (Kd.int .i64) _ 3 ?hg (N := 72) ?hd (xs := ([x7_6] : List Int)) (inner := [.int .i64 x7_6]) (ok := fun _ => True) (okp := fun _ => True) ?hr ?hp (fun _ hk => hk) trivial (Below.refl _ _) (Nat.le_refl _) (by simp) ?_; (case hd => rfl); (case hg => rfl); (case hr => first | (go_simp; done) | (go_simp; rfl)); (case hp => exact (Reps.one (show Kd.M (Kd.int .i64) _ _ _ x7_6 [.int .i64 x7_6] from rfl) (Reps.none _ _)))
             intro v295 w71 ho72 hb hg_ hnew_
             clear hg_ hnew_
             (first | rw [← Ny294.out] at ho72 | (simp only [Int.reduceToNat] at ho72; rw [← Ny294.out] at ho72))
             have HO296 := Aside0.mk (Kd.R_lower (Kd.R_new' (Kd.R_new' ho72 (Kd.R_lt (sr HO_5))) (Kd.R_lt (sr HO286))) (below_size (sb)))
             replace HO_5 := Aside0.mk (Kd.R_elder' (sr HO_5) (Kd.R_base ho72) hb)
             replace HO286 := Aside0.mk (Kd.R_elder' (sr HO286) (Kd.R_base ho72) hb)
             replace HR290 := Aside0.mk (Kd.C_below (by repeat (first | (with_reducible exact HR290.out) | (with_reducible refine Kd.C_alloc ?_ _) | (with_reducible refine Kd.C_drewN ?_ _) | (with_reducible refine Kd.C_drew ?_) | exact HR290.out)) hb)
             replace HR303 := Aside0.mk (Kd.C_below (by repeat (first | (with_reducible exact HR303.out) | (with_reducible refine Kd.C_alloc ?_ _) | (with_reducible refine Kd.C_drewN ?_ _) | (with_reducible refine Kd.C_drew ?_) | exact HR303.out)) hb)
             replace HB := bs hb
             clear hb ho72
             refine hK.out _ _ trivial (fun hHeld => ?_)
             clear hK K
             refine norm_ (a' := ?_) ?_ ?_
             rotate_left
             ·show Act.put _ (some 72) _ = _
              simp only [Act.put, List.setIfInBounds_toArray, List.set_cons_zero, List.set_cons_succ, i64_w, i32_w]
              rfl
             refine one_ (i := 4) (N := some 70) #[true, true, true, true, true, true, true, false, true, true, true, false, false] rfl rfl (one_of HT_.out (by kernel_rfl)) (by decide) (fun K hK => ?_)
             refine Kd.R_append_rows_step (Kd.int .i64) (w0 := w) w.heap.size (by rfl) (.tmp 66) (.tmp 69) 28 3 (.int .i64 0) 8 rfl Try.underlying28 info3 rfl (by decide) (by omega) v285 y284 y287 _ _ _ (fun k_ => some k_ ≠ (.slice Ao65 x5_1.length co65 : Value).ownBlock ∧ some k_ ≠ (v295 : Value).ownBlock) (fun _ => False) rfl rfl ?aO ?aR (fun _ _ h => h) (fun _ h => h.elim) ?aF ?aB ?aS ?aL ?_
             (case aR => repeat (first | exact (by repeat (first | (with_reducible exact HR290.out) | (with_reducible refine Kd.C_alloc ?_ _) | (with_reducible refine Kd.C_drewN ?_ _) | (with_reducible refine Kd.C_drew ?_) | exact HR290.out)) | (with_reducible refine Kd.C_alloc ?_ _) | (with_reducible refine Kd.C_drewN ?_ _) | (with_reducible refine Kd.C_drew ?_)))
             (case aB => exact (sb))
             (case aF => exact (fun k_ hk => ⟨Kd.fresh' (Kd.R_lt (sr HO_5)) k_ hk, Kd.fresh' (Kd.R_lt (sr HO296)) k_ hk⟩))
             (case aO => exact (by (with_reducible repeat (first | apply Kd.R_alloc | apply Kd.R_drewN | apply Kd.R_drew)); exact Kd.R_mono HO286.out (fun _ hk => ⟨hk.1.2, hk.2⟩)))
             (case aS => exact (below_size (sb)))
             (case aL => have := LMc60.out; omega)
             intro v292 w73 ho hb hg hat
             rw [← Ny291.out] at ho
             replace HO296 := Aside0.mk (Kd.R_after (ok := (fun k_ => some k_ ≠ (.slice Ao65 x5_1.length co65 : Value).ownBlock)) (by (with_reducible repeat (first | apply Kd.R_alloc | apply Kd.R_drewN | apply Kd.R_drew)); exact Kd.R_mono HO296.out (fun _ hk => ⟨hk.1.2, hk.2⟩)) hg hat)
             replace HB := Aside0.mk hb
             replace HR290 := Aside0.mk ((show Kd.C (Kd.int .i64) w73 Ao65 y287.length y287 from by rw [Ny287.out]; exact Kd.C_take (m := (x8_3 : Int).toNat) ((Kd.R_reads' (Kd.R_after (ok := (fun k_ => some k_ ≠ (v295 : Value).ownBlock)) (by (with_reducible repeat (first | apply Kd.R_alloc | apply Kd.R_drewN | apply Kd.R_drew)); exact Kd.R_mono HO_5.out (fun _ hk => ⟨hk.2, hk.1.2⟩)) hg hat)).2.2) KL67.out))
             replace HR303 := Aside0.mk ((show Kd.C (Kd.int .i64) w73 A68 y300.length y300 from by rw [Ny300.out, KA68.out]; exact Kd.C_drop (m := (x8_3 : Int).toNat) (c := co65) ((Kd.R_reads' (Kd.R_after (ok := (fun k_ => some k_ ≠ (v295 : Value).ownBlock)) (by (with_reducible repeat (first | apply Kd.R_alloc | apply Kd.R_drewN | apply Kd.R_drew)); exact Kd.R_mono HO_5.out (fun _ hk => ⟨hk.2, hk.1.2⟩)) hg hat)).2.2) KL68.out ((Kd.R_reads' (Kd.R_after (ok := (fun k_ => some k_ ≠ (v295 : Value).ownBlock)) (by (with_reducible repeat (first | apply Kd.R_alloc | apply Kd.R_drewN | apply Kd.R_drew)); exact Kd.R_mono HO_5.out (fun _ hk => ⟨hk.2, hk.1.2⟩)) hg hat)).2.1)))
             replace HO_5 := Aside0.mk (Kd.R_after (ok := (fun k_ => some k_ ≠ (v295 : Value).ownBlock)) (by (with_reducible repeat (first | apply Kd.R_alloc | apply Kd.R_drewN | apply Kd.R_drew)); exact Kd.R_mono HO_5.out (fun _ hk => ⟨hk.2, hk.1.2⟩)) hg hat)
             have HO293 := Aside0.mk ho
             clear HO286 ho hb hg hat
             refine hK.out _ _ trivial (fun hHeld => ?_)
             clear hK K
             refine norm_ (a' := ?_) ?_ ?_
             rotate_left
             ·show Act.put _ (some 70) _ = _
              simp only [Act.put, List.setIfInBounds_toArray, List.set_cons_zero, List.set_cons_succ, i64_w, i32_w]
              rfl
             exact norm_ (by simp only [putAll, Act.put, List.setIfInBounds_toArray, List.set_cons_zero, List.set_cons_succ]) (hCont (v285, v292, v295) _ ⟨(by (with_reducible repeat (first | apply Kd.R_alloc | apply Kd.R_drewN | apply Kd.R_drew)); exact Kd.R_mono HO293.out (fun _ hk => ⟨hk.2, hk.1⟩)), (by (with_reducible repeat (first | apply Kd.R_alloc | apply Kd.R_drewN | apply Kd.R_drew)); exact Kd.R_mono HO296.out (fun _ hk => ⟨hk.2, hk.1⟩)), (by (with_reducible repeat (first | apply Kd.R_alloc | apply Kd.R_drewN | apply Kd.R_drew)); exact Kd.R_mono HO_5.out (fun _ hk => ⟨hk.2, hk.1⟩)), (sb)⟩)
           ·skip
            refine Kd.R_lit_step (Kd.int .i64) _ 3 ?hg (N := 72) ?hd (xs := ([x7_6] : List Int)) (inner := [.int .i64 x7_6]) (ok := fun _ => True) (okp := fun _ => True) ?hr ?hp (fun _ hk => hk) trivial (Below.refl _ _) (Nat.le_refl _) (by simp) ?_; (case hd => rfl); (case hg => rfl); (case hr => first | (go_simp; done) | (go_simp; rfl)); (case hp => exact (Reps.one (show Kd.M (Kd.int .i64) _ _ _ x7_6 [.int .i64 x7_6] from rfl) (Reps.none _ _)))
            intro v295 w69 ho70 hb hg_ hnew_
            clear hg_ hnew_
            (first | rw [← Ny294.out] at ho70 | (simp only [Int.reduceToNat] at ho70; rw [← Ny294.out] at ho70))
            have HO296 := Aside0.mk (Kd.R_lower (Kd.R_new' ho70 (Kd.R_lt (sr HO_5))) (below_size (sb)))
            replace HO_5 := Aside0.mk (Kd.R_elder' (sr HO_5) (Kd.R_base ho70) hb)
            replace HR290 := Aside0.mk (Kd.C_below (by repeat (first | (with_reducible exact HR290.out) | (with_reducible refine Kd.C_alloc ?_ _) | (with_reducible refine Kd.C_drewN ?_ _) | (with_reducible refine Kd.C_drew ?_) | exact HR290.out)) hb)
            replace HR303 := Aside0.mk (Kd.C_below (by repeat (first | (with_reducible exact HR303.out) | (with_reducible refine Kd.C_alloc ?_ _) | (with_reducible refine Kd.C_drewN ?_ _) | (with_reducible refine Kd.C_drew ?_) | exact HR303.out)) hb)
            replace HB := bs hb
            clear hb ho70
            refine hK.out _ _ trivial (fun hHeld => ?_)
            clear hK K
            refine norm_ (a' := ?_) ?_ ?_
            rotate_left
            ·show Act.put _ (some 72) _ = _
             simp only [Act.put, List.setIfInBounds_toArray, List.set_cons_zero, List.set_cons_succ, i64_w, i32_w]
             rfl
            refine one_ (i := 0) (N := some 66) #[true, true, true, true, false, true, true, false, true, true, true, false, false] rfl rfl (one_of HT_.out (by kernel_rfl)) (by decide) (fun K hK => ?_)
            refine Kd.R_lit_step (Kd.int .i64) _ 3 ?hg (N := 66) ?hd (xs := ([] : List Int)) (inner := []) (ok := fun _ => True) (okp := fun _ => True) ?hr ?hp (fun _ hk => hk) trivial (Below.refl _ _) (Nat.le_refl _) (by simp) ?_; (case hd => rfl); (case hg => rfl); (case hr => first | (go_simp; done) | (go_simp; rfl)); (case hp => exact (Reps.none _ _))
            intro v285 w71 ho72 hb hg_ hnew_
            clear hg_ hnew_
            (first | rw [← Ny284.out] at ho72 | (simp only [Int.reduceToNat] at ho72; rw [← Ny284.out] at ho72))
            have HO286 := Aside0.mk (Kd.R_lower (Kd.R_new' (Kd.R_new' ho72 (Kd.R_lt (sr HO_5))) (Kd.R_lt (sr HO296))) (below_size (sb)))
            replace HO_5 := Aside0.mk (Kd.R_elder' (sr HO_5) (Kd.R_base ho72) hb)
            replace HO296 := Aside0.mk (Kd.R_elder' (sr HO296) (Kd.R_base ho72) hb)
            replace HR290 := Aside0.mk (Kd.C_below (by repeat (first | (with_reducible exact HR290.out) | (with_reducible refine Kd.C_alloc ?_ _) | (with_reducible refine Kd.C_drewN ?_ _) | (with_reducible refine Kd.C_drew ?_) | exact HR290.out)) hb)
            replace HR303 := Aside0.mk (Kd.C_below (by repeat (first | (with_reducible exact HR303.out) | (with_reducible refine Kd.C_alloc ?_ _) | (with_reducible refine Kd.C_drewN ?_ _) | (with_reducible refine Kd.C_drew ?_) | exact HR303.out)) hb)
            replace HB := bs hb
            clear hb ho72
            refine hK.out _ _ trivial (fun hHeld => ?_)
            clear hK K
            refine norm_ (a' := ?_) ?_ ?_
            rotate_left
            ·show Act.put _ (some 66) _ = _
             simp only [Act.put, List.setIfInBounds_toArray, List.set_cons_zero, List.set_cons_succ, i64_w, i32_w]
             rfl
            refine one_ (i := 4) (N := some 70) #[true, true, true, true, true, true, true, false, true, true, true, false, false] rfl rfl (one_of HT_.out (by kernel_rfl)) (by decide) (fun K hK => ?_)
            refine Kd.R_append_rows_step (Kd.int .i64) (w0 := w) w.heap.size (by rfl) (.tmp 66) (.tmp 69) 28 3 (.int .i64 0) 8 rfl Try.underlying28 info3 rfl (by decide) (by omega) v285 y284 y287 _ _ _ (fun k_ => some k_ ≠ (.slice Ao65 x5_1.length co65 : Value).ownBlock ∧ some k_ ≠ (v295 : Value).ownBlock) (fun _ => False) rfl rfl ?aO ?aR (fun _ _ h => h) (fun _ h => h.elim) ?aF ?aB ?aS ?aL ?_
            (case aR => repeat (first | exact (by repeat (first | (with_reducible exact HR290.out) | (with_reducible refine Kd.C_alloc ?_ _) | (with_reducible refine Kd.C_drewN ?_ _) | (with_reducible refine Kd.C_drew ?_) | exact HR290.out)) | (with_reducible refine Kd.C_alloc ?_ _) | (with_reducible refine Kd.C_drewN ?_ _) | (with_reducible refine Kd.C_drew ?_)))
            (case aB => exact (sb))
            (case aF => exact (fun k_ hk => ⟨Kd.fresh' (Kd.R_lt (sr HO_5)) k_ hk, Kd.fresh' (Kd.R_lt (sr HO296)) k_ hk⟩))
            (case aO => exact (by (with_reducible repeat (first | apply Kd.R_alloc | apply Kd.R_drewN | apply Kd.R_drew)); exact Kd.R_mono HO286.out (fun _ hk => ⟨hk.1.2, hk.2⟩)))
            (case aS => exact (below_size (sb)))
            (case aL => have := LMc60.out; omega)
            intro v292 w73 ho hb hg hat
            rw [← Ny291.out] at ho
            replace HO296 := Aside0.mk (Kd.R_after (ok := (fun k_ => some k_ ≠ (.slice Ao65 x5_1.length co65 : Value).ownBlock)) (by (with_reducible repeat (first | apply Kd.R_alloc | apply Kd.R_drewN | apply Kd.R_drew)); exact Kd.R_mono HO296.out (fun _ hk => ⟨hk.1.2, hk.2⟩)) hg hat)
            replace HB := Aside0.mk hb
            replace HR290 := Aside0.mk ((show Kd.C (Kd.int .i64) w73 Ao65 y287.length y287 from by rw [Ny287.out]; exact Kd.C_take (m := (x8_3 : Int).toNat) ((Kd.R_reads' (Kd.R_after (ok := (fun k_ => some k_ ≠ (v295 : Value).ownBlock)) (by (with_reducible repeat (first | apply Kd.R_alloc | apply Kd.R_drewN | apply Kd.R_drew)); exact Kd.R_mono HO_5.out (fun _ hk => ⟨hk.1.2, hk.2⟩)) hg hat)).2.2) KL67.out))
            replace HR303 := Aside0.mk ((show Kd.C (Kd.int .i64) w73 A68 y300.length y300 from by rw [Ny300.out, KA68.out]; exact Kd.C_drop (m := (x8_3 : Int).toNat) (c := co65) ((Kd.R_reads' (Kd.R_after (ok := (fun k_ => some k_ ≠ (v295 : Value).ownBlock)) (by (with_reducible repeat (first | apply Kd.R_alloc | apply Kd.R_drewN | apply Kd.R_drew)); exact Kd.R_mono HO_5.out (fun _ hk => ⟨hk.1.2, hk.2⟩)) hg hat)).2.2) KL68.out ((Kd.R_reads' (Kd.R_after (ok := (fun k_ => some k_ ≠ (v295 : Value).ownBlock)) (by (with_reducible repeat (first | apply Kd.R_alloc | apply Kd.R_drewN | apply Kd.R_drew)); exact Kd.R_mono HO_5.out (fun _ hk => ⟨hk.1.2, hk.2⟩)) hg hat)).2.1)))
            replace HO_5 := Aside0.mk (Kd.R_after (ok := (fun k_ => some k_ ≠ (v295 : Value).ownBlock)) (by (with_reducible repeat (first | apply Kd.R_alloc | apply Kd.R_drewN | apply Kd.R_drew)); exact Kd.R_mono HO_5.out (fun _ hk => ⟨hk.1.2, hk.2⟩)) hg hat)
            have HO293 := Aside0.mk ho
            clear HO286 ho hb hg hat
            refine hK.out _ _ trivial (fun hHeld => ?_)
            clear hK K
            refine norm_ (a' := ?_) ?_ ?_
            rotate_left
            ·show Act.put _ (some 70) _ = _
             simp only [Act.put, List.setIfInBounds_toArray, List.set_cons_zero, List.set_cons_succ, i64_w, i32_w]
             rfl
            exact norm_ (by simp only [putAll, Act.put, List.setIfInBounds_toArray, List.set_cons_zero, List.set_cons_succ]) (hCont (v285, v292, v295) _ ⟨(by (with_reducible repeat (first | apply Kd.R_alloc | apply Kd.R_drewN | apply Kd.R_drew)); exact Kd.R_mono HO293.out (fun _ hk => ⟨hk.2, hk.1⟩)), (by (with_reducible repeat (first | apply Kd.R_alloc | apply Kd.R_drewN | apply Kd.R_drew)); exact Kd.R_mono HO296.out (fun _ hk => ⟨hk.2, hk.1⟩)), (by (with_reducible repeat (first | apply Kd.R_alloc | apply Kd.R_drewN | apply Kd.R_drew)); exact Kd.R_mono HO_5.out (fun _ hk => ⟨hk.2, hk.1⟩)), (sb)⟩)
          rintro ⟨v285, v292, v295⟩ w74 ⟨h0_, h1_, h2_, h3_⟩
          have HO293 : Aside0 (Kd.R (Kd.int .i64) 3 w74 w.heap.size (fun k_ => some k_ ≠ (v295 : Value).ownBlock ∧ some k_ ≠ (.slice Ao65 x5_1.length co65 : Value).ownBlock) v292 y291) := ⟨h0_⟩
          have HO296 : Aside0 (Kd.R (Kd.int .i64) 3 w74 w.heap.size (fun k_ => some k_ ≠ (v292 : Value).ownBlock ∧ some k_ ≠ (.slice Ao65 x5_1.length co65 : Value).ownBlock) v295 y294) := ⟨h1_⟩
          replace HO_5 : Aside0 (Kd.R (Kd.int .i64) 3 w74 w.heap.size (fun k_ => some k_ ≠ (v292 : Value).ownBlock ∧ some k_ ≠ (v295 : Value).ownBlock) (.slice Ao65 x5_1.length co65) x5_1) := ⟨h2_⟩
          replace HB : Aside0 (Below w.heap.size w w74) := ⟨h3_⟩
          clear h0_ h1_ h2_ h3_
          have hHeld := trivial
          obtain ⟨Ao76, co76, eo76⟩ := Kd.R_slice HO296.out
          (first | subst eo76 | (injection eo76 with f1_ f2_ f3_; have f4_ := f1_.symm; have f5_ := f3_.symm; clear f1_ f2_ f3_; subst f4_; subst f5_))
          refine norm_ (a' := ?_) ?_ ?_
          rotate_left
          ·simp only [putAll, Act.put, List.setIfInBounds_toArray, List.set_cons_zero, List.set_cons_succ]
           rfl
          refine one_ (i := 7) (N := some 73) #[true, true, true, true, true, true, true, true, true, true, true, false, false] rfl rfl (one_of HT_.out (by kernel_rfl)) (by decide) (fun K hK => ?_)
          refine Kd.R_append_rows_step (Kd.int .i64) (w0 := w) w.heap.size (by rfl) (.tmp 70) (.tmp 72) 28 3 (.int .i64 0) 8 rfl Try.underlying28 info3 rfl (by decide) (by omega) v292 y291 y294 _ _ _ (fun k_ => some k_ ≠ (.slice Ao65 x5_1.length co65 : Value).ownBlock ∧ some k_ ≠ (.slice Ao76 y294.length co76 : Value).ownBlock) (fun _ => False) rfl rfl ?aO ?aR (fun _ _ h => h) (fun _ h => h.elim) ?aF ?aB ?aS ?aL ?_
          (case aR => repeat (first | exact (Kd.R_reads' HO296.out).2.2 | (with_reducible refine Kd.C_alloc ?_ _) | (with_reducible refine Kd.C_drewN ?_ _) | (with_reducible refine Kd.C_drew ?_)))
          (case aB => exact (sb))
          (case aF => exact (fun k_ hk => ⟨Kd.fresh' (Kd.R_lt (sr HO_5)) k_ hk, Kd.fresh' (Kd.R_lt (sr HO296)) k_ hk⟩))
          (case aO => exact (by (with_reducible repeat (first | apply Kd.R_alloc | apply Kd.R_drewN | apply Kd.R_drew)); exact Kd.R_mono HO293.out (fun _ hk => ⟨hk.2, hk.1⟩)))
          (case aS => exact (below_size (sb)))
          (case aL => have := LMc61.out; omega)
          intro v298 w75 ho hb hg hat
          rw [← Ny297.out] at ho
          replace HO_5 := Aside0.mk (Kd.R_after (ok := (fun k_ => some k_ ≠ (.slice Ao76 y294.length co76 : Value).ownBlock)) (by (with_reducible repeat (first | apply Kd.R_alloc | apply Kd.R_drewN | apply Kd.R_drew)); exact Kd.R_mono HO_5.out (fun _ hk => ⟨hk.2, hk.1⟩)) hg hat)
          replace HO296 := Aside0.mk (Kd.R_after (ok := (fun k_ => some k_ ≠ (.slice Ao65 x5_1.length co65 : Value).ownBlock)) (by (with_reducible repeat (first | apply Kd.R_alloc | apply Kd.R_drewN | apply Kd.R_drew)); exact Kd.R_mono HO296.out (fun _ hk => ⟨hk.2, hk.1⟩)) hg hat)
          replace HB := Aside0.mk hb
          have HO299 := Aside0.mk ho
          clear HO293 ho hb hg hat
          refine hK.out _ _ trivial (fun hHeld => ?_)
          clear hK K
          refine norm_ (a' := ?_) ?_ ?_
          rotate_left
          ·show Act.put _ (some 73) _ = _
           simp only [Act.put, List.setIfInBounds_toArray, List.set_cons_zero, List.set_cons_succ, i64_w, i32_w]
           rfl
          refine one_ (i := 11) (N := some 77) #[true, true, true, true, true, true, true, true, true, true, true, true, false] rfl rfl (one_of HT_.out (by kernel_rfl)) (by decide) (fun K hK => ?_)
          refine Kd.R_append_rows_step (Kd.int .i64) (w0 := w) w.heap.size (by rfl) (.tmp 73) (.tmp 76) 28 3 (.int .i64 0) 8 rfl Try.underlying28 info3 rfl (by decide) (by omega) v298 y297 y300 _ _ _ (fun k_ => some k_ ≠ (.slice Ao65 x5_1.length co65 : Value).ownBlock ∧ some k_ ≠ (.slice Ao76 y294.length co76 : Value).ownBlock) (fun _ => False) rfl rfl ?aO ?aR (fun _ _ h => h) (fun _ h => h.elim) ?aF ?aB ?aS ?aL ?_
          (case aR => exact (show Kd.C (Kd.int .i64) _ A68 y300.length y300 from by rw [Ny300.out, KA68.out]; exact Kd.C_drop (m := (x8_3 : Int).toNat) (c := co65) ((Kd.R_reads' (sr HO_5)).2.2) KL68.out ((Kd.R_reads' HO_5.out).2.1)))
          (case aB => exact (sb))
          (case aF => exact (fun k_ hk => ⟨Kd.fresh' (Kd.R_lt (sr HO_5)) k_ hk, Kd.fresh' (Kd.R_lt (sr HO296)) k_ hk⟩))
          (case aO => exact (sr HO299))
          (case aS => exact (below_size (sb)))
          (case aL => have := LMc64.out; omega)
          intro v305 w77 ho hb hg hat
          rw [← Ny304.out] at ho
          replace HO_5 := Aside0.mk (Kd.R_after (ok := (fun k_ => some k_ ≠ (.slice Ao76 y294.length co76 : Value).ownBlock)) (sr HO_5) hg hat)
          replace HO296 := Aside0.mk (Kd.R_after (ok := (fun k_ => some k_ ≠ (.slice Ao65 x5_1.length co65 : Value).ownBlock)) (sr HO296) hg hat)
          replace HB := Aside0.mk hb
          have HO306 := Aside0.mk ho
          clear HO299 ho hb hg hat
          refine hK.out _ _ trivial (fun hHeld => ?_)
          clear hK K
          refine norm_ (a' := ?_) ?_ ?_
          rotate_left
          ·show Act.put _ (some 77) _ = _
           simp only [Act.put, List.setIfInBounds_toArray, List.set_cons_zero, List.set_cons_succ, i64_w, i32_w]
           rfl
          refine put 12 5 #[true, true, true, true, true, true, true, true, true, true, true, true, true] HT_ ?_
          refine done_ (done_of HT_.out (by kernel_rfl)) ?_
          try go_wp2
          go_roundg k3
          case measure => have := HK1.out; have := HJ6.out; have := HK3.out; omega
          case rel => exact ⟨(y304), (wrap64 (x6_1 + 1)), sc, H', ⟨by have := HK1.out; have := HJ6.out; have := HK3.out; omega⟩, ⟨by (with_reducible repeat (first | apply Kd.R_alloc | apply Kd.R_drewN | apply Kd.R_drew)); exact Kd.R_mono HO306.out (fun _ hk => trivial)⟩, ⟨sb⟩⟩
         ·have c57b0 : (x8_3 == (x5_1.length : Int)) = false := beq_eq_false_iff_ne.mpr c57
          have c57b1 : (x8_3 != (x5_1.length : Int)) = true := bne_iff_ne.mpr c57
          obtain ⟨c78, H⟩ := ia_ H
          exact ab H
   ·have c5b0 := decide_eq_false c5
    clear c5
    obtain rfl := Option.some.inj H
    go_wp2
    go_ret
    exact ⟨_, se, sr HO_5, sb⟩

end Go.Proofs.Ytiihaabhjphaeaa.QFnExactIsProgram
