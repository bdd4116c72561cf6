/- What the Go functions of the law FnExactBuildProgram come to, as Lean functions, and that they do: by a program of the session, out of the kit's printer. Conditions: none. (squeezed). -/
import Derived.Test.YtcjlbgbenjmkgaaVFnExactBuildProgramSq
import Derived.Test.YtcjlbgbenjmkgaaVFnExactBuildProgramQFnExactBuildProgramx0
namespace Go.Proofs.Ytcjlbgbenjmkgaa.QFnExactBuildProgram
open Go.RowKit Go.Proofs.YtcjlbgbenjmkgaaW.PrintWords Go.Proofs.YtcjlbgbenjmkgaaW.PrintLast Go.Proofs.YtcjlbgbenjmkgaaW.PrintMore Go.Proofs.Ytcjlbgbenjmkgaa.Open Go.Proofs.Ytcjlbgbenjmkgaa.Sq
attribute [local go_sem] max2_int min2_int max_two min_two max_three min_three max_four min_four   -- for this text's walks alone
attribute [local go_sem] isSome_set
set_option linter.unusedVariables false
set_option linter.unusedSimpArgs false

/-! ### spec_NeighborsIn: function 67 -/
mutual
def spec_NeighborsIn.l0 : Nat → List (S60) → Int → List Int → Int → Option (List Int)
  | 0, _, _, _, _ => none
  | k + 1, x0, x1, x5, x6 => if x6 < (x0.length : Int) then (if 0 ≤ x6 then (if ((rd_T60 x0 x6).f0) = x1 then (spec_NeighborsIn.j1 k x0 x1 x5 x6 ((rd_T60 x0 x6).f1)) else (if ((rd_T60 x0 x6).f1) = x1 then (spec_NeighborsIn.j1 k x0 x1 x5 x6 ((rd_T60 x0 x6).f0)) else (spec_NeighborsIn.l0 k x0 x1 x5 (wrap64 (x6 + 1))))) else (none)) else (some x5)
def spec_NeighborsIn.j1 : Nat → List (S60) → Int → List Int → Int → Int → Option (List Int)
  | 0, _, _, _, _, _ => none
  | k + 1, x0, x1, x5, x6, x7 => spec_NeighborsIn.l1 k x0 x1 x5 x6 x7 0
def spec_NeighborsIn.l1 : Nat → List (S60) → Int → List Int → Int → Int → Int → Option (List Int)
  | 0, _, _, _, _, _, _ => none
  | k + 1, x0, x1, x5, x6, x7, x8 => if x8 < (x5.length : Int) then (if 0 ≤ x8 then (if (rd x5 x8) < x7 then (spec_NeighborsIn.l1 k x0 x1 x5 x6 x7 (wrap64 (x8 + 1))) else (if x8 = (x5.length : Int) then ((some (([] : List Int) : List Int)).bind fun y172 => (if x8 ≤ (x5.length : Int) then ((some (x5.take (x8 : Int).toNat : List Int)).bind fun y175 => (if y172.length + y175.length < 17592186044416 then ((some (y172 ++ y175 : List Int)).bind fun y179 => ((some (([x7] : List Int) : List Int)).bind fun y182 => (if y179.length + y182.length < 17592186044416 then ((some (y179 ++ y182 : List Int)).bind fun y185 => ((some (x5.drop (x8 : Int).toNat : List Int)).bind fun y188 => (if y185.length + y188.length < 17592186044416 then (spec_NeighborsIn.l0 k x0 x1 (y185 ++ y188) (wrap64 (x6 + 1))) else (none)))) else (none)))) else (none))) else (none))) else (if (rd x5 x8) = x7 then (spec_NeighborsIn.l0 k x0 x1 x5 (wrap64 (x6 + 1))) else ((some (([] : List Int) : List Int)).bind fun y196 => (if x8 ≤ (x5.length : Int) then ((some (x5.take (x8 : Int).toNat : List Int)).bind fun y199 => (if y196.length + y199.length < 17592186044416 then ((some (y196 ++ y199 : List Int)).bind fun y203 => ((some (([x7] : List Int) : List Int)).bind fun y206 => (if y203.length + y206.length < 17592186044416 then ((some (y203 ++ y206 : List Int)).bind fun y209 => ((some (x5.drop (x8 : Int).toNat : List Int)).bind fun y212 => (if y209.length + y212.length < 17592186044416 then (spec_NeighborsIn.l0 k x0 x1 (y209 ++ y212) (wrap64 (x6 + 1))) else (none)))) else (none)))) else (none))) else (none)))))) else (none)) else (if x8 = (x5.length : Int) then ((some (([] : List Int) : List Int)).bind fun y219 => (if 0 ≤ x8 then (if x8 ≤ (x5.length : Int) then ((some (x5.take (x8 : Int).toNat : List Int)).bind fun y222 => (if y219.length + y222.length < 17592186044416 then ((some (y219 ++ y222 : List Int)).bind fun y226 => ((some (([x7] : List Int) : List Int)).bind fun y229 => (if y226.length + y229.length < 17592186044416 then ((some (y226 ++ y229 : List Int)).bind fun y232 => ((some (x5.drop (x8 : Int).toNat : List Int)).bind fun y235 => (if y232.length + y235.length < 17592186044416 then (spec_NeighborsIn.l0 k x0 x1 (y232 ++ y235) (wrap64 (x6 + 1))) else (none)))) else (none)))) else (none))) else (none)) else (none))) else (if 0 ≤ x8 then (none) else (none)))
end
def spec_NeighborsIn.f (k : Nat) (l0 : List (S60)) (a1 : Int) : Option (List Int) := spec_NeighborsIn.l0 k l0 a1 (([] : List Int)) 0
theorem spec_NeighborsIn.mono_l : ∀ k, (∀ y0 y1 y2 y3, LeO (spec_NeighborsIn.l0 k y0 y1 y2 y3) (spec_NeighborsIn.l0 (k + 1) y0 y1 y2 y3)) ∧ (∀ y0 y1 y2 y3 y4, LeO (spec_NeighborsIn.j1 k y0 y1 y2 y3 y4) (spec_NeighborsIn.j1 (k + 1) y0 y1 y2 y3 y4)) ∧ (∀ y0 y1 y2 y3 y4 y5, LeO (spec_NeighborsIn.l1 k y0 y1 y2 y3 y4 y5) (spec_NeighborsIn.l1 (k + 1) y0 y1 y2 y3 y4 y5))
  | 0 => ⟨fun _ _ _ _ r h => by simp [spec_NeighborsIn.l0] at h, fun _ _ _ _ _ r h => by simp [spec_NeighborsIn.j1] at h, fun _ _ _ _ _ _ r h => by simp [spec_NeighborsIn.l1] at h⟩
  | k + 1 => by
    obtain ⟨ih0, ih1, ih2⟩ := spec_NeighborsIn.mono_l k
    refine ⟨?_, ?_, ?_⟩
    · intro y0 y1 y2 y3
      unfold spec_NeighborsIn.l0
      exact mo
    · intro y0 y1 y2 y3 y4
      unfold spec_NeighborsIn.j1
      exact mo
    · intro y0 y1 y2 y3 y4 y5
      unfold spec_NeighborsIn.l1
      exact mo
theorem spec_NeighborsIn.mono : ∀ a0 a1 k, LeO (spec_NeighborsIn.f k a0 a1) (spec_NeighborsIn.f (k + 1) a0 a1) := by
  intro a0 a1 k
  obtain ⟨ih0, ih1, ih2⟩ := spec_NeighborsIn.mono_l k
  unfold spec_NeighborsIn.f
  exact mo
def spec_NeighborsIn.T14 : Bool × List (List Nat × List Nat) := (true, [([], []), ([], []), ([], []), ([1, 2], [1, 2]), ([0, 3], [0, 3]), ([], []), ([5], [5]), ([4, 6, 4], [4, 6]), ([], []), ([], []), ([8, 9], [8, 9]), ([7, 10, 7], [7, 10]), ([11, 11, 0, 1, 2, 3, 4, 5, 6, 7, 8, 9, 10, 11], [1, 8, 11])])
def spec_NeighborsIn.B14 : List Nat := [0, 0, 0, 6, 15, 0, 32, 127, 0, 0, 768, 2047, 4095]
theorem spec_NeighborsIn.tab14 : rtab .any (opsOf Try.f67 14) = spec_NeighborsIn.T14 := by kernel_rfl
theorem spec_NeighborsIn.bits14 : waitsOk spec_NeighborsIn.T14.2 spec_NeighborsIn.B14 = true := by kernel_rfl
set_option maxHeartbeats 8000000 in
set_option maxRecDepth 100000 in
theorem spec_NeighborsIn.calls (k : Nat) (A0 : Option Addr) (c0 : Nat) (l0 : List (S60)) (a1 : Int) (r : List Int) (w : World) (hr0 : Kd.C k60 w A0 l0.length l0) (hc0 : l0.length ≤ c0) (h : spec_NeighborsIn.f k l0 a1 = some r) :
    Calls Try.prog 67 #[.slice A0 l0.length c0, .int .i64 a1] w fun e w' => ∃ v0_ : Value, e = .returned (v0_) ∧ Kd.R (Kd.int .i64) 3 w' w.heap.size (fun _ => True) v0_ r ∧ Below w.heap.size w w' := by
 have HR0 := Aside0.mk hr0
 have HC0 := Aside0.mk hc0
 clear hr0 hc0
 have HB := Aside0.mk (Below.refl w.heap.size w)
 have H : (spec_NeighborsIn.l0 k l0 a1 (([] : List Int)) 0) = some r := h
 clear h
 obtain ⟨y164, hy164⟩ : ∃ y_ : List Int, y_ = (([] : List Int)) := ⟨_, rfl⟩
 replace H : (spec_NeighborsIn.l0 k l0 a1 y164 0) = some r := by first | (rw [hy164]; with_reducible exact H) | (have H2_ := (Option.bind_some _ _).symm.trans H; rw [hy164]; with_reducible exact H2_) | (have H2_ := (Option.bind_some _ _).symm.trans H; with_reducible exact H2_) | with_reducible exact H | (rw [hy164]; exact H) | exact H
 have Ny164 := Aside0.mk hy164
 clear hy164
 have H' := Aside0.mk H
 clear H
 go_enter Try.func67, Try.ntmps67
 go_wp2_with (first | ((with_reducible refine gate_dst (N := 9) rfl ?_); refine Kd.R_lit (Kd.int .i64) _ 3 ?hg (N := 9) ?hd (xs := ([] : List Int)) (inner := []) (ok := fun _ => True) (okp := fun _ => True) ?hr ?hp (fun _ hk => hk) trivial (Below.refl _ _) (Nat.le_refl _) (by simp) ?_; (case hd => rfl); (case hg => rfl); (case hr => first | (go_simp; done) | (go_simp; rfl)); (case hp => exact (Reps.none _ _)); intro v165 w3 ho4 hb hg_ hnew_; clear hg_ hnew_; (first | rw [← Ny164.out] at ho4 | (simp only [Int.reduceToNat] at ho4; rw [← Ny164.out] at ho4)); have HO166 := Aside0.mk (Kd.R_lower ho4 (below_size (sb))); replace HB := bs hb; clear hb ho4))
 go_loopg [5, 6] k (fun kq v5 v6 w' => ∃ (x5_1 : List Int) (x6_1 : Int), v6 = .int .i64 x6_1 ∧ Aside0 (spec_NeighborsIn.l0 kq l0 a1 x5_1 x6_1 = some r) ∧ Aside0 (kq ≤ k) ∧ Aside0 (Kd.R (Kd.int .i64) 3 w' w.heap.size (fun _ => True) v5 x5_1) ∧ Aside0 (Below w.heap.size w w'))
 case atStart => exact ⟨(y164), (0), sc, H', kk0, ⟨sr HO166⟩, ⟨sb⟩⟩
 case round =>
  clear H'
  obtain ⟨x5_1, x6_1, rfl, HA, HK1, HO_5, HB⟩ := hrel
  cases gk with
  | zero => exact absurd HA.out (by simp [spec_NeighborsIn.l0])
  | succ k1 =>
   have H := HA.out
   clear HA
   simp only [spec_NeighborsIn.l0] at H
   obtain ⟨c5, H⟩ | ⟨c5, H⟩ := ie_ H
   ·have c5b0 := decide_eq_true c5
    clear c5
    obtain ⟨c6b0, H⟩ := id_ H
    have HC7 := Aside0.mk H
    clear H
    obtain ⟨p167, q167, ad167, e167, _, _, hx167_0, hx167_1⟩ := aT_T60 HR0 HB x6_1
    cases e167
    go_upto_if 22 with (fail)
    go_cut [7] (fun v7 wc => ∃ (kq : Nat) (x7_6 : Int), v7 = .int .i64 x7_6 ∧ Aside0 (spec_NeighborsIn.j1 kq l0 a1 x5_1 x6_1 x7_6 = some r) ∧ Aside0 (kq ≤ k1) ∧ Aside0 (Kd.R (Kd.int .i64) 3 wc w.heap.size (fun _ => True) u5 x5_1) ∧ Aside0 (Below w.heap.size w wc))
    case first =>
     have H := HC7.out
     clear HC7
     obtain ⟨c8, H⟩ | ⟨c8, H⟩ := ie_ H
     ·have c8b0 : (((rd_T60 l0 x6_1).f0) == a1) = true := beq_iff_eq.mpr c8
      have c8b1 : (((rd_T60 l0 x6_1).f0) != a1) = false := bne_eq_false_iff_eq.mpr c8
      clear c8
      (first | rw [c8b0] | (simp only [i64_w, i32_w]; rw [c8b0]) | rw [c8b1] | skip)
      have H' := Aside0.mk H
      clear H
      obtain ⟨p168, q168, ad168, e168, _, _, hx168_0, hx168_1⟩ := aT_T60 HR0 HB x6_1
      obtain rfl : ad167 = ad168 := (by injection e168)
      go_wp2
      go_meet
      case rel => exact ⟨_, ((rd_T60 l0 x6_1).f1), sc, H', ⟨by have := HK1.out; first | omega | exact Nat.le_refl _⟩, ⟨sr HO_5⟩, ⟨sb⟩⟩
     ·have c8b0 : (((rd_T60 l0 x6_1).f0) == a1) = false := beq_eq_false_iff_ne.mpr c8
      have c8b1 : (((rd_T60 l0 x6_1).f0) != a1) = true := bne_iff_ne.mpr c8
      (first | rw [c8b0] | (simp only [i64_w, i32_w]; rw [c8b0]) | rw [c8b1] | skip)
      obtain ⟨c9, H⟩ | ⟨c9, H⟩ := ie_ H
      ·have c9b0 : (((rd_T60 l0 x6_1).f1) == a1) = true := beq_iff_eq.mpr c9
       have c9b1 : (((rd_T60 l0 x6_1).f1) != a1) = false := bne_eq_false_iff_eq.mpr c9
       clear c9
       have H' := Aside0.mk H
       clear H
       obtain ⟨p169, q169, ad169, e169, _, _, hx169_0, hx169_1⟩ := aT_T60 HR0 HB x6_1
       obtain rfl : ad167 = ad169 := (by injection e169)
       obtain ⟨p170, q170, ad170, e170, _, _, hx170_0, hx170_1⟩ := aT_T60 HR0 HB x6_1
       obtain rfl : ad167 = ad170 := (by injection e170)
       go_wp2
       go_meet
       case rel => exact ⟨_, ((rd_T60 l0 x6_1).f0), sc, H', ⟨by have := HK1.out; first | omega | exact Nat.le_refl _⟩, ⟨sr HO_5⟩, ⟨sb⟩⟩
      ·have c9b0 : (((rd_T60 l0 x6_1).f1) == a1) = false := beq_eq_false_iff_ne.mpr c9
       have c9b1 : (((rd_T60 l0 x6_1).f1) != a1) = true := bne_iff_ne.mpr c9
       have H' := Aside0.mk H
       clear H
       obtain ⟨p169, q169, ad169, e169, _, _, hx169_0, hx169_1⟩ := aT_T60 HR0 HB x6_1
       obtain rfl : ad167 = ad169 := (by injection e169)
       go_wp2
       go_roundg k1
       case measure => have := HK1.out; omega
       case rel => exact ⟨(x5_1), (wrap64 (x6_1 + 1)), sc, H', kk1, ⟨sr HO_5⟩, ⟨sb⟩⟩
    case rest =>
     clear HC7
     try clear c5
     try clear c5b0
     try clear c6b0
     try clear c8
     try clear c8b0
     try clear c8b1
     try clear c9
     try clear c9b0
     try clear c9b1
     try clear hx167_0
     try clear hx167_1
     try clear hx168_0
     try clear hx168_1
     try clear hx169_0
     try clear hx169_1
     try clear hx170_0
     try clear hx170_1
     try clear p167
     try clear p168
     try clear p169
     try clear p170
     try clear q167
     try clear q168
     try clear q169
     try clear q170
     obtain ⟨kq, x7_6, rfl, HA, HJ6, HO_5, HB⟩ := hcut
     cases kq with
     | zero => exact absurd HA.out (by simp [spec_NeighborsIn.j1])
     | succ kj6 =>
      have H := HA.out
      clear HA
      simp only [spec_NeighborsIn.j1] at H
      have H' := Aside0.mk H
      clear H
      go_wp2
      go_loopg [8] kj6 (fun kq v8 w' => ∃ (x8_3 : Int), v8 = .int .i64 x8_3 ∧ Aside0 (spec_NeighborsIn.l1 kq l0 a1 x5_1 x6_1 x7_6 x8_3 = some r) ∧ Aside0 (kq ≤ kj6) ∧ Aside0 (Kd.R (Kd.int .i64) 3 w' w.heap.size (fun _ => True) u5 x5_1) ∧ Aside0 (Below w.heap.size w w'))
      case atStart => exact ⟨(0), sc, H', kk0, ⟨sr HO_5⟩, ⟨sb⟩⟩
      case round =>
       clear H'
       try clear c5
       try clear c5b0
       try clear c6b0
       try clear c8
       try clear c8b0
       try clear c8b1
       try clear c9
       try clear c9b0
       try clear c9b1
       try clear hx167_0
       try clear hx167_1
       try clear hx168_0
       try clear hx168_1
       try clear hx169_0
       try clear hx169_1
       try clear hx170_0
       try clear hx170_1
       try clear p167
       try clear p168
       try clear p169
       try clear p170
       try clear q167
       try clear q168
       try clear q169
       try clear q170
       obtain ⟨x8_3, rfl, HA, HK3, HO_5, HB⟩ := hrel
       cases gk with
       | zero => exact absurd HA.out (by simp [spec_NeighborsIn.l1])
       | succ k3 =>
        have H := HA.out
        clear HA
        simp only [spec_NeighborsIn.l1] at H
        obtain ⟨c10, H⟩ | ⟨c10, H⟩ := ie_ H
        ·have c10b0 := decide_eq_true c10
         clear c10
         obtain ⟨c11b0, H⟩ := id_ H
         obtain ⟨c12, H⟩ | ⟨c12, H⟩ := ie_ H
         ·have c12b0 := decide_eq_true c12
          clear c12
          have H' := Aside0.mk H
          clear H
          obtain ⟨Ao13, co13, eo13⟩ := Kd.R_slice HO_5.out
          subst eo13
          have p171 : 0 ≤ (x8_3 : Int) := sa
          have q171 : x8_3 < (x5_1.length : Int) := sa
          obtain ⟨ad171, e171, hx171_0⟩ := Kd.at_int (Kd.R_reads' HO_5.out).2.2 x8_3 p171 q171
          cases e171
          replace p171 := eq_true p171
          replace q171 := eq_true q171
          go_wp2
          go_roundg k3
          case measure => have := HK1.out; have := HJ6.out; have := HK3.out; omega
          case rel => exact ⟨(wrap64 (x8_3 + 1)), sc, H', ⟨by have := HK1.out; have := HJ6.out; have := HK3.out; omega⟩, ⟨sr HO_5⟩, ⟨sb⟩⟩
         ·have c12b0 := decide_eq_false c12
          clear c12
          obtain ⟨c14, H⟩ | ⟨c14, H⟩ := ie_ H
          ·have c14b0 : (x8_3 == (x5_1.length : Int)) = true := beq_iff_eq.mpr c14
           have c14b1 : (x8_3 != (x5_1.length : Int)) = false := bne_eq_false_iff_eq.mpr c14
           clear c14
           obtain ⟨y172, hy172⟩ : ∃ y_ : List Int, y_ = (([] : List Int)) := ⟨_, rfl⟩
           replace H : (if x8_3 ≤ (x5_1.length : Int) then ((some (x5_1.take (x8_3 : Int).toNat : List Int)).bind fun y175 => (if y172.length + y175.length < 17592186044416 then ((some (y172 ++ y175 : List Int)).bind fun y179 => ((some (([x7_6] : List Int) : List Int)).bind fun y182 => (if y179.length + y182.length < 17592186044416 then ((some (y179 ++ y182 : List Int)).bind fun y185 => ((some (x5_1.drop (x8_3 : Int).toNat : List Int)).bind fun y188 => (if y185.length + y188.length < 17592186044416 then (spec_NeighborsIn.l0 k3 l0 a1 (y185 ++ y188) (wrap64 (x6_1 + 1))) else (none)))) else (none)))) else (none))) else (none)) = some r := by first | (rw [hy172]; with_reducible exact H) | (have H2_ := (Option.bind_some _ _).symm.trans H; rw [hy172]; with_reducible exact H2_) | (have H2_ := (Option.bind_some _ _).symm.trans H; with_reducible exact H2_) | with_reducible exact H | (rw [hy172]; exact H) | exact H
           have Ny172 := Aside0.mk hy172
           clear hy172
           have c15b0 := eq_true (sa : 0 ≤ x8_3)
           obtain ⟨c16, H⟩ := ia_ H
           have c16b0 := eq_true c16
           have c16b1 := decide_eq_true c16
           clear c16
           obtain ⟨y175, hy175⟩ : ∃ y_ : List Int, y_ = (x5_1.take (x8_3 : Int).toNat) := ⟨_, rfl⟩
           replace H : (if y172.length + y175.length < 17592186044416 then ((some (y172 ++ y175 : List Int)).bind fun y179 => ((some (([x7_6] : List Int) : List Int)).bind fun y182 => (if y179.length + y182.length < 17592186044416 then ((some (y179 ++ y182 : List Int)).bind fun y185 => ((some (x5_1.drop (x8_3 : Int).toNat : List Int)).bind fun y188 => (if y185.length + y188.length < 17592186044416 then (spec_NeighborsIn.l0 k3 l0 a1 (y185 ++ y188) (wrap64 (x6_1 + 1))) else (none)))) else (none)))) else (none)) = some r := by first | (rw [hy175]; with_reducible exact H) | (have H2_ := (Option.bind_some _ _).symm.trans H; rw [hy175]; with_reducible exact H2_) | (have H2_ := (Option.bind_some _ _).symm.trans H; with_reducible exact H2_) | with_reducible exact H | (rw [hy175]; exact H) | exact H
           have Ny175 := Aside0.mk hy175
           clear hy175
           obtain ⟨LMc17, H⟩ := il_ H
           obtain ⟨y179, hy179⟩ : ∃ y_ : List Int, y_ = (y172 ++ y175) := ⟨_, rfl⟩
           replace H : ((some (([x7_6] : List Int) : List Int)).bind fun y182 => (if y179.length + y182.length < 17592186044416 then ((some (y179 ++ y182 : List Int)).bind fun y185 => ((some (x5_1.drop (x8_3 : Int).toNat : List Int)).bind fun y188 => (if y185.length + y188.length < 17592186044416 then (spec_NeighborsIn.l0 k3 l0 a1 (y185 ++ y188) (wrap64 (x6_1 + 1))) else (none)))) else (none))) = some r := by first | (rw [hy179]; with_reducible exact H) | (have H2_ := (Option.bind_some _ _).symm.trans H; rw [hy179]; with_reducible exact H2_) | (have H2_ := (Option.bind_some _ _).symm.trans H; with_reducible exact H2_) | with_reducible exact H | (rw [hy179]; exact H) | exact H
           have Ny179 := Aside0.mk hy179
           clear hy179
           obtain ⟨y182, hy182⟩ : ∃ y_ : List Int, y_ = (([x7_6] : List Int)) := ⟨_, rfl⟩
           replace H : (if y179.length + y182.length < 17592186044416 then ((some (y179 ++ y182 : List Int)).bind fun y185 => ((some (x5_1.drop (x8_3 : Int).toNat : List Int)).bind fun y188 => (if y185.length + y188.length < 17592186044416 then (spec_NeighborsIn.l0 k3 l0 a1 (y185 ++ y188) (wrap64 (x6_1 + 1))) else (none)))) else (none)) = some r := by first | (rw [hy182]; with_reducible exact H) | (have H2_ := (Option.bind_some _ _).symm.trans H; rw [hy182]; with_reducible exact H2_) | (have H2_ := (Option.bind_some _ _).symm.trans H; with_reducible exact H2_) | with_reducible exact H | (rw [hy182]; exact H) | exact H
           have Ny182 := Aside0.mk hy182
           clear hy182
           obtain ⟨LMc18, H⟩ := il_ H
           obtain ⟨y185, hy185⟩ : ∃ y_ : List Int, y_ = (y179 ++ y182) := ⟨_, rfl⟩
           replace H : ((some (x5_1.drop (x8_3 : Int).toNat : List Int)).bind fun y188 => (if y185.length + y188.length < 17592186044416 then (spec_NeighborsIn.l0 k3 l0 a1 (y185 ++ y188) (wrap64 (x6_1 + 1))) else (none))) = some r := by first | (rw [hy185]; with_reducible exact H) | (have H2_ := (Option.bind_some _ _).symm.trans H; rw [hy185]; with_reducible exact H2_) | (have H2_ := (Option.bind_some _ _).symm.trans H; with_reducible exact H2_) | with_reducible exact H | (rw [hy185]; exact H) | exact H
           have Ny185 := Aside0.mk hy185
           clear hy185
           have c19b0 := eq_true (sa : 0 ≤ x8_3)
           have c20b0 := eq_true (sa : x8_3 ≤ (x5_1.length : Int))
           obtain ⟨y188, hy188⟩ : ∃ y_ : List Int, y_ = (x5_1.drop (x8_3 : Int).toNat) := ⟨_, rfl⟩
           replace H : (if y185.length + y188.length < 17592186044416 then (spec_NeighborsIn.l0 k3 l0 a1 (y185 ++ y188) (wrap64 (x6_1 + 1))) else (none)) = some r := by first | (rw [hy188]; with_reducible exact H) | (have H2_ := (Option.bind_some _ _).symm.trans H; rw [hy188]; with_reducible exact H2_) | (have H2_ := (Option.bind_some _ _).symm.trans H; with_reducible exact H2_) | with_reducible exact H | (rw [hy188]; exact H) | exact H
           have Ny188 := Aside0.mk hy188
           clear hy188
           obtain ⟨LMc21, H⟩ := il_ H
           obtain ⟨y192, hy192⟩ : ∃ y_ : List Int, y_ = (y185 ++ y188) := ⟨_, rfl⟩
           replace H : (spec_NeighborsIn.l0 k3 l0 a1 y192 (wrap64 (x6_1 + 1))) = some r := by first | (rw [hy192]; with_reducible exact H) | (have H2_ := (Option.bind_some _ _).symm.trans H; rw [hy192]; with_reducible exact H2_) | (have H2_ := (Option.bind_some _ _).symm.trans H; with_reducible exact H2_) | with_reducible exact H | (rw [hy192]; exact H) | exact H
           have Ny192 := Aside0.mk hy192
           clear hy192
           have H' := Aside0.mk H
           clear H
           obtain ⟨Ao22, co22, eo22⟩ := Kd.R_slice HO_5.out
           subst eo22
           have p171 : 0 ≤ (x8_3 : Int) := sa
           have q171 : x8_3 < (x5_1.length : Int) := sa
           obtain ⟨ad171, e171, hx171_0⟩ := Kd.at_int (Kd.R_reads' HO_5.out).2.2 x8_3 p171 q171
           cases e171
           replace p171 := eq_true p171
           replace q171 := eq_true q171
           try go_wp2
           replace HO_5 := Aside0.mk (Kd.R_drew HO_5.out)
           replace HB := Aside0.mk (below_drew1 HB.out)
           have q24 : (x8_3 : Int) ≤ ((x5_1.length : Int) : Int) := sa
           obtain ⟨i024, hi024, _, hsz24, _⟩ := info_parts info3
           have hroom24 : x5_1.length ≤ co22 := (Kd.R_reads' HO_5.out).2.1
           have hC24 : Kd.C (Kd.int .i64) _ (some ad171) x5_1.length x5_1 := (Kd.R_reads' HO_5.out).2.2
           have hcut24 := cut_to (P := Try.prog) 57 3 .i64 Try.underlying57 hi024 (some ad171) x5_1.length co22 x8_3 (sa) q24 hroom24
           have hr24 := Kd.C_take (m := (x8_3 : Int).toNat) hC24 (by omega)
           have hy24 : y175.length = (x8_3 : Int).toNat := (by rw [Ny175.out, List.length_take]; omega)
           rw [← Ny175.out] at hr24
           rw [← hy24] at hcut24
           have HR178 := Aside0.mk hr24
           have HC178 := Aside0.mk (show y175.length ≤ co22 from by omega)
           clear hr24 hC24 hroom24 hi024 hsz24
           have KY24 := Aside0.mk hy24
           clear hy24
           have KL24 := Aside0.mk (show (x8_3 : Int).toNat ≤ x5_1.length from by omega)
           replace q24 := eq_true q24
           have q25 : (x8_3 : Int) ≤ ((x5_1.length : Int) : Int) := sa
           obtain ⟨i025, hi025, _, hsz25, _⟩ := info_parts info3
           have hroom25 : x5_1.length ≤ co22 := (Kd.R_reads' HO_5.out).2.1
           have hC25 : Kd.C (Kd.int .i64) _ (some ad171) x5_1.length x5_1 := (Kd.R_reads' HO_5.out).2.2
           have q025 : (0 : Int) ≤ (x8_3 : Int) := sa
           have hcut25 := cut_from (P := Try.prog) 57 3 .i64 Try.underlying57 hi025 1 hsz25 (some ad171) x5_1.length co22 x8_3 q025 q25
           have hr25 := Kd.C_drop (m := (x8_3 : Int).toNat) (c := co22) hC25 (by omega) hroom25
           obtain ⟨A25, hA25⟩ : ∃ A1, A1 = (if co22 = (x8_3 : Int).toNat then (some ad171) else ((some ad171) : Option Addr).map (·.add ((x8_3 : Int).toNat * 1))) := ⟨_, rfl⟩
           obtain ⟨c25, hc25⟩ : ∃ c1, c1 = co22 - (x8_3 : Int).toNat := ⟨_, rfl⟩
           have hy25 : y188.length = x5_1.length - (x8_3 : Int).toNat := (by rw [Ny188.out, List.length_drop] <;> omega)
           rw [show (x5_1).drop (x8_3 : Int).toNat = y188 from Ny188.out.symm] at hr25
           replace hr25 : Kd.C (Kd.int .i64) _ A25 y188.length y188 := (by rw [hA25]; exact hr25)
           rw [← hy25, ← hA25, ← hc25] at hcut25
           have HR191 := Aside0.mk hr25
           have HC191 := Aside0.mk (show y188.length ≤ c25 from by rw [hy25, hc25]; exact Nat.sub_le_sub_right hroom25 _)
           clear hr25 hC25 hroom25 hi025 hsz25 hc25
           have KY25 := Aside0.mk hy25
           have KA25 := Aside0.mk hA25
           clear hy25 hA25
           have KL25 := Aside0.mk (show (x8_3 : Int).toNat ≤ x5_1.length from by omega)
           replace q25 := eq_true q25
           refine start_ (n := 13) (S := fun w' => True) (ds := []) #[false, false, false, false, false, false, false, false, false, false, false, false, false] (by kernel_rfl) rfl rfl trivial (fun hHeld => ?_); refine with_tabW spec_NeighborsIn.tab14 spec_NeighborsIn.bits14 (fun HT_ HW_ => ?_)
           generalize wr.drew = w23 at HO_5 HB HR178 HR191 hHeld ⊢
           refine put 1 67 #[false, true, false, false, false, false, false, false, false, false, false, false, false] HT_ ?_
           refine put 2 68 #[false, true, true, false, false, false, false, false, false, false, false, false, false] HT_ ?_
           refine put 3 69 #[false, true, true, true, false, false, false, false, false, false, false, false, false] HT_ ?_
           refine put 5 71 #[false, true, true, true, false, true, false, false, false, false, false, false, false] HT_ ?_
           refine put 8 74 #[false, true, true, true, false, true, false, false, true, false, false, false, false] HT_ ?_
           refine put 9 75 #[false, true, true, true, false, true, false, false, true, true, false, false, false] HT_ ?_
           refine put 10 76 #[false, true, true, true, false, true, false, false, true, true, true, false, false] HT_ ?_
           refine join_ (σ := Value × Value × Value) 3 #[true, true, true, true, true, true, true, false, true, true, true, false, false] (fun s_ => [(66, s_.1), (70, s_.2.1), (72, s_.2.2)]) (fun s_ w' => (Kd.R (Kd.int .i64) 3 w' w.heap.size (fun k_ => some k_ ≠ (s_.2.2 : Value).ownBlock ∧ some k_ ≠ (.slice (some ad171) x5_1.length co22 : Value).ownBlock) s_.2.1 y179) ∧ (Kd.R (Kd.int .i64) 3 w' w.heap.size (fun k_ => some k_ ≠ (s_.2.1 : Value).ownBlock ∧ some k_ ≠ (.slice (some ad171) x5_1.length co22 : Value).ownBlock) s_.2.2 y182) ∧ (Kd.R (Kd.int .i64) 3 w' w.heap.size (fun k_ => some k_ ≠ (s_.2.1 : Value).ownBlock ∧ some k_ ≠ (s_.2.2 : Value).ownBlock) (.slice (some ad171) x5_1.length co22) x5_1) ∧ (Below w.heap.size w w')) ?_ ?_
           rotate_left
           ·intro hCont
            refine two_ (i := 0) (j := 6) (Ni := some 66) (Nj := some 72) #[true, true, true, true, false, true, false, false, true, true, true, false, false] #[false, true, true, true, false, true, true, false, true, true, true, false, false] rfl rfl rfl rfl (two_of HT_.out (by kernel_rfl)) (by decide) (by decide) (fun K hK => ?_) (fun K hK => ?_)
            ·skip
             refine Kd.R_lit_step (Kd.int .i64) _ 3 ?hg (N := 66) ?hd (xs := ([] : List Int)) (inner := []) (ok := fun _ => True) (okp := fun _ => True) ?hr ?hp (fun _ hk => hk) trivial (Below.refl _ _) (Nat.le_refl _) (by simp) ?_; (case hd => rfl); (case hg => rfl); (case hr => first | (go_simp; done) | (go_simp; rfl)); (case hp => exact (Reps.none _ _))
             intro v173 w26 ho27 hb hg_ hnew_
             clear hg_ hnew_
             (first | rw [← Ny172.out] at ho27 | (simp only [Int.reduceToNat] at ho27; rw [← Ny172.out] at ho27))
             have HO174 := Aside0.mk (Kd.R_lower (Kd.R_new' ho27 (Kd.R_lt (sr HO_5))) (below_size (sb)))
             replace HO_5 := Aside0.mk (Kd.R_elder' (sr HO_5) (Kd.R_base ho27) hb)
             replace HR178 := Aside0.mk (Kd.C_below (by repeat (first | (with_reducible exact HR178.out) | (with_reducible refine Kd.C_alloc ?_ _) | (with_reducible refine Kd.C_drewN ?_ _) | (with_reducible refine Kd.C_drew ?_) | exact HR178.out)) hb)
             replace HR191 := Aside0.mk (Kd.C_below (by repeat (first | (with_reducible exact HR191.out) | (with_reducible refine Kd.C_alloc ?_ _) | (with_reducible refine Kd.C_drewN ?_ _) | (with_reducible refine Kd.C_drew ?_) | exact HR191.out)) hb)
             replace HB := bs hb
             clear hb ho27
             refine hK.out _ _ trivial (fun hHeld => ?_)
             clear hK K
             refine norm_ (a' := ?_) ?_ ?_
             rotate_left
             ·show Act.put _ (some 66) _ = _
              simp only [Act.put, List.setIfInBounds_toArray, List.set_cons_zero, List.set_cons_succ, i64_w, i32_w]
              rfl
             refine two_ (i := 4) (j := 6) (Ni := some 70) (Nj := some 72) #[true, true, true, true, true, true, false, false, true, true, true, false, false] #[true, true, true, true, false, true, true, false, true, true, true, false, false] rfl rfl rfl rfl (two_of HT_.out (by kernel_rfl)) (by decide) (by decide) (fun K hK => ?_) (fun K hK => ?_)
             ·skip
              refine Kd.R_append_rows_step (Kd.int .i64) (w0 := w) w.heap.size (by rfl) (.tmp 66) (.tmp 69) 57 3 (.int .i64 0) 8 rfl Try.underlying57 info3 rfl (by decide) (by omega) v173 y172 y175 _ _ _ (fun k_ => some k_ ≠ (.slice (some ad171) x5_1.length co22 : Value).ownBlock) (fun _ => False) rfl rfl ?aO ?aR (fun _ _ h => h) (fun _ h => h.elim) ?aF ?aB ?aS ?aL ?_
              (case aR => repeat (first | exact (by repeat (first | (with_reducible exact HR178.out) | (with_reducible refine Kd.C_alloc ?_ _) | (with_reducible refine Kd.C_drewN ?_ _) | (with_reducible refine Kd.C_drew ?_) | exact HR178.out)) | (with_reducible refine Kd.C_alloc ?_ _) | (with_reducible refine Kd.C_drewN ?_ _) | (with_reducible refine Kd.C_drew ?_)))
              (case aB => exact (sb))
              (case aF => exact (fun k_ hk => Kd.fresh' (Kd.R_lt (sr HO_5)) k_ hk))
              (case aO => exact (by (with_reducible repeat (first | apply Kd.R_alloc | apply Kd.R_drewN | apply Kd.R_drew)); exact Kd.R_mono HO174.out (fun _ hk => hk.2)))
              (case aS => exact (below_size (sb)))
              (case aL => have := LMc17.out; omega)
              intro v180 w28 ho hb hg hat
              rw [← Ny179.out] at ho
              replace HB := Aside0.mk hb
              replace HR178 := Aside0.mk ((show Kd.C (Kd.int .i64) w28 (some ad171) y175.length y175 from by rw [Ny175.out]; exact Kd.C_take (m := (x8_3 : Int).toNat) ((Kd.R_reads' (Kd.R_after (ok := (fun _ => True)) (sr HO_5) hg hat)).2.2) KL24.out))
              replace HR191 := Aside0.mk ((show Kd.C (Kd.int .i64) w28 A25 y188.length y188 from by rw [Ny188.out, KA25.out]; exact Kd.C_drop (m := (x8_3 : Int).toNat) (c := co22) ((Kd.R_reads' (Kd.R_after (ok := (fun _ => True)) (sr HO_5) hg hat)).2.2) KL25.out ((Kd.R_reads' (Kd.R_after (ok := (fun _ => True)) (sr HO_5) hg hat)).2.1)))
              replace HO_5 := Aside0.mk (Kd.R_after (ok := (fun _ => True)) (sr HO_5) hg hat)
              have HO181 := Aside0.mk ho
              clear HO174 ho hb hg hat
              refine hK.out _ _ trivial (fun hHeld => ?_)
              clear hK K
              refine norm_ (a' := ?_) ?_ ?_
              rotate_left
              ·show Act.put _ (some 70) _ = _
               simp only [Act.put, List.setIfInBounds_toArray, List.set_cons_zero, List.set_cons_succ, i64_w, i32_w]
               rfl
              refine one_ (i := 6) (N := some 72) #[true, true, true, true, true, true, true, false, true, true, true, false, false] rfl rfl (one_of HT_.out (by kernel_rfl)) (by decide) (fun K hK => ?_)
              refine Kd.R_lit_step (Kd.int .i64) _ 3 ?hg (N := 72) ?hd (xs := ([x7_6] : List Int)) (inner := [.int .i64 x7_6]) (ok := fun _ => True) (okp := fun _ => True) ?hr ?hp (fun _ hk => hk) trivial (Below.refl _ _) (Nat.le_refl _) (by simp) ?_; (case hd => rfl); (case hg => rfl); (case hr => first | (go_simp; done) | (go_simp; rfl)); (case hp => exact (Reps.one (show Kd.M (Kd.int .i64) _ _ _ x7_6 [.int .i64 x7_6] from rfl) (Reps.none _ _)))
              intro v183 w29 ho30 hb hg_ hnew_
              clear hg_ hnew_
              (first | rw [← Ny182.out] at ho30 | (simp only [Int.reduceToNat] at ho30; rw [← Ny182.out] at ho30))
              have HO184 := Aside0.mk (Kd.R_lower (Kd.R_new' (Kd.R_new' ho30 (Kd.R_lt (sr HO_5))) (Kd.R_lt (sr HO181))) (below_size (sb)))
              replace HO_5 := Aside0.mk (Kd.R_elder' (sr HO_5) (Kd.R_base ho30) hb)
              replace HO181 := Aside0.mk (Kd.R_elder' (sr HO181) (Kd.R_base ho30) hb)
              replace HR178 := Aside0.mk (Kd.C_below (by repeat (first | (with_reducible exact HR178.out) | (with_reducible refine Kd.C_alloc ?_ _) | (with_reducible refine Kd.C_drewN ?_ _) | (with_reducible refine Kd.C_drew ?_) | exact HR178.out)) hb)
              replace HR191 := Aside0.mk (Kd.C_below (by repeat (first | (with_reducible exact HR191.out) | (with_reducible refine Kd.C_alloc ?_ _) | (with_reducible refine Kd.C_drewN ?_ _) | (with_reducible refine Kd.C_drew ?_) | exact HR191.out)) hb)
              replace HB := bs hb
              clear hb ho30
              refine hK.out _ _ trivial (fun hHeld => ?_)
              clear hK K
              refine norm_ (a' := ?_) ?_ ?_
              rotate_left
              ·show Act.put _ (some 72) _ = _
               simp only [Act.put, List.setIfInBounds_toArray, List.set_cons_zero, List.set_cons_succ, i64_w, i32_w]
               rfl
              exact norm_ (by simp only [putAll, Act.put, List.setIfInBounds_toArray, List.set_cons_zero, List.set_cons_succ]) (hCont (v173, v180, v183) _ ⟨(by (with_reducible repeat (first | apply Kd.R_alloc | apply Kd.R_drewN | apply Kd.R_drew)); exact Kd.R_mono HO181.out (fun _ hk => ⟨hk.2, hk.1⟩)), (by (with_reducible repeat (first | apply Kd.R_alloc | apply Kd.R_drewN | apply Kd.R_drew)); exact Kd.R_mono HO184.out (fun _ hk => ⟨hk.2, hk.1.2⟩)), (by (with_reducible repeat (first | apply Kd.R_alloc | apply Kd.R_drewN | apply Kd.R_drew)); exact Kd.R_mono HO_5.out (fun _ hk => ⟨hk.1.2, hk.2⟩)), (sb)⟩)
             ·skip
              refine Kd.R_lit_step (Kd.int .i64) _ 3 ?hg (N := 72) ?hd (xs := ([x7_6] : List Int)) (inner := [.int .i64 x7_6]) (ok := fun _ => True) (okp := fun _ => True) ?hr ?hp (fun _ hk => hk) trivial (Below.refl _ _) (Nat.le_refl _) (by simp) ?_; (case hd => rfl); (case hg => rfl); (case hr => first | (go_simp; done) | (go_simp; rfl)); (case hp => exact (Reps.one (show Kd.M (Kd.int .i64) _ _ _ x7_6 [.int .i64 x7_6] from rfl) (Reps.none _ _)))
              intro v183 w28 ho29 hb hg_ hnew_
              clear hg_ hnew_
              (first | rw [← Ny182.out] at ho29 | (simp only [Int.reduceToNat] at ho29; rw [← Ny182.out] at ho29))
              have HO184 := Aside0.mk (Kd.R_lower (Kd.R_new' (Kd.R_new' ho29 (Kd.R_lt (sr HO_5))) (Kd.R_lt (sr HO174))) (below_size (sb)))
              replace HO_5 := Aside0.mk (Kd.R_elder' (sr HO_5) (Kd.R_base ho29) hb)
              replace HO174 := Aside0.mk (Kd.R_elder' (sr HO174) (Kd.R_base ho29) hb)
              replace HR178 := Aside0.mk (Kd.C_below (by repeat (first | (with_reducible exact HR178.out) | (with_reducible refine Kd.C_alloc ?_ _) | (with_reducible refine Kd.C_drewN ?_ _) | (with_reducible refine Kd.C_drew ?_) | exact HR178.out)) hb)
              replace HR191 := Aside0.mk (Kd.C_below (by repeat (first | (with_reducible exact HR191.out) | (with_reducible refine Kd.C_alloc ?_ _) | (with_reducible refine Kd.C_drewN ?_ _) | (with_reducible refine Kd.C_drew ?_) | exact HR191.out)) hb)
              replace HB := bs hb
              clear hb ho29
              refine hK.out _ _ trivial (fun hHeld => ?_)
              clear hK K
              refine norm_ (a' := ?_) ?_ ?_
              rotate_left
              ·show Act.put _ (some 72) _ = _
               simp only [Act.put, List.setIfInBounds_toArray, List.set_cons_zero, List.set_cons_succ, i64_w, i32_w]
               rfl
              refine one_ (i := 4) (N := some 70) #[true, true, true, true, true, true, true, false, true, true, true, false, false] rfl rfl (one_of HT_.out (by kernel_rfl)) (by decide) (fun K hK => ?_)
              refine Kd.R_append_rows_step (Kd.int .i64) (w0 := w) w.heap.size (by rfl) (.tmp 66) (.tmp 69) 57 3 (.int .i64 0) 8 rfl Try.underlying57 info3 rfl (by decide) (by omega) v173 y172 y175 _ _ _ (fun k_ => some k_ ≠ (.slice (some ad171) x5_1.length co22 : Value).ownBlock ∧ some k_ ≠ (v183 : Value).ownBlock) (fun _ => False) rfl rfl ?aO ?aR (fun _ _ h => h) (fun _ h => h.elim) ?aF ?aB ?aS ?aL ?_
              (case aR => repeat (first | exact (by repeat (first | (with_reducible exact HR178.out) | (with_reducible refine Kd.C_alloc ?_ _) | (with_reducible refine Kd.C_drewN ?_ _) | (with_reducible refine Kd.C_drew ?_) | exact HR178.out)) | (with_reducible refine Kd.C_alloc ?_ _) | (with_reducible refine Kd.C_drewN ?_ _) | (with_reducible refine Kd.C_drew ?_)))
              (case aB => exact (sb))
              (case aF => exact (fun k_ hk => ⟨Kd.fresh' (Kd.R_lt (sr HO_5)) k_ hk, Kd.fresh' (Kd.R_lt (sr HO184)) k_ hk⟩))
              (case aO => exact (by (with_reducible repeat (first | apply Kd.R_alloc | apply Kd.R_drewN | apply Kd.R_drew)); exact Kd.R_mono HO174.out (fun _ hk => ⟨hk.1.2, hk.2⟩)))
              (case aS => exact (below_size (sb)))
              (case aL => have := LMc17.out; omega)
              intro v180 w30 ho hb hg hat
              rw [← Ny179.out] at ho
              replace HO184 := Aside0.mk (Kd.R_after (ok := (fun k_ => some k_ ≠ (.slice (some ad171) x5_1.length co22 : Value).ownBlock)) (by (with_reducible repeat (first | apply Kd.R_alloc | apply Kd.R_drewN | apply Kd.R_drew)); exact Kd.R_mono HO184.out (fun _ hk => ⟨hk.1.2, hk.2⟩)) hg hat)
              replace HB := Aside0.mk hb
              replace HR178 := Aside0.mk ((show Kd.C (Kd.int .i64) w30 (some ad171) y175.length y175 from by rw [Ny175.out]; exact Kd.C_take (m := (x8_3 : Int).toNat) ((Kd.R_reads' (Kd.R_after (ok := (fun k_ => some k_ ≠ (v183 : Value).ownBlock)) (by (with_reducible repeat (first | apply Kd.R_alloc | apply Kd.R_drewN | apply Kd.R_drew)); exact Kd.R_mono HO_5.out (fun _ hk => ⟨hk.2, hk.1.2⟩)) hg hat)).2.2) KL24.out))
              replace HR191 := Aside0.mk ((show Kd.C (Kd.int .i64) w30 A25 y188.length y188 from by rw [Ny188.out, KA25.out]; exact Kd.C_drop (m := (x8_3 : Int).toNat) (c := co22) ((Kd.R_reads' (Kd.R_after (ok := (fun k_ => some k_ ≠ (v183 : Value).ownBlock)) (by (with_reducible repeat (first | apply Kd.R_alloc | apply Kd.R_drewN | apply Kd.R_drew)); exact Kd.R_mono HO_5.out (fun _ hk => ⟨hk.2, hk.1.2⟩)) hg hat)).2.2) KL25.out ((Kd.R_reads' (Kd.R_after (ok := (fun k_ => some k_ ≠ (v183 : Value).ownBlock)) (by (with_reducible repeat (first | apply Kd.R_alloc | apply Kd.R_drewN | apply Kd.R_drew)); exact Kd.R_mono HO_5.out (fun _ hk => ⟨hk.2, hk.1.2⟩)) hg hat)).2.1)))
              replace HO_5 := Aside0.mk (Kd.R_after (ok := (fun k_ => some k_ ≠ (v183 : Value).ownBlock)) (by (with_reducible repeat (first | apply Kd.R_alloc | apply Kd.R_drewN | apply Kd.R_drew)); exact Kd.R_mono HO_5.out (fun _ hk => ⟨hk.2, hk.1.2⟩)) hg hat)
              have HO181 := Aside0.mk ho
              clear HO174 ho hb hg hat
              refine hK.out _ _ trivial (fun hHeld => ?_)
              clear hK K
              refine norm_ (a' := ?_) ?_ ?_
              rotate_left
              ·show Act.put _ (some 70) _ = _
               simp only [Act.put, List.setIfInBounds_toArray, List.set_cons_zero, List.set_cons_succ, i64_w, i32_w]
               rfl
              exact norm_ (by simp only [putAll, Act.put, List.setIfInBounds_toArray, List.set_cons_zero, List.set_cons_succ]) (hCont (v173, v180, v183) _ ⟨(by (with_reducible repeat (first | apply Kd.R_alloc | apply Kd.R_drewN | apply Kd.R_drew)); exact Kd.R_mono HO181.out (fun _ hk => ⟨hk.2, hk.1⟩)), (by (with_reducible repeat (first | apply Kd.R_alloc | apply Kd.R_drewN | apply Kd.R_drew)); exact Kd.R_mono HO184.out (fun _ hk => ⟨hk.2, hk.1⟩)), (by (with_reducible repeat (first | apply Kd.R_alloc | apply Kd.R_drewN | apply Kd.R_drew)); exact Kd.R_mono HO_5.out (fun _ hk => ⟨hk.2, hk.1⟩)), (sb)⟩)
            ·skip
             refine Kd.R_lit_step (Kd.int .i64) _ 3 ?hg (N := 72) ?hd (xs := ([x7_6] : List Int)) (inner := [.int .i64 x7_6]) (ok := fun _ => True) (okp := fun _ => True) ?hr ?hp (fun _ hk => hk) trivial (Below.refl _ _) (Nat.le_refl _) (by simp) ?_; (case hd => rfl); (case hg => rfl); (case hr => first | (go_simp; done) | (go_simp; rfl)); (case hp => exact (Reps.one (show Kd.M (Kd.int .i64) _ _ _ x7_6 [.int .i64 x7_6] from rfl) (Reps.none _ _)))
             intro v183 w26 ho27 hb hg_ hnew_
             clear hg_ hnew_
             (first | rw [← Ny182.out] at ho27 | (simp only [Int.reduceToNat] at ho27; rw [← Ny182.out] at ho27))
             have HO184 := Aside0.mk (Kd.R_lower (Kd.R_new' ho27 (Kd.R_lt (sr HO_5))) (below_size (sb)))
             replace HO_5 := Aside0.mk (Kd.R_elder' (sr HO_5) (Kd.R_base ho27) hb)
             replace HR178 := Aside0.mk (Kd.C_below (by repeat (first | (with_reducible exact HR178.out) | (with_reducible refine Kd.C_alloc ?_ _) | (with_reducible refine Kd.C_drewN ?_ _) | (with_reducible refine Kd.C_drew ?_) | exact HR178.out)) hb)
             replace HR191 := Aside0.mk (Kd.C_below (by repeat (first | (with_reducible exact HR191.out) | (with_reducible refine Kd.C_alloc ?_ _) | (with_reducible refine Kd.C_drewN ?_ _) | (with_reducible refine Kd.C_drew ?_) | exact HR191.out)) hb)
             replace HB := bs hb
             clear hb ho27
             refine hK.out _ _ trivial (fun hHeld => ?_)
             clear hK K
             refine norm_ (a' := ?_) ?_ ?_
             rotate_left
             ·show Act.put _ (some 72) _ = _
              simp only [Act.put, List.setIfInBounds_toArray, List.set_cons_zero, List.set_cons_succ, i64_w, i32_w]
              rfl
             refine one_ (i := 0) (N := some 66) #[true, true, true, true, false, true, true, false, true, true, true, false, false] rfl rfl (one_of HT_.out (by kernel_rfl)) (by decide) (fun K hK => ?_)
             refine Kd.R_lit_step (Kd.int .i64) _ 3 ?hg (N := 66) ?hd (xs := ([] : List Int)) (inner := []) (ok := fun _ => True) (okp := fun _ => True) ?hr ?hp (fun _ hk => hk) trivial (Below.refl _ _) (Nat.le_refl _) (by simp) ?_; (case hd => rfl); (case hg => rfl); (case hr => first | (go_simp; done) | (go_simp; rfl)); (case hp => exact (Reps.none _ _))
             intro v173 w28 ho29 hb hg_ hnew_
             clear hg_ hnew_
             (first | rw [← Ny172.out] at ho29 | (simp only [Int.reduceToNat] at ho29; rw [← Ny172.out] at ho29))
             have HO174 := Aside0.mk (Kd.R_lower (Kd.R_new' (Kd.R_new' ho29 (Kd.R_lt (sr HO_5))) (Kd.R_lt (sr HO184))) (below_size (sb)))
             replace HO_5 := Aside0.mk (Kd.R_elder' (sr HO_5) (Kd.R_base ho29) hb)
             replace HO184 := Aside0.mk (Kd.R_elder' (sr HO184) (Kd.R_base ho29) hb)
             replace HR178 := Aside0.mk (Kd.C_below (by repeat (first | (with_reducible exact HR178.out) | (with_reducible refine Kd.C_alloc ?_ _) | (with_reducible refine Kd.C_drewN ?_ _) | (with_reducible refine Kd.C_drew ?_) | exact HR178.out)) hb)
             replace HR191 := Aside0.mk (Kd.C_below (by repeat (first | (with_reducible exact HR191.out) | (with_reducible refine Kd.C_alloc ?_ _) | (with_reducible refine Kd.C_drewN ?_ _) | (with_reducible refine Kd.C_drew ?_) | exact HR191.out)) hb)
             replace HB := bs hb
             clear hb ho29
             refine hK.out _ _ trivial (fun hHeld => ?_)
             clear hK K
             refine norm_ (a' := ?_) ?_ ?_
             rotate_left
             ·show Act.put _ (some 66) _ = _
              simp only [Act.put, List.setIfInBounds_toArray, List.set_cons_zero, List.set_cons_succ, i64_w, i32_w]
              rfl
             refine one_ (i := 4) (N := some 70) #[true, true, true, true, true, true, true, false, true, true, true, false, false] rfl rfl (one_of HT_.out (by kernel_rfl)) (by decide) (fun K hK => ?_)
             refine Kd.R_append_rows_step (Kd.int .i64) (w0 := w) w.heap.size (by rfl) (.tmp 66) (.tmp 69) 57 3 (.int .i64 0) 8 rfl Try.underlying57 info3 rfl (by decide) (by omega) v173 y172 y175 _ _ _ (fun k_ => some k_ ≠ (.slice (some ad171) x5_1.length co22 : Value).ownBlock ∧ some k_ ≠ (v183 : Value).ownBlock) (fun _ => False) rfl rfl ?aO ?aR (fun _ _ h => h) (fun _ h => h.elim) ?aF ?aB ?aS ?aL ?_
             (case aR => repeat (first | exact (by repeat (first | (with_reducible exact HR178.out) | (with_reducible refine Kd.C_alloc ?_ _) | (with_reducible refine Kd.C_drewN ?_ _) | (with_reducible refine Kd.C_drew ?_) | exact HR178.out)) | (with_reducible refine Kd.C_alloc ?_ _) | (with_reducible refine Kd.C_drewN ?_ _) | (with_reducible refine Kd.C_drew ?_)))
             (case aB => exact (sb))
             (case aF => exact (fun k_ hk => ⟨Kd.fresh' (Kd.R_lt (sr HO_5)) k_ hk, Kd.fresh' (Kd.R_lt (sr HO184)) k_ hk⟩))
             (case aO => exact (by (with_reducible repeat (first | apply Kd.R_alloc | apply Kd.R_drewN | apply Kd.R_drew)); exact Kd.R_mono HO174.out (fun _ hk => ⟨hk.1.2, hk.2⟩)))
             (case aS => exact (below_size (sb)))
             (case aL => have := LMc17.out; omega)
             intro v180 w30 ho hb hg hat
             rw [← Ny179.out] at ho
             replace HO184 := Aside0.mk (Kd.R_after (ok := (fun k_ => some k_ ≠ (.slice (some ad171) x5_1.length co22 : Value).ownBlock)) (by (with_reducible repeat (first | apply Kd.R_alloc | apply Kd.R_drewN | apply Kd.R_drew)); exact Kd.R_mono HO184.out (fun _ hk => ⟨hk.1.2, hk.2⟩)) hg hat)
             replace HB := Aside0.mk hb
             replace HR178 := Aside0.mk ((show Kd.C (Kd.int .i64) w30 (some ad171) y175.length y175 from by rw [Ny175.out]; exact Kd.C_take (m := (x8_3 : Int).toNat) ((Kd.R_reads' (Kd.R_after (ok := (fun k_ => some k_ ≠ (v183 : Value).ownBlock)) (by (with_reducible repeat (first | apply Kd.R_alloc | apply Kd.R_drewN | apply Kd.R_drew)); exact Kd.R_mono HO_5.out (fun _ hk => ⟨hk.1.2, hk.2⟩)) hg hat)).2.2) KL24.out))
             replace HR191 := Aside0.mk ((show Kd.C (Kd.int .i64) w30 A25 y188.length y188 from by rw [Ny188.out, KA25.out]; exact Kd.C_drop (m := (x8_3 : Int).toNat) (c := co22) ((Kd.R_reads' (Kd.R_after (ok := (fun k_ => some k_ ≠ (v183 : Value).ownBlock)) (by (with_reducible repeat (first | apply Kd.R_alloc | apply Kd.R_drewN | apply Kd.R_drew)); exact Kd.R_mono HO_5.out (fun _ hk => ⟨hk.1.2, hk.2⟩)) hg hat)).2.2) KL25.out ((Kd.R_reads' (Kd.R_after (ok := (fun k_ => some k_ ≠ (v183 : Value).ownBlock)) (by (with_reducible repeat (first | apply Kd.R_alloc | apply Kd.R_drewN | apply Kd.R_drew)); exact Kd.R_mono HO_5.out (fun _ hk => ⟨hk.1.2, hk.2⟩)) hg hat)).2.1)))
             replace HO_5 := Aside0.mk (Kd.R_after (ok := (fun k_ => some k_ ≠ (v183 : Value).ownBlock)) (by (with_reducible repeat (first | apply Kd.R_alloc | apply Kd.R_drewN | apply Kd.R_drew)); exact Kd.R_mono HO_5.out (fun _ hk => ⟨hk.1.2, hk.2⟩)) hg hat)
             have HO181 := Aside0.mk ho
             clear HO174 ho hb hg hat
             refine hK.out _ _ trivial (fun hHeld => ?_)
             clear hK K
             refine norm_ (a' := ?_) ?_ ?_
             rotate_left
             ·show Act.put _ (some 70) _ = _
              simp only [Act.put, List.setIfInBounds_toArray, List.set_cons_zero, List.set_cons_succ, i64_w, i32_w]
              rfl
             exact norm_ (by simp only [putAll, Act.put, List.setIfInBounds_toArray, List.set_cons_zero, List.set_cons_succ]) (hCont (v173, v180, v183) _ ⟨(by (with_reducible repeat (first | apply Kd.R_alloc | apply Kd.R_drewN | apply Kd.R_drew)); exact Kd.R_mono HO181.out (fun _ hk => ⟨hk.2, hk.1⟩)), (by (with_reducible repeat (first | apply Kd.R_alloc | apply Kd.R_drewN | apply Kd.R_drew)); exact Kd.R_mono HO184.out (fun _ hk => ⟨hk.2, hk.1⟩)), (by (with_reducible repeat (first | apply Kd.R_alloc | apply Kd.R_drewN | apply Kd.R_drew)); exact Kd.R_mono HO_5.out (fun _ hk => ⟨hk.2, hk.1⟩)), (sb)⟩)
           rintro ⟨v173, v180, v183⟩ w31 ⟨h0_, h1_, h2_, h3_⟩
           have HO181 : Aside0 (Kd.R (Kd.int .i64) 3 w31 w.heap.size (fun k_ => some k_ ≠ (v183 : Value).ownBlock ∧ some k_ ≠ (.slice (some ad171) x5_1.length co22 : Value).ownBlock) v180 y179) := ⟨h0_⟩
           have HO184 : Aside0 (Kd.R (Kd.int .i64) 3 w31 w.heap.size (fun k_ => some k_ ≠ (v180 : Value).ownBlock ∧ some k_ ≠ (.slice (some ad171) x5_1.length co22 : Value).ownBlock) v183 y182) := ⟨h1_⟩
           replace HO_5 : Aside0 (Kd.R (Kd.int .i64) 3 w31 w.heap.size (fun k_ => some k_ ≠ (v180 : Value).ownBlock ∧ some k_ ≠ (v183 : Value).ownBlock) (.slice (some ad171) x5_1.length co22) x5_1) := ⟨h2_⟩
           replace HB : Aside0 (Below w.heap.size w w31) := ⟨h3_⟩
           clear h0_ h1_ h2_ h3_
           have hHeld := trivial
           obtain ⟨Ao33, co33, eo33⟩ := Kd.R_slice HO184.out
           (first | subst eo33 | (injection eo33 with f1_ f2_ f3_; have f4_ := f1_.symm; have f5_ := f3_.symm; clear f1_ f2_ f3_; subst f4_; subst f5_))
           refine norm_ (a' := ?_) ?_ ?_
           rotate_left
           ·simp only [putAll, Act.put, List.setIfInBounds_toArray, List.set_cons_zero, List.set_cons_succ]
            rfl
           refine one_ (i := 7) (N := some 73) #[true, true, true, true, true, true, true, true, true, true, true, false, false] rfl rfl (one_of HT_.out (by kernel_rfl)) (by decide) (fun K hK => ?_)
           refine Kd.R_append_rows_step (Kd.int .i64) (w0 := w) w.heap.size (by rfl) (.tmp 70) (.tmp 72) 57 3 (.int .i64 0) 8 rfl Try.underlying57 info3 rfl (by decide) (by omega) v180 y179 y182 _ _ _ (fun k_ => some k_ ≠ (.slice (some ad171) x5_1.length co22 : Value).ownBlock ∧ some k_ ≠ (.slice Ao33 y182.length co33 : Value).ownBlock) (fun _ => False) rfl rfl ?aO ?aR (fun _ _ h => h) (fun _ h => h.elim) ?aF ?aB ?aS ?aL ?_
           (case aR => repeat (first | exact (Kd.R_reads' HO184.out).2.2 | (with_reducible refine Kd.C_alloc ?_ _) | (with_reducible refine Kd.C_drewN ?_ _) | (with_reducible refine Kd.C_drew ?_)))
           (case aB => exact (sb))
           (case aF => exact (fun k_ hk => ⟨Kd.fresh' (Kd.R_lt (sr HO_5)) k_ hk, Kd.fresh' (Kd.R_lt (sr HO184)) k_ hk⟩))
           (case aO => exact (by (with_reducible repeat (first | apply Kd.R_alloc | apply Kd.R_drewN | apply Kd.R_drew)); exact Kd.R_mono HO181.out (fun _ hk => ⟨hk.2, hk.1⟩)))
           (case aS => exact (below_size (sb)))
           (case aL => have := LMc18.out; omega)
           intro v186 w32 ho hb hg hat
           rw [← Ny185.out] at ho
           replace HO_5 := Aside0.mk (Kd.R_after (ok := (fun k_ => some k_ ≠ (.slice Ao33 y182.length co33 : Value).ownBlock)) (by (with_reducible repeat (first | apply Kd.R_alloc | apply Kd.R_drewN | apply Kd.R_drew)); exact Kd.R_mono HO_5.out (fun _ hk => ⟨hk.2, hk.1⟩)) hg hat)
           replace HO184 := Aside0.mk (Kd.R_after (ok := (fun k_ => some k_ ≠ (.slice (some ad171) x5_1.length co22 : Value).ownBlock)) (by (with_reducible repeat (first | apply Kd.R_alloc | apply Kd.R_drewN | apply Kd.R_drew)); exact Kd.R_mono HO184.out (fun _ hk => ⟨hk.2, hk.1⟩)) hg hat)
           replace HB := Aside0.mk hb
           have HO187 := Aside0.mk ho
           clear HO181 ho hb hg hat
           refine hK.out _ _ trivial (fun hHeld => ?_)
           clear hK K
           refine norm_ (a' := ?_) ?_ ?_
           rotate_left
           ·show Act.put _ (some 73) _ = _
            simp only [Act.put, List.setIfInBounds_toArray, List.set_cons_zero, List.set_cons_succ, i64_w, i32_w]
            rfl
           refine one_ (i := 11) (N := some 77) #[true, true, true, true, true, true, true, true, true, true, true, true, false] rfl rfl (one_of HT_.out (by kernel_rfl)) (by decide) (fun K hK => ?_)
           refine Kd.R_append_rows_step (Kd.int .i64) (w0 := w) w.heap.size (by rfl) (.tmp 73) (.tmp 76) 57 3 (.int .i64 0) 8 rfl Try.underlying57 info3 rfl (by decide) (by omega) v186 y185 y188 _ _ _ (fun k_ => some k_ ≠ (.slice (some ad171) x5_1.length co22 : Value).ownBlock ∧ some k_ ≠ (.slice Ao33 y182.length co33 : Value).ownBlock) (fun _ => False) rfl rfl ?aO ?aR (fun _ _ h => h) (fun _ h => h.elim) ?aF ?aB ?aS ?aL ?_
           (case aR => exact (show Kd.C (Kd.int .i64) _ A25 y188.length y188 from by rw [Ny188.out, KA25.out]; exact Kd.C_drop (m := (x8_3 : Int).toNat) (c := co22) ((Kd.R_reads' (sr HO_5)).2.2) KL25.out ((Kd.R_reads' HO_5.out).2.1)))
           (case aB => exact (sb))
           (case aF => exact (fun k_ hk => ⟨Kd.fresh' (Kd.R_lt (sr HO_5)) k_ hk, Kd.fresh' (Kd.R_lt (sr HO184)) k_ hk⟩))
           (case aO => exact (sr HO187))
           (case aS => exact (below_size (sb)))
           (case aL => have := LMc21.out; omega)
           intro v193 w34 ho hb hg hat
           rw [← Ny192.out] at ho
           replace HO_5 := Aside0.mk (Kd.R_after (ok := (fun k_ => some k_ ≠ (.slice Ao33 y182.length co33 : Value).ownBlock)) (sr HO_5) hg hat)
           replace HO184 := Aside0.mk (Kd.R_after (ok := (fun k_ => some k_ ≠ (.slice (some ad171) x5_1.length co22 : Value).ownBlock)) (sr HO184) hg hat)
           replace HB := Aside0.mk hb
           have HO194 := Aside0.mk ho
           clear HO187 ho hb hg hat
           refine hK.out _ _ trivial (fun hHeld => ?_)
           clear hK K
           refine norm_ (a' := ?_) ?_ ?_
           rotate_left
           ·show Act.put _ (some 77) _ = _
            simp only [Act.put, List.setIfInBounds_toArray, List.set_cons_zero, List.set_cons_succ, i64_w, i32_w]
            rfl
           refine put 12 5 #[true, true, true, true, true, true, true, true, true, true, true, true, true] HT_ ?_
           refine done_ (done_of HT_.out (by kernel_rfl)) ?_
           try go_wp2
           go_roundg k3
           case measure => have := HK1.out; have := HJ6.out; have := HK3.out; omega
           case rel => exact ⟨(y192), (wrap64 (x6_1 + 1)), sc, H', ⟨by have := HK1.out; have := HJ6.out; have := HK3.out; omega⟩, ⟨by (with_reducible repeat (first | apply Kd.R_alloc | apply Kd.R_drewN | apply Kd.R_drew)); exact Kd.R_mono HO194.out (fun _ hk => trivial)⟩, ⟨sb⟩⟩
          ·have c14b0 : (x8_3 == (x5_1.length : Int)) = false := beq_eq_false_iff_ne.mpr c14
           have c14b1 : (x8_3 != (x5_1.length : Int)) = true := bne_iff_ne.mpr c14
           obtain ⟨c35, H⟩ | ⟨c35, H⟩ := ie_ H
           ·have c35b0 : ((rd x5_1 x8_3) == x7_6) = true := beq_iff_eq.mpr c35
            have c35b1 : ((rd x5_1 x8_3) != x7_6) = false := bne_eq_false_iff_eq.mpr c35
            clear c35
            have H' := Aside0.mk H
            clear H
            obtain ⟨Ao36, co36, eo36⟩ := Kd.R_slice HO_5.out
            subst eo36
            have p171 : 0 ≤ (x8_3 : Int) := sa
            have q171 : x8_3 < (x5_1.length : Int) := sa
            obtain ⟨ad171, e171, hx171_0⟩ := Kd.at_int (Kd.R_reads' HO_5.out).2.2 x8_3 p171 q171
            cases e171
            replace p171 := eq_true p171
            replace q171 := eq_true q171
            have p195 : 0 ≤ (x8_3 : Int) := sa
            have q195 : x8_3 < (x5_1.length : Int) := sa
            obtain ⟨ad195, e195, hx195_0⟩ := Kd.at_int (Kd.R_reads' HO_5.out).2.2 x8_3 p195 q195
            obtain rfl : ad171 = ad195 := (by injection e195)
            replace p195 := eq_true p195
            replace q195 := eq_true q195
            go_wp2
            go_roundg k3
            case measure => have := HK1.out; have := HJ6.out; have := HK3.out; omega
            case rel => exact ⟨(x5_1), (wrap64 (x6_1 + 1)), sc, H', ⟨by have := HK1.out; have := HJ6.out; have := HK3.out; omega⟩, ⟨sr HO_5⟩, ⟨sb⟩⟩
           ·have c35b0 : ((rd x5_1 x8_3) == x7_6) = false := beq_eq_false_iff_ne.mpr c35
            have c35b1 : ((rd x5_1 x8_3) != x7_6) = true := bne_iff_ne.mpr c35
            obtain ⟨y196, hy196⟩ : ∃ y_ : List Int, y_ = (([] : List Int)) := ⟨_, rfl⟩
            replace H : (if x8_3 ≤ (x5_1.length : Int) then ((some (x5_1.take (x8_3 : Int).toNat : List Int)).bind fun y199 => (if y196.length + y199.length < 17592186044416 then ((some (y196 ++ y199 : List Int)).bind fun y203 => ((some (([x7_6] : List Int) : List Int)).bind fun y206 => (if y203.length + y206.length < 17592186044416 then ((some (y203 ++ y206 : List Int)).bind fun y209 => ((some (x5_1.drop (x8_3 : Int).toNat : List Int)).bind fun y212 => (if y209.length + y212.length < 17592186044416 then (spec_NeighborsIn.l0 k3 l0 a1 (y209 ++ y212) (wrap64 (x6_1 + 1))) else (none)))) else (none)))) else (none))) else (none)) = some r := by first | (rw [hy196]; with_reducible exact H) | (have H2_ := (Option.bind_some _ _).symm.trans H; rw [hy196]; with_reducible exact H2_) | (have H2_ := (Option.bind_some _ _).symm.trans H; with_reducible exact H2_) | with_reducible exact H | (rw [hy196]; exact H) | exact H
            have Ny196 := Aside0.mk hy196
            clear hy196
            have c37b0 := eq_true (sa : 0 ≤ x8_3)
            obtain ⟨c38, H⟩ := ia_ H
            have c38b0 := eq_true c38
            have c38b1 := decide_eq_true c38
            clear c38
            obtain ⟨y199, hy199⟩ : ∃ y_ : List Int, y_ = (x5_1.take (x8_3 : Int).toNat) := ⟨_, rfl⟩
            replace H : (if y196.length + y199.length < 17592186044416 then ((some (y196 ++ y199 : List Int)).bind fun y203 => ((some (([x7_6] : List Int) : List Int)).bind fun y206 => (if y203.length + y206.length < 17592186044416 then ((some (y203 ++ y206 : List Int)).bind fun y209 => ((some (x5_1.drop (x8_3 : Int).toNat : List Int)).bind fun y212 => (if y209.length + y212.length < 17592186044416 then (spec_NeighborsIn.l0 k3 l0 a1 (y209 ++ y212) (wrap64 (x6_1 + 1))) else (none)))) else (none)))) else (none)) = some r := by first | (rw [hy199]; with_reducible exact H) | (have H2_ := (Option.bind_some _ _).symm.trans H; rw [hy199]; with_reducible exact H2_) | (have H2_ := (Option.bind_some _ _).symm.trans H; with_reducible exact H2_) | with_reducible exact H | (rw [hy199]; exact H) | exact H
            have Ny199 := Aside0.mk hy199
            clear hy199
            obtain ⟨LMc39, H⟩ := il_ H
            obtain ⟨y203, hy203⟩ : ∃ y_ : List Int, y_ = (y196 ++ y199) := ⟨_, rfl⟩
            replace H : ((some (([x7_6] : List Int) : List Int)).bind fun y206 => (if y203.length + y206.length < 17592186044416 then ((some (y203 ++ y206 : List Int)).bind fun y209 => ((some (x5_1.drop (x8_3 : Int).toNat : List Int)).bind fun y212 => (if y209.length + y212.length < 17592186044416 then (spec_NeighborsIn.l0 k3 l0 a1 (y209 ++ y212) (wrap64 (x6_1 + 1))) else (none)))) else (none))) = some r := by first | (rw [hy203]; with_reducible exact H) | (have H2_ := (Option.bind_some _ _).symm.trans H; rw [hy203]; with_reducible exact H2_) | (have H2_ := (Option.bind_some _ _).symm.trans H; with_reducible exact H2_) | with_reducible exact H | (rw [hy203]; exact H) | exact H
            have Ny203 := Aside0.mk hy203
            clear hy203
            obtain ⟨y206, hy206⟩ : ∃ y_ : List Int, y_ = (([x7_6] : List Int)) := ⟨_, rfl⟩
            replace H : (if y203.length + y206.length < 17592186044416 then ((some (y203 ++ y206 : List Int)).bind fun y209 => ((some (x5_1.drop (x8_3 : Int).toNat : List Int)).bind fun y212 => (if y209.length + y212.length < 17592186044416 then (spec_NeighborsIn.l0 k3 l0 a1 (y209 ++ y212) (wrap64 (x6_1 + 1))) else (none)))) else (none)) = some r := by first | (rw [hy206]; with_reducible exact H) | (have H2_ := (Option.bind_some _ _).symm.trans H; rw [hy206]; with_reducible exact H2_) | (have H2_ := (Option.bind_some _ _).symm.trans H; with_reducible exact H2_) | with_reducible exact H | (rw [hy206]; exact H) | exact H
            have Ny206 := Aside0.mk hy206
            clear hy206
            obtain ⟨LMc40, H⟩ := il_ H
            obtain ⟨y209, hy209⟩ : ∃ y_ : List Int, y_ = (y203 ++ y206) := ⟨_, rfl⟩
            replace H : ((some (x5_1.drop (x8_3 : Int).toNat : List Int)).bind fun y212 => (if y209.length + y212.length < 17592186044416 then (spec_NeighborsIn.l0 k3 l0 a1 (y209 ++ y212) (wrap64 (x6_1 + 1))) else (none))) = some r := by first | (rw [hy209]; with_reducible exact H) | (have H2_ := (Option.bind_some _ _).symm.trans H; rw [hy209]; with_reducible exact H2_) | (have H2_ := (Option.bind_some _ _).symm.trans H; with_reducible exact H2_) | with_reducible exact H | (rw [hy209]; exact H) | exact H
            have Ny209 := Aside0.mk hy209
            clear hy209
            have c41b0 := eq_true (sa : 0 ≤ x8_3)
            have c42b0 := eq_true (sa : x8_3 ≤ (x5_1.length : Int))
            obtain ⟨y212, hy212⟩ : ∃ y_ : List Int, y_ = (x5_1.drop (x8_3 : Int).toNat) := ⟨_, rfl⟩
            replace H : (if y209.length + y212.length < 17592186044416 then (spec_NeighborsIn.l0 k3 l0 a1 (y209 ++ y212) (wrap64 (x6_1 + 1))) else (none)) = some r := by first | (rw [hy212]; with_reducible exact H) | (have H2_ := (Option.bind_some _ _).symm.trans H; rw [hy212]; with_reducible exact H2_) | (have H2_ := (Option.bind_some _ _).symm.trans H; with_reducible exact H2_) | with_reducible exact H | (rw [hy212]; exact H) | exact H
            have Ny212 := Aside0.mk hy212
            clear hy212
            obtain ⟨LMc43, H⟩ := il_ H
            obtain ⟨y216, hy216⟩ : ∃ y_ : List Int, y_ = (y209 ++ y212) := ⟨_, rfl⟩
            replace H : (spec_NeighborsIn.l0 k3 l0 a1 y216 (wrap64 (x6_1 + 1))) = some r := by first | (rw [hy216]; with_reducible exact H) | (have H2_ := (Option.bind_some _ _).symm.trans H; rw [hy216]; with_reducible exact H2_) | (have H2_ := (Option.bind_some _ _).symm.trans H; with_reducible exact H2_) | with_reducible exact H | (rw [hy216]; exact H) | exact H
            have Ny216 := Aside0.mk hy216
            clear hy216
            have H' := Aside0.mk H
            clear H
            obtain ⟨Ao44, co44, eo44⟩ := Kd.R_slice HO_5.out
            subst eo44
            have p171 : 0 ≤ (x8_3 : Int) := sa
            have q171 : x8_3 < (x5_1.length : Int) := sa
            obtain ⟨ad171, e171, hx171_0⟩ := Kd.at_int (Kd.R_reads' HO_5.out).2.2 x8_3 p171 q171
            cases e171
            replace p171 := eq_true p171
            replace q171 := eq_true q171
            have p195 : 0 ≤ (x8_3 : Int) := sa
            have q195 : x8_3 < (x5_1.length : Int) := sa
            obtain ⟨ad195, e195, hx195_0⟩ := Kd.at_int (Kd.R_reads' HO_5.out).2.2 x8_3 p195 q195
            obtain rfl : ad171 = ad195 := (by injection e195)
            replace p195 := eq_true p195
            replace q195 := eq_true q195
            try go_wp2
            replace HO_5 := Aside0.mk (Kd.R_drew HO_5.out)
            replace HB := Aside0.mk (below_drew1 HB.out)
            have q46 : (x8_3 : Int) ≤ ((x5_1.length : Int) : Int) := sa
            obtain ⟨i046, hi046, _, hsz46, _⟩ := info_parts info3
            have hroom46 : x5_1.length ≤ co44 := (Kd.R_reads' HO_5.out).2.1
            have hC46 : Kd.C (Kd.int .i64) _ (some ad171) x5_1.length x5_1 := (Kd.R_reads' HO_5.out).2.2
            have hcut46 := cut_to (P := Try.prog) 57 3 .i64 Try.underlying57 hi046 (some ad171) x5_1.length co44 x8_3 (sa) q46 hroom46
            have hr46 := Kd.C_take (m := (x8_3 : Int).toNat) hC46 (by omega)
            have hy46 : y199.length = (x8_3 : Int).toNat := (by rw [Ny199.out, List.length_take]; omega)
            rw [← Ny199.out] at hr46
            rw [← hy46] at hcut46
            have HR202 := Aside0.mk hr46
            have HC202 := Aside0.mk (show y199.length ≤ co44 from by omega)
            clear hr46 hC46 hroom46 hi046 hsz46
            have KY46 := Aside0.mk hy46
            clear hy46
            have KL46 := Aside0.mk (show (x8_3 : Int).toNat ≤ x5_1.length from by omega)
            replace q46 := eq_true q46
            have q47 : (x8_3 : Int) ≤ ((x5_1.length : Int) : Int) := sa
            obtain ⟨i047, hi047, _, hsz47, _⟩ := info_parts info3
            have hroom47 : x5_1.length ≤ co44 := (Kd.R_reads' HO_5.out).2.1
            have hC47 : Kd.C (Kd.int .i64) _ (some ad171) x5_1.length x5_1 := (Kd.R_reads' HO_5.out).2.2
            have q047 : (0 : Int) ≤ (x8_3 : Int) := sa
            have hcut47 := cut_from (P := Try.prog) 57 3 .i64 Try.underlying57 hi047 1 hsz47 (some ad171) x5_1.length co44 x8_3 q047 q47
            have hr47 := Kd.C_drop (m := (x8_3 : Int).toNat) (c := co44) hC47 (by omega) hroom47
            obtain ⟨A47, hA47⟩ : ∃ A1, A1 = (if co44 = (x8_3 : Int).toNat then (some ad171) else ((some ad171) : Option Addr).map (·.add ((x8_3 : Int).toNat * 1))) := ⟨_, rfl⟩
            obtain ⟨c47, hc47⟩ : ∃ c1, c1 = co44 - (x8_3 : Int).toNat := ⟨_, rfl⟩
            have hy47 : y212.length = x5_1.length - (x8_3 : Int).toNat := (by rw [Ny212.out, List.length_drop] <;> omega)
            rw [show (x5_1).drop (x8_3 : Int).toNat = y212 from Ny212.out.symm] at hr47
            replace hr47 : Kd.C (Kd.int .i64) _ A47 y212.length y212 := (by rw [hA47]; exact hr47)
            rw [← hy47, ← hA47, ← hc47] at hcut47
            have HR215 := Aside0.mk hr47
            have HC215 := Aside0.mk (show y212.length ≤ c47 from by rw [hy47, hc47]; exact Nat.sub_le_sub_right hroom47 _)
            clear hr47 hC47 hroom47 hi047 hsz47 hc47
            have KY47 := Aside0.mk hy47
            have KA47 := Aside0.mk hA47
            clear hy47 hA47
            have KL47 := Aside0.mk (show (x8_3 : Int).toNat ≤ x5_1.length from by omega)
            replace q47 := eq_true q47
            refine start_ (n := 13) (S := fun w' => True) (ds := []) #[false, false, false, false, false, false, false, false, false, false, false, false, false] (by kernel_rfl) rfl rfl trivial (fun hHeld => ?_); refine with_tabW spec_NeighborsIn.tab14 spec_NeighborsIn.bits14 (fun HT_ HW_ => ?_)
            generalize wr.drew = w45 at HO_5 HB HR202 HR215 hHeld ⊢
            refine put 1 67 #[false, true, false, false, false, false, false, false, false, false, false, false, false] HT_ ?_
            refine put 2 68 #[false, true, true, false, false, false, false, false, false, false, false, false, false] HT_ ?_
            refine put 3 69 #[false, true, true, true, false, false, false, false, false, false, false, false, false] HT_ ?_
            refine put 5 71 #[false, true, true, true, false, true, false, false, false, false, false, false, false] HT_ ?_
            refine put 8 74 #[false, true, true, true, false, true, false, false, true, false, false, false, false] HT_ ?_
            refine put 9 75 #[false, true, true, true, false, true, false, false, true, true, false, false, false] HT_ ?_
            refine put 10 76 #[false, true, true, true, false, true, false, false, true, true, true, false, false] HT_ ?_
            refine join_ (σ := Value × Value × Value) 3 #[true, true, true, true, true, true, true, false, true, true, true, false, false] (fun s_ => [(66, s_.1), (70, s_.2.1), (72, s_.2.2)]) (fun s_ w' => (Kd.R (Kd.int .i64) 3 w' w.heap.size (fun k_ => some k_ ≠ (s_.2.2 : Value).ownBlock ∧ some k_ ≠ (.slice (some ad171) x5_1.length co44 : Value).ownBlock) s_.2.1 y203) ∧ (Kd.R (Kd.int .i64) 3 w' w.heap.size (fun k_ => some k_ ≠ (s_.2.1 : Value).ownBlock ∧ some k_ ≠ (.slice (some ad171) x5_1.length co44 : Value).ownBlock) s_.2.2 y206) ∧ (Kd.R (Kd.int .i64) 3 w' w.heap.size (fun k_ => some k_ ≠ (s_.2.1 : Value).ownBlock ∧ some k_ ≠ (s_.2.2 : Value).ownBlock) (.slice (some ad171) x5_1.length co44) x5_1) ∧ (Below w.heap.size w w')) ?_ ?_
            rotate_left
            ·intro hCont
             refine two_ (i := 0) (j := 6) (Ni := some 66) (Nj := some 72) #[true, true, true, true, false, true, false, false, true, true, true, false, false] #[false, true, true, true, false, true, true, false, true, true, true, false, false] rfl rfl rfl rfl (two_of HT_.out (by kernel_rfl)) (by decide) (by decide) (fun K hK => ?_) (fun K hK => ?_)
             ·skip
              refine Kd.R_lit_step (Kd.int .i64) _ 3 ?hg (N := 66) ?hd (xs := ([] : List Int)) (inner := []) (ok := fun _ => True) (okp := fun _ => True) ?hr ?hp (fun _ hk => hk) trivial (Below.refl _ _) (Nat.le_refl _) (by simp) ?_; (case hd => rfl); (case hg => rfl); (case hr => first | (go_simp; done) | (go_simp; rfl)); (case hp => exact (Reps.none _ _))
              intro v197 w48 ho49 hb hg_ hnew_
              clear hg_ hnew_
              (first | rw [← Ny196.out] at ho49 | (simp only [Int.reduceToNat] at ho49; rw [← Ny196.out] at ho49))
              have HO198 := Aside0.mk (Kd.R_lower (Kd.R_new' ho49 (Kd.R_lt (sr HO_5))) (below_size (sb)))
              replace HO_5 := Aside0.mk (Kd.R_elder' (sr HO_5) (Kd.R_base ho49) hb)
              replace HR202 := Aside0.mk (Kd.C_below (by repeat (first | (with_reducible exact HR202.out) | (with_reducible refine Kd.C_alloc ?_ _) | (with_reducible refine Kd.C_drewN ?_ _) | (with_reducible refine Kd.C_drew ?_) | exact HR202.out)) hb)
              replace HR215 := Aside0.mk (Kd.C_below (by repeat (first | (with_reducible exact HR215.out) | (with_reducible refine Kd.C_alloc ?_ _) | (with_reducible refine Kd.C_drewN ?_ _) | (with_reducible refine Kd.C_drew ?_) | exact HR215.out)) hb)
              replace HB := bs hb
              clear hb ho49
              refine hK.out _ _ trivial (fun hHeld => ?_)
              clear hK K
              refine norm_ (a' := ?_) ?_ ?_
              rotate_left
              ·show Act.put _ (some 66) _ = _
               simp only [Act.put, List.setIfInBounds_toArray, List.set_cons_zero, List.set_cons_succ, i64_w, i32_w]
               rfl
              refine two_ (i := 4) (j := 6) (Ni := some 70) (Nj := some 72) #[true, true, true, true, true, true, false, false, true, true, true, false, false] #[true, true, true, true, false, true, true, false, true, true, true, false, false] rfl rfl rfl rfl (two_of HT_.out (by kernel_rfl)) (by decide) (by decide) (fun K hK => ?_) (fun K hK => ?_)
              ·skip
               refine Kd.R_append_rows_step (Kd.int .i64) (w0 := w) w.heap.size (by rfl) (.tmp 66) (.tmp 69) 57 3 (.int .i64 0) 8 rfl Try.underlying57 info3 rfl (by decide) (by omega) v197 y196 y199 _ _ _ (fun k_ => some k_ ≠ (.slice (some ad171) x5_1.length co44 : Value).ownBlock) (fun _ => False) rfl rfl ?aO ?aR (fun _ _ h => h) (fun _ h => h.elim) ?aF ?aB ?aS ?aL ?_
               (case aR => repeat (first | exact (by repeat (first | (with_reducible exact HR202.out) | (with_reducible refine Kd.C_alloc ?_ _) | (with_reducible refine Kd.C_drewN ?_ _) | (with_reducible refine Kd.C_drew ?_) | exact HR202.out)) | (with_reducible refine Kd.C_alloc ?_ _) | (with_reducible refine Kd.C_drewN ?_ _) | (with_reducible refine Kd.C_drew ?_)))
               (case aB => exact (sb))
               (case aF => exact (fun k_ hk => Kd.fresh' (Kd.R_lt (sr HO_5)) k_ hk))
               (case aO => exact (by (with_reducible repeat (first | apply Kd.R_alloc | apply Kd.R_drewN | apply Kd.R_drew)); exact Kd.R_mono HO198.out (fun _ hk => hk.2)))
               (case aS => exact (below_size (sb)))
               (case aL => have := LMc39.out; omega)
               intro v204 w50 ho hb hg hat
               rw [← Ny203.out] at ho
               replace HB := Aside0.mk hb
               replace HR202 := Aside0.mk ((show Kd.C (Kd.int .i64) w50 (some ad171) y199.length y199 from by rw [Ny199.out]; exact Kd.C_take (m := (x8_3 : Int).toNat) ((Kd.R_reads' (Kd.R_after (ok := (fun _ => True)) (sr HO_5) hg hat)).2.2) KL46.out))
               replace HR215 := Aside0.mk ((show Kd.C (Kd.int .i64) w50 A47 y212.length y212 from by rw [Ny212.out, KA47.out]; exact Kd.C_drop (m := (x8_3 : Int).toNat) (c := co44) ((Kd.R_reads' (Kd.R_after (ok := (fun _ => True)) (sr HO_5) hg hat)).2.2) KL47.out ((Kd.R_reads' (Kd.R_after (ok := (fun _ => True)) (sr HO_5) hg hat)).2.1)))
               replace HO_5 := Aside0.mk (Kd.R_after (ok := (fun _ => True)) (sr HO_5) hg hat)
               have HO205 := Aside0.mk ho
               clear HO198 ho hb hg hat
               refine hK.out _ _ trivial (fun hHeld => ?_)
               clear hK K
               refine norm_ (a' := ?_) ?_ ?_
               rotate_left
               ·show Act.put _ (some 70) _ = _
                simp only [Act.put, List.setIfInBounds_toArray, List.set_cons_zero, List.set_cons_succ, i64_w, i32_w]
                rfl
               refine one_ (i := 6) (N := some 72) #[true, true, true, true, true, true, true, false, true, true, true, false, false] rfl rfl (one_of HT_.out (by kernel_rfl)) (by decide) (fun K hK => ?_)
               refine Kd.R_lit_step (Kd.int .i64) _ 3 ?hg (N := 72) ?hd (xs := ([x7_6] : List Int)) (inner := [.int .i64 x7_6]) (ok := fun _ => True) (okp := fun _ => True) ?hr ?hp (fun _ hk => hk) trivial (Below.refl _ _) (Nat.le_refl _) (by simp) ?_; (case hd => rfl); (case hg => rfl); (case hr => first | (go_simp; done) | (go_simp; rfl)); (case hp => exact (Reps.one (show Kd.M (Kd.int .i64) _ _ _ x7_6 [.int .i64 x7_6] from rfl) (Reps.none _ _)))
               intro v207 w51 ho52 hb hg_ hnew_
               clear hg_ hnew_
               (first | rw [← Ny206.out] at ho52 | (simp only [Int.reduceToNat] at ho52; rw [← Ny206.out] at ho52))
               have HO208 := Aside0.mk (Kd.R_lower (Kd.R_new' (Kd.R_new' ho52 (Kd.R_lt (sr HO_5))) (Kd.R_lt (sr HO205))) (below_size (sb)))
               replace HO_5 := Aside0.mk (Kd.R_elder' (sr HO_5) (Kd.R_base ho52) hb)
               replace HO205 := Aside0.mk (Kd.R_elder' (sr HO205) (Kd.R_base ho52) hb)
               replace HR202 := Aside0.mk (Kd.C_below (by repeat (first | (with_reducible exact HR202.out) | (with_reducible refine Kd.C_alloc ?_ _) | (with_reducible refine Kd.C_drewN ?_ _) | (with_reducible refine Kd.C_drew ?_) | exact HR202.out)) hb)
               replace HR215 := Aside0.mk (Kd.C_below (by repeat (first | (with_reducible exact HR215.out) | (with_reducible refine Kd.C_alloc ?_ _) | (with_reducible refine Kd.C_drewN ?_ _) | (with_reducible refine Kd.C_drew ?_) | exact HR215.out)) hb)
               replace HB := bs hb
               clear hb ho52
               refine hK.out _ _ trivial (fun hHeld => ?_)
               clear hK K
               refine norm_ (a' := ?_) ?_ ?_
               rotate_left
               ·show Act.put _ (some 72) _ = _
                simp only [Act.put, List.setIfInBounds_toArray, List.set_cons_zero, List.set_cons_succ, i64_w, i32_w]
                rfl
               exact norm_ (by simp only [putAll, Act.put, List.setIfInBounds_toArray, List.set_cons_zero, List.set_cons_succ]) (hCont (v197, v204, v207) _ ⟨(by (with_reducible repeat (first | apply Kd.R_alloc | apply Kd.R_drewN | apply Kd.R_drew)); exact Kd.R_mono HO205.out (fun _ hk => ⟨hk.2, hk.1⟩)), (by (with_reducible repeat (first | apply Kd.R_alloc | apply Kd.R_drewN | apply Kd.R_drew)); exact Kd.R_mono HO208.out (fun _ hk => ⟨hk.2, hk.1.2⟩)), (by (with_reducible repeat (first | apply Kd.R_alloc | apply Kd.R_drewN | apply Kd.R_drew)); exact Kd.R_mono HO_5.out (fun _ hk => ⟨hk.1.2, hk.2⟩)), (sb)⟩)
              ·skip
               refine Kd.R_lit_step (Kd.int .i64) _ 3 ?hg (N := 72) ?hd (xs := ([x7_6] : List Int)) (inner := [.int .i64 x7_6]) (ok := fun _ => True) (okp := fun _ => True) ?hr ?hp (fun _ hk => hk) trivial (Below.refl _ _) (Nat.le_refl _) (by simp) ?_; (case hd => rfl); (case hg => rfl); (case hr => first | (go_simp; done) | (go_simp; rfl)); (case hp => exact (Reps.one (show Kd.M (Kd.int .i64) _ _ _ x7_6 [.int .i64 x7_6] from rfl) (Reps.none _ _)))
               intro v207 w50 ho51 hb hg_ hnew_
               clear hg_ hnew_
               (first | rw [← Ny206.out] at ho51 | (simp only [Int.reduceToNat] at ho51; rw [← Ny206.out] at ho51))
               have HO208 := Aside0.mk (Kd.R_lower (Kd.R_new' (Kd.R_new' ho51 (Kd.R_lt (sr HO_5))) (Kd.R_lt (sr HO198))) (below_size (sb)))
               replace HO_5 := Aside0.mk (Kd.R_elder' (sr HO_5) (Kd.R_base ho51) hb)
               replace HO198 := Aside0.mk (Kd.R_elder' (sr HO198) (Kd.R_base ho51) hb)
               replace HR202 := Aside0.mk (Kd.C_below (by repeat (first | (with_reducible exact HR202.out) | (with_reducible refine Kd.C_alloc ?_ _) | (with_reducible refine Kd.C_drewN ?_ _) | (with_reducible refine Kd.C_drew ?_) | exact HR202.out)) hb)
               replace HR215 := Aside0.mk (Kd.C_below (by repeat (first | (with_reducible exact HR215.out) | (with_reducible refine Kd.C_alloc ?_ _) | (with_reducible refine Kd.C_drewN ?_ _) | (with_reducible refine Kd.C_drew ?_) | exact HR215.out)) hb)
               replace HB := bs hb
               clear hb ho51
               refine hK.out _ _ trivial (fun hHeld => ?_)
               clear hK K
               refine norm_ (a' := ?_) ?_ ?_
               rotate_left
               ·show Act.put _ (some 72) _ = _
                simp only [Act.put, List.setIfInBounds_toArray, List.set_cons_zero, List.set_cons_succ, i64_w, i32_w]
                rfl
               refine one_ (i := 4) (N := some 70) #[true, true, true, true, true, true, true, false, true, true, true, false, false] rfl rfl (one_of HT_.out (by kernel_rfl)) (by decide) (fun K hK => ?_)
               refine Kd.R_append_rows_step (Kd.int .i64) (w0 := w) w.heap.size (by rfl) (.tmp 66) (.tmp 69) 57 3 (.int .i64 0) 8 rfl Try.underlying57 info3 rfl (by decide) (by omega) v197 y196 y199 _ _ _ (fun k_ => some k_ ≠ (.slice (some ad171) x5_1.length co44 : Value).ownBlock ∧ some k_ ≠ (v207 : Value).ownBlock) (fun _ => False) rfl rfl ?aO ?aR (fun _ _ h => h) (fun _ h => h.elim) ?aF ?aB ?aS ?aL ?_
               (case aR => repeat (first | exact (by repeat (first | (with_reducible exact HR202.out) | (with_reducible refine Kd.C_alloc ?_ _) | (with_reducible refine Kd.C_drewN ?_ _) | (with_reducible refine Kd.C_drew ?_) | exact HR202.out)) | (with_reducible refine Kd.C_alloc ?_ _) | (with_reducible refine Kd.C_drewN ?_ _) | (with_reducible refine Kd.C_drew ?_)))
               (case aB => exact (sb))
               (case aF => exact (fun k_ hk => ⟨Kd.fresh' (Kd.R_lt (sr HO_5)) k_ hk, Kd.fresh' (Kd.R_lt (sr HO208)) k_ hk⟩))
               (case aO => exact (by (with_reducible repeat (first | apply Kd.R_alloc | apply Kd.R_drewN | apply Kd.R_drew)); exact Kd.R_mono HO198.out (fun _ hk => ⟨hk.1.2, hk.2⟩)))
               (case aS => exact (below_size (sb)))
               (case aL => have := LMc39.out; omega)
               intro v204 w52 ho hb hg hat
               rw [← Ny203.out] at ho
               replace HO208 := Aside0.mk (Kd.R_after (ok := (fun k_ => some k_ ≠ (.slice (some ad171) x5_1.length co44 : Value).ownBlock)) (by (with_reducible repeat (first | apply Kd.R_alloc | apply Kd.R_drewN | apply Kd.R_drew)); exact Kd.R_mono HO208.out (fun _ hk => ⟨hk.1.2, hk.2⟩)) hg hat)
               replace HB := Aside0.mk hb
               replace HR202 := Aside0.mk ((show Kd.C (Kd.int .i64) w52 (some ad171) y199.length y199 from by rw [Ny199.out]; exact Kd.C_take (m := (x8_3 : Int).toNat) ((Kd.R_reads' (Kd.R_after (ok := (fun k_ => some k_ ≠ (v207 : Value).ownBlock)) (by (with_reducible repeat (first | apply Kd.R_alloc | apply Kd.R_drewN | apply Kd.R_drew)); exact Kd.R_mono HO_5.out (fun _ hk => ⟨hk.2, hk.1.2⟩)) hg hat)).2.2) KL46.out))
               replace HR215 := Aside0.mk ((show Kd.C (Kd.int .i64) w52 A47 y212.length y212 from by rw [Ny212.out, KA47.out]; exact Kd.C_drop (m := (x8_3 : Int).toNat) (c := co44) ((Kd.R_reads' (Kd.R_after (ok := (fun k_ => some k_ ≠ (v207 : Value).ownBlock)) (by (with_reducible repeat (first | apply Kd.R_alloc | apply Kd.R_drewN | apply Kd.R_drew)); exact Kd.R_mono HO_5.out (fun _ hk => ⟨hk.2, hk.1.2⟩)) hg hat)).2.2) KL47.out ((Kd.R_reads' (Kd.R_after (ok := (fun k_ => some k_ ≠ (v207 : Value).ownBlock)) (by (with_reducible repeat (first | apply Kd.R_alloc | apply Kd.R_drewN | apply Kd.R_drew)); exact Kd.R_mono HO_5.out (fun _ hk => ⟨hk.2, hk.1.2⟩)) hg hat)).2.1)))
               replace HO_5 := Aside0.mk (Kd.R_after (ok := (fun k_ => some k_ ≠ (v207 : Value).ownBlock)) (by (with_reducible repeat (first | apply Kd.R_alloc | apply Kd.R_drewN | apply Kd.R_drew)); exact Kd.R_mono HO_5.out (fun _ hk => ⟨hk.2, hk.1.2⟩)) hg hat)
               have HO205 := Aside0.mk ho
               clear HO198 ho hb hg hat
               refine hK.out _ _ trivial (fun hHeld => ?_)
               clear hK K
               refine norm_ (a' := ?_) ?_ ?_
               rotate_left
               ·show Act.put _ (some 70) _ = _
                simp only [Act.put, List.setIfInBounds_toArray, List.set_cons_zero, List.set_cons_succ, i64_w, i32_w]
                rfl
               exact norm_ (by simp only [putAll, Act.put, List.setIfInBounds_toArray, List.set_cons_zero, List.set_cons_succ]) (hCont (v197, v204, v207) _ ⟨(by (with_reducible repeat (first | apply Kd.R_alloc | apply Kd.R_drewN | apply Kd.R_drew)); exact Kd.R_mono HO205.out (fun _ hk => ⟨hk.2, hk.1⟩)), (by (with_reducible repeat (first | apply Kd.R_alloc | apply Kd.R_drewN | apply Kd.R_drew)); exact Kd.R_mono HO208.out (fun _ hk => ⟨hk.2, hk.1⟩)), (by (with_reducible repeat (first | apply Kd.R_alloc | apply Kd.R_drewN | apply Kd.R_drew)); exact Kd.R_mono HO_5.out (fun _ hk => ⟨hk.2, hk.1⟩)), (sb)⟩)
             ·skip
              refine Kd.R_lit_step (Kd.int .i64) _ 3 ?hg (N := 72) ?hd (xs := ([x7_6] : List Int)) (inner := [.int .i64 x7_6]) (ok := fun _ => True) (okp := fun _ => True) ?hr ?hp (fun _ hk => hk) trivial (Below.refl _ _) (Nat.le_refl _) (by simp) ?_; (case hd => rfl); (case hg => rfl); (case hr => first | (go_simp; done) | (go_simp; rfl)); (case hp => exact (Reps.one (show Kd.M (Kd.int .i64) _ _ _ x7_6 [.int .i64 x7_6] from rfl) (Reps.none _ _)))
              intro v207 w48 ho49 hb hg_ hnew_
              clear hg_ hnew_
              (first | rw [← Ny206.out] at ho49 | (simp only [Int.reduceToNat] at ho49; rw [← Ny206.out] at ho49))
              have HO208 := Aside0.mk (Kd.R_lower (Kd.R_new' ho49 (Kd.R_lt (sr HO_5))) (below_size (sb)))
              replace HO_5 := Aside0.mk (Kd.R_elder' (sr HO_5) (Kd.R_base ho49) hb)
              replace HR202 := Aside0.mk (Kd.C_below (by repeat (first | (with_reducible exact HR202.out) | (with_reducible refine Kd.C_alloc ?_ _) | (with_reducible refine Kd.C_drewN ?_ _) | (with_reducible refine Kd.C_drew ?_) | exact HR202.out)) hb)
              replace HR215 := Aside0.mk (Kd.C_below (by repeat (first | (with_reducible exact HR215.out) | (with_reducible refine Kd.C_alloc ?_ _) | (with_reducible refine Kd.C_drewN ?_ _) | (with_reducible refine Kd.C_drew ?_) | exact HR215.out)) hb)
              replace HB := bs hb
              clear hb ho49
              refine hK.out _ _ trivial (fun hHeld => ?_)
              clear hK K
              refine norm_ (a' := ?_) ?_ ?_
              rotate_left
              ·show Act.put _ (some 72) _ = _
               simp only [Act.put, List.setIfInBounds_toArray, List.set_cons_zero, List.set_cons_succ, i64_w, i32_w]
               rfl
              refine one_ (i := 0) (N := some 66) #[true, true, true, true, false, true, true, false, true, true, true, false, false] rfl rfl (one_of HT_.out (by kernel_rfl)) (by decide) (fun K hK => ?_)
              refine Kd.R_lit_step (Kd.int .i64) _ 3 ?hg (N := 66) ?hd (xs := ([] : List Int)) (inner := []) (ok := fun _ => True) (okp := fun _ => True) ?hr ?hp (fun _ hk => hk) trivial (Below.refl _ _) (Nat.le_refl _) (by simp) ?_; (case hd => rfl); (case hg => rfl); (case hr => first | (go_simp; done) | (go_simp; rfl)); (case hp => exact (Reps.none _ _))
              intro v197 w50 ho51 hb hg_ hnew_
              clear hg_ hnew_
              (first | rw [← Ny196.out] at ho51 | (simp only [Int.reduceToNat] at ho51; rw [← Ny196.out] at ho51))
              have HO198 := Aside0.mk (Kd.R_lower (Kd.R_new' (Kd.R_new' ho51 (Kd.R_lt (sr HO_5))) (Kd.R_lt (sr HO208))) (below_size (sb)))
              replace HO_5 := Aside0.mk (Kd.R_elder' (sr HO_5) (Kd.R_base ho51) hb)
              replace HO208 := Aside0.mk (Kd.R_elder' (sr HO208) (Kd.R_base ho51) hb)
              replace HR202 := Aside0.mk (Kd.C_below (by repeat (first | (with_reducible exact HR202.out) | (with_reducible refine Kd.C_alloc ?_ _) | (with_reducible refine Kd.C_drewN ?_ _) | (with_reducible refine Kd.C_drew ?_) | exact HR202.out)) hb)
              replace HR215 := Aside0.mk (Kd.C_below (by repeat (first | (with_reducible exact HR215.out) | (with_reducible refine Kd.C_alloc ?_ _) | (with_reducible refine Kd.C_drewN ?_ _) | (with_reducible refine Kd.C_drew ?_) | exact HR215.out)) hb)
              replace HB := bs hb
              clear hb ho51
              refine hK.out _ _ trivial (fun hHeld => ?_)
              clear hK K
              refine norm_ (a' := ?_) ?_ ?_
              rotate_left
              ·show Act.put _ (some 66) _ = _
               simp only [Act.put, List.setIfInBounds_toArray, List.set_cons_zero, List.set_cons_succ, i64_w, i32_w]
               rfl
              refine one_ (i := 4) (N := some 70) #[true, true, true, true, true, true, true, false, true, true, true, false, false] rfl rfl (one_of HT_.out (by kernel_rfl)) (by decide) (fun K hK => ?_)
              refine Kd.R_append_rows_step (Kd.int .i64) (w0 := w) w.heap.size (by rfl) (.tmp 66) (.tmp 69) 57 3 (.int .i64 0) 8 rfl Try.underlying57 info3 rfl (by decide) (by omega) v197 y196 y199 _ _ _ (fun k_ => some k_ ≠ (.slice (some ad171) x5_1.length co44 : Value).ownBlock ∧ some k_ ≠ (v207 : Value).ownBlock) (fun _ => False) rfl rfl ?aO ?aR (fun _ _ h => h) (fun _ h => h.elim) ?aF ?aB ?aS ?aL ?_
              (case aR => repeat (first | exact (by repeat (first | (with_reducible exact HR202.out) | (with_reducible refine Kd.C_alloc ?_ _) | (with_reducible refine Kd.C_drewN ?_ _) | (with_reducible refine Kd.C_drew ?_) | exact HR202.out)) | (with_reducible refine Kd.C_alloc ?_ _) | (with_reducible refine Kd.C_drewN ?_ _) | (with_reducible refine Kd.C_drew ?_)))
              (case aB => exact (sb))
              (case aF => exact (fun k_ hk => ⟨Kd.fresh' (Kd.R_lt (sr HO_5)) k_ hk, Kd.fresh' (Kd.R_lt (sr HO208)) k_ hk⟩))
              (case aO => exact (by (with_reducible repeat (first | apply Kd.R_alloc | apply Kd.R_drewN | apply Kd.R_drew)); exact Kd.R_mono HO198.out (fun _ hk => ⟨hk.1.2, hk.2⟩)))
              (case aS => exact (below_size (sb)))
              (case aL => have := LMc39.out; omega)
              intro v204 w52 ho hb hg hat
              rw [← Ny203.out] at ho
              replace HO208 := Aside0.mk (Kd.R_after (ok := (fun k_ => some k_ ≠ (.slice (some ad171) x5_1.length co44 : Value).ownBlock)) (by (with_reducible repeat (first | apply Kd.R_alloc | apply Kd.R_drewN | apply Kd.R_drew)); exact Kd.R_mono HO208.out (fun _ hk => ⟨hk.1.2, hk.2⟩)) hg hat)
              replace HB := Aside0.mk hb
              replace HR202 := Aside0.mk ((show Kd.C (Kd.int .i64) w52 (some ad171) y199.length y199 from by rw [Ny199.out]; exact Kd.C_take (m := (x8_3 : Int).toNat) ((Kd.R_reads' (Kd.R_after (ok := (fun k_ => some k_ ≠ (v207 : Value).ownBlock)) (by (with_reducible repeat (first | apply Kd.R_alloc | apply Kd.R_drewN | apply Kd.R_drew)); exact Kd.R_mono HO_5.out (fun _ hk => ⟨hk.1.2, hk.2⟩)) hg hat)).2.2) KL46.out))
              replace HR215 := Aside0.mk ((show Kd.C (Kd.int .i64) w52 A47 y212.length y212 from by rw [Ny212.out, KA47.out]; exact Kd.C_drop (m := (x8_3 : Int).toNat) (c := co44) ((Kd.R_reads' (Kd.R_after (ok := (fun k_ => some k_ ≠ (v207 : Value).ownBlock)) (by (with_reducible repeat (first | apply Kd.R_alloc | apply Kd.R_drewN | apply Kd.R_drew)); exact Kd.R_mono HO_5.out (fun _ hk => ⟨hk.1.2, hk.2⟩)) hg hat)).2.2) KL47.out ((Kd.R_reads' (Kd.R_after (ok := (fun k_ => some k_ ≠ (v207 : Value).ownBlock)) (by (with_reducible repeat (first | apply Kd.R_alloc | apply Kd.R_drewN | apply Kd.R_drew)); exact Kd.R_mono HO_5.out (fun _ hk => ⟨hk.1.2, hk.2⟩)) hg hat)).2.1)))
              replace HO_5 := Aside0.mk (Kd.R_after (ok := (fun k_ => some k_ ≠ (v207 : Value).ownBlock)) (by (with_reducible repeat (first | apply Kd.R_alloc | apply Kd.R_drewN | apply Kd.R_drew)); exact Kd.R_mono HO_5.out (fun _ hk => ⟨hk.1.2, hk.2⟩)) hg hat)
              have HO205 := Aside0.mk ho
              clear HO198 ho hb hg hat
              refine hK.out _ _ trivial (fun hHeld => ?_)
              clear hK K
              refine norm_ (a' := ?_) ?_ ?_
              rotate_left
              ·show Act.put _ (some 70) _ = _
               simp only [Act.put, List.setIfInBounds_toArray, List.set_cons_zero, List.set_cons_succ, i64_w, i32_w]
               rfl
              exact norm_ (by simp only [putAll, Act.put, List.setIfInBounds_toArray, List.set_cons_zero, List.set_cons_succ]) (hCont (v197, v204, v207) _ ⟨(by (with_reducible repeat (first | apply Kd.R_alloc | apply Kd.R_drewN | apply Kd.R_drew)); exact Kd.R_mono HO205.out (fun _ hk => ⟨hk.2, hk.1⟩)), (by (with_reducible repeat (first | apply Kd.R_alloc | apply Kd.R_drewN | apply Kd.R_drew)); exact Kd.R_mono HO208.out (fun _ hk => ⟨hk.2, hk.1⟩)), (by (with_reducible repeat (first | apply Kd.R_alloc | apply Kd.R_drewN | apply Kd.R_drew)); exact Kd.R_mono HO_5.out (fun _ hk => ⟨hk.2, hk.1⟩)), (sb)⟩)
            rintro ⟨v197, v204, v207⟩ w53 ⟨h0_, h1_, h2_, h3_⟩
            have HO205 : Aside0 (Kd.R (Kd.int .i64) 3 w53 w.heap.size (fun k_ => some k_ ≠ (v207 : Value).ownBlock ∧ some k_ ≠ (.slice (some ad171) x5_1.length co44 : Value).ownBlock) v204 y203) := ⟨h0_⟩
            have HO208 : Aside0 (Kd.R (Kd.int .i64) 3 w53 w.heap.size (fun k_ => some k_ ≠ (v204 : Value).ownBlock ∧ some k_ ≠ (.slice (some ad171) x5_1.length co44 : Value).ownBlock) v207 y206) := ⟨h1_⟩
            replace HO_5 : Aside0 (Kd.R (Kd.int .i64) 3 w53 w.heap.size (fun k_ => some k_ ≠ (v204 : Value).ownBlock ∧ some k_ ≠ (v207 : Value).ownBlock) (.slice (some ad171) x5_1.length co44) x5_1) := ⟨h2_⟩
            replace HB : Aside0 (Below w.heap.size w w53) := ⟨h3_⟩
            clear h0_ h1_ h2_ h3_
            have hHeld := trivial
            obtain ⟨Ao55, co55, eo55⟩ := Kd.R_slice HO208.out
            (first | subst eo55 | (injection eo55 with f1_ f2_ f3_; have f4_ := f1_.symm; have f5_ := f3_.symm; clear f1_ f2_ f3_; subst f4_; subst f5_))
            refine norm_ (a' := ?_) ?_ ?_
            rotate_left
            ·simp only [putAll, Act.put, List.setIfInBounds_toArray, List.set_cons_zero, List.set_cons_succ]
             rfl
            refine one_ (i := 7) (N := some 73) #[true, true, true, true, true, true, true, true, true, true, true, false, false] rfl rfl (one_of HT_.out (by kernel_rfl)) (by decide) (fun K hK => ?_)
            refine Kd.R_append_rows_step (Kd.int .i64) (w0 := w) w.heap.size (by rfl) (.tmp 70) (.tmp 72) 57 3 (.int .i64 0) 8 rfl Try.underlying57 info3 rfl (by decide) (by omega) v204 y203 y206 _ _ _ (fun k_ => some k_ ≠ (.slice (some ad171) x5_1.length co44 : Value).ownBlock ∧ some k_ ≠ (.slice Ao55 y206.length co55 : Value).ownBlock) (fun _ => False) rfl rfl ?aO ?aR (fun _ _ h => h) (fun _ h => h.elim) ?aF ?aB ?aS ?aL ?_
            (case aR => repeat (first | exact (Kd.R_reads' HO208.out).2.2 | (with_reducible refine Kd.C_alloc ?_ _) | (with_reducible refine Kd.C_drewN ?_ _) | (with_reducible refine Kd.C_drew ?_)))
            (case aB => exact (sb))
            (case aF => exact (fun k_ hk => ⟨Kd.fresh' (Kd.R_lt (sr HO_5)) k_ hk, Kd.fresh' (Kd.R_lt (sr HO208)) k_ hk⟩))
            (case aO => exact (by (with_reducible repeat (first | apply Kd.R_alloc | apply Kd.R_drewN | apply Kd.R_drew)); exact Kd.R_mono HO205.out (fun _ hk => ⟨hk.2, hk.1⟩)))
            (case aS => exact (below_size (sb)))
            (case aL => have := LMc40.out; omega)
            intro v210 w54 ho hb hg hat
            rw [← Ny209.out] at ho
            replace HO_5 := Aside0.mk (Kd.R_after (ok := (fun k_ => some k_ ≠ (.slice Ao55 y206.length co55 : Value).ownBlock)) (by (with_reducible repeat (first | apply Kd.R_alloc | apply Kd.R_drewN | apply Kd.R_drew)); exact Kd.R_mono HO_5.out (fun _ hk => ⟨hk.2, hk.1⟩)) hg hat)
            replace HO208 := Aside0.mk (Kd.R_after (ok := (fun k_ => some k_ ≠ (.slice (some ad171) x5_1.length co44 : Value).ownBlock)) (by (with_reducible repeat (first | apply Kd.R_alloc | apply Kd.R_drewN | apply Kd.R_drew)); exact Kd.R_mono HO208.out (fun _ hk => ⟨hk.2, hk.1⟩)) hg hat)
            replace HB := Aside0.mk hb
            have HO211 := Aside0.mk ho
            clear HO205 ho hb hg hat
            refine hK.out _ _ trivial (fun hHeld => ?_)
            clear hK K
            refine norm_ (a' := ?_) ?_ ?_
            rotate_left
            ·show Act.put _ (some 73) _ = _
             simp only [Act.put, List.setIfInBounds_toArray, List.set_cons_zero, List.set_cons_succ, i64_w, i32_w]
             rfl
            refine one_ (i := 11) (N := some 77) #[true, true, true, true, true, true, true, true, true, true, true, true, false] rfl rfl (one_of HT_.out (by kernel_rfl)) (by decide) (fun K hK => ?_)
            refine Kd.R_append_rows_step (Kd.int .i64) (w0 := w) w.heap.size (by rfl) (.tmp 73) (.tmp 76) 57 3 (.int .i64 0) 8 rfl Try.underlying57 info3 rfl (by decide) (by omega) v210 y209 y212 _ _ _ (fun k_ => some k_ ≠ (.slice (some ad171) x5_1.length co44 : Value).ownBlock ∧ some k_ ≠ (.slice Ao55 y206.length co55 : Value).ownBlock) (fun _ => False) rfl rfl ?aO ?aR (fun _ _ h => h) (fun _ h => h.elim) ?aF ?aB ?aS ?aL ?_
            (case aR => exact (show Kd.C (Kd.int .i64) _ A47 y212.length y212 from by rw [Ny212.out, KA47.out]; exact Kd.C_drop (m := (x8_3 : Int).toNat) (c := co44) ((Kd.R_reads' (sr HO_5)).2.2) KL47.out ((Kd.R_reads' HO_5.out).2.1)))
            (case aB => exact (sb))
            (case aF => exact (fun k_ hk => ⟨Kd.fresh' (Kd.R_lt (sr HO_5)) k_ hk, Kd.fresh' (Kd.R_lt (sr HO208)) k_ hk⟩))
            (case aO => exact (sr HO211))
            (case aS => exact (below_size (sb)))
            (case aL => have := LMc43.out; omega)
            intro v217 w56 ho hb hg hat
            rw [← Ny216.out] at ho
            replace HO_5 := Aside0.mk (Kd.R_after (ok := (fun k_ => some k_ ≠ (.slice Ao55 y206.length co55 : Value).ownBlock)) (sr HO_5) hg hat)
            replace HO208 := Aside0.mk (Kd.R_after (ok := (fun k_ => some k_ ≠ (.slice (some ad171) x5_1.length co44 : Value).ownBlock)) (sr HO208) hg hat)
            replace HB := Aside0.mk hb
            have HO218 := Aside0.mk ho
            clear HO211 ho hb hg hat
            refine hK.out _ _ trivial (fun hHeld => ?_)
            clear hK K
            refine norm_ (a' := ?_) ?_ ?_
            rotate_left
            ·show Act.put _ (some 77) _ = _
             simp only [Act.put, List.setIfInBounds_toArray, List.set_cons_zero, List.set_cons_succ, i64_w, i32_w]
             rfl
            refine put 12 5 #[true, true, true, true, true, true, true, true, true, true, true, true, true] HT_ ?_
            refine done_ (done_of HT_.out (by kernel_rfl)) ?_
            try go_wp2
            go_roundg k3
            case measure => have := HK1.out; have := HJ6.out; have := HK3.out; omega
            case rel => exact ⟨(y216), (wrap64 (x6_1 + 1)), sc, H', ⟨by have := HK1.out; have := HJ6.out; have := HK3.out; omega⟩, ⟨by (with_reducible repeat (first | apply Kd.R_alloc | apply Kd.R_drewN | apply Kd.R_drew)); exact Kd.R_mono HO218.out (fun _ hk => trivial)⟩, ⟨sb⟩⟩
        ·have c10b0 := decide_eq_false c10
         clear c10
         obtain ⟨c57, H⟩ | ⟨c57, H⟩ := ie_ H
         ·have c57b0 : (x8_3 == (x5_1.length : Int)) = true := beq_iff_eq.mpr c57
          have c57b1 : (x8_3 != (x5_1.length : Int)) = false := bne_eq_false_iff_eq.mpr c57
          clear c57
          obtain ⟨y219, hy219⟩ : ∃ y_ : List Int, y_ = (([] : List Int)) := ⟨_, rfl⟩
          replace H : (if 0 ≤ x8_3 then (if x8_3 ≤ (x5_1.length : Int) then ((some (x5_1.take (x8_3 : Int).toNat : List Int)).bind fun y222 => (if y219.length + y222.length < 17592186044416 then ((some (y219 ++ y222 : List Int)).bind fun y226 => ((some (([x7_6] : List Int) : List Int)).bind fun y229 => (if y226.length + y229.length < 17592186044416 then ((some (y226 ++ y229 : List Int)).bind fun y232 => ((some (x5_1.drop (x8_3 : Int).toNat : List Int)).bind fun y235 => (if y232.length + y235.length < 17592186044416 then (spec_NeighborsIn.l0 k3 l0 a1 (y232 ++ y235) (wrap64 (x6_1 + 1))) else (none)))) else (none)))) else (none))) else (none)) else (none)) = some r := by first | (rw [hy219]; with_reducible exact H) | (have H2_ := (Option.bind_some _ _).symm.trans H; rw [hy219]; with_reducible exact H2_) | (have H2_ := (Option.bind_some _ _).symm.trans H; with_reducible exact H2_) | with_reducible exact H | (rw [hy219]; exact H) | exact H
          have Ny219 := Aside0.mk hy219
          clear hy219
          obtain ⟨c58, H⟩ := ia_ H
          have c58b0 := eq_true c58
          have c58b1 := decide_eq_true c58
          clear c58
          obtain ⟨c59, H⟩ := ia_ H
          have c59b0 := eq_true c59
          have c59b1 := decide_eq_true c59
          clear c59
          obtain ⟨y222, hy222⟩ : ∃ y_ : List Int, y_ = (x5_1.take (x8_3 : Int).toNat) := ⟨_, rfl⟩
          replace H : (if y219.length + y222.length < 17592186044416 then ((some (y219 ++ y222 : List Int)).bind fun y226 => ((some (([x7_6] : List Int) : List Int)).bind fun y229 => (if y226.length + y229.length < 17592186044416 then ((some (y226 ++ y229 : List Int)).bind fun y232 => ((some (x5_1.drop (x8_3 : Int).toNat : List Int)).bind fun y235 => (if y232.length + y235.length < 17592186044416 then (spec_NeighborsIn.l0 k3 l0 a1 (y232 ++ y235) (wrap64 (x6_1 + 1))) else (none)))) else (none)))) else (none)) = some r := by first | (rw [hy222]; with_reducible exact H) | (have H2_ := (Option.bind_some _ _).symm.trans H; rw [hy222]; with_reducible exact H2_) | (have H2_ := (Option.bind_some _ _).symm.trans H; with_reducible exact H2_) | with_reducible exact H | (rw [hy222]; exact H) | exact H
          have Ny222 := Aside0.mk hy222
          clear hy222
          obtain ⟨LMc60, H⟩ := il_ H
          obtain ⟨y226, hy226⟩ : ∃ y_ : List Int, y_ = (y219 ++ y222) := ⟨_, rfl⟩
          replace H : ((some (([x7_6] : List Int) : List Int)).bind fun y229 => (if y226.length + y229.length < 17592186044416 then ((some (y226 ++ y229 : List Int)).bind fun y232 => ((some (x5_1.drop (x8_3 : Int).toNat : List Int)).bind fun y235 => (if y232.length + y235.length < 17592186044416 then (spec_NeighborsIn.l0 k3 l0 a1 (y232 ++ y235) (wrap64 (x6_1 + 1))) else (none)))) else (none))) = some r := by first | (rw [hy226]; with_reducible exact H) | (have H2_ := (Option.bind_some _ _).symm.trans H; rw [hy226]; with_reducible exact H2_) | (have H2_ := (Option.bind_some _ _).symm.trans H; with_reducible exact H2_) | with_reducible exact H | (rw [hy226]; exact H) | exact H
          have Ny226 := Aside0.mk hy226
          clear hy226
          obtain ⟨y229, hy229⟩ : ∃ y_ : List Int, y_ = (([x7_6] : List Int)) := ⟨_, rfl⟩
          replace H : (if y226.length + y229.length < 17592186044416 then ((some (y226 ++ y229 : List Int)).bind fun y232 => ((some (x5_1.drop (x8_3 : Int).toNat : List Int)).bind fun y235 => (if y232.length + y235.length < 17592186044416 then (spec_NeighborsIn.l0 k3 l0 a1 (y232 ++ y235) (wrap64 (x6_1 + 1))) else (none)))) else (none)) = some r := by first | (rw [hy229]; with_reducible exact H) | (have H2_ := (Option.bind_some _ _).symm.trans H; rw [hy229]; with_reducible exact H2_) | (have H2_ := (Option.bind_some _ _).symm.trans H; with_reducible exact H2_) | with_reducible exact H | (rw [hy229]; exact H) | exact H
          have Ny229 := Aside0.mk hy229
          clear hy229
          obtain ⟨LMc61, H⟩ := il_ H
          obtain ⟨y232, hy232⟩ : ∃ y_ : List Int, y_ = (y226 ++ y229) := ⟨_, rfl⟩
          replace H : ((some (x5_1.drop (x8_3 : Int).toNat : List Int)).bind fun y235 => (if y232.length + y235.length < 17592186044416 then (spec_NeighborsIn.l0 k3 l0 a1 (y232 ++ y235) (wrap64 (x6_1 + 1))) else (none))) = some r := by first | (rw [hy232]; with_reducible exact H) | (have H2_ := (Option.bind_some _ _).symm.trans H; rw [hy232]; with_reducible exact H2_) | (have H2_ := (Option.bind_some _ _).symm.trans H; with_reducible exact H2_) | with_reducible exact H | (rw [hy232]; exact H) | exact H
          have Ny232 := Aside0.mk hy232
          clear hy232
          have c62b0 := eq_true (sa : 0 ≤ x8_3)
          have c63b0 := eq_true (sa : x8_3 ≤ (x5_1.length : Int))
          obtain ⟨y235, hy235⟩ : ∃ y_ : List Int, y_ = (x5_1.drop (x8_3 : Int).toNat) := ⟨_, rfl⟩
          replace H : (if y232.length + y235.length < 17592186044416 then (spec_NeighborsIn.l0 k3 l0 a1 (y232 ++ y235) (wrap64 (x6_1 + 1))) else (none)) = some r := by first | (rw [hy235]; with_reducible exact H) | (have H2_ := (Option.bind_some _ _).symm.trans H; rw [hy235]; with_reducible exact H2_) | (have H2_ := (Option.bind_some _ _).symm.trans H; with_reducible exact H2_) | with_reducible exact H | (rw [hy235]; exact H) | exact H
          have Ny235 := Aside0.mk hy235
          clear hy235
          obtain ⟨LMc64, H⟩ := il_ H
          obtain ⟨y239, hy239⟩ : ∃ y_ : List Int, y_ = (y232 ++ y235) := ⟨_, rfl⟩
          replace H : (spec_NeighborsIn.l0 k3 l0 a1 y239 (wrap64 (x6_1 + 1))) = some r := by first | (rw [hy239]; with_reducible exact H) | (have H2_ := (Option.bind_some _ _).symm.trans H; rw [hy239]; with_reducible exact H2_) | (have H2_ := (Option.bind_some _ _).symm.trans H; with_reducible exact H2_) | with_reducible exact H | (rw [hy239]; exact H) | exact H
          have Ny239 := Aside0.mk hy239
          clear hy239
          have H' := Aside0.mk H
          clear H
          obtain ⟨Ao65, co65, eo65⟩ := Kd.R_slice HO_5.out
          subst eo65
          try go_wp2
          replace HO_5 := Aside0.mk (Kd.R_drew HO_5.out)
          replace HB := Aside0.mk (below_drew1 HB.out)
          have q67 : (x8_3 : Int) ≤ ((x5_1.length : Int) : Int) := sa
          obtain ⟨i067, hi067, _, hsz67, _⟩ := info_parts info3
          have hroom67 : x5_1.length ≤ co65 := (Kd.R_reads' HO_5.out).2.1
          have hC67 : Kd.C (Kd.int .i64) _ Ao65 x5_1.length x5_1 := (Kd.R_reads' HO_5.out).2.2
          have hcut67 := cut_to (P := Try.prog) 57 3 .i64 Try.underlying57 hi067 Ao65 x5_1.length co65 x8_3 (sa) q67 hroom67
          have hr67 := Kd.C_take (m := (x8_3 : Int).toNat) hC67 (by omega)
          have hy67 : y222.length = (x8_3 : Int).toNat := (by rw [Ny222.out, List.length_take]; omega)
          rw [← Ny222.out] at hr67
          rw [← hy67] at hcut67
          have HR225 := Aside0.mk hr67
          have HC225 := Aside0.mk (show y222.length ≤ co65 from by omega)
          clear hr67 hC67 hroom67 hi067 hsz67
          have KY67 := Aside0.mk hy67
          clear hy67
          have KL67 := Aside0.mk (show (x8_3 : Int).toNat ≤ x5_1.length from by omega)
          replace q67 := eq_true q67
          have q68 : (x8_3 : Int) ≤ ((x5_1.length : Int) : Int) := sa
          obtain ⟨i068, hi068, _, hsz68, _⟩ := info_parts info3
          have hroom68 : x5_1.length ≤ co65 := (Kd.R_reads' HO_5.out).2.1
          have hC68 : Kd.C (Kd.int .i64) _ Ao65 x5_1.length x5_1 := (Kd.R_reads' HO_5.out).2.2
          have q068 : (0 : Int) ≤ (x8_3 : Int) := sa
          have hcut68 := cut_from (P := Try.prog) 57 3 .i64 Try.underlying57 hi068 1 hsz68 Ao65 x5_1.length co65 x8_3 q068 q68
          have hr68 := Kd.C_drop (m := (x8_3 : Int).toNat) (c := co65) hC68 (by omega) hroom68
          obtain ⟨A68, hA68⟩ : ∃ A1, A1 = (if co65 = (x8_3 : Int).toNat then Ao65 else (Ao65 : Option Addr).map (·.add ((x8_3 : Int).toNat * 1))) := ⟨_, rfl⟩
          obtain ⟨c68, hc68⟩ : ∃ c1, c1 = co65 - (x8_3 : Int).toNat := ⟨_, rfl⟩
          have hy68 : y235.length = x5_1.length - (x8_3 : Int).toNat := (by rw [Ny235.out, List.length_drop] <;> omega)
          rw [show (x5_1).drop (x8_3 : Int).toNat = y235 from Ny235.out.symm] at hr68
          replace hr68 : Kd.C (Kd.int .i64) _ A68 y235.length y235 := (by rw [hA68]; exact hr68)
          rw [← hy68, ← hA68, ← hc68] at hcut68
          have HR238 := Aside0.mk hr68
          have HC238 := Aside0.mk (show y235.length ≤ c68 from by rw [hy68, hc68]; exact Nat.sub_le_sub_right hroom68 _)
          clear hr68 hC68 hroom68 hi068 hsz68 hc68
          have KY68 := Aside0.mk hy68
          have KA68 := Aside0.mk hA68
          clear hy68 hA68
          have KL68 := Aside0.mk (show (x8_3 : Int).toNat ≤ x5_1.length from by omega)
          replace q68 := eq_true q68
          refine start_ (n := 13) (S := fun w' => True) (ds := []) #[false, false, false, false, false, false, false, false, false, false, false, false, false] (by kernel_rfl) rfl rfl trivial (fun hHeld => ?_); refine with_tabW spec_NeighborsIn.tab14 spec_NeighborsIn.bits14 (fun HT_ HW_ => ?_)
          generalize wr.drew = w66 at HO_5 HB HR225 HR238 hHeld ⊢
          refine put 1 67 #[false, true, false, false, false, false, false, false, false, false, false, false, false] HT_ ?_
          refine put 2 68 #[false, true, true, false, false, false, false, false, false, false, false, false, false] HT_ ?_
          refine put 3 69 #[false, true, true, true, false, false, false, false, false, false, false, false, false] HT_ ?_
          refine put 5 71 #[false, true, true, true, false, true, false, false, false, false, false, false, false] HT_ ?_
          refine put 8 74 #[false, true, true, true, false, true, false, false, true, false, false, false, false] HT_ ?_
          refine put 9 75 #[false, true, true, true, false, true, false, false, true, true, false, false, false] HT_ ?_
          refine put 10 76 #[false, true, true, true, false, true, false, false, true, true, true, false, false] HT_ ?_
          refine join_ (σ := Value × Value × Value) 3 #[true, true, true, true, true, true, true, false, true, true, true, false, false] (fun s_ => [(66, s_.1), (70, s_.2.1), (72, s_.2.2)]) (fun s_ w' => (Kd.R (Kd.int .i64) 3 w' w.heap.size (fun k_ => some k_ ≠ (s_.2.2 : Value).ownBlock ∧ some k_ ≠ (.slice Ao65 x5_1.length co65 : Value).ownBlock) s_.2.1 y226) ∧ (Kd.R (Kd.int .i64) 3 w' w.heap.size (fun k_ => some k_ ≠ (s_.2.1 : Value).ownBlock ∧ some k_ ≠ (.slice Ao65 x5_1.length co65 : Value).ownBlock) s_.2.2 y229) ∧ (Kd.R (Kd.int .i64) 3 w' w.heap.size (fun k_ => some k_ ≠ (s_.2.1 : Value).ownBlock ∧ some k_ ≠ (s_.2.2 : Value).ownBlock) (.slice Ao65 x5_1.length co65) x5_1) ∧ (Below w.heap.size w w')) ?_ ?_
          rotate_left
          ·intro hCont
           refine two_ (i := 0) (j := 6) (Ni := some 66) (Nj := some 72) #[true, true, true, true, false, true, false, false, true, true, true, false, false] #[false, true, true, true, false, true, true, false, true, true, true, false, false] rfl rfl rfl rfl (two_of HT_.out (by kernel_rfl)) (by decide) (by decide) (fun K hK => ?_) (fun K hK => ?_)
           ·skip
            refine Kd.R_lit_step (Kd.int .i64) _ 3 ?hg (N := 66) ?hd (xs := ([] : List Int)) (inner := []) (ok := fun _ => True) (okp := fun _ => True) ?hr ?hp (fun _ hk => hk) trivial (Below.refl _ _) (Nat.le_refl _) (by simp) ?_; (case hd => rfl); (case hg => rfl); (case hr => first | (go_simp; done) | (go_simp; rfl)); (case hp => exact (Reps.none _ _))
            intro v220 w69 ho70 hb hg_ hnew_
            clear hg_ hnew_
            (first | rw [← Ny219.out] at ho70 | (simp only [Int.reduceToNat] at ho70; rw [← Ny219.out] at ho70))
            have HO221 := Aside0.mk (Kd.R_lower (Kd.R_new' ho70 (Kd.R_lt (sr HO_5))) (below_size (sb)))
            replace HO_5 := Aside0.mk (Kd.R_elder' (sr HO_5) (Kd.R_base ho70) hb)
            replace HR225 := Aside0.mk (Kd.C_below (by repeat (first | (with_reducible exact HR225.out) | (with_reducible refine Kd.C_alloc ?_ _) | (with_reducible refine Kd.C_drewN ?_ _) | (with_reducible refine Kd.C_drew ?_) | exact HR225.out)) hb)
            replace HR238 := Aside0.mk (Kd.C_below (by repeat (first | (with_reducible exact HR238.out) | (with_reducible refine Kd.C_alloc ?_ _) | (with_reducible refine Kd.C_drewN ?_ _) | (with_reducible refine Kd.C_drew ?_) | exact HR238.out)) hb)
            replace HB := bs hb
            clear hb ho70
            refine hK.out _ _ trivial (fun hHeld => ?_)
            clear hK K
            refine norm_ (a' := ?_) ?_ ?_
            rotate_left
            ·show Act.put _ (some 66) _ = _
             simp only [Act.put, List.setIfInBounds_toArray, List.set_cons_zero, List.set_cons_succ, i64_w, i32_w]
             rfl
            refine two_ (i := 4) (j := 6) (Ni := some 70) (Nj := some 72) #[true, true, true, true, true, true, false, false, true, true, true, false, false] #[true, true, true, true, false, true, true, false, true, true, true, false, false] rfl rfl rfl rfl (two_of HT_.out (by kernel_rfl)) (by decide) (by decide) (fun K hK => ?_) (fun K hK => ?_)
            ·skip
             refine Kd.R_append_rows_step (Kd.int .i64) (w0 := w) w.heap.size (by rfl) (.tmp 66) (.tmp 69) 57 3 (.int .i64 0) 8 rfl Try.underlying57 info3 rfl (by decide) (by omega) v220 y219 y222 _ _ _ (fun k_ => some k_ ≠ (.slice Ao65 x5_1.length co65 : Value).ownBlock) (fun _ => False) rfl rfl ?aO ?aR (fun _ _ h => h) (fun _ h => h.elim) ?aF ?aB ?aS ?aL ?_
             (case aR => repeat (first | exact (by repeat (first | (with_reducible exact HR225.out) | (with_reducible refine Kd.C_alloc ?_ _) | (with_reducible refine Kd.C_drewN ?_ _) | (with_reducible refine Kd.C_drew ?_) | exact HR225.out)) | (with_reducible refine Kd.C_alloc ?_ _) | (with_reducible refine Kd.C_drewN ?_ _) | (with_reducible refine Kd.C_drew ?_)))
             (case aB => exact (sb))
             (case aF => exact (fun k_ hk => Kd.fresh' (Kd.R_lt (sr HO_5)) k_ hk))
             (case aO => exact (by (with_reducible repeat (first | apply Kd.R_alloc | apply Kd.R_drewN | apply Kd.R_drew)); exact Kd.R_mono HO221.out (fun _ hk => hk.2)))
             (case aS => exact (below_size (sb)))
             (case aL => have := LMc60.out; omega)
             intro v227 w71 ho hb hg hat
             rw [← Ny226.out] at ho
             replace HB := Aside0.mk hb
             replace HR225 := Aside0.mk ((show Kd.C (Kd.int .i64) w71 Ao65 y222.length y222 from by rw [Ny222.out]; exact Kd.C_take (m := (x8_3 : Int).toNat) ((Kd.R_reads' (Kd.R_after (ok := (fun _ => True)) (sr HO_5) hg hat)).2.2) KL67.out))
             replace HR238 := Aside0.mk ((show Kd.C (Kd.int .i64) w71 A68 y235.length y235 from by rw [Ny235.out, KA68.out]; exact Kd.C_drop (m := (x8_3 : Int).toNat) (c := co65) ((Kd.R_reads' (Kd.R_after (ok := (fun _ => True)) (sr HO_5) hg hat)).2.2) KL68.out ((Kd.R_reads' (Kd.R_after (ok := (fun _ => True)) (sr HO_5) hg hat)).2.1)))
             replace HO_5 := Aside0.mk (Kd.R_after (ok := (fun _ => True)) (sr HO_5) hg hat)
             have HO228 := Aside0.mk ho
             clear HO221 ho hb hg hat
             refine hK.out _ _ trivial (fun hHeld => ?_)
             clear hK K
             refine norm_ (a' := ?_) ?_ ?_
             rotate_left
             ·show Act.put _ (some 70) _ = _
              simp only [Act.put, List.setIfInBounds_toArray, List.set_cons_zero, List.set_cons_succ, i64_w, i32_w]
              rfl
             refine one_ (i := 6) (N := some 72) #[true, true, true, true, true, true, true, false, true, true, true, false, false] rfl rfl (one_of HT_.out (by kernel_rfl)) (by decide) (fun K hK => ?_)
             refine Kd.R_lit_step (Kd.int .i64) _ 3 ?hg (N := 72) ?hd (xs := ([x7_6] : List Int)) (inner := [.int .i64 x7_6]) (ok := fun _ => True) (okp := fun _ => True) ?hr ?hp (fun _ hk => hk) trivial (Below.refl _ _) (Nat.le_refl _) (by simp) ?_; (case hd => rfl); (case hg => rfl); (case hr => first | (go_simp; done) | (go_simp; rfl)); (case hp => exact (Reps.one (show Kd.M (Kd.int .i64) _ _ _ x7_6 [.int .i64 x7_6] from rfl) (Reps.none _ _)))
             intro v230 w72 ho73 hb hg_ hnew_
             clear hg_ hnew_
             (first | rw [← Ny229.out] at ho73 | (simp only [Int.reduceToNat] at ho73; rw [← Ny229.out] at ho73))
             have HO231 := Aside0.mk (Kd.R_lower (Kd.R_new' (Kd.R_new' ho73 (Kd.R_lt (sr HO_5))) (Kd.R_lt (sr HO228))) (below_size (sb)))
             replace HO_5 := Aside0.mk (Kd.R_elder' (sr HO_5) (Kd.R_base ho73) hb)
             replace HO228 := Aside0.mk (Kd.R_elder' (sr HO228) (Kd.R_base ho73) hb)
             replace HR225 := Aside0.mk (Kd.C_below (by repeat (first | (with_reducible exact HR225.out) | (with_reducible refine Kd.C_alloc ?_ _) | (with_reducible refine Kd.C_drewN ?_ _) | (with_reducible refine Kd.C_drew ?_) | exact HR225.out)) hb)
             replace HR238 := Aside0.mk (Kd.C_below (by repeat (first | (with_reducible exact HR238.out) | (with_reducible refine Kd.C_alloc ?_ _) | (with_reducible refine Kd.C_drewN ?_ _) | (with_reducible refine Kd.C_drew ?_) | exact HR238.out)) hb)
             replace HB := bs hb
             clear hb ho73
             refine hK.out _ _ trivial (fun hHeld => ?_)
             clear hK K
             refine norm_ (a' := ?_) ?_ ?_
             rotate_left
             ·show Act.put _ (some 72) _ = _
              simp only [Act.put, List.setIfInBounds_toArray, List.set_cons_zero, List.set_cons_succ, i64_w, i32_w]
              rfl
             exact norm_ (by simp only [putAll, Act.put, List.setIfInBounds_toArray, List.set_cons_zero, List.set_cons_succ]) (hCont (v220, v227, v230) _ ⟨(by (with_reducible repeat (first | apply Kd.R_alloc | apply Kd.R_drewN | apply Kd.R_drew)); exact Kd.R_mono HO228.out (fun _ hk => ⟨hk.2, hk.1⟩)), (by (with_reducible repeat (first | apply Kd.R_alloc | apply Kd.R_drewN | apply Kd.R_drew)); exact Kd.R_mono HO231.out (fun _ hk => ⟨hk.2, hk.1.2⟩)), (by (with_reducible repeat (first | apply Kd.R_alloc | apply Kd.R_drewN | apply Kd.R_drew)); exact Kd.R_mono HO_5.out (fun _ hk => ⟨hk.1.2, hk.2⟩)), (sb)⟩)
            ·skip
             refine Kd.R_lit_step (Kd.int .i64) _ 3 ?hg (N := 72) ?hd (xs := ([x7_6] : List Int)) (inner := [.int .i64 x7_6]) (ok := fun _ => True) (okp := fun _ => True) ?hr ?hp (fun _ hk => hk) trivial (Below.refl _ _) (Nat.le_refl _) (by simp) ?_; (case hd => rfl); (case hg => rfl); (case hr => first | (go_simp; done) | (go_simp; rfl)); (case hp => exact (Reps.one (show Kd.M (Kd.int .i64) _ _ _ x7_6 [.int .i64 x7_6] from rfl) (Reps.none _ _)))
             intro v230 w71 ho72 hb hg_ hnew_
             clear hg_ hnew_
             (first | rw [← Ny229.out] at ho72 | (simp only [Int.reduceToNat] at ho72; rw [← Ny229.out] at ho72))
             have HO231 := Aside0.mk (Kd.R_lower (Kd.R_new' (Kd.R_new' ho72 (Kd.R_lt (sr HO_5))) (Kd.R_lt (sr HO221))) (below_size (sb)))
             replace HO_5 := Aside0.mk (Kd.R_elder' (sr HO_5) (Kd.R_base ho72) hb)
             replace HO221 := Aside0.mk (Kd.R_elder' (sr HO221) (Kd.R_base ho72) hb)
             replace HR225 := Aside0.mk (Kd.C_below (by repeat (first | (with_reducible exact HR225.out) | (with_reducible refine Kd.C_alloc ?_ _) | (with_reducible refine Kd.C_drewN ?_ _) | (with_reducible refine Kd.C_drew ?_) | exact HR225.out)) hb)
             replace HR238 := Aside0.mk (Kd.C_below (by repeat (first | (with_reducible exact HR238.out) | (with_reducible refine Kd.C_alloc ?_ _) | (with_reducible refine Kd.C_drewN ?_ _) | (with_reducible refine Kd.C_drew ?_) | exact HR238.out)) hb)
             replace HB := bs hb
             clear hb ho72
             refine hK.out _ _ trivial (fun hHeld => ?_)
             clear hK K
             refine norm_ (a' := ?_) ?_ ?_
             rotate_left
             ·show Act.put _ (some 72) _ = _
              simp only [Act.put, List.setIfInBounds_toArray, List.set_cons_zero, List.set_cons_succ, i64_w, i32_w]
              rfl
             refine one_ (i := 4) (N := some 70) #[true, true, true, true, true, true, true, false, true, true, true, false, false] rfl rfl (one_of HT_.out (by kernel_rfl)) (by decide) (fun K hK => ?_)
             refine Kd.R_append_rows_step (Kd.int .i64) (w0 := w) w.heap.size (by rfl) (.tmp 66) (.tmp 69) 57 3 (.int .i64 0) 8 rfl Try.underlying57 info3 rfl (by decide) (by omega) v220 y219 y222 _ _ _ (fun k_ => some k_ ≠ (.slice Ao65 x5_1.length co65 : Value).ownBlock ∧ some k_ ≠ (v230 : Value).ownBlock) (fun _ => False) rfl rfl ?aO ?aR (fun _ _ h => h) (fun _ h => h.elim) ?aF ?aB ?aS ?aL ?_
             (case aR => repeat (first | exact (by repeat (first | (with_reducible exact HR225.out) | (with_reducible refine Kd.C_alloc ?_ _) | (with_reducible refine Kd.C_drewN ?_ _) | (with_reducible refine Kd.C_drew ?_) | exact HR225.out)) | (with_reducible refine Kd.C_alloc ?_ _) | (with_reducible refine Kd.C_drewN ?_ _) | (with_reducible refine Kd.C_drew ?_)))
             (case aB => exact (sb))
             (case aF => exact (fun k_ hk => ⟨Kd.fresh' (Kd.R_lt (sr HO_5)) k_ hk, Kd.fresh' (Kd.R_lt (sr HO231)) k_ hk⟩))
             (case aO => exact (by (with_reducible repeat (first | apply Kd.R_alloc | apply Kd.R_drewN | apply Kd.R_drew)); exact Kd.R_mono HO221.out (fun _ hk => ⟨hk.1.2, hk.2⟩)))
             (case aS => exact (below_size (sb)))
             (case aL => have := LMc60.out; omega)
             intro v227 w73 ho hb hg hat
             rw [← Ny226.out] at ho
             replace HO231 := Aside0.mk (Kd.R_after (ok := (fun k_ => some k_ ≠ (.slice Ao65 x5_1.length co65 : Value).ownBlock)) (by (with_reducible repeat (first | apply Kd.R_alloc | apply Kd.R_drewN | apply Kd.R_drew)); exact Kd.R_mono HO231.out (fun _ hk => ⟨hk.1.2, hk.2⟩)) hg hat)
             replace HB := Aside0.mk hb
             replace HR225 := Aside0.mk ((show Kd.C (Kd.int .i64) w73 Ao65 y222.length y222 from by rw [Ny222.out]; exact Kd.C_take (m := (x8_3 : Int).toNat) ((Kd.R_reads' (Kd.R_after (ok := (fun k_ => some k_ ≠ (v230 : Value).ownBlock)) (by (with_reducible repeat (first | apply Kd.R_alloc | apply Kd.R_drewN | apply Kd.R_drew)); exact Kd.R_mono HO_5.out (fun _ hk => ⟨hk.2, hk.1.2⟩)) hg hat)).2.2) KL67.out))
             replace HR238 := Aside0.mk ((show Kd.C (Kd.int .i64) w73 A68 y235.length y235 from by rw [Ny235.out, KA68.out]; exact Kd.C_drop (m := (x8_3 : Int).toNat) (c := co65) ((Kd.R_reads' (Kd.R_after (ok := (fun k_ => some k_ ≠ (v230 : Value).ownBlock)) (by (with_reducible repeat (first | apply Kd.R_alloc | apply Kd.R_drewN | apply Kd.R_drew)); exact Kd.R_mono HO_5.out (fun _ hk => ⟨hk.2, hk.1.2⟩)) hg hat)).2.2) KL68.out ((Kd.R_reads' (Kd.R_after (ok := (fun k_ => some k_ ≠ (v230 : Value).ownBlock)) (by (with_reducible repeat (first | apply Kd.R_alloc | apply Kd.R_drewN | apply Kd.R_drew)); exact Kd.R_mono HO_5.out (fun _ hk => ⟨hk.2, hk.1.2⟩)) hg hat)).2.1)))
             replace HO_5 := Aside0.mk (Kd.R_after (ok := (fun k_ => some k_ ≠ (v230 : Value).ownBlock)) (by (with_reducible repeat (first | apply Kd.R_alloc | apply Kd.R_drewN | apply Kd.R_drew)); exact Kd.R_mono HO_5.out (fun _ hk => ⟨hk.2, hk.1.2⟩)) hg hat)
             have HO228 := Aside0.mk ho
             clear HO221 ho hb hg hat
             refine hK.out _ _ trivial (fun hHeld => ?_)
             clear hK K
             refine norm_ (a' := ?_) ?_ ?_
             rotate_left
             ·show Act.put _ (some 70) _ = _
              simp only [Act.put, List.setIfInBounds_toArray, List.set_cons_zero, List.set_cons_succ, i64_w, i32_w]
              rfl
             exact norm_ (by simp only [putAll, Act.put, List.setIfInBounds_toArray, List.set_cons_zero, List.set_cons_succ]) (hCont (v220, v227, v230) _ ⟨(by (with_reducible repeat (first | apply Kd.R_alloc | apply Kd.R_drewN | apply Kd.R_drew)); exact Kd.R_mono HO228.out (fun _ hk => ⟨hk.2, hk.1⟩)), (by (with_reducible repeat (first | apply Kd.R_alloc | apply Kd.R_drewN | apply Kd.R_drew)); exact Kd.R_mono HO231.out (fun _ hk => ⟨hk.2, hk.1⟩)), (by (with_reducible repeat (first | apply Kd.R_alloc | apply Kd.R_drewN | apply Kd.R_drew)); exact Kd.R_mono HO_5.out (fun _ hk => ⟨hk.2, hk.1⟩)), (sb)⟩)
           ·skip
            refine Kd.R_lit_step (Kd.int .i64) _ 3 ?hg (N := 72) ?hd (xs := ([x7_6] : List Int)) (inner := [.int .i64 x7_6]) (ok := fun _ => True) (okp := fun _ => True) ?hr ?hp (fun _ hk => hk) trivial (Below.refl _ _) (Nat.le_refl _) (by simp) ?_; (case hd => rfl); (case hg => rfl); (case hr => first | (go_simp; done) | (go_simp; rfl)); (case hp => exact (Reps.one (show Kd.M (Kd.int .i64) _ _ _ x7_6 [.int .i64 x7_6] from rfl) (Reps.none _ _)))
            intro v230 w69 ho70 hb hg_ hnew_
            clear hg_ hnew_
            (first | rw [← Ny229.out] at ho70 | (simp only [Int.reduceToNat] at ho70; rw [← Ny229.out] at ho70))
            have HO231 := Aside0.mk (Kd.R_lower (Kd.R_new' ho70 (Kd.R_lt (sr HO_5))) (below_size (sb)))
            replace HO_5 := Aside0.mk (Kd.R_elder' (sr HO_5) (Kd.R_base ho70) hb)
            replace HR225 := Aside0.mk (Kd.C_below (by repeat (first | (with_reducible exact HR225.out) | (with_reducible refine Kd.C_alloc ?_ _) | (with_reducible refine Kd.C_drewN ?_ _) | (with_reducible refine Kd.C_drew ?_) | exact HR225.out)) hb)
            replace HR238 := Aside0.mk (Kd.C_below (by repeat (first | (with_reducible exact HR238.out) | (with_reducible refine Kd.C_alloc ?_ _) | (with_reducible refine Kd.C_drewN ?_ _) | (with_reducible refine Kd.C_drew ?_) | exact HR238.out)) hb)
            replace HB := bs hb
            clear hb ho70
            refine hK.out _ _ trivial (fun hHeld => ?_)
            clear hK K
            refine norm_ (a' := ?_) ?_ ?_
            rotate_left
            ·show Act.put _ (some 72) _ = _
             simp only [Act.put, List.setIfInBounds_toArray, List.set_cons_zero, List.set_cons_succ, i64_w, i32_w]
             rfl
            refine one_ (i := 0) (N := some 66) #[true, true, true, true, false, true, true, false, true, true, true, false, false] rfl rfl (one_of HT_.out (by kernel_rfl)) (by decide) (fun K hK => ?_)
            refine Kd.R_lit_step (Kd.int .i64) _ 3 ?hg (N := 66) ?hd (xs := ([] : List Int)) (inner := []) (ok := fun _ => True) (okp := fun _ => True) ?hr ?hp (fun _ hk => hk) trivial (Below.refl _ _) (Nat.le_refl _) (by simp) ?_; (case hd => rfl); (case hg => rfl); (case hr => first | (go_simp; done) | (go_simp; rfl)); (case hp => exact (Reps.none _ _))
            intro v220 w71 ho72 hb hg_ hnew_
            clear hg_ hnew_
            (first | rw [← Ny219.out] at ho72 | (simp only [Int.reduceToNat] at ho72; rw [← Ny219.out] at ho72))
            have HO221 := Aside0.mk (Kd.R_lower (Kd.R_new' (Kd.R_new' ho72 (Kd.R_lt (sr HO_5))) (Kd.R_lt (sr HO231))) (below_size (sb)))
            replace HO_5 := Aside0.mk (Kd.R_elder' (sr HO_5) (Kd.R_base ho72) hb)
            replace HO231 := Aside0.mk (Kd.R_elder' (sr HO231) (Kd.R_base ho72) hb)
            replace HR225 := Aside0.mk (Kd.C_below (by repeat (first | (with_reducible exact HR225.out) | (with_reducible refine Kd.C_alloc ?_ _) | (with_reducible refine Kd.C_drewN ?_ _) | (with_reducible refine Kd.C_drew ?_) | exact HR225.out)) hb)
            replace HR238 := Aside0.mk (Kd.C_below (by repeat (first | (with_reducible exact HR238.out) | (with_reducible refine Kd.C_alloc ?_ _) | (with_reducible refine Kd.C_drewN ?_ _) | (with_reducible refine Kd.C_drew ?_) | exact HR238.out)) hb)
            replace HB := bs hb
            clear hb ho72
            refine hK.out _ _ trivial (fun hHeld => ?_)
            clear hK K
            refine norm_ (a' := ?_) ?_ ?_
            rotate_left
            ·show Act.put _ (some 66) _ = _
             simp only [Act.put, List.setIfInBounds_toArray, List.set_cons_zero, List.set_cons_succ, i64_w, i32_w]
             rfl
            refine one_ (i := 4) (N := some 70) #[true, true, true, true, true, true, true, false, true, true, true, false, false] rfl rfl (one_of HT_.out (by kernel_rfl)) (by decide) (fun K hK => ?_)
            refine Kd.R_append_rows_step (Kd.int .i64) (w0 := w) w.heap.size (by rfl) (.tmp 66) (.tmp 69) 57 3 (.int .i64 0) 8 rfl Try.underlying57 info3 rfl (by decide) (by omega) v220 y219 y222 _ _ _ (fun k_ => some k_ ≠ (.slice Ao65 x5_1.length co65 : Value).ownBlock ∧ some k_ ≠ (v230 : Value).ownBlock) (fun _ => False) rfl rfl ?aO ?aR (fun _ _ h => h) (fun _ h => h.elim) ?aF ?aB ?aS ?aL ?_
            (case aR => repeat (first | exact (by repeat (first | (with_reducible exact HR225.out) | (with_reducible refine Kd.C_alloc ?_ _) | (with_reducible refine Kd.C_drewN ?_ _) | (with_reducible refine Kd.C_drew ?_) | exact HR225.out)) | (with_reducible refine Kd.C_alloc ?_ _) | (with_reducible refine Kd.C_drewN ?_ _) | (with_reducible refine Kd.C_drew ?_)))
            (case aB => exact (sb))
            (case aF => exact (fun k_ hk => ⟨Kd.fresh' (Kd.R_lt (sr HO_5)) k_ hk, Kd.fresh' (Kd.R_lt (sr HO231)) k_ hk⟩))
            (case aO => exact (by (with_reducible repeat (first | apply Kd.R_alloc | apply Kd.R_drewN | apply Kd.R_drew)); exact Kd.R_mono HO221.out (fun _ hk => ⟨hk.1.2, hk.2⟩)))
            (case aS => exact (below_size (sb)))
            (case aL => have := LMc60.out; omega)
            intro v227 w73 ho hb hg hat
            rw [← Ny226.out] at ho
            replace HO231 := Aside0.mk (Kd.R_after (ok := (fun k_ => some k_ ≠ (.slice Ao65 x5_1.length co65 : Value).ownBlock)) (by (with_reducible repeat (first | apply Kd.R_alloc | apply Kd.R_drewN | apply Kd.R_drew)); exact Kd.R_mono HO231.out (fun _ hk => ⟨hk.1.2, hk.2⟩)) hg hat)
            replace HB := Aside0.mk hb
            replace HR225 := Aside0.mk ((show Kd.C (Kd.int .i64) w73 Ao65 y222.length y222 from by rw [Ny222.out]; exact Kd.C_take (m := (x8_3 : Int).toNat) ((Kd.R_reads' (Kd.R_after (ok := (fun k_ => some k_ ≠ (v230 : Value).ownBlock)) (by (with_reducible repeat (first | apply Kd.R_alloc | apply Kd.R_drewN | apply Kd.R_drew)); exact Kd.R_mono HO_5.out (fun _ hk => ⟨hk.1.2, hk.2⟩)) hg hat)).2.2) KL67.out))
            replace HR238 := Aside0.mk ((show Kd.C (Kd.int .i64) w73 A68 y235.length y235 from by rw [Ny235.out, KA68.out]; exact Kd.C_drop (m := (x8_3 : Int).toNat) (c := co65) ((Kd.R_reads' (Kd.R_after (ok := (fun k_ => some k_ ≠ (v230 : Value).ownBlock)) (by (with_reducible repeat (first | apply Kd.R_alloc | apply Kd.R_drewN | apply Kd.R_drew)); exact Kd.R_mono HO_5.out (fun _ hk => ⟨hk.1.2, hk.2⟩)) hg hat)).2.2) KL68.out ((Kd.R_reads' (Kd.R_after (ok := (fun k_ => some k_ ≠ (v230 : Value).ownBlock)) (by (with_reducible repeat (first | apply Kd.R_alloc | apply Kd.R_drewN | apply Kd.R_drew)); exact Kd.R_mono HO_5.out (fun _ hk => ⟨hk.1.2, hk.2⟩)) hg hat)).2.1)))
            replace HO_5 := Aside0.mk (Kd.R_after (ok := (fun k_ => some k_ ≠ (v230 : Value).ownBlock)) (by (with_reducible repeat (first | apply Kd.R_alloc | apply Kd.R_drewN | apply Kd.R_drew)); exact Kd.R_mono HO_5.out (fun _ hk => ⟨hk.1.2, hk.2⟩)) hg hat)
            have HO228 := Aside0.mk ho
            clear HO221 ho hb hg hat
            refine hK.out _ _ trivial (fun hHeld => ?_)
            clear hK K
            refine norm_ (a' := ?_) ?_ ?_
            rotate_left
            ·show Act.put _ (some 70) _ = _
             simp only [Act.put, List.setIfInBounds_toArray, List.set_cons_zero, List.set_cons_succ, i64_w, i32_w]
             rfl
            exact norm_ (by simp only [putAll, Act.put, List.setIfInBounds_toArray, List.set_cons_zero, List.set_cons_succ]) (hCont (v220, v227, v230) _ ⟨(by (with_reducible repeat (first | apply Kd.R_alloc | apply Kd.R_drewN | apply Kd.R_drew)); exact Kd.R_mono HO228.out (fun _ hk => ⟨hk.2, hk.1⟩)), (by (with_reducible repeat (first | apply Kd.R_alloc | apply Kd.R_drewN | apply Kd.R_drew)); exact Kd.R_mono HO231.out (fun _ hk => ⟨hk.2, hk.1⟩)), (by (with_reducible repeat (first | apply Kd.R_alloc | apply Kd.R_drewN | apply Kd.R_drew)); exact Kd.R_mono HO_5.out (fun _ hk => ⟨hk.2, hk.1⟩)), (sb)⟩)
          rintro ⟨v220, v227, v230⟩ w74 ⟨h0_, h1_, h2_, h3_⟩
          have HO228 : Aside0 (Kd.R (Kd.int .i64) 3 w74 w.heap.size (fun k_ => some k_ ≠ (v230 : Value).ownBlock ∧ some k_ ≠ (.slice Ao65 x5_1.length co65 : Value).ownBlock) v227 y226) := ⟨h0_⟩
          have HO231 : Aside0 (Kd.R (Kd.int .i64) 3 w74 w.heap.size (fun k_ => some k_ ≠ (v227 : Value).ownBlock ∧ some k_ ≠ (.slice Ao65 x5_1.length co65 : Value).ownBlock) v230 y229) := ⟨h1_⟩
          replace HO_5 : Aside0 (Kd.R (Kd.int .i64) 3 w74 w.heap.size (fun k_ => some k_ ≠ (v227 : Value).ownBlock ∧ some k_ ≠ (v230 : Value).ownBlock) (.slice Ao65 x5_1.length co65) x5_1) := ⟨h2_⟩
          replace HB : Aside0 (Below w.heap.size w w74) := ⟨h3_⟩
          clear h0_ h1_ h2_ h3_
          have hHeld := trivial
          obtain ⟨Ao76, co76, eo76⟩ := Kd.R_slice HO231.out
          (first | subst eo76 | (injection eo76 with f1_ f2_ f3_; have f4_ := f1_.symm; have f5_ := f3_.symm; clear f1_ f2_ f3_; subst f4_; subst f5_))
          refine norm_ (a' := ?_) ?_ ?_
          rotate_left
          ·simp only [putAll, Act.put, List.setIfInBounds_toArray, List.set_cons_zero, List.set_cons_succ]
           rfl
          refine one_ (i := 7) (N := some 73) #[true, true, true, true, true, true, true, true, true, true, true, false, false] rfl rfl (one_of HT_.out (by kernel_rfl)) (by decide) (fun K hK => ?_)
          refine Kd.R_append_rows_step (Kd.int .i64) (w0 := w) w.heap.size (by rfl) (.tmp 70) (.tmp 72) 57 3 (.int .i64 0) 8 rfl Try.underlying57 info3 rfl (by decide) (by omega) v227 y226 y229 _ _ _ (fun k_ => some k_ ≠ (.slice Ao65 x5_1.length co65 : Value).ownBlock ∧ some k_ ≠ (.slice Ao76 y229.length co76 : Value).ownBlock) (fun _ => False) rfl rfl ?aO ?aR (fun _ _ h => h) (fun _ h => h.elim) ?aF ?aB ?aS ?aL ?_
          (case aR => repeat (first | exact (Kd.R_reads' HO231.out).2.2 | (with_reducible refine Kd.C_alloc ?_ _) | (with_reducible refine Kd.C_drewN ?_ _) | (with_reducible refine Kd.C_drew ?_)))
          (case aB => exact (sb))
          (case aF => exact (fun k_ hk => ⟨Kd.fresh' (Kd.R_lt (sr HO_5)) k_ hk, Kd.fresh' (Kd.R_lt (sr HO231)) k_ hk⟩))
          (case aO => exact (by (with_reducible repeat (first | apply Kd.R_alloc | apply Kd.R_drewN | apply Kd.R_drew)); exact Kd.R_mono HO228.out (fun _ hk => ⟨hk.2, hk.1⟩)))
          (case aS => exact (below_size (sb)))
          (case aL => have := LMc61.out; omega)
          intro v233 w75 ho hb hg hat
          rw [← Ny232.out] at ho
          replace HO_5 := Aside0.mk (Kd.R_after (ok := (fun k_ => some k_ ≠ (.slice Ao76 y229.length co76 : Value).ownBlock)) (by (with_reducible repeat (first | apply Kd.R_alloc | apply Kd.R_drewN | apply Kd.R_drew)); exact Kd.R_mono HO_5.out (fun _ hk => ⟨hk.2, hk.1⟩)) hg hat)
          replace HO231 := Aside0.mk (Kd.R_after (ok := (fun k_ => some k_ ≠ (.slice Ao65 x5_1.length co65 : Value).ownBlock)) (by (with_reducible repeat (first | apply Kd.R_alloc | apply Kd.R_drewN | apply Kd.R_drew)); exact Kd.R_mono HO231.out (fun _ hk => ⟨hk.2, hk.1⟩)) hg hat)
          replace HB := Aside0.mk hb
          have HO234 := Aside0.mk ho
          clear HO228 ho hb hg hat
          refine hK.out _ _ trivial (fun hHeld => ?_)
          clear hK K
          refine norm_ (a' := ?_) ?_ ?_
          rotate_left
          ·show Act.put _ (some 73) _ = _
           simp only [Act.put, List.setIfInBounds_toArray, List.set_cons_zero, List.set_cons_succ, i64_w, i32_w]
           rfl
          refine one_ (i := 11) (N := some 77) #[true, true, true, true, true, true, true, true, true, true, true, true, false] rfl rfl (one_of HT_.out (by kernel_rfl)) (by decide) (fun K hK => ?_)
          refine Kd.R_append_rows_step (Kd.int .i64) (w0 := w) w.heap.size (by rfl) (.tmp 73) (.tmp 76) 57 3 (.int .i64 0) 8 rfl Try.underlying57 info3 rfl (by decide) (by omega) v233 y232 y235 _ _ _ (fun k_ => some k_ ≠ (.slice Ao65 x5_1.length co65 : Value).ownBlock ∧ some k_ ≠ (.slice Ao76 y229.length co76 : Value).ownBlock) (fun _ => False) rfl rfl ?aO ?aR (fun _ _ h => h) (fun _ h => h.elim) ?aF ?aB ?aS ?aL ?_
          (case aR => exact (show Kd.C (Kd.int .i64) _ A68 y235.length y235 from by rw [Ny235.out, KA68.out]; exact Kd.C_drop (m := (x8_3 : Int).toNat) (c := co65) ((Kd.R_reads' (sr HO_5)).2.2) KL68.out ((Kd.R_reads' HO_5.out).2.1)))
          (case aB => exact (sb))
          (case aF => exact (fun k_ hk => ⟨Kd.fresh' (Kd.R_lt (sr HO_5)) k_ hk, Kd.fresh' (Kd.R_lt (sr HO231)) k_ hk⟩))
          (case aO => exact (sr HO234))
          (case aS => exact (below_size (sb)))
          (case aL => have := LMc64.out; omega)
          intro v240 w77 ho hb hg hat
          rw [← Ny239.out] at ho
          replace HO_5 := Aside0.mk (Kd.R_after (ok := (fun k_ => some k_ ≠ (.slice Ao76 y229.length co76 : Value).ownBlock)) (sr HO_5) hg hat)
          replace HO231 := Aside0.mk (Kd.R_after (ok := (fun k_ => some k_ ≠ (.slice Ao65 x5_1.length co65 : Value).ownBlock)) (sr HO231) hg hat)
          replace HB := Aside0.mk hb
          have HO241 := Aside0.mk ho
          clear HO234 ho hb hg hat
          refine hK.out _ _ trivial (fun hHeld => ?_)
          clear hK K
          refine norm_ (a' := ?_) ?_ ?_
          rotate_left
          ·show Act.put _ (some 77) _ = _
           simp only [Act.put, List.setIfInBounds_toArray, List.set_cons_zero, List.set_cons_succ, i64_w, i32_w]
           rfl
          refine put 12 5 #[true, true, true, true, true, true, true, true, true, true, true, true, true] HT_ ?_
          refine done_ (done_of HT_.out (by kernel_rfl)) ?_
          try go_wp2
          go_roundg k3
          case measure => have := HK1.out; have := HJ6.out; have := HK3.out; omega
          case rel => exact ⟨(y239), (wrap64 (x6_1 + 1)), sc, H', ⟨by have := HK1.out; have := HJ6.out; have := HK3.out; omega⟩, ⟨by (with_reducible repeat (first | apply Kd.R_alloc | apply Kd.R_drewN | apply Kd.R_drew)); exact Kd.R_mono HO241.out (fun _ hk => trivial)⟩, ⟨sb⟩⟩
         ·have c57b0 : (x8_3 == (x5_1.length : Int)) = false := beq_eq_false_iff_ne.mpr c57
          have c57b1 : (x8_3 != (x5_1.length : Int)) = true := bne_iff_ne.mpr c57
          obtain ⟨c78, H⟩ := ia_ H
          exact ab H
   ·have c5b0 := decide_eq_false c5
    clear c5
    obtain rfl := Option.some.inj H
    go_wp2
    go_ret
    exact ⟨_, se, sr HO_5, sb⟩

end Go.Proofs.Ytcjlbgbenjmkgaa.QFnExactBuildProgram
