/- Printed by a program of the session. Conditions: none. (squeezed). -/
import Derived.Test.YtohbccekdmdmbaaVFnExactRepairHopQFnExactRepairHopx0
namespace Go.Proofs.Ytohbccekdmdmbaa.QFnExactRepairHop
set_option maxHeartbeats 8000000
set_option maxRecDepth 100000
open Go.RowKit Go.Proofs.YtohbccekdmdmbaaW.PrintWords Go.Proofs.YtohbccekdmdmbaaW.PrintLast Go.Proofs.YtohbccekdmdmbaaW.PrintMore Go.Proofs.Ytohbccekdmdmbaa.Open Go.Proofs.Ytohbccekdmdmbaa.Sq
attribute [local go_sem] max2_int min2_int max_two min_two max_three min_three max_four min_four   -- for this text's walks alone
attribute [local go_sem] isSome_set
set_option linter.unusedVariables false
set_option linter.unusedSimpArgs false

theorem a2_10 {P : Prop} (h : P := by exact rm HO182 (fun _ hk => ⟨hk.2, hk.1⟩)) : P := h
theorem a2_9 {P : Prop} (h : P := by exact rm HO159 (fun _ hk => ⟨hk.2, hk.1⟩)) : P := h
theorem a2_8 {P : Prop} (h : P := by exact rm HO135 (fun _ hk => ⟨hk.2, hk.1⟩)) : P := h
theorem a2_7 {P : Prop} (h : P := by exact rm HO179 (fun _ hk => ⟨hk.2, hk.1⟩)) : P := h
theorem a2_6 {P : Prop} (h : P := by exact rm HO156 (fun _ hk => ⟨hk.2, hk.1⟩)) : P := h
theorem a2_5 {P : Prop} (h : P := by exact rm HO132 (fun _ hk => ⟨hk.2, hk.1⟩)) : P := h
theorem a2_4 {P : Prop} (h : P := by have := HK1.out; have := HJ6.out; have := HK3.out; omega) : P := h
theorem a2_3 {P : Prop} (h : P := by exact rm HO_5 (fun _ hk => ⟨hk.2, hk.1⟩)) : P := h
theorem a2_2 {P : Prop} (h : P := by exact rm HO_5 (fun _ hk => ⟨hk.2, hk.1.2⟩)) : P := h
theorem a2_1 {P : Prop} (h : P := by exact rm HO_5 (fun _ hk => ⟨hk.1.2, hk.2⟩)) : P := h
theorem a2_0 {P : Prop} (h : P := by simp only [putAll, Act.put, List.setIfInBounds_toArray, List.set_cons_zero, List.set_cons_succ]) : P := h
mutual
def spec_NeighborsIn.l0 : Nat → List (S55) → Int → List Int → Int → Option (List Int)
  | 0, _, _, _, _ => none
  | k + 1, x0, x1, x5, x6 => if x6 < (x0.length : Int) then (if 0 ≤ x6 then (if ((rd_T55 x0 x6).f0) = x1 then (spec_NeighborsIn.j1 k x0 x1 x5 x6 ((rd_T55 x0 x6).f1)) else (if ((rd_T55 x0 x6).f1) = x1 then (spec_NeighborsIn.j1 k x0 x1 x5 x6 ((rd_T55 x0 x6).f0)) else (spec_NeighborsIn.l0 k x0 x1 x5 (wrap64 (x6 + 1))))) else (none)) else (some x5)
def spec_NeighborsIn.j1 : Nat → List (S55) → Int → List Int → Int → Int → Option (List Int)
  | 0, _, _, _, _, _ => none
  | k + 1, x0, x1, x5, x6, x7 => spec_NeighborsIn.l1 k x0 x1 x5 x6 x7 0
def spec_NeighborsIn.l1 : Nat → List (S55) → Int → List Int → Int → Int → Int → Option (List Int)
  | 0, _, _, _, _, _, _ => none
  | k + 1, x0, x1, x5, x6, x7, x8 => if x8 < (x5.length : Int) then (if 0 ≤ x8 then (if (rd x5 x8) < x7 then (spec_NeighborsIn.l1 k x0 x1 x5 x6 x7 (wrap64 (x8 + 1))) else (if x8 = (x5.length : Int) then ((some (([] : List Int) : List Int)).bind fun y123 => (if x8 ≤ (x5.length : Int) then ((some (x5.take (x8 : Int).toNat : List Int)).bind fun y126 => (if y123.length + y126.length < 17592186044416 then ((some (y123 ++ y126 : List Int)).bind fun y130 => ((some (([x7] : List Int) : List Int)).bind fun y133 => (if y130.length + y133.length < 17592186044416 then ((some (y130 ++ y133 : List Int)).bind fun y136 => ((some (x5.drop (x8 : Int).toNat : List Int)).bind fun y139 => (if y136.length + y139.length < 17592186044416 then (spec_NeighborsIn.l0 k x0 x1 (y136 ++ y139) (wrap64 (x6 + 1))) else (none)))) else (none)))) else (none))) else (none))) else (if (rd x5 x8) = x7 then (spec_NeighborsIn.l0 k x0 x1 x5 (wrap64 (x6 + 1))) else ((some (([] : List Int) : List Int)).bind fun y147 => (if x8 ≤ (x5.length : Int) then ((some (x5.take (x8 : Int).toNat : List Int)).bind fun y150 => (if y147.length + y150.length < 17592186044416 then ((some (y147 ++ y150 : List Int)).bind fun y154 => ((some (([x7] : List Int) : List Int)).bind fun y157 => (if y154.length + y157.length < 17592186044416 then ((some (y154 ++ y157 : List Int)).bind fun y160 => ((some (x5.drop (x8 : Int).toNat : List Int)).bind fun y163 => (if y160.length + y163.length < 17592186044416 then (spec_NeighborsIn.l0 k x0 x1 (y160 ++ y163) (wrap64 (x6 + 1))) else (none)))) else (none)))) else (none))) else (none)))))) else (none)) else (if x8 = (x5.length : Int) then ((some (([] : List Int) : List Int)).bind fun y170 => (if 0 ≤ x8 then (if x8 ≤ (x5.length : Int) then ((some (x5.take (x8 : Int).toNat : List Int)).bind fun y173 => (if y170.length + y173.length < 17592186044416 then ((some (y170 ++ y173 : List Int)).bind fun y177 => ((some (([x7] : List Int) : List Int)).bind fun y180 => (if y177.length + y180.length < 17592186044416 then ((some (y177 ++ y180 : List Int)).bind fun y183 => ((some (x5.drop (x8 : Int).toNat : List Int)).bind fun y186 => (if y183.length + y186.length < 17592186044416 then (spec_NeighborsIn.l0 k x0 x1 (y183 ++ y186) (wrap64 (x6 + 1))) else (none)))) else (none)))) else (none))) else (none)) else (none))) else (if 0 ≤ x8 then (none) else (none)))
end
def spec_NeighborsIn.f (k : Nat) (l0 : List (S55)) (a1 : Int) : Option (List Int) := spec_NeighborsIn.l0 k l0 a1 (([] : List Int)) 0
theorem spec_NeighborsIn.mono_l : ∀ k, (∀ y0 y1 y2 y3, LeO (spec_NeighborsIn.l0 k y0 y1 y2 y3) (spec_NeighborsIn.l0 (k + 1) y0 y1 y2 y3)) ∧ (∀ y0 y1 y2 y3 y4, LeO (spec_NeighborsIn.j1 k y0 y1 y2 y3 y4) (spec_NeighborsIn.j1 (k + 1) y0 y1 y2 y3 y4)) ∧ (∀ y0 y1 y2 y3 y4 y5, LeO (spec_NeighborsIn.l1 k y0 y1 y2 y3 y4 y5) (spec_NeighborsIn.l1 (k + 1) y0 y1 y2 y3 y4 y5))
  | 0 => ⟨fun _ _ _ _ r h => by simp [spec_NeighborsIn.l0] at h, fun _ _ _ _ _ r h => by simp [spec_NeighborsIn.j1] at h, fun _ _ _ _ _ _ r h => by simp [spec_NeighborsIn.l1] at h⟩
  | k + 1 => by
    obtain ⟨ih0, ih1, ih2⟩ := spec_NeighborsIn.mono_l k
    refine ⟨?_, ?_, ?_⟩
    · intro y0 y1 y2 y3
      unfold spec_NeighborsIn.l0
      exact mo
    · intro y0 y1 y2 y3 y4
      unfold spec_NeighborsIn.j1
      exact mo
    · intro y0 y1 y2 y3 y4 y5
      unfold spec_NeighborsIn.l1
      exact mo
theorem spec_NeighborsIn.mono : ∀ a0 a1 k, LeO (spec_NeighborsIn.f k a0 a1) (spec_NeighborsIn.f (k + 1) a0 a1) := by
  intro a0 a1 k
  obtain ⟨ih0, ih1, ih2⟩ := spec_NeighborsIn.mono_l k
  unfold spec_NeighborsIn.f
  exact mo
def spec_NeighborsIn.T14 : Bool × List (List Nat × List Nat) := (true, [([], []), ([], []), ([], []), ([1, 2], [1, 2]), ([0, 3], [0, 3]), ([], []), ([5], [5]), ([4, 6, 4], [4, 6]), ([], []), ([], []), ([8, 9], [8, 9]), ([7, 10, 7], [7, 10]), ([11, 11, 0, 1, 2, 3, 4, 5, 6, 7, 8, 9, 10, 11], [1, 8, 11])])
def spec_NeighborsIn.B14 : List Nat := [0, 0, 0, 6, 15, 0, 32, 127, 0, 0, 768, 2047, 4095]
theorem spec_NeighborsIn.tab14 : rtab .any (opsOf Try.f31 14) = spec_NeighborsIn.T14 := by kernel_rfl
theorem spec_NeighborsIn.bits14 : waitsOk spec_NeighborsIn.T14.2 spec_NeighborsIn.B14 = true := by kernel_rfl
theorem spec_NeighborsIn.calls (k : Nat) (A0 : Option Addr) (c0 : Nat) (l0 : List (S55)) (a1 : Int) (r : List Int) (w : World) (hr0 : Kd.C k55 w A0 l0.length l0) (hc0 : l0.length ≤ c0) (h : spec_NeighborsIn.f k l0 a1 = some r) :
    Calls Try.prog 31 #[.slice A0 l0.length c0, .int .i64 a1] w fun e w' => ∃ v0_ : Value, e = .returned (v0_) ∧ Kd.R (Kd.int .i64) 3 w' w.heap.size (fun _ => True) v0_ r ∧ Below w.heap.size w w' := by
 have HR0 := am hr0
 have HC0 := am hc0
 clear hr0 hc0
 have HB := am (Below.refl w.heap.size w)
 have H := h; unfold spec_NeighborsIn.f at H
 clear h
 obtain ⟨y115, hy115⟩ : ∃ y_ : List Int, y_ = (([] : List Int)) := ⟨_, rfl⟩
 replace H : (spec_NeighborsIn.l0 k l0 a1 y115 0) = some r := ry hy115 H
 have Ny115 := am hy115
 clear hy115
 have H' := am H
 clear H
 go_enter Try.func31, Try.ntmps31
 go_wp2_with (first | ((with_reducible refine gd 9 rfl ?_); refine Kd.R_lit (Kd.int .i64) _ 3 ?hg (N := 9) ?hd (xs := ([] : List Int)) (inner := []) (ok := fun _ => True) (okp := fun _ => True) ?hr ?hp (fun _ hk => hk) trivial (Below.refl _ _) (Nat.le_refl _) (by simp) ?_; (case hd => rfl); (case hg => rfl); (case hr => first | (go_simp; done) | (go_simp; rfl)); (case hp => exact (Reps.none _ _)); intro v116 w3 ho4 hb hg_ hnew_; clear hg_ hnew_; (first | rw [← Ny115.out] at ho4 | (simp only [Int.reduceToNat] at ho4; rw [← Ny115.out] at ho4)); have HO117 := am (Kd.R_lower ho4 (below_size (sb))); replace HB := bs hb; clear hb ho4))
 go_loopg [5, 6] k (fun kq v5 v6 w' => ∃ (x5_1 : List Int) (x6_1 : Int), v6 = .int .i64 x6_1 ∧ Aside0 (spec_NeighborsIn.l0 kq l0 a1 x5_1 x6_1 = some r) ∧ Aside0 (kq ≤ k) ∧ Aside0 (Kd.R (Kd.int .i64) 3 w' w.heap.size (fun _ => True) v5 x5_1) ∧ Aside0 (Below w.heap.size w w'))
 case atStart => exact ⟨(y115), (0), sc, H', kk0, ⟨sr HO117⟩, ⟨sb⟩⟩
 case round =>
  clear H'
  obtain ⟨x5_1, x6_1, rfl, HA, HK1, HO_5, HB⟩ := hrel
  cases gk with
  | zero => exact absurd HA.out (by simp [spec_NeighborsIn.l0])
  | succ k1 =>
   have H := HA.out
   clear HA
   simp only [spec_NeighborsIn.l0] at H
   obtain ⟨-, c5b0, H⟩ | ⟨-, c5b0, H⟩ := ic_ H
   ·obtain ⟨c6b0, H⟩ := id_ H
    have HC7 := am H
    clear H
    obtain ⟨p118, q118, ad118, e118, _, _, hx118_0, hx118_1⟩ := aT_T55 HR0 HB x6_1
    cases e118
    go_upto_if 22 with (fail)
    go_cut [7] (fun v7 wc => ∃ (kq : Nat) (x7_6 : Int), v7 = .int .i64 x7_6 ∧ Aside0 (spec_NeighborsIn.j1 kq l0 a1 x5_1 x6_1 x7_6 = some r) ∧ Aside0 (kq ≤ k1) ∧ Aside0 (Kd.R (Kd.int .i64) 3 wc w.heap.size (fun _ => True) u5 x5_1) ∧ Aside0 (Below w.heap.size w wc))
    case first =>
     have H := HC7.out
     clear HC7
     obtain ⟨-, c8b0, c8b1, H⟩ | ⟨c8, c8b0, c8b1, H⟩ := ib_ H
     ·(first | rw [c8b0] | (simp only [i64_w, i32_w]; rw [c8b0]) | rw [c8b1] | skip)
      have H' := am H
      clear H
      obtain ⟨p119, q119, ad119, e119, _, _, hx119_0, hx119_1⟩ := aT_T55 HR0 HB x6_1
      obtain rfl : ad118 = ad119 := (by injection e119)
      go_wp2
      go_meet
      case rel => exact ⟨_, ((rd_T55 l0 x6_1).f1), sc, H', ⟨by have := HK1.out; first | omega | exact Nat.le_refl _⟩, ⟨sr HO_5⟩, ⟨sb⟩⟩
     ·(first | rw [c8b0] | (simp only [i64_w, i32_w]; rw [c8b0]) | rw [c8b1] | skip)
      obtain ⟨-, c9b0, c9b1, H⟩ | ⟨c9, c9b0, c9b1, H⟩ := ib_ H
      ·have H' := am H
       clear H
       obtain ⟨p120, q120, ad120, e120, _, _, hx120_0, hx120_1⟩ := aT_T55 HR0 HB x6_1
       obtain rfl : ad118 = ad120 := (by injection e120)
       obtain ⟨p121, q121, ad121, e121, _, _, hx121_0, hx121_1⟩ := aT_T55 HR0 HB x6_1
       obtain rfl : ad118 = ad121 := (by injection e121)
       go_wp2
       go_meet
       case rel => exact ⟨_, ((rd_T55 l0 x6_1).f0), sc, H', ⟨by have := HK1.out; first | omega | exact Nat.le_refl _⟩, ⟨sr HO_5⟩, ⟨sb⟩⟩
      ·have H' := am H
       clear H
       obtain ⟨p120, q120, ad120, e120, _, _, hx120_0, hx120_1⟩ := aT_T55 HR0 HB x6_1
       obtain rfl : ad118 = ad120 := (by injection e120)
       go_wp2
       go_roundg k1
       case measure => have := HK1.out; omega
       case rel => exact ⟨(x5_1), (wrap64 (x6_1 + 1)), sc, H', kk1, ⟨sr HO_5⟩, ⟨sb⟩⟩
    case rest =>
     clear HC7
     try clear c5
     try clear c5b0
     try clear c6b0
     try clear hx118_0
     try clear hx118_1
     try clear p118
     try clear q118
     obtain ⟨kq, x7_6, rfl, HA, HJ6, HO_5, HB⟩ := hcut
     cases kq with
     | zero => exact absurd HA.out (by simp [spec_NeighborsIn.j1])
     | succ kj6 =>
      have H := HA.out
      clear HA
      simp only [spec_NeighborsIn.j1] at H
      have H' := am H
      clear H
      go_wp2
      go_loopg [8] kj6 (fun kq v8 w' => ∃ (x8_3 : Int), v8 = .int .i64 x8_3 ∧ Aside0 (spec_NeighborsIn.l1 kq l0 a1 x5_1 x6_1 x7_6 x8_3 = some r) ∧ Aside0 (kq ≤ kj6) ∧ Aside0 (Kd.R (Kd.int .i64) 3 w' w.heap.size (fun _ => True) u5 x5_1) ∧ Aside0 (Below w.heap.size w w'))
      case atStart => exact ⟨(0), sc, H', kk0, ⟨sr HO_5⟩, ⟨sb⟩⟩
      case round =>
       clear H'
       try clear c5
       try clear c5b0
       try clear c6b0
       try clear hx118_0
       try clear hx118_1
       try clear p118
       try clear q118
       obtain ⟨x8_3, rfl, HA, HK3, HO_5, HB⟩ := hrel
       cases gk with
       | zero => exact absurd HA.out (by simp [spec_NeighborsIn.l1])
       | succ k3 =>
        have H := HA.out
        clear HA
        simp only [spec_NeighborsIn.l1] at H
        obtain ⟨-, c10b0, H⟩ | ⟨-, c10b0, H⟩ := ic_ H
        ·obtain ⟨c11b0, H⟩ := id_ H
         obtain ⟨-, c12b0, H⟩ | ⟨-, c12b0, H⟩ := ic_ H
         ·have H' := am H
          clear H
          obtain ⟨Ao13, co13, eo13⟩ := Kd.R_slice HO_5.out
          subst eo13
          have p122 : 0 ≤ (x8_3 : Int) := sa
          have q122 : x8_3 < (x5_1.length : Int) := sa
          obtain ⟨ad122, e122, hx122_0⟩ := Kd.at_int (Kd.R_reads' HO_5.out).2.2 x8_3 p122 q122
          cases e122
          replace p122 := eq_true p122
          replace q122 := eq_true q122
          go_wp2
          go_roundg k3
          case measure => have := HK1.out; have := HJ6.out; have := HK3.out; omega
          case rel => exact ⟨(wrap64 (x8_3 + 1)), sc, H', ⟨a2_4⟩, ⟨sr HO_5⟩, ⟨sb⟩⟩
         ·obtain ⟨-, c14b0, c14b1, H⟩ | ⟨c14, c14b0, c14b1, H⟩ := ib_ H
          ·obtain ⟨y123, Ny123, H⟩ := iy_ H
           have c15b0 := eq_true (sa : 0 ≤ x8_3)
           obtain ⟨c16, H⟩ := ia_ H
           have c16b0 := eq_true c16
           have c16b1 := decide_eq_true c16
           clear c16
           obtain ⟨y126, Ny126, H⟩ := iy_ H
           obtain ⟨LMc17, H⟩ := il_ H
           obtain ⟨y130, Ny130, H⟩ := iy_ H
           obtain ⟨y133, Ny133, H⟩ := iy_ H
           obtain ⟨LMc18, H⟩ := il_ H
           obtain ⟨y136, Ny136, H⟩ := iy_ H
           have c19b0 := eq_true (sa : 0 ≤ x8_3)
           have c20b0 := eq_true (sa : x8_3 ≤ (x5_1.length : Int))
           obtain ⟨y139, Ny139, H⟩ := iy_ H
           obtain ⟨LMc21, H⟩ := il_ H
           obtain ⟨y143, hy143⟩ : ∃ y_ : List Int, y_ = (y136 ++ y139) := ⟨_, rfl⟩
           replace H : (spec_NeighborsIn.l0 k3 l0 a1 y143 (wrap64 (x6_1 + 1))) = some r := ry hy143 H
           have Ny143 := am hy143
           clear hy143
           have H' := am H
           clear H
           obtain ⟨Ao22, co22, eo22⟩ := Kd.R_slice HO_5.out
           subst eo22
           have p122 : 0 ≤ (x8_3 : Int) := sa
           have q122 : x8_3 < (x5_1.length : Int) := sa
           obtain ⟨ad122, e122, hx122_0⟩ := Kd.at_int (Kd.R_reads' HO_5.out).2.2 x8_3 p122 q122
           cases e122
           replace p122 := eq_true p122
           replace q122 := eq_true q122
           try go_wp2
           replace HO_5 := am (Kd.R_drew HO_5.out)
           replace HB := am (below_drew1 HB.out)
           have q24 : (x8_3 : Int) ≤ ((x5_1.length : Int) : Int) := sa
           obtain ⟨i024, hi024, _, hsz24, _⟩ := info_parts info3
           have hroom24 : x5_1.length ≤ co22 := (Kd.R_reads' HO_5.out).2.1
           have hC24 : Kd.C (Kd.int .i64) _ (some ad122) x5_1.length x5_1 := (Kd.R_reads' HO_5.out).2.2
           have hcut24 := cut_to (P := Try.prog) 22 3 .i64 Try.underlying22 hi024 (some ad122) x5_1.length co22 x8_3 (sa) q24 hroom24
           have hr24 := Kd.C_take (m := (x8_3 : Int).toNat) hC24 (by omega)
           have hy24 : y126.length = (x8_3 : Int).toNat := (by rw [Ny126.out, List.length_take]; omega)
           rw [← Ny126.out] at hr24
           rw [← hy24] at hcut24
           have HR129 := am hr24
           have HC129 := am (show y126.length ≤ co22 from by omega)
           clear hr24 hC24 hroom24 hi024 hsz24
           have KY24 := am hy24
           clear hy24
           have KL24 := am (show (x8_3 : Int).toNat ≤ x5_1.length from by omega)
           replace q24 := eq_true q24
           have q25 : (x8_3 : Int) ≤ ((x5_1.length : Int) : Int) := sa
           obtain ⟨i025, hi025, _, hsz25, _⟩ := info_parts info3
           have hroom25 : x5_1.length ≤ co22 := (Kd.R_reads' HO_5.out).2.1
           have hC25 : Kd.C (Kd.int .i64) _ (some ad122) x5_1.length x5_1 := (Kd.R_reads' HO_5.out).2.2
           have q025 : (0 : Int) ≤ (x8_3 : Int) := sa
           have hcut25 := cut_from (P := Try.prog) 22 3 .i64 Try.underlying22 hi025 1 hsz25 (some ad122) x5_1.length co22 x8_3 q025 q25
           have hr25 := Kd.C_drop (m := (x8_3 : Int).toNat) (c := co22) hC25 (by omega) hroom25
           obtain ⟨A25, hA25⟩ : ∃ A1, A1 = (if co22 = (x8_3 : Int).toNat then (some ad122) else ((some ad122) : Option Addr).map (·.add ((x8_3 : Int).toNat * 1))) := ⟨_, rfl⟩
           obtain ⟨c25, hc25⟩ : ∃ c1, c1 = co22 - (x8_3 : Int).toNat := ⟨_, rfl⟩
           have hy25 : y139.length = x5_1.length - (x8_3 : Int).toNat := (by rw [Ny139.out, List.length_drop] <;> omega)
           rw [show (x5_1).drop (x8_3 : Int).toNat = y139 from Ny139.out.symm] at hr25
           replace hr25 : Kd.C (Kd.int .i64) _ A25 y139.length y139 := (by rw [hA25]; exact hr25)
           rw [← hy25, ← hA25, ← hc25] at hcut25
           have HR142 := am hr25
           have HC142 := am (show y139.length ≤ c25 from by rw [hy25, hc25]; exact Nat.sub_le_sub_right hroom25 _)
           clear hr25 hC25 hroom25 hi025 hsz25 hc25
           have KY25 := am hy25
           have KA25 := am hA25
           clear hy25 hA25
           have KL25 := am (show (x8_3 : Int).toNat ≤ x5_1.length from by omega)
           replace q25 := eq_true q25
           refine start_ (n := 13) (S := fun w' => True) (ds := []) #[false, false, false, false, false, false, false, false, false, false, false, false, false] (by kernel_rfl) rfl rfl trivial (fun hHeld => ?_); refine with_tabW spec_NeighborsIn.tab14 spec_NeighborsIn.bits14 (fun HT_ HW_ => ?_)
           generalize wr.drew = w23 at HO_5 HB HR129 HR142 hHeld ⊢
           refine put 1 67 (bt 13 2) HT_ ?_
           refine put 2 68 (bt 13 6) HT_ ?_
           refine put 3 69 (bt 13 14) HT_ ?_
           refine put 5 71 (bt 13 46) HT_ ?_
           refine put 8 74 (bt 13 302) HT_ ?_
           refine put 9 75 (bt 13 814) HT_ ?_
           refine put 10 76 (bt 13 1838) HT_ ?_
           refine join_ (σ := Value × Value × Value) 3 (bt 13 1919) (fun s_ => [(66, s_.1), (70, s_.2.1), (72, s_.2.2)]) (fun s_ w' => (Kd.R (Kd.int .i64) 3 w' w.heap.size (fun k_ => some k_ ≠ (s_.2.2 : Value).ownBlock ∧ some k_ ≠ (.slice (some ad122) x5_1.length co22 : Value).ownBlock) s_.2.1 y130) ∧ (Kd.R (Kd.int .i64) 3 w' w.heap.size (fun k_ => some k_ ≠ (s_.2.1 : Value).ownBlock ∧ some k_ ≠ (.slice (some ad122) x5_1.length co22 : Value).ownBlock) s_.2.2 y133) ∧ (Kd.R (Kd.int .i64) 3 w' w.heap.size (fun k_ => some k_ ≠ (s_.2.1 : Value).ownBlock ∧ some k_ ≠ (s_.2.2 : Value).ownBlock) (.slice (some ad122) x5_1.length co22) x5_1) ∧ (Below w.heap.size w w')) ?_ ?_
           rotate_left
           ·intro hCont
            refine two_ (i := 0) (j := 6) (Ni := some 66) (Nj := some 72) (bt 13 1839) (bt 13 1902) rfl rfl rfl rfl (two_of HT_.out (by kernel_rfl)) (by decide) (by decide) (fun K hK => ?_) (fun K hK => ?_)
            ·skip
             refine Kd.R_lit_step (Kd.int .i64) _ 3 ?hg (N := 66) ?hd (xs := ([] : List Int)) (inner := []) (ok := fun _ => True) (okp := fun _ => True) ?hr ?hp (fun _ hk => hk) trivial (Below.refl _ _) (Nat.le_refl _) (by simp) ?_; (case hd => rfl); (case hg => rfl); (case hr => first | (go_simp; done) | (go_simp; rfl)); (case hp => exact (Reps.none _ _))
             intro v124 w26 ho27 hb hg_ hnew_
             clear hg_ hnew_
             (first | rw [← Ny123.out] at ho27 | (simp only [Int.reduceToNat] at ho27; rw [← Ny123.out] at ho27))
             have HO125 := am (Kd.R_lower (Kd.R_new' ho27 (Kd.R_lt (sr HO_5))) (below_size (sb)))
             replace HO_5 := am (Kd.R_elder' (sr HO_5) (Kd.R_base ho27) hb)
             replace HR129 := am (Kd.C_below (cq HR129) hb)
             replace HR142 := am (Kd.C_below (cq HR142) hb)
             replace HB := bs hb
             clear hb ho27
             refine hK.out _ _ trivial (fun hHeld => ?_)
             clear hK K
             refine nm 66 ?_
             refine two_ (i := 4) (j := 6) (Ni := some 70) (Nj := some 72) (bt 13 1855) (bt 13 1903) rfl rfl rfl rfl (two_of HT_.out (by kernel_rfl)) (by decide) (by decide) (fun K hK => ?_) (fun K hK => ?_)
             ·skip
              refine Kd.R_append_rows_step (Kd.int .i64) (w0 := w) w.heap.size (by rfl) (.tmp 66) (.tmp 69) 22 3 (.int .i64 0) 8 rfl Try.underlying22 info3 rfl (by decide) (by omega) v124 y123 y126 _ _ _ (fun k_ => some k_ ≠ (.slice (some ad122) x5_1.length co22 : Value).ownBlock) (fun _ => False) rfl rfl ?aO ?aR (fun _ _ h => h) (fun _ h => h.elim) ?aF ?aB ?aS ?aL ?_
              (case aR => repeat (first | exact (cq HR129) | (with_reducible refine Kd.C_alloc ?_ _) | (with_reducible refine Kd.C_drewN ?_ _) | (with_reducible refine Kd.C_drew ?_)))
              (case aB => exact (sb))
              (case aF => exact (fun k_ hk => Kd.fresh' (Kd.R_lt (sr HO_5)) k_ hk))
              (case aO => exact (by exact rm HO125 (fun _ hk => hk.2)))
              (case aS => exact (below_size (sb)))
              (case aL => have := LMc17.out; omega)
              intro v131 w28 ho hb hg hat
              rw [← Ny130.out] at ho
              replace HB := am hb
              replace HR129 := am ((show Kd.C (Kd.int .i64) w28 (some ad122) y126.length y126 from by rw [Ny126.out]; exact Kd.C_take (m := (x8_3 : Int).toNat) ((Kd.R_reads' (Kd.R_after (ok := (fun _ => True)) (sr HO_5) hg hat)).2.2) KL24.out))
              replace HR142 := am ((show Kd.C (Kd.int .i64) w28 A25 y139.length y139 from by rw [Ny139.out, KA25.out]; exact Kd.C_drop (m := (x8_3 : Int).toNat) (c := co22) ((Kd.R_reads' (Kd.R_after (ok := (fun _ => True)) (sr HO_5) hg hat)).2.2) KL25.out ((Kd.R_reads' (Kd.R_after (ok := (fun _ => True)) (sr HO_5) hg hat)).2.1)))
              replace HO_5 := am (Kd.R_after (ok := (fun _ => True)) (sr HO_5) hg hat)
              have HO132 := am ho
              clear HO125 ho hb hg hat
              refine hK.out _ _ trivial (fun hHeld => ?_)
              clear hK K
              refine nm 70 ?_
              refine on 6 72 (bt 13 1919) HT_ (fun K hK => ?_)
              refine Kd.R_lit_step (Kd.int .i64) _ 3 ?hg (N := 72) ?hd (xs := ([x7_6] : List Int)) (inner := [.int .i64 x7_6]) (ok := fun _ => True) (okp := fun _ => True) ?hr ?hp (fun _ hk => hk) trivial (Below.refl _ _) (Nat.le_refl _) (by simp) ?_; (case hd => rfl); (case hg => rfl); (case hr => first | (go_simp; done) | (go_simp; rfl)); (case hp => exact (Reps.one (show Kd.M (Kd.int .i64) _ _ _ x7_6 [.int .i64 x7_6] from rfl) (Reps.none _ _)))
              intro v134 w29 ho30 hb hg_ hnew_
              clear hg_ hnew_
              (first | rw [← Ny133.out] at ho30 | (simp only [Int.reduceToNat] at ho30; rw [← Ny133.out] at ho30))
              have HO135 := am (Kd.R_lower (Kd.R_new' (Kd.R_new' ho30 (Kd.R_lt (sr HO_5))) (Kd.R_lt (sr HO132))) (below_size (sb)))
              replace HO_5 := am (Kd.R_elder' (sr HO_5) (Kd.R_base ho30) hb)
              replace HO132 := am (Kd.R_elder' (sr HO132) (Kd.R_base ho30) hb)
              replace HR129 := am (Kd.C_below (cq HR129) hb)
              replace HR142 := am (Kd.C_below (cq HR142) hb)
              replace HB := bs hb
              clear hb ho30
              refine hK.out _ _ trivial (fun hHeld => ?_)
              clear hK K
              refine nm 72 ?_
              exact norm_ a2_0 (hCont (v124, v131, v134) _ ⟨a2_5, (by exact rm HO135 (fun _ hk => ⟨hk.2, hk.1.2⟩)), a2_1, (sb)⟩)
             ·skip
              refine Kd.R_lit_step (Kd.int .i64) _ 3 ?hg (N := 72) ?hd (xs := ([x7_6] : List Int)) (inner := [.int .i64 x7_6]) (ok := fun _ => True) (okp := fun _ => True) ?hr ?hp (fun _ hk => hk) trivial (Below.refl _ _) (Nat.le_refl _) (by simp) ?_; (case hd => rfl); (case hg => rfl); (case hr => first | (go_simp; done) | (go_simp; rfl)); (case hp => exact (Reps.one (show Kd.M (Kd.int .i64) _ _ _ x7_6 [.int .i64 x7_6] from rfl) (Reps.none _ _)))
              intro v134 w28 ho29 hb hg_ hnew_
              clear hg_ hnew_
              (first | rw [← Ny133.out] at ho29 | (simp only [Int.reduceToNat] at ho29; rw [← Ny133.out] at ho29))
              have HO135 := am (Kd.R_lower (Kd.R_new' (Kd.R_new' ho29 (Kd.R_lt (sr HO_5))) (Kd.R_lt (sr HO125))) (below_size (sb)))
              replace HO_5 := am (Kd.R_elder' (sr HO_5) (Kd.R_base ho29) hb)
              replace HO125 := am (Kd.R_elder' (sr HO125) (Kd.R_base ho29) hb)
              replace HR129 := am (Kd.C_below (cq HR129) hb)
              replace HR142 := am (Kd.C_below (cq HR142) hb)
              replace HB := bs hb
              clear hb ho29
              refine hK.out _ _ trivial (fun hHeld => ?_)
              clear hK K
              refine nm 72 ?_
              refine on 4 70 (bt 13 1919) HT_ (fun K hK => ?_)
              refine Kd.R_append_rows_step (Kd.int .i64) (w0 := w) w.heap.size (by rfl) (.tmp 66) (.tmp 69) 22 3 (.int .i64 0) 8 rfl Try.underlying22 info3 rfl (by decide) (by omega) v124 y123 y126 _ _ _ (fun k_ => some k_ ≠ (.slice (some ad122) x5_1.length co22 : Value).ownBlock ∧ some k_ ≠ (v134 : Value).ownBlock) (fun _ => False) rfl rfl ?aO ?aR (fun _ _ h => h) (fun _ h => h.elim) ?aF ?aB ?aS ?aL ?_
              (case aR => repeat (first | exact (cq HR129) | (with_reducible refine Kd.C_alloc ?_ _) | (with_reducible refine Kd.C_drewN ?_ _) | (with_reducible refine Kd.C_drew ?_)))
              (case aB => exact (sb))
              (case aF => exact (fun k_ hk => ⟨Kd.fresh' (Kd.R_lt (sr HO_5)) k_ hk, Kd.fresh' (Kd.R_lt (sr HO135)) k_ hk⟩))
              (case aO => exact (by exact rm HO125 (fun _ hk => ⟨hk.1.2, hk.2⟩)))
              (case aS => exact (below_size (sb)))
              (case aL => have := LMc17.out; omega)
              intro v131 w30 ho hb hg hat
              rw [← Ny130.out] at ho
              replace HO135 := am (Kd.R_after (ok := (fun k_ => some k_ ≠ (.slice (some ad122) x5_1.length co22 : Value).ownBlock)) (by exact rm HO135 (fun _ hk => ⟨hk.1.2, hk.2⟩)) hg hat)
              replace HB := am hb
              replace HR129 := am ((show Kd.C (Kd.int .i64) w30 (some ad122) y126.length y126 from by rw [Ny126.out]; exact Kd.C_take (m := (x8_3 : Int).toNat) ((Kd.R_reads' (Kd.R_after (ok := (fun k_ => some k_ ≠ (v134 : Value).ownBlock)) a2_2 hg hat)).2.2) KL24.out))
              replace HR142 := am ((show Kd.C (Kd.int .i64) w30 A25 y139.length y139 from by rw [Ny139.out, KA25.out]; exact Kd.C_drop (m := (x8_3 : Int).toNat) (c := co22) ((Kd.R_reads' (Kd.R_after (ok := (fun k_ => some k_ ≠ (v134 : Value).ownBlock)) a2_2 hg hat)).2.2) KL25.out ((Kd.R_reads' (Kd.R_after (ok := (fun k_ => some k_ ≠ (v134 : Value).ownBlock)) a2_2 hg hat)).2.1)))
              replace HO_5 := am (Kd.R_after (ok := (fun k_ => some k_ ≠ (v134 : Value).ownBlock)) a2_2 hg hat)
              have HO132 := am ho
              clear HO125 ho hb hg hat
              refine hK.out _ _ trivial (fun hHeld => ?_)
              clear hK K
              refine nm 70 ?_
              exact norm_ a2_0 (hCont (v124, v131, v134) _ ⟨a2_5, a2_8, a2_3, (sb)⟩)
            ·skip
             refine Kd.R_lit_step (Kd.int .i64) _ 3 ?hg (N := 72) ?hd (xs := ([x7_6] : List Int)) (inner := [.int .i64 x7_6]) (ok := fun _ => True) (okp := fun _ => True) ?hr ?hp (fun _ hk => hk) trivial (Below.refl _ _) (Nat.le_refl _) (by simp) ?_; (case hd => rfl); (case hg => rfl); (case hr => first | (go_simp; done) | (go_simp; rfl)); (case hp => exact (Reps.one (show Kd.M (Kd.int .i64) _ _ _ x7_6 [.int .i64 x7_6] from rfl) (Reps.none _ _)))
             intro v134 w26 ho27 hb hg_ hnew_
             clear hg_ hnew_
             (first | rw [← Ny133.out] at ho27 | (simp only [Int.reduceToNat] at ho27; rw [← Ny133.out] at ho27))
             have HO135 := am (Kd.R_lower (Kd.R_new' ho27 (Kd.R_lt (sr HO_5))) (below_size (sb)))
             replace HO_5 := am (Kd.R_elder' (sr HO_5) (Kd.R_base ho27) hb)
             replace HR129 := am (Kd.C_below (cq HR129) hb)
             replace HR142 := am (Kd.C_below (cq HR142) hb)
             replace HB := bs hb
             clear hb ho27
             refine hK.out _ _ trivial (fun hHeld => ?_)
             clear hK K
             refine nm 72 ?_
             refine on 0 66 (bt 13 1903) HT_ (fun K hK => ?_)
             refine Kd.R_lit_step (Kd.int .i64) _ 3 ?hg (N := 66) ?hd (xs := ([] : List Int)) (inner := []) (ok := fun _ => True) (okp := fun _ => True) ?hr ?hp (fun _ hk => hk) trivial (Below.refl _ _) (Nat.le_refl _) (by simp) ?_; (case hd => rfl); (case hg => rfl); (case hr => first | (go_simp; done) | (go_simp; rfl)); (case hp => exact (Reps.none _ _))
             intro v124 w28 ho29 hb hg_ hnew_
             clear hg_ hnew_
             (first | rw [← Ny123.out] at ho29 | (simp only [Int.reduceToNat] at ho29; rw [← Ny123.out] at ho29))
             have HO125 := am (Kd.R_lower (Kd.R_new' (Kd.R_new' ho29 (Kd.R_lt (sr HO_5))) (Kd.R_lt (sr HO135))) (below_size (sb)))
             replace HO_5 := am (Kd.R_elder' (sr HO_5) (Kd.R_base ho29) hb)
             replace HO135 := am (Kd.R_elder' (sr HO135) (Kd.R_base ho29) hb)
             replace HR129 := am (Kd.C_below (cq HR129) hb)
             replace HR142 := am (Kd.C_below (cq HR142) hb)
             replace HB := bs hb
             clear hb ho29
             refine hK.out _ _ trivial (fun hHeld => ?_)
             clear hK K
             refine nm 66 ?_
             refine on 4 70 (bt 13 1919) HT_ (fun K hK => ?_)
             refine Kd.R_append_rows_step (Kd.int .i64) (w0 := w) w.heap.size (by rfl) (.tmp 66) (.tmp 69) 22 3 (.int .i64 0) 8 rfl Try.underlying22 info3 rfl (by decide) (by omega) v124 y123 y126 _ _ _ (fun k_ => some k_ ≠ (.slice (some ad122) x5_1.length co22 : Value).ownBlock ∧ some k_ ≠ (v134 : Value).ownBlock) (fun _ => False) rfl rfl ?aO ?aR (fun _ _ h => h) (fun _ h => h.elim) ?aF ?aB ?aS ?aL ?_
             (case aR => repeat (first | exact (cq HR129) | (with_reducible refine Kd.C_alloc ?_ _) | (with_reducible refine Kd.C_drewN ?_ _) | (with_reducible refine Kd.C_drew ?_)))
             (case aB => exact (sb))
             (case aF => exact (fun k_ hk => ⟨Kd.fresh' (Kd.R_lt (sr HO_5)) k_ hk, Kd.fresh' (Kd.R_lt (sr HO135)) k_ hk⟩))
             (case aO => exact (by exact rm HO125 (fun _ hk => ⟨hk.1.2, hk.2⟩)))
             (case aS => exact (below_size (sb)))
             (case aL => have := LMc17.out; omega)
             intro v131 w30 ho hb hg hat
             rw [← Ny130.out] at ho
             replace HO135 := am (Kd.R_after (ok := (fun k_ => some k_ ≠ (.slice (some ad122) x5_1.length co22 : Value).ownBlock)) (by exact rm HO135 (fun _ hk => ⟨hk.1.2, hk.2⟩)) hg hat)
             replace HB := am hb
             replace HR129 := am ((show Kd.C (Kd.int .i64) w30 (some ad122) y126.length y126 from by rw [Ny126.out]; exact Kd.C_take (m := (x8_3 : Int).toNat) ((Kd.R_reads' (Kd.R_after (ok := (fun k_ => some k_ ≠ (v134 : Value).ownBlock)) a2_1 hg hat)).2.2) KL24.out))
             replace HR142 := am ((show Kd.C (Kd.int .i64) w30 A25 y139.length y139 from by rw [Ny139.out, KA25.out]; exact Kd.C_drop (m := (x8_3 : Int).toNat) (c := co22) ((Kd.R_reads' (Kd.R_after (ok := (fun k_ => some k_ ≠ (v134 : Value).ownBlock)) a2_1 hg hat)).2.2) KL25.out ((Kd.R_reads' (Kd.R_after (ok := (fun k_ => some k_ ≠ (v134 : Value).ownBlock)) a2_1 hg hat)).2.1)))
             replace HO_5 := am (Kd.R_after (ok := (fun k_ => some k_ ≠ (v134 : Value).ownBlock)) a2_1 hg hat)
             have HO132 := am ho
             clear HO125 ho hb hg hat
             refine hK.out _ _ trivial (fun hHeld => ?_)
             clear hK K
             refine nm 70 ?_
             exact norm_ a2_0 (hCont (v124, v131, v134) _ ⟨a2_5, a2_8, a2_3, (sb)⟩)
           rintro ⟨v124, v131, v134⟩ w31 ⟨h0_, h1_, h2_, h3_⟩
           have HO132 : Aside0 (Kd.R (Kd.int .i64) 3 w31 w.heap.size (fun k_ => some k_ ≠ (v134 : Value).ownBlock ∧ some k_ ≠ (.slice (some ad122) x5_1.length co22 : Value).ownBlock) v131 y130) := ⟨h0_⟩
           have HO135 : Aside0 (Kd.R (Kd.int .i64) 3 w31 w.heap.size (fun k_ => some k_ ≠ (v131 : Value).ownBlock ∧ some k_ ≠ (.slice (some ad122) x5_1.length co22 : Value).ownBlock) v134 y133) := ⟨h1_⟩
           replace HO_5 : Aside0 (Kd.R (Kd.int .i64) 3 w31 w.heap.size (fun k_ => some k_ ≠ (v131 : Value).ownBlock ∧ some k_ ≠ (v134 : Value).ownBlock) (.slice (some ad122) x5_1.length co22) x5_1) := ⟨h2_⟩
           replace HB : Aside0 (Below w.heap.size w w31) := ⟨h3_⟩
           clear h0_ h1_ h2_ h3_
           have hHeld := trivial
           obtain ⟨Ao33, co33, eo33⟩ := Kd.R_slice HO135.out
           (first | subst eo33 | (injection eo33 with f1_ f2_ f3_; have f4_ := f1_.symm; have f5_ := f3_.symm; clear f1_ f2_ f3_; subst f4_; subst f5_))
           refine norm_ (a' := ?_) ?_ ?_
           rotate_left
           ·simp only [putAll, Act.put, List.setIfInBounds_toArray, List.set_cons_zero, List.set_cons_succ]
            rfl
           refine on 7 73 (bt 13 2047) HT_ (fun K hK => ?_)
           refine Kd.R_append_rows_step (Kd.int .i64) (w0 := w) w.heap.size (by rfl) (.tmp 70) (.tmp 72) 22 3 (.int .i64 0) 8 rfl Try.underlying22 info3 rfl (by decide) (by omega) v131 y130 y133 _ _ _ (fun k_ => some k_ ≠ (.slice (some ad122) x5_1.length co22 : Value).ownBlock ∧ some k_ ≠ (.slice Ao33 y133.length co33 : Value).ownBlock) (fun _ => False) rfl rfl ?aO ?aR (fun _ _ h => h) (fun _ h => h.elim) ?aF ?aB ?aS ?aL ?_
           (case aR => repeat (first | exact (Kd.R_reads' HO135.out).2.2 | (with_reducible refine Kd.C_alloc ?_ _) | (with_reducible refine Kd.C_drewN ?_ _) | (with_reducible refine Kd.C_drew ?_)))
           (case aB => exact (sb))
           (case aF => exact (fun k_ hk => ⟨Kd.fresh' (Kd.R_lt (sr HO_5)) k_ hk, Kd.fresh' (Kd.R_lt (sr HO135)) k_ hk⟩))
           (case aO => exact a2_5)
           (case aS => exact (below_size (sb)))
           (case aL => have := LMc18.out; omega)
           intro v137 w32 ho hb hg hat
           rw [← Ny136.out] at ho
           replace HO_5 := am (Kd.R_after (ok := (fun k_ => some k_ ≠ (.slice Ao33 y133.length co33 : Value).ownBlock)) a2_3 hg hat)
           replace HO135 := am (Kd.R_after (ok := (fun k_ => some k_ ≠ (.slice (some ad122) x5_1.length co22 : Value).ownBlock)) a2_8 hg hat)
           replace HB := am hb
           have HO138 := am ho
           clear HO132 ho hb hg hat
           refine hK.out _ _ trivial (fun hHeld => ?_)
           clear hK K
           refine nm 73 ?_
           refine on 11 77 (bt 13 4095) HT_ (fun K hK => ?_)
           refine Kd.R_append_rows_step (Kd.int .i64) (w0 := w) w.heap.size (by rfl) (.tmp 73) (.tmp 76) 22 3 (.int .i64 0) 8 rfl Try.underlying22 info3 rfl (by decide) (by omega) v137 y136 y139 _ _ _ (fun k_ => some k_ ≠ (.slice (some ad122) x5_1.length co22 : Value).ownBlock ∧ some k_ ≠ (.slice Ao33 y133.length co33 : Value).ownBlock) (fun _ => False) rfl rfl ?aO ?aR (fun _ _ h => h) (fun _ h => h.elim) ?aF ?aB ?aS ?aL ?_
           (case aR => exact (show Kd.C (Kd.int .i64) _ A25 y139.length y139 from by rw [Ny139.out, KA25.out]; exact Kd.C_drop (m := (x8_3 : Int).toNat) (c := co22) ((Kd.R_reads' (sr HO_5)).2.2) KL25.out ((Kd.R_reads' HO_5.out).2.1)))
           (case aB => exact (sb))
           (case aF => exact (fun k_ hk => ⟨Kd.fresh' (Kd.R_lt (sr HO_5)) k_ hk, Kd.fresh' (Kd.R_lt (sr HO135)) k_ hk⟩))
           (case aO => exact (sr HO138))
           (case aS => exact (below_size (sb)))
           (case aL => have := LMc21.out; omega)
           intro v144 w34 ho hb hg hat
           rw [← Ny143.out] at ho
           replace HO_5 := am (Kd.R_after (ok := (fun k_ => some k_ ≠ (.slice Ao33 y133.length co33 : Value).ownBlock)) (sr HO_5) hg hat)
           replace HO135 := am (Kd.R_after (ok := (fun k_ => some k_ ≠ (.slice (some ad122) x5_1.length co22 : Value).ownBlock)) (sr HO135) hg hat)
           replace HB := am hb
           have HO145 := am ho
           clear HO138 ho hb hg hat
           refine hK.out _ _ trivial (fun hHeld => ?_)
           clear hK K
           refine nm 77 ?_
           refine put 12 5 (bt 13 8191) HT_ ?_
           refine done_ (done_of HT_.out (by kernel_rfl)) ?_
           try go_wp2
           go_roundg k3
           case measure => have := HK1.out; have := HJ6.out; have := HK3.out; omega
           case rel => exact ⟨(y143), (wrap64 (x6_1 + 1)), sc, H', ⟨a2_4⟩, ⟨by exact rm HO145 (fun _ hk => trivial)⟩, ⟨sb⟩⟩
          ·obtain ⟨-, c35b0, c35b1, H⟩ | ⟨c35, c35b0, c35b1, H⟩ := ib_ H
           ·have H' := am H
            clear H
            obtain ⟨Ao36, co36, eo36⟩ := Kd.R_slice HO_5.out
            subst eo36
            have p122 : 0 ≤ (x8_3 : Int) := sa
            have q122 : x8_3 < (x5_1.length : Int) := sa
            obtain ⟨ad122, e122, hx122_0⟩ := Kd.at_int (Kd.R_reads' HO_5.out).2.2 x8_3 p122 q122
            cases e122
            replace p122 := eq_true p122
            replace q122 := eq_true q122
            have p146 : 0 ≤ (x8_3 : Int) := sa
            have q146 : x8_3 < (x5_1.length : Int) := sa
            obtain ⟨ad146, e146, hx146_0⟩ := Kd.at_int (Kd.R_reads' HO_5.out).2.2 x8_3 p146 q146
            obtain rfl : ad122 = ad146 := (by injection e146)
            replace p146 := eq_true p146
            replace q146 := eq_true q146
            go_wp2
            go_roundg k3
            case measure => have := HK1.out; have := HJ6.out; have := HK3.out; omega
            case rel => exact ⟨(x5_1), (wrap64 (x6_1 + 1)), sc, H', ⟨a2_4⟩, ⟨sr HO_5⟩, ⟨sb⟩⟩
           ·obtain ⟨y147, Ny147, H⟩ := iy_ H
            have c37b0 := eq_true (sa : 0 ≤ x8_3)
            obtain ⟨c38, H⟩ := ia_ H
            have c38b0 := eq_true c38
            have c38b1 := decide_eq_true c38
            clear c38
            obtain ⟨y150, Ny150, H⟩ := iy_ H
            obtain ⟨LMc39, H⟩ := il_ H
            obtain ⟨y154, Ny154, H⟩ := iy_ H
            obtain ⟨y157, Ny157, H⟩ := iy_ H
            obtain ⟨LMc40, H⟩ := il_ H
            obtain ⟨y160, Ny160, H⟩ := iy_ H
            have c41b0 := eq_true (sa : 0 ≤ x8_3)
            have c42b0 := eq_true (sa : x8_3 ≤ (x5_1.length : Int))
            obtain ⟨y163, Ny163, H⟩ := iy_ H
            obtain ⟨LMc43, H⟩ := il_ H
            obtain ⟨y167, hy167⟩ : ∃ y_ : List Int, y_ = (y160 ++ y163) := ⟨_, rfl⟩
            replace H : (spec_NeighborsIn.l0 k3 l0 a1 y167 (wrap64 (x6_1 + 1))) = some r := ry hy167 H
            have Ny167 := am hy167
            clear hy167
            have H' := am H
            clear H
            obtain ⟨Ao44, co44, eo44⟩ := Kd.R_slice HO_5.out
            subst eo44
            have p122 : 0 ≤ (x8_3 : Int) := sa
            have q122 : x8_3 < (x5_1.length : Int) := sa
            obtain ⟨ad122, e122, hx122_0⟩ := Kd.at_int (Kd.R_reads' HO_5.out).2.2 x8_3 p122 q122
            cases e122
            replace p122 := eq_true p122
            replace q122 := eq_true q122
            have p146 : 0 ≤ (x8_3 : Int) := sa
            have q146 : x8_3 < (x5_1.length : Int) := sa
            obtain ⟨ad146, e146, hx146_0⟩ := Kd.at_int (Kd.R_reads' HO_5.out).2.2 x8_3 p146 q146
            obtain rfl : ad122 = ad146 := (by injection e146)
            replace p146 := eq_true p146
            replace q146 := eq_true q146
            try go_wp2
            replace HO_5 := am (Kd.R_drew HO_5.out)
            replace HB := am (below_drew1 HB.out)
            have q46 : (x8_3 : Int) ≤ ((x5_1.length : Int) : Int) := sa
            obtain ⟨i046, hi046, _, hsz46, _⟩ := info_parts info3
            have hroom46 : x5_1.length ≤ co44 := (Kd.R_reads' HO_5.out).2.1
            have hC46 : Kd.C (Kd.int .i64) _ (some ad122) x5_1.length x5_1 := (Kd.R_reads' HO_5.out).2.2
            have hcut46 := cut_to (P := Try.prog) 22 3 .i64 Try.underlying22 hi046 (some ad122) x5_1.length co44 x8_3 (sa) q46 hroom46
            have hr46 := Kd.C_take (m := (x8_3 : Int).toNat) hC46 (by omega)
            have hy46 : y150.length = (x8_3 : Int).toNat := (by rw [Ny150.out, List.length_take]; omega)
            rw [← Ny150.out] at hr46
            rw [← hy46] at hcut46
            have HR153 := am hr46
            have HC153 := am (show y150.length ≤ co44 from by omega)
            clear hr46 hC46 hroom46 hi046 hsz46
            have KY46 := am hy46
            clear hy46
            have KL46 := am (show (x8_3 : Int).toNat ≤ x5_1.length from by omega)
            replace q46 := eq_true q46
            have q47 : (x8_3 : Int) ≤ ((x5_1.length : Int) : Int) := sa
            obtain ⟨i047, hi047, _, hsz47, _⟩ := info_parts info3
            have hroom47 : x5_1.length ≤ co44 := (Kd.R_reads' HO_5.out).2.1
            have hC47 : Kd.C (Kd.int .i64) _ (some ad122) x5_1.length x5_1 := (Kd.R_reads' HO_5.out).2.2
            have q047 : (0 : Int) ≤ (x8_3 : Int) := sa
            have hcut47 := cut_from (P := Try.prog) 22 3 .i64 Try.underlying22 hi047 1 hsz47 (some ad122) x5_1.length co44 x8_3 q047 q47
            have hr47 := Kd.C_drop (m := (x8_3 : Int).toNat) (c := co44) hC47 (by omega) hroom47
            obtain ⟨A47, hA47⟩ : ∃ A1, A1 = (if co44 = (x8_3 : Int).toNat then (some ad122) else ((some ad122) : Option Addr).map (·.add ((x8_3 : Int).toNat * 1))) := ⟨_, rfl⟩
            obtain ⟨c47, hc47⟩ : ∃ c1, c1 = co44 - (x8_3 : Int).toNat := ⟨_, rfl⟩
            have hy47 : y163.length = x5_1.length - (x8_3 : Int).toNat := (by rw [Ny163.out, List.length_drop] <;> omega)
            rw [show (x5_1).drop (x8_3 : Int).toNat = y163 from Ny163.out.symm] at hr47
            replace hr47 : Kd.C (Kd.int .i64) _ A47 y163.length y163 := (by rw [hA47]; exact hr47)
            rw [← hy47, ← hA47, ← hc47] at hcut47
            have HR166 := am hr47
            have HC166 := am (show y163.length ≤ c47 from by rw [hy47, hc47]; exact Nat.sub_le_sub_right hroom47 _)
            clear hr47 hC47 hroom47 hi047 hsz47 hc47
            have KY47 := am hy47
            have KA47 := am hA47
            clear hy47 hA47
            have KL47 := am (show (x8_3 : Int).toNat ≤ x5_1.length from by omega)
            replace q47 := eq_true q47
            refine start_ (n := 13) (S := fun w' => True) (ds := []) #[false, false, false, false, false, false, false, false, false, false, false, false, false] (by kernel_rfl) rfl rfl trivial (fun hHeld => ?_); refine with_tabW spec_NeighborsIn.tab14 spec_NeighborsIn.bits14 (fun HT_ HW_ => ?_)
            generalize wr.drew = w45 at HO_5 HB HR153 HR166 hHeld ⊢
            refine put 1 67 (bt 13 2) HT_ ?_
            refine put 2 68 (bt 13 6) HT_ ?_
            refine put 3 69 (bt 13 14) HT_ ?_
            refine put 5 71 (bt 13 46) HT_ ?_
            refine put 8 74 (bt 13 302) HT_ ?_
            refine put 9 75 (bt 13 814) HT_ ?_
            refine put 10 76 (bt 13 1838) HT_ ?_
            refine join_ (σ := Value × Value × Value) 3 (bt 13 1919) (fun s_ => [(66, s_.1), (70, s_.2.1), (72, s_.2.2)]) (fun s_ w' => (Kd.R (Kd.int .i64) 3 w' w.heap.size (fun k_ => some k_ ≠ (s_.2.2 : Value).ownBlock ∧ some k_ ≠ (.slice (some ad122) x5_1.length co44 : Value).ownBlock) s_.2.1 y154) ∧ (Kd.R (Kd.int .i64) 3 w' w.heap.size (fun k_ => some k_ ≠ (s_.2.1 : Value).ownBlock ∧ some k_ ≠ (.slice (some ad122) x5_1.length co44 : Value).ownBlock) s_.2.2 y157) ∧ (Kd.R (Kd.int .i64) 3 w' w.heap.size (fun k_ => some k_ ≠ (s_.2.1 : Value).ownBlock ∧ some k_ ≠ (s_.2.2 : Value).ownBlock) (.slice (some ad122) x5_1.length co44) x5_1) ∧ (Below w.heap.size w w')) ?_ ?_
            rotate_left
            ·intro hCont
             refine two_ (i := 0) (j := 6) (Ni := some 66) (Nj := some 72) (bt 13 1839) (bt 13 1902) rfl rfl rfl rfl (two_of HT_.out (by kernel_rfl)) (by decide) (by decide) (fun K hK => ?_) (fun K hK => ?_)
             ·skip
              refine Kd.R_lit_step (Kd.int .i64) _ 3 ?hg (N := 66) ?hd (xs := ([] : List Int)) (inner := []) (ok := fun _ => True) (okp := fun _ => True) ?hr ?hp (fun _ hk => hk) trivial (Below.refl _ _) (Nat.le_refl _) (by simp) ?_; (case hd => rfl); (case hg => rfl); (case hr => first | (go_simp; done) | (go_simp; rfl)); (case hp => exact (Reps.none _ _))
              intro v148 w48 ho49 hb hg_ hnew_
              clear hg_ hnew_
              (first | rw [← Ny147.out] at ho49 | (simp only [Int.reduceToNat] at ho49; rw [← Ny147.out] at ho49))
              have HO149 := am (Kd.R_lower (Kd.R_new' ho49 (Kd.R_lt (sr HO_5))) (below_size (sb)))
              replace HO_5 := am (Kd.R_elder' (sr HO_5) (Kd.R_base ho49) hb)
              replace HR153 := am (Kd.C_below (cq HR153) hb)
              replace HR166 := am (Kd.C_below (cq HR166) hb)
              replace HB := bs hb
              clear hb ho49
              refine hK.out _ _ trivial (fun hHeld => ?_)
              clear hK K
              refine nm 66 ?_
              refine two_ (i := 4) (j := 6) (Ni := some 70) (Nj := some 72) (bt 13 1855) (bt 13 1903) rfl rfl rfl rfl (two_of HT_.out (by kernel_rfl)) (by decide) (by decide) (fun K hK => ?_) (fun K hK => ?_)
              ·skip
               refine Kd.R_append_rows_step (Kd.int .i64) (w0 := w) w.heap.size (by rfl) (.tmp 66) (.tmp 69) 22 3 (.int .i64 0) 8 rfl Try.underlying22 info3 rfl (by decide) (by omega) v148 y147 y150 _ _ _ (fun k_ => some k_ ≠ (.slice (some ad122) x5_1.length co44 : Value).ownBlock) (fun _ => False) rfl rfl ?aO ?aR (fun _ _ h => h) (fun _ h => h.elim) ?aF ?aB ?aS ?aL ?_
               (case aR => repeat (first | exact (cq HR153) | (with_reducible refine Kd.C_alloc ?_ _) | (with_reducible refine Kd.C_drewN ?_ _) | (with_reducible refine Kd.C_drew ?_)))
               (case aB => exact (sb))
               (case aF => exact (fun k_ hk => Kd.fresh' (Kd.R_lt (sr HO_5)) k_ hk))
               (case aO => exact (by exact rm HO149 (fun _ hk => hk.2)))
               (case aS => exact (below_size (sb)))
               (case aL => have := LMc39.out; omega)
               intro v155 w50 ho hb hg hat
               rw [← Ny154.out] at ho
               replace HB := am hb
               replace HR153 := am ((show Kd.C (Kd.int .i64) w50 (some ad122) y150.length y150 from by rw [Ny150.out]; exact Kd.C_take (m := (x8_3 : Int).toNat) ((Kd.R_reads' (Kd.R_after (ok := (fun _ => True)) (sr HO_5) hg hat)).2.2) KL46.out))
               replace HR166 := am ((show Kd.C (Kd.int .i64) w50 A47 y163.length y163 from by rw [Ny163.out, KA47.out]; exact Kd.C_drop (m := (x8_3 : Int).toNat) (c := co44) ((Kd.R_reads' (Kd.R_after (ok := (fun _ => True)) (sr HO_5) hg hat)).2.2) KL47.out ((Kd.R_reads' (Kd.R_after (ok := (fun _ => True)) (sr HO_5) hg hat)).2.1)))
               replace HO_5 := am (Kd.R_after (ok := (fun _ => True)) (sr HO_5) hg hat)
               have HO156 := am ho
               clear HO149 ho hb hg hat
               refine hK.out _ _ trivial (fun hHeld => ?_)
               clear hK K
               refine nm 70 ?_
               refine on 6 72 (bt 13 1919) HT_ (fun K hK => ?_)
               refine Kd.R_lit_step (Kd.int .i64) _ 3 ?hg (N := 72) ?hd (xs := ([x7_6] : List Int)) (inner := [.int .i64 x7_6]) (ok := fun _ => True) (okp := fun _ => True) ?hr ?hp (fun _ hk => hk) trivial (Below.refl _ _) (Nat.le_refl _) (by simp) ?_; (case hd => rfl); (case hg => rfl); (case hr => first | (go_simp; done) | (go_simp; rfl)); (case hp => exact (Reps.one (show Kd.M (Kd.int .i64) _ _ _ x7_6 [.int .i64 x7_6] from rfl) (Reps.none _ _)))
               intro v158 w51 ho52 hb hg_ hnew_
               clear hg_ hnew_
               (first | rw [← Ny157.out] at ho52 | (simp only [Int.reduceToNat] at ho52; rw [← Ny157.out] at ho52))
               have HO159 := am (Kd.R_lower (Kd.R_new' (Kd.R_new' ho52 (Kd.R_lt (sr HO_5))) (Kd.R_lt (sr HO156))) (below_size (sb)))
               replace HO_5 := am (Kd.R_elder' (sr HO_5) (Kd.R_base ho52) hb)
               replace HO156 := am (Kd.R_elder' (sr HO156) (Kd.R_base ho52) hb)
               replace HR153 := am (Kd.C_below (cq HR153) hb)
               replace HR166 := am (Kd.C_below (cq HR166) hb)
               replace HB := bs hb
               clear hb ho52
               refine hK.out _ _ trivial (fun hHeld => ?_)
               clear hK K
               refine nm 72 ?_
               exact norm_ a2_0 (hCont (v148, v155, v158) _ ⟨a2_6, (by exact rm HO159 (fun _ hk => ⟨hk.2, hk.1.2⟩)), a2_1, (sb)⟩)
              ·skip
               refine Kd.R_lit_step (Kd.int .i64) _ 3 ?hg (N := 72) ?hd (xs := ([x7_6] : List Int)) (inner := [.int .i64 x7_6]) (ok := fun _ => True) (okp := fun _ => True) ?hr ?hp (fun _ hk => hk) trivial (Below.refl _ _) (Nat.le_refl _) (by simp) ?_; (case hd => rfl); (case hg => rfl); (case hr => first | (go_simp; done) | (go_simp; rfl)); (case hp => exact (Reps.one (show Kd.M (Kd.int .i64) _ _ _ x7_6 [.int .i64 x7_6] from rfl) (Reps.none _ _)))
               intro v158 w50 ho51 hb hg_ hnew_
               clear hg_ hnew_
               (first | rw [← Ny157.out] at ho51 | (simp only [Int.reduceToNat] at ho51; rw [← Ny157.out] at ho51))
               have HO159 := am (Kd.R_lower (Kd.R_new' (Kd.R_new' ho51 (Kd.R_lt (sr HO_5))) (Kd.R_lt (sr HO149))) (below_size (sb)))
               replace HO_5 := am (Kd.R_elder' (sr HO_5) (Kd.R_base ho51) hb)
               replace HO149 := am (Kd.R_elder' (sr HO149) (Kd.R_base ho51) hb)
               replace HR153 := am (Kd.C_below (cq HR153) hb)
               replace HR166 := am (Kd.C_below (cq HR166) hb)
               replace HB := bs hb
               clear hb ho51
               refine hK.out _ _ trivial (fun hHeld => ?_)
               clear hK K
               refine nm 72 ?_
               refine on 4 70 (bt 13 1919) HT_ (fun K hK => ?_)
               refine Kd.R_append_rows_step (Kd.int .i64) (w0 := w) w.heap.size (by rfl) (.tmp 66) (.tmp 69) 22 3 (.int .i64 0) 8 rfl Try.underlying22 info3 rfl (by decide) (by omega) v148 y147 y150 _ _ _ (fun k_ => some k_ ≠ (.slice (some ad122) x5_1.length co44 : Value).ownBlock ∧ some k_ ≠ (v158 : Value).ownBlock) (fun _ => False) rfl rfl ?aO ?aR (fun _ _ h => h) (fun _ h => h.elim) ?aF ?aB ?aS ?aL ?_
               (case aR => repeat (first | exact (cq HR153) | (with_reducible refine Kd.C_alloc ?_ _) | (with_reducible refine Kd.C_drewN ?_ _) | (with_reducible refine Kd.C_drew ?_)))
               (case aB => exact (sb))
               (case aF => exact (fun k_ hk => ⟨Kd.fresh' (Kd.R_lt (sr HO_5)) k_ hk, Kd.fresh' (Kd.R_lt (sr HO159)) k_ hk⟩))
               (case aO => exact (by exact rm HO149 (fun _ hk => ⟨hk.1.2, hk.2⟩)))
               (case aS => exact (below_size (sb)))
               (case aL => have := LMc39.out; omega)
               intro v155 w52 ho hb hg hat
               rw [← Ny154.out] at ho
               replace HO159 := am (Kd.R_after (ok := (fun k_ => some k_ ≠ (.slice (some ad122) x5_1.length co44 : Value).ownBlock)) (by exact rm HO159 (fun _ hk => ⟨hk.1.2, hk.2⟩)) hg hat)
               replace HB := am hb
               replace HR153 := am ((show Kd.C (Kd.int .i64) w52 (some ad122) y150.length y150 from by rw [Ny150.out]; exact Kd.C_take (m := (x8_3 : Int).toNat) ((Kd.R_reads' (Kd.R_after (ok := (fun k_ => some k_ ≠ (v158 : Value).ownBlock)) a2_2 hg hat)).2.2) KL46.out))
               replace HR166 := am ((show Kd.C (Kd.int .i64) w52 A47 y163.length y163 from by rw [Ny163.out, KA47.out]; exact Kd.C_drop (m := (x8_3 : Int).toNat) (c := co44) ((Kd.R_reads' (Kd.R_after (ok := (fun k_ => some k_ ≠ (v158 : Value).ownBlock)) a2_2 hg hat)).2.2) KL47.out ((Kd.R_reads' (Kd.R_after (ok := (fun k_ => some k_ ≠ (v158 : Value).ownBlock)) a2_2 hg hat)).2.1)))
               replace HO_5 := am (Kd.R_after (ok := (fun k_ => some k_ ≠ (v158 : Value).ownBlock)) a2_2 hg hat)
               have HO156 := am ho
               clear HO149 ho hb hg hat
               refine hK.out _ _ trivial (fun hHeld => ?_)
               clear hK K
               refine nm 70 ?_
               exact norm_ a2_0 (hCont (v148, v155, v158) _ ⟨a2_6, a2_9, a2_3, (sb)⟩)
             ·skip
              refine Kd.R_lit_step (Kd.int .i64) _ 3 ?hg (N := 72) ?hd (xs := ([x7_6] : List Int)) (inner := [.int .i64 x7_6]) (ok := fun _ => True) (okp := fun _ => True) ?hr ?hp (fun _ hk => hk) trivial (Below.refl _ _) (Nat.le_refl _) (by simp) ?_; (case hd => rfl); (case hg => rfl); (case hr => first | (go_simp; done) | (go_simp; rfl)); (case hp => exact (Reps.one (show Kd.M (Kd.int .i64) _ _ _ x7_6 [.int .i64 x7_6] from rfl) (Reps.none _ _)))
              intro v158 w48 ho49 hb hg_ hnew_
              clear hg_ hnew_
              (first | rw [← Ny157.out] at ho49 | (simp only [Int.reduceToNat] at ho49; rw [← Ny157.out] at ho49))
              have HO159 := am (Kd.R_lower (Kd.R_new' ho49 (Kd.R_lt (sr HO_5))) (below_size (sb)))
              replace HO_5 := am (Kd.R_elder' (sr HO_5) (Kd.R_base ho49) hb)
              replace HR153 := am (Kd.C_below (cq HR153) hb)
              replace HR166 := am (Kd.C_below (cq HR166) hb)
              replace HB := bs hb
              clear hb ho49
              refine hK.out _ _ trivial (fun hHeld => ?_)
              clear hK K
              refine nm 72 ?_
              refine on 0 66 (bt 13 1903) HT_ (fun K hK => ?_)
              refine Kd.R_lit_step (Kd.int .i64) _ 3 ?hg (N := 66) ?hd (xs := ([] : List Int)) (inner := []) (ok := fun _ => True) (okp := fun _ => True) ?hr ?hp (fun _ hk => hk) trivial (Below.refl _ _) (Nat.le_refl _) (by simp) ?_; (case hd => rfl); (case hg => rfl); (case hr => first | (go_simp; done) | (go_simp; rfl)); (case hp => exact (Reps.none _ _))
              intro v148 w50 ho51 hb hg_ hnew_
              clear hg_ hnew_
              (first | rw [← Ny147.out] at ho51 | (simp only [Int.reduceToNat] at ho51; rw [← Ny147.out] at ho51))
              have HO149 := am (Kd.R_lower (Kd.R_new' (Kd.R_new' ho51 (Kd.R_lt (sr HO_5))) (Kd.R_lt (sr HO159))) (below_size (sb)))
              replace HO_5 := am (Kd.R_elder' (sr HO_5) (Kd.R_base ho51) hb)
              replace HO159 := am (Kd.R_elder' (sr HO159) (Kd.R_base ho51) hb)
              replace HR153 := am (Kd.C_below (cq HR153) hb)
              replace HR166 := am (Kd.C_below (cq HR166) hb)
              replace HB := bs hb
              clear hb ho51
              refine hK.out _ _ trivial (fun hHeld => ?_)
              clear hK K
              refine nm 66 ?_
              refine on 4 70 (bt 13 1919) HT_ (fun K hK => ?_)
              refine Kd.R_append_rows_step (Kd.int .i64) (w0 := w) w.heap.size (by rfl) (.tmp 66) (.tmp 69) 22 3 (.int .i64 0) 8 rfl Try.underlying22 info3 rfl (by decide) (by omega) v148 y147 y150 _ _ _ (fun k_ => some k_ ≠ (.slice (some ad122) x5_1.length co44 : Value).ownBlock ∧ some k_ ≠ (v158 : Value).ownBlock) (fun _ => False) rfl rfl ?aO ?aR (fun _ _ h => h) (fun _ h => h.elim) ?aF ?aB ?aS ?aL ?_
              (case aR => repeat (first | exact (cq HR153) | (with_reducible refine Kd.C_alloc ?_ _) | (with_reducible refine Kd.C_drewN ?_ _) | (with_reducible refine Kd.C_drew ?_)))
              (case aB => exact (sb))
              (case aF => exact (fun k_ hk => ⟨Kd.fresh' (Kd.R_lt (sr HO_5)) k_ hk, Kd.fresh' (Kd.R_lt (sr HO159)) k_ hk⟩))
              (case aO => exact (by exact rm HO149 (fun _ hk => ⟨hk.1.2, hk.2⟩)))
              (case aS => exact (below_size (sb)))
              (case aL => have := LMc39.out; omega)
              intro v155 w52 ho hb hg hat
              rw [← Ny154.out] at ho
              replace HO159 := am (Kd.R_after (ok := (fun k_ => some k_ ≠ (.slice (some ad122) x5_1.length co44 : Value).ownBlock)) (by exact rm HO159 (fun _ hk => ⟨hk.1.2, hk.2⟩)) hg hat)
              replace HB := am hb
              replace HR153 := am ((show Kd.C (Kd.int .i64) w52 (some ad122) y150.length y150 from by rw [Ny150.out]; exact Kd.C_take (m := (x8_3 : Int).toNat) ((Kd.R_reads' (Kd.R_after (ok := (fun k_ => some k_ ≠ (v158 : Value).ownBlock)) a2_1 hg hat)).2.2) KL46.out))
              replace HR166 := am ((show Kd.C (Kd.int .i64) w52 A47 y163.length y163 from by rw [Ny163.out, KA47.out]; exact Kd.C_drop (m := (x8_3 : Int).toNat) (c := co44) ((Kd.R_reads' (Kd.R_after (ok := (fun k_ => some k_ ≠ (v158 : Value).ownBlock)) a2_1 hg hat)).2.2) KL47.out ((Kd.R_reads' (Kd.R_after (ok := (fun k_ => some k_ ≠ (v158 : Value).ownBlock)) a2_1 hg hat)).2.1)))
              replace HO_5 := am (Kd.R_after (ok := (fun k_ => some k_ ≠ (v158 : Value).ownBlock)) a2_1 hg hat)
              have HO156 := am ho
              clear HO149 ho hb hg hat
              refine hK.out _ _ trivial (fun hHeld => ?_)
              clear hK K
              refine nm 70 ?_
              exact norm_ a2_0 (hCont (v148, v155, v158) _ ⟨a2_6, a2_9, a2_3, (sb)⟩)
            rintro ⟨v148, v155, v158⟩ w53 ⟨h0_, h1_, h2_, h3_⟩
            have HO156 : Aside0 (Kd.R (Kd.int .i64) 3 w53 w.heap.size (fun k_ => some k_ ≠ (v158 : Value).ownBlock ∧ some k_ ≠ (.slice (some ad122) x5_1.length co44 : Value).ownBlock) v155 y154) := ⟨h0_⟩
            have HO159 : Aside0 (Kd.R (Kd.int .i64) 3 w53 w.heap.size (fun k_ => some k_ ≠ (v155 : Value).ownBlock ∧ some k_ ≠ (.slice (some ad122) x5_1.length co44 : Value).ownBlock) v158 y157) := ⟨h1_⟩
            replace HO_5 : Aside0 (Kd.R (Kd.int .i64) 3 w53 w.heap.size (fun k_ => some k_ ≠ (v155 : Value).ownBlock ∧ some k_ ≠ (v158 : Value).ownBlock) (.slice (some ad122) x5_1.length co44) x5_1) := ⟨h2_⟩
            replace HB : Aside0 (Below w.heap.size w w53) := ⟨h3_⟩
            clear h0_ h1_ h2_ h3_
            have hHeld := trivial
            obtain ⟨Ao55, co55, eo55⟩ := Kd.R_slice HO159.out
            (first | subst eo55 | (injection eo55 with f1_ f2_ f3_; have f4_ := f1_.symm; have f5_ := f3_.symm; clear f1_ f2_ f3_; subst f4_; subst f5_))
            refine norm_ (a' := ?_) ?_ ?_
            rotate_left
            ·simp only [putAll, Act.put, List.setIfInBounds_toArray, List.set_cons_zero, List.set_cons_succ]
             rfl
            refine on 7 73 (bt 13 2047) HT_ (fun K hK => ?_)
            refine Kd.R_append_rows_step (Kd.int .i64) (w0 := w) w.heap.size (by rfl) (.tmp 70) (.tmp 72) 22 3 (.int .i64 0) 8 rfl Try.underlying22 info3 rfl (by decide) (by omega) v155 y154 y157 _ _ _ (fun k_ => some k_ ≠ (.slice (some ad122) x5_1.length co44 : Value).ownBlock ∧ some k_ ≠ (.slice Ao55 y157.length co55 : Value).ownBlock) (fun _ => False) rfl rfl ?aO ?aR (fun _ _ h => h) (fun _ h => h.elim) ?aF ?aB ?aS ?aL ?_
            (case aR => repeat (first | exact (Kd.R_reads' HO159.out).2.2 | (with_reducible refine Kd.C_alloc ?_ _) | (with_reducible refine Kd.C_drewN ?_ _) | (with_reducible refine Kd.C_drew ?_)))
            (case aB => exact (sb))
            (case aF => exact (fun k_ hk => ⟨Kd.fresh' (Kd.R_lt (sr HO_5)) k_ hk, Kd.fresh' (Kd.R_lt (sr HO159)) k_ hk⟩))
            (case aO => exact a2_6)
            (case aS => exact (below_size (sb)))
            (case aL => have := LMc40.out; omega)
            intro v161 w54 ho hb hg hat
            rw [← Ny160.out] at ho
            replace HO_5 := am (Kd.R_after (ok := (fun k_ => some k_ ≠ (.slice Ao55 y157.length co55 : Value).ownBlock)) a2_3 hg hat)
            replace HO159 := am (Kd.R_after (ok := (fun k_ => some k_ ≠ (.slice (some ad122) x5_1.length co44 : Value).ownBlock)) a2_9 hg hat)
            replace HB := am hb
            have HO162 := am ho
            clear HO156 ho hb hg hat
            refine hK.out _ _ trivial (fun hHeld => ?_)
            clear hK K
            refine nm 73 ?_
            refine on 11 77 (bt 13 4095) HT_ (fun K hK => ?_)
            refine Kd.R_append_rows_step (Kd.int .i64) (w0 := w) w.heap.size (by rfl) (.tmp 73) (.tmp 76) 22 3 (.int .i64 0) 8 rfl Try.underlying22 info3 rfl (by decide) (by omega) v161 y160 y163 _ _ _ (fun k_ => some k_ ≠ (.slice (some ad122) x5_1.length co44 : Value).ownBlock ∧ some k_ ≠ (.slice Ao55 y157.length co55 : Value).ownBlock) (fun _ => False) rfl rfl ?aO ?aR (fun _ _ h => h) (fun _ h => h.elim) ?aF ?aB ?aS ?aL ?_
            (case aR => exact (show Kd.C (Kd.int .i64) _ A47 y163.length y163 from by rw [Ny163.out, KA47.out]; exact Kd.C_drop (m := (x8_3 : Int).toNat) (c := co44) ((Kd.R_reads' (sr HO_5)).2.2) KL47.out ((Kd.R_reads' HO_5.out).2.1)))
            (case aB => exact (sb))
            (case aF => exact (fun k_ hk => ⟨Kd.fresh' (Kd.R_lt (sr HO_5)) k_ hk, Kd.fresh' (Kd.R_lt (sr HO159)) k_ hk⟩))
            (case aO => exact (sr HO162))
            (case aS => exact (below_size (sb)))
            (case aL => have := LMc43.out; omega)
            intro v168 w56 ho hb hg hat
            rw [← Ny167.out] at ho
            replace HO_5 := am (Kd.R_after (ok := (fun k_ => some k_ ≠ (.slice Ao55 y157.length co55 : Value).ownBlock)) (sr HO_5) hg hat)
            replace HO159 := am (Kd.R_after (ok := (fun k_ => some k_ ≠ (.slice (some ad122) x5_1.length co44 : Value).ownBlock)) (sr HO159) hg hat)
            replace HB := am hb
            have HO169 := am ho
            clear HO162 ho hb hg hat
            refine hK.out _ _ trivial (fun hHeld => ?_)
            clear hK K
            refine nm 77 ?_
            refine put 12 5 (bt 13 8191) HT_ ?_
            refine done_ (done_of HT_.out (by kernel_rfl)) ?_
            try go_wp2
            go_roundg k3
            case measure => have := HK1.out; have := HJ6.out; have := HK3.out; omega
            case rel => exact ⟨(y167), (wrap64 (x6_1 + 1)), sc, H', ⟨a2_4⟩, ⟨by exact rm HO169 (fun _ hk => trivial)⟩, ⟨sb⟩⟩
        ·obtain ⟨-, c57b0, c57b1, H⟩ | ⟨c57, c57b0, c57b1, H⟩ := ib_ H
         ·obtain ⟨y170, Ny170, H⟩ := iy_ H
          obtain ⟨c58, H⟩ := ia_ H
          have c58b0 := eq_true c58
          have c58b1 := decide_eq_true c58
          clear c58
          obtain ⟨c59, H⟩ := ia_ H
          have c59b0 := eq_true c59
          have c59b1 := decide_eq_true c59
          clear c59
          obtain ⟨y173, Ny173, H⟩ := iy_ H
          obtain ⟨LMc60, H⟩ := il_ H
          obtain ⟨y177, Ny177, H⟩ := iy_ H
          obtain ⟨y180, Ny180, H⟩ := iy_ H
          obtain ⟨LMc61, H⟩ := il_ H
          obtain ⟨y183, Ny183, H⟩ := iy_ H
          have c62b0 := eq_true (sa : 0 ≤ x8_3)
          have c63b0 := eq_true (sa : x8_3 ≤ (x5_1.length : Int))
          obtain ⟨y186, Ny186, H⟩ := iy_ H
          obtain ⟨LMc64, H⟩ := il_ H
          obtain ⟨y190, hy190⟩ : ∃ y_ : List Int, y_ = (y183 ++ y186) := ⟨_, rfl⟩
          replace H : (spec_NeighborsIn.l0 k3 l0 a1 y190 (wrap64 (x6_1 + 1))) = some r := ry hy190 H
          have Ny190 := am hy190
          clear hy190
          have H' := am H
          clear H
          obtain ⟨Ao65, co65, eo65⟩ := Kd.R_slice HO_5.out
          subst eo65
          try go_wp2
          replace HO_5 := am (Kd.R_drew HO_5.out)
          replace HB := am (below_drew1 HB.out)
          have q67 : (x8_3 : Int) ≤ ((x5_1.length : Int) : Int) := sa
          obtain ⟨i067, hi067, _, hsz67, _⟩ := info_parts info3
          have hroom67 : x5_1.length ≤ co65 := (Kd.R_reads' HO_5.out).2.1
          have hC67 : Kd.C (Kd.int .i64) _ Ao65 x5_1.length x5_1 := (Kd.R_reads' HO_5.out).2.2
          have hcut67 := cut_to (P := Try.prog) 22 3 .i64 Try.underlying22 hi067 Ao65 x5_1.length co65 x8_3 (sa) q67 hroom67
          have hr67 := Kd.C_take (m := (x8_3 : Int).toNat) hC67 (by omega)
          have hy67 : y173.length = (x8_3 : Int).toNat := (by rw [Ny173.out, List.length_take]; omega)
          rw [← Ny173.out] at hr67
          rw [← hy67] at hcut67
          have HR176 := am hr67
          have HC176 := am (show y173.length ≤ co65 from by omega)
          clear hr67 hC67 hroom67 hi067 hsz67
          have KY67 := am hy67
          clear hy67
          have KL67 := am (show (x8_3 : Int).toNat ≤ x5_1.length from by omega)
          replace q67 := eq_true q67
          have q68 : (x8_3 : Int) ≤ ((x5_1.length : Int) : Int) := sa
          obtain ⟨i068, hi068, _, hsz68, _⟩ := info_parts info3
          have hroom68 : x5_1.length ≤ co65 := (Kd.R_reads' HO_5.out).2.1
          have hC68 : Kd.C (Kd.int .i64) _ Ao65 x5_1.length x5_1 := (Kd.R_reads' HO_5.out).2.2
          have q068 : (0 : Int) ≤ (x8_3 : Int) := sa
          have hcut68 := cut_from (P := Try.prog) 22 3 .i64 Try.underlying22 hi068 1 hsz68 Ao65 x5_1.length co65 x8_3 q068 q68
          have hr68 := Kd.C_drop (m := (x8_3 : Int).toNat) (c := co65) hC68 (by omega) hroom68
          obtain ⟨A68, hA68⟩ : ∃ A1, A1 = (if co65 = (x8_3 : Int).toNat then Ao65 else (Ao65 : Option Addr).map (·.add ((x8_3 : Int).toNat * 1))) := ⟨_, rfl⟩
          obtain ⟨c68, hc68⟩ : ∃ c1, c1 = co65 - (x8_3 : Int).toNat := ⟨_, rfl⟩
          have hy68 : y186.length = x5_1.length - (x8_3 : Int).toNat := (by rw [Ny186.out, List.length_drop] <;> omega)
          rw [show (x5_1).drop (x8_3 : Int).toNat = y186 from Ny186.out.symm] at hr68
          replace hr68 : Kd.C (Kd.int .i64) _ A68 y186.length y186 := (by rw [hA68]; exact hr68)
          rw [← hy68, ← hA68, ← hc68] at hcut68
          have HR189 := am hr68
          have HC189 := am (show y186.length ≤ c68 from by rw [hy68, hc68]; exact Nat.sub_le_sub_right hroom68 _)
          clear hr68 hC68 hroom68 hi068 hsz68 hc68
          have KY68 := am hy68
          have KA68 := am hA68
          clear hy68 hA68
          have KL68 := am (show (x8_3 : Int).toNat ≤ x5_1.length from by omega)
          replace q68 := eq_true q68
          refine start_ (n := 13) (S := fun w' => True) (ds := []) #[false, false, false, false, false, false, false, false, false, false, false, false, false] (by kernel_rfl) rfl rfl trivial (fun hHeld => ?_); refine with_tabW spec_NeighborsIn.tab14 spec_NeighborsIn.bits14 (fun HT_ HW_ => ?_)
          generalize wr.drew = w66 at HO_5 HB HR176 HR189 hHeld ⊢
          refine put 1 67 (bt 13 2) HT_ ?_
          refine put 2 68 (bt 13 6) HT_ ?_
          refine put 3 69 (bt 13 14) HT_ ?_
          refine put 5 71 (bt 13 46) HT_ ?_
          refine put 8 74 (bt 13 302) HT_ ?_
          refine put 9 75 (bt 13 814) HT_ ?_
          refine put 10 76 (bt 13 1838) HT_ ?_
          refine join_ (σ := Value × Value × Value) 3 (bt 13 1919) (fun s_ => [(66, s_.1), (70, s_.2.1), (72, s_.2.2)]) (fun s_ w' => (Kd.R (Kd.int .i64) 3 w' w.heap.size (fun k_ => some k_ ≠ (s_.2.2 : Value).ownBlock ∧ some k_ ≠ (.slice Ao65 x5_1.length co65 : Value).ownBlock) s_.2.1 y177) ∧ (Kd.R (Kd.int .i64) 3 w' w.heap.size (fun k_ => some k_ ≠ (s_.2.1 : Value).ownBlock ∧ some k_ ≠ (.slice Ao65 x5_1.length co65 : Value).ownBlock) s_.2.2 y180) ∧ (Kd.R (Kd.int .i64) 3 w' w.heap.size (fun k_ => some k_ ≠ (s_.2.1 : Value).ownBlock ∧ some k_ ≠ (s_.2.2 : Value).ownBlock) (.slice Ao65 x5_1.length co65) x5_1) ∧ (Below w.heap.size w w')) ?_ ?_
          rotate_left
          ·intro hCont
           refine two_ (i := 0) (j := 6) (Ni := some 66) (Nj := some 72) (bt 13 1839) (bt 13 1902) rfl rfl rfl rfl (two_of HT_.out (by kernel_rfl)) (by decide) (by decide) (fun K hK => ?_) (fun K hK => ?_)
           ·skip
            refine Kd.R_lit_step (Kd.int .i64) _ 3 ?hg (N := 66) ?hd (xs := ([] : List Int)) (inner := []) (ok := fun _ => True) (okp := fun _ => True) ?hr ?hp (fun _ hk => hk) trivial (Below.refl _ _) (Nat.le_refl _) (by simp) ?_; (case hd => rfl); (case hg => rfl); (case hr => first | (go_simp; done) | (go_simp; rfl)); (case hp => exact (Reps.none _ _))
            intro v171 w69 ho70 hb hg_ hnew_
            clear hg_ hnew_
            (first | rw [← Ny170.out] at ho70 | (simp only [Int.reduceToNat] at ho70; rw [← Ny170.out] at ho70))
            have HO172 := am (Kd.R_lower (Kd.R_new' ho70 (Kd.R_lt (sr HO_5))) (below_size (sb)))
            replace HO_5 := am (Kd.R_elder' (sr HO_5) (Kd.R_base ho70) hb)
            replace HR176 := am (Kd.C_below (cq HR176) hb)
            replace HR189 := am (Kd.C_below (cq HR189) hb)
            replace HB := bs hb
            clear hb ho70
            refine hK.out _ _ trivial (fun hHeld => ?_)
            clear hK K
            refine nm 66 ?_
            refine two_ (i := 4) (j := 6) (Ni := some 70) (Nj := some 72) (bt 13 1855) (bt 13 1903) rfl rfl rfl rfl (two_of HT_.out (by kernel_rfl)) (by decide) (by decide) (fun K hK => ?_) (fun K hK => ?_)
            ·skip
             refine Kd.R_append_rows_step (Kd.int .i64) (w0 := w) w.heap.size (by rfl) (.tmp 66) (.tmp 69) 22 3 (.int .i64 0) 8 rfl Try.underlying22 info3 rfl (by decide) (by omega) v171 y170 y173 _ _ _ (fun k_ => some k_ ≠ (.slice Ao65 x5_1.length co65 : Value).ownBlock) (fun _ => False) rfl rfl ?aO ?aR (fun _ _ h => h) (fun _ h => h.elim) ?aF ?aB ?aS ?aL ?_
             (case aR => repeat (first | exact (cq HR176) | (with_reducible refine Kd.C_alloc ?_ _) | (with_reducible refine Kd.C_drewN ?_ _) | (with_reducible refine Kd.C_drew ?_)))
             (case aB => exact (sb))
             (case aF => exact (fun k_ hk => Kd.fresh' (Kd.R_lt (sr HO_5)) k_ hk))
             (case aO => exact (by exact rm HO172 (fun _ hk => hk.2)))
             (case aS => exact (below_size (sb)))
             (case aL => have := LMc60.out; omega)
             intro v178 w71 ho hb hg hat
             rw [← Ny177.out] at ho
             replace HB := am hb
             replace HR176 := am ((show Kd.C (Kd.int .i64) w71 Ao65 y173.length y173 from by rw [Ny173.out]; exact Kd.C_take (m := (x8_3 : Int).toNat) ((Kd.R_reads' (Kd.R_after (ok := (fun _ => True)) (sr HO_5) hg hat)).2.2) KL67.out))
             replace HR189 := am ((show Kd.C (Kd.int .i64) w71 A68 y186.length y186 from by rw [Ny186.out, KA68.out]; exact Kd.C_drop (m := (x8_3 : Int).toNat) (c := co65) ((Kd.R_reads' (Kd.R_after (ok := (fun _ => True)) (sr HO_5) hg hat)).2.2) KL68.out ((Kd.R_reads' (Kd.R_after (ok := (fun _ => True)) (sr HO_5) hg hat)).2.1)))
             replace HO_5 := am (Kd.R_after (ok := (fun _ => True)) (sr HO_5) hg hat)
             have HO179 := am ho
             clear HO172 ho hb hg hat
             refine hK.out _ _ trivial (fun hHeld => ?_)
             clear hK K
             refine nm 70 ?_
             refine on 6 72 (bt 13 1919) HT_ (fun K hK => ?_)
             refine Kd.R_lit_step (Kd.int .i64) _ 3 ?hg (N := 72) ?hd (xs := ([x7_6] : List Int)) (inner := [.int .i64 x7_6]) (ok := fun _ => True) (okp := fun _ => True) ?hr ?hp (fun _ hk => hk) trivial (Below.refl _ _) (Nat.le_refl _) (by simp) ?_; (case hd => rfl); (case hg => rfl); (case hr => first | (go_simp; done) | (go_simp; rfl)); (case hp => exact (Reps.one (show Kd.M (Kd.int .i64) _ _ _ x7_6 [.int .i64 x7_6] from rfl) (Reps.none _ _)))
             intro v181 w72 ho73 hb hg_ hnew_
             clear hg_ hnew_
             (first | rw [← Ny180.out] at ho73 | (simp only [Int.reduceToNat] at ho73; rw [← Ny180.out] at ho73))
             have HO182 := am (Kd.R_lower (Kd.R_new' (Kd.R_new' ho73 (Kd.R_lt (sr HO_5))) (Kd.R_lt (sr HO179))) (below_size (sb)))
             replace HO_5 := am (Kd.R_elder' (sr HO_5) (Kd.R_base ho73) hb)
             replace HO179 := am (Kd.R_elder' (sr HO179) (Kd.R_base ho73) hb)
             replace HR176 := am (Kd.C_below (cq HR176) hb)
             replace HR189 := am (Kd.C_below (cq HR189) hb)
             replace HB := bs hb
             clear hb ho73
             refine hK.out _ _ trivial (fun hHeld => ?_)
             clear hK K
             refine nm 72 ?_
             exact norm_ a2_0 (hCont (v171, v178, v181) _ ⟨a2_7, (by exact rm HO182 (fun _ hk => ⟨hk.2, hk.1.2⟩)), a2_1, (sb)⟩)
            ·skip
             refine Kd.R_lit_step (Kd.int .i64) _ 3 ?hg (N := 72) ?hd (xs := ([x7_6] : List Int)) (inner := [.int .i64 x7_6]) (ok := fun _ => True) (okp := fun _ => True) ?hr ?hp (fun _ hk => hk) trivial (Below.refl _ _) (Nat.le_refl _) (by simp) ?_; (case hd => rfl); (case hg => rfl); (case hr => first | (go_simp; done) | (go_simp; rfl)); (case hp => exact (Reps.one (show Kd.M (Kd.int .i64) _ _ _ x7_6 [.int .i64 x7_6] from rfl) (Reps.none _ _)))
             intro v181 w71 ho72 hb hg_ hnew_
             clear hg_ hnew_
             (first | rw [← Ny180.out] at ho72 | (simp only [Int.reduceToNat] at ho72; rw [← Ny180.out] at ho72))
             have HO182 := am (Kd.R_lower (Kd.R_new' (Kd.R_new' ho72 (Kd.R_lt (sr HO_5))) (Kd.R_lt (sr HO172))) (below_size (sb)))
             replace HO_5 := am (Kd.R_elder' (sr HO_5) (Kd.R_base ho72) hb)
             replace HO172 := am (Kd.R_elder' (sr HO172) (Kd.R_base ho72) hb)
             replace HR176 := am (Kd.C_below (cq HR176) hb)
             replace HR189 := am (Kd.C_below (cq HR189) hb)
             replace HB := bs hb
             clear hb ho72
             refine hK.out _ _ trivial (fun hHeld => ?_)
             clear hK K
             refine nm 72 ?_
             refine on 4 70 (bt 13 1919) HT_ (fun K hK => ?_)
             refine Kd.R_append_rows_step (Kd.int .i64) (w0 := w) w.heap.size (by rfl) (.tmp 66) (.tmp 69) 22 3 (.int .i64 0) 8 rfl Try.underlying22 info3 rfl (by decide) (by omega) v171 y170 y173 _ _ _ (fun k_ => some k_ ≠ (.slice Ao65 x5_1.length co65 : Value).ownBlock ∧ some k_ ≠ (v181 : Value).ownBlock) (fun _ => False) rfl rfl ?aO ?aR (fun _ _ h => h) (fun _ h => h.elim) ?aF ?aB ?aS ?aL ?_
             (case aR => repeat (first | exact (cq HR176) | (with_reducible refine Kd.C_alloc ?_ _) | (with_reducible refine Kd.C_drewN ?_ _) | (with_reducible refine Kd.C_drew ?_)))
             (case aB => exact (sb))
             (case aF => exact (fun k_ hk => ⟨Kd.fresh' (Kd.R_lt (sr HO_5)) k_ hk, Kd.fresh' (Kd.R_lt (sr HO182)) k_ hk⟩))
             (case aO => exact (by exact rm HO172 (fun _ hk => ⟨hk.1.2, hk.2⟩)))
             (case aS => exact (below_size (sb)))
             (case aL => have := LMc60.out; omega)
             intro v178 w73 ho hb hg hat
             rw [← Ny177.out] at ho
             replace HO182 := am (Kd.R_after (ok := (fun k_ => some k_ ≠ (.slice Ao65 x5_1.length co65 : Value).ownBlock)) (by exact rm HO182 (fun _ hk => ⟨hk.1.2, hk.2⟩)) hg hat)
             replace HB := am hb
             replace HR176 := am ((show Kd.C (Kd.int .i64) w73 Ao65 y173.length y173 from by rw [Ny173.out]; exact Kd.C_take (m := (x8_3 : Int).toNat) ((Kd.R_reads' (Kd.R_after (ok := (fun k_ => some k_ ≠ (v181 : Value).ownBlock)) a2_2 hg hat)).2.2) KL67.out))
             replace HR189 := am ((show Kd.C (Kd.int .i64) w73 A68 y186.length y186 from by rw [Ny186.out, KA68.out]; exact Kd.C_drop (m := (x8_3 : Int).toNat) (c := co65) ((Kd.R_reads' (Kd.R_after (ok := (fun k_ => some k_ ≠ (v181 : Value).ownBlock)) a2_2 hg hat)).2.2) KL68.out ((Kd.R_reads' (Kd.R_after (ok := (fun k_ => some k_ ≠ (v181 : Value).ownBlock)) a2_2 hg hat)).2.1)))
             replace HO_5 := am (Kd.R_after (ok := (fun k_ => some k_ ≠ (v181 : Value).ownBlock)) a2_2 hg hat)
             have HO179 := am ho
             clear HO172 ho hb hg hat
             refine hK.out _ _ trivial (fun hHeld => ?_)
             clear hK K
             refine nm 70 ?_
             exact norm_ a2_0 (hCont (v171, v178, v181) _ ⟨a2_7, a2_10, a2_3, (sb)⟩)
           ·skip
            refine Kd.R_lit_step (Kd.int .i64) _ 3 ?hg (N := 72) ?hd (xs := ([x7_6] : List Int)) (inner := [.int .i64 x7_6]) (ok := fun _ => True) (okp := fun _ => True) ?hr ?hp (fun _ hk => hk) trivial (Below.refl _ _) (Nat.le_refl _) (by simp) ?_; (case hd => rfl); (case hg => rfl); (case hr => first | (go_simp; done) | (go_simp; rfl)); (case hp => exact (Reps.one (show Kd.M (Kd.int .i64) _ _ _ x7_6 [.int .i64 x7_6] from rfl) (Reps.none _ _)))
            intro v181 w69 ho70 hb hg_ hnew_
            clear hg_ hnew_
            (first | rw [← Ny180.out] at ho70 | (simp only [Int.reduceToNat] at ho70; rw [← Ny180.out] at ho70))
            have HO182 := am (Kd.R_lower (Kd.R_new' ho70 (Kd.R_lt (sr HO_5))) (below_size (sb)))
            replace HO_5 := am (Kd.R_elder' (sr HO_5) (Kd.R_base ho70) hb)
            replace HR176 := am (Kd.C_below (cq HR176) hb)
            replace HR189 := am (Kd.C_below (cq HR189) hb)
            replace HB := bs hb
            clear hb ho70
            refine hK.out _ _ trivial (fun hHeld => ?_)
            clear hK K
            refine nm 72 ?_
            refine on 0 66 (bt 13 1903) HT_ (fun K hK => ?_)
            refine Kd.R_lit_step (Kd.int .i64) _ 3 ?hg (N := 66) ?hd (xs := ([] : List Int)) (inner := []) (ok := fun _ => True) (okp := fun _ => True) ?hr ?hp (fun _ hk => hk) trivial (Below.refl _ _) (Nat.le_refl _) (by simp) ?_; (case hd => rfl); (case hg => rfl); (case hr => first | (go_simp; done) | (go_simp; rfl)); (case hp => exact (Reps.none _ _))
            intro v171 w71 ho72 hb hg_ hnew_
            clear hg_ hnew_
            (first | rw [← Ny170.out] at ho72 | (simp only [Int.reduceToNat] at ho72; rw [← Ny170.out] at ho72))
            have HO172 := am (Kd.R_lower (Kd.R_new' (Kd.R_new' ho72 (Kd.R_lt (sr HO_5))) (Kd.R_lt (sr HO182))) (below_size (sb)))
            replace HO_5 := am (Kd.R_elder' (sr HO_5) (Kd.R_base ho72) hb)
            replace HO182 := am (Kd.R_elder' (sr HO182) (Kd.R_base ho72) hb)
            replace HR176 := am (Kd.C_below (cq HR176) hb)
            replace HR189 := am (Kd.C_below (cq HR189) hb)
            replace HB := bs hb
            clear hb ho72
            refine hK.out _ _ trivial (fun hHeld => ?_)
            clear hK K
            refine nm 66 ?_
            refine on 4 70 (bt 13 1919) HT_ (fun K hK => ?_)
            refine Kd.R_append_rows_step (Kd.int .i64) (w0 := w) w.heap.size (by rfl) (.tmp 66) (.tmp 69) 22 3 (.int .i64 0) 8 rfl Try.underlying22 info3 rfl (by decide) (by omega) v171 y170 y173 _ _ _ (fun k_ => some k_ ≠ (.slice Ao65 x5_1.length co65 : Value).ownBlock ∧ some k_ ≠ (v181 : Value).ownBlock) (fun _ => False) rfl rfl ?aO ?aR (fun _ _ h => h) (fun _ h => h.elim) ?aF ?aB ?aS ?aL ?_
            (case aR => repeat (first | exact (cq HR176) | (with_reducible refine Kd.C_alloc ?_ _) | (with_reducible refine Kd.C_drewN ?_ _) | (with_reducible refine Kd.C_drew ?_)))
            (case aB => exact (sb))
            (case aF => exact (fun k_ hk => ⟨Kd.fresh' (Kd.R_lt (sr HO_5)) k_ hk, Kd.fresh' (Kd.R_lt (sr HO182)) k_ hk⟩))
            (case aO => exact (by exact rm HO172 (fun _ hk => ⟨hk.1.2, hk.2⟩)))
            (case aS => exact (below_size (sb)))
            (case aL => have := LMc60.out; omega)
            intro v178 w73 ho hb hg hat
            rw [← Ny177.out] at ho
            replace HO182 := am (Kd.R_after (ok := (fun k_ => some k_ ≠ (.slice Ao65 x5_1.length co65 : Value).ownBlock)) (by exact rm HO182 (fun _ hk => ⟨hk.1.2, hk.2⟩)) hg hat)
            replace HB := am hb
            replace HR176 := am ((show Kd.C (Kd.int .i64) w73 Ao65 y173.length y173 from by rw [Ny173.out]; exact Kd.C_take (m := (x8_3 : Int).toNat) ((Kd.R_reads' (Kd.R_after (ok := (fun k_ => some k_ ≠ (v181 : Value).ownBlock)) a2_1 hg hat)).2.2) KL67.out))
            replace HR189 := am ((show Kd.C (Kd.int .i64) w73 A68 y186.length y186 from by rw [Ny186.out, KA68.out]; exact Kd.C_drop (m := (x8_3 : Int).toNat) (c := co65) ((Kd.R_reads' (Kd.R_after (ok := (fun k_ => some k_ ≠ (v181 : Value).ownBlock)) a2_1 hg hat)).2.2) KL68.out ((Kd.R_reads' (Kd.R_after (ok := (fun k_ => some k_ ≠ (v181 : Value).ownBlock)) a2_1 hg hat)).2.1)))
            replace HO_5 := am (Kd.R_after (ok := (fun k_ => some k_ ≠ (v181 : Value).ownBlock)) a2_1 hg hat)
            have HO179 := am ho
            clear HO172 ho hb hg hat
            refine hK.out _ _ trivial (fun hHeld => ?_)
            clear hK K
            refine nm 70 ?_
            exact norm_ a2_0 (hCont (v171, v178, v181) _ ⟨a2_7, a2_10, a2_3, (sb)⟩)
          rintro ⟨v171, v178, v181⟩ w74 ⟨h0_, h1_, h2_, h3_⟩
          have HO179 : Aside0 (Kd.R (Kd.int .i64) 3 w74 w.heap.size (fun k_ => some k_ ≠ (v181 : Value).ownBlock ∧ some k_ ≠ (.slice Ao65 x5_1.length co65 : Value).ownBlock) v178 y177) := ⟨h0_⟩
          have HO182 : Aside0 (Kd.R (Kd.int .i64) 3 w74 w.heap.size (fun k_ => some k_ ≠ (v178 : Value).ownBlock ∧ some k_ ≠ (.slice Ao65 x5_1.length co65 : Value).ownBlock) v181 y180) := ⟨h1_⟩
          replace HO_5 : Aside0 (Kd.R (Kd.int .i64) 3 w74 w.heap.size (fun k_ => some k_ ≠ (v178 : Value).ownBlock ∧ some k_ ≠ (v181 : Value).ownBlock) (.slice Ao65 x5_1.length co65) x5_1) := ⟨h2_⟩
          replace HB : Aside0 (Below w.heap.size w w74) := ⟨h3_⟩
          clear h0_ h1_ h2_ h3_
          have hHeld := trivial
          obtain ⟨Ao76, co76, eo76⟩ := Kd.R_slice HO182.out
          (first | subst eo76 | (injection eo76 with f1_ f2_ f3_; have f4_ := f1_.symm; have f5_ := f3_.symm; clear f1_ f2_ f3_; subst f4_; subst f5_))
          refine norm_ (a' := ?_) ?_ ?_
          rotate_left
          ·simp only [putAll, Act.put, List.setIfInBounds_toArray, List.set_cons_zero, List.set_cons_succ]
           rfl
          refine on 7 73 (bt 13 2047) HT_ (fun K hK => ?_)
          refine Kd.R_append_rows_step (Kd.int .i64) (w0 := w) w.heap.size (by rfl) (.tmp 70) (.tmp 72) 22 3 (.int .i64 0) 8 rfl Try.underlying22 info3 rfl (by decide) (by omega) v178 y177 y180 _ _ _ (fun k_ => some k_ ≠ (.slice Ao65 x5_1.length co65 : Value).ownBlock ∧ some k_ ≠ (.slice Ao76 y180.length co76 : Value).ownBlock) (fun _ => False) rfl rfl ?aO ?aR (fun _ _ h => h) (fun _ h => h.elim) ?aF ?aB ?aS ?aL ?_
          (case aR => repeat (first | exact (Kd.R_reads' HO182.out).2.2 | (with_reducible refine Kd.C_alloc ?_ _) | (with_reducible refine Kd.C_drewN ?_ _) | (with_reducible refine Kd.C_drew ?_)))
          (case aB => exact (sb))
          (case aF => exact (fun k_ hk => ⟨Kd.fresh' (Kd.R_lt (sr HO_5)) k_ hk, Kd.fresh' (Kd.R_lt (sr HO182)) k_ hk⟩))
          (case aO => exact a2_7)
          (case aS => exact (below_size (sb)))
          (case aL => have := LMc61.out; omega)
          intro v184 w75 ho hb hg hat
          rw [← Ny183.out] at ho
          replace HO_5 := am (Kd.R_after (ok := (fun k_ => some k_ ≠ (.slice Ao76 y180.length co76 : Value).ownBlock)) a2_3 hg hat)
          replace HO182 := am (Kd.R_after (ok := (fun k_ => some k_ ≠ (.slice Ao65 x5_1.length co65 : Value).ownBlock)) a2_10 hg hat)
          replace HB := am hb
          have HO185 := am ho
          clear HO179 ho hb hg hat
          refine hK.out _ _ trivial (fun hHeld => ?_)
          clear hK K
          refine nm 73 ?_
          refine on 11 77 (bt 13 4095) HT_ (fun K hK => ?_)
          refine Kd.R_append_rows_step (Kd.int .i64) (w0 := w) w.heap.size (by rfl) (.tmp 73) (.tmp 76) 22 3 (.int .i64 0) 8 rfl Try.underlying22 info3 rfl (by decide) (by omega) v184 y183 y186 _ _ _ (fun k_ => some k_ ≠ (.slice Ao65 x5_1.length co65 : Value).ownBlock ∧ some k_ ≠ (.slice Ao76 y180.length co76 : Value).ownBlock) (fun _ => False) rfl rfl ?aO ?aR (fun _ _ h => h) (fun _ h => h.elim) ?aF ?aB ?aS ?aL ?_
          (case aR => exact (show Kd.C (Kd.int .i64) _ A68 y186.length y186 from by rw [Ny186.out, KA68.out]; exact Kd.C_drop (m := (x8_3 : Int).toNat) (c := co65) ((Kd.R_reads' (sr HO_5)).2.2) KL68.out ((Kd.R_reads' HO_5.out).2.1)))
          (case aB => exact (sb))
          (case aF => exact (fun k_ hk => ⟨Kd.fresh' (Kd.R_lt (sr HO_5)) k_ hk, Kd.fresh' (Kd.R_lt (sr HO182)) k_ hk⟩))
          (case aO => exact (sr HO185))
          (case aS => exact (below_size (sb)))
          (case aL => have := LMc64.out; omega)
          intro v191 w77 ho hb hg hat
          rw [← Ny190.out] at ho
          replace HO_5 := am (Kd.R_after (ok := (fun k_ => some k_ ≠ (.slice Ao76 y180.length co76 : Value).ownBlock)) (sr HO_5) hg hat)
          replace HO182 := am (Kd.R_after (ok := (fun k_ => some k_ ≠ (.slice Ao65 x5_1.length co65 : Value).ownBlock)) (sr HO182) hg hat)
          replace HB := am hb
          have HO192 := am ho
          clear HO185 ho hb hg hat
          refine hK.out _ _ trivial (fun hHeld => ?_)
          clear hK K
          refine nm 77 ?_
          refine put 12 5 (bt 13 8191) HT_ ?_
          refine done_ (done_of HT_.out (by kernel_rfl)) ?_
          try go_wp2
          go_roundg k3
          case measure => have := HK1.out; have := HJ6.out; have := HK3.out; omega
          case rel => exact ⟨(y190), (wrap64 (x6_1 + 1)), sc, H', ⟨a2_4⟩, ⟨by exact rm HO192 (fun _ hk => trivial)⟩, ⟨sb⟩⟩
         ·obtain ⟨c78, H⟩ := ia_ H
          exact ab H
   ·obtain rfl := Option.some.inj H
    go_wp2
    go_ret
    exact ⟨_, se, sr HO_5, sb⟩

end Go.Proofs.Ytohbccekdmdmbaa.QFnExactRepairHop
