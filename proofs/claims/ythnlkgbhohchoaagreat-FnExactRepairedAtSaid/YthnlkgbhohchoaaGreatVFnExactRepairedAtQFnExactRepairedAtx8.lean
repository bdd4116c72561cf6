/- Printed by a program of the session. Conditions: none. (squeezed). -/
import Derived.Test.YthnlkgbhohchoaaGreatVFnExactRepairedAtQFnExactRepairedAtx0
namespace Go.Proofs.YthnlkgbhohchoaaGreat.QFnExactRepairedAt
set_option maxHeartbeats 8000000
set_option maxRecDepth 100000
open Go.RowKit Go.Proofs.YthnlkgbhohchoaaGreatW.PrintWords Go.Proofs.YthnlkgbhohchoaaGreatW.PrintLast Go.Proofs.YthnlkgbhohchoaaGreatW.PrintMore Go.Proofs.YthnlkgbhohchoaaGreat.Open Go.Proofs.YthnlkgbhohchoaaGreat.Sq
attribute [local go_sem] max2_int min2_int max_two min_two max_three min_three max_four min_four   -- for this text's walks alone
attribute [local go_sem] isSome_set
set_option linter.unusedVariables false
set_option linter.unusedSimpArgs false

theorem a8_10 {P : Prop} (h : P := by exact rm HO308 (fun _ hk => ⟨hk.2, hk.1⟩)) : P := h
theorem a8_9 {P : Prop} (h : P := by exact rm HO285 (fun _ hk => ⟨hk.2, hk.1⟩)) : P := h
theorem a8_8 {P : Prop} (h : P := by exact rm HO261 (fun _ hk => ⟨hk.2, hk.1⟩)) : P := h
theorem a8_7 {P : Prop} (h : P := by exact rm HO305 (fun _ hk => ⟨hk.2, hk.1⟩)) : P := h
theorem a8_6 {P : Prop} (h : P := by exact rm HO282 (fun _ hk => ⟨hk.2, hk.1⟩)) : P := h
theorem a8_5 {P : Prop} (h : P := by exact rm HO258 (fun _ hk => ⟨hk.2, hk.1⟩)) : P := h
theorem a8_4 {P : Prop} (h : P := by have := HK1.out; have := HJ6.out; have := HK3.out; omega) : P := h
theorem a8_3 {P : Prop} (h : P := by exact rm HO_5 (fun _ hk => ⟨hk.2, hk.1⟩)) : P := h
theorem a8_2 {P : Prop} (h : P := by exact rm HO_5 (fun _ hk => ⟨hk.2, hk.1.2⟩)) : P := h
theorem a8_1 {P : Prop} (h : P := by exact rm HO_5 (fun _ hk => ⟨hk.1.2, hk.2⟩)) : P := h
theorem a8_0 {P : Prop} (h : P := by simp only [putAll, Act.put, List.setIfInBounds_toArray, List.set_cons_zero, List.set_cons_succ]) : P := h
mutual
def spec_NeighborsIn.l0 : Nat → List (S90) → Int → List Int → Int → Option (List Int)
  | 0, _, _, _, _ => none
  | k + 1, x0, x1, x5, x6 => if x6 < (x0.length : Int) then (if 0 ≤ x6 then (if ((rd_T90 x0 x6).f0) = x1 then (spec_NeighborsIn.j1 k x0 x1 x5 x6 ((rd_T90 x0 x6).f1)) else (if ((rd_T90 x0 x6).f1) = x1 then (spec_NeighborsIn.j1 k x0 x1 x5 x6 ((rd_T90 x0 x6).f0)) else (spec_NeighborsIn.l0 k x0 x1 x5 (wrap64 (x6 + 1))))) else (none)) else (some x5)
def spec_NeighborsIn.j1 : Nat → List (S90) → Int → List Int → Int → Int → Option (List Int)
  | 0, _, _, _, _, _ => none
  | k + 1, x0, x1, x5, x6, x7 => spec_NeighborsIn.l1 k x0 x1 x5 x6 x7 0
def spec_NeighborsIn.l1 : Nat → List (S90) → Int → List Int → Int → Int → Int → Option (List Int)
  | 0, _, _, _, _, _, _ => none
  | k + 1, x0, x1, x5, x6, x7, x8 => if x8 < (x5.length : Int) then (if 0 ≤ x8 then (if (rd x5 x8) < x7 then (spec_NeighborsIn.l1 k x0 x1 x5 x6 x7 (wrap64 (x8 + 1))) else (if x8 = (x5.length : Int) then ((some (([] : List Int) : List Int)).bind fun y249 => (if x8 ≤ (x5.length : Int) then ((some (x5.take (x8 : Int).toNat : List Int)).bind fun y252 => (if y249.length + y252.length < 17592186044416 then ((some (y249 ++ y252 : List Int)).bind fun y256 => ((some (([x7] : List Int) : List Int)).bind fun y259 => (if y256.length + y259.length < 17592186044416 then ((some (y256 ++ y259 : List Int)).bind fun y262 => ((some (x5.drop (x8 : Int).toNat : List Int)).bind fun y265 => (if y262.length + y265.length < 17592186044416 then (spec_NeighborsIn.l0 k x0 x1 (y262 ++ y265) (wrap64 (x6 + 1))) else (none)))) else (none)))) else (none))) else (none))) else (if (rd x5 x8) = x7 then (spec_NeighborsIn.l0 k x0 x1 x5 (wrap64 (x6 + 1))) else ((some (([] : List Int) : List Int)).bind fun y273 => (if x8 ≤ (x5.length : Int) then ((some (x5.take (x8 : Int).toNat : List Int)).bind fun y276 => (if y273.length + y276.length < 17592186044416 then ((some (y273 ++ y276 : List Int)).bind fun y280 => ((some (([x7] : List Int) : List Int)).bind fun y283 => (if y280.length + y283.length < 17592186044416 then ((some (y280 ++ y283 : List Int)).bind fun y286 => ((some (x5.drop (x8 : Int).toNat : List Int)).bind fun y289 => (if y286.length + y289.length < 17592186044416 then (spec_NeighborsIn.l0 k x0 x1 (y286 ++ y289) (wrap64 (x6 + 1))) else (none)))) else (none)))) else (none))) else (none)))))) else (none)) else (if x8 = (x5.length : Int) then ((some (([] : List Int) : List Int)).bind fun y296 => (if 0 ≤ x8 then (if x8 ≤ (x5.length : Int) then ((some (x5.take (x8 : Int).toNat : List Int)).bind fun y299 => (if y296.length + y299.length < 17592186044416 then ((some (y296 ++ y299 : List Int)).bind fun y303 => ((some (([x7] : List Int) : List Int)).bind fun y306 => (if y303.length + y306.length < 17592186044416 then ((some (y303 ++ y306 : List Int)).bind fun y309 => ((some (x5.drop (x8 : Int).toNat : List Int)).bind fun y312 => (if y309.length + y312.length < 17592186044416 then (spec_NeighborsIn.l0 k x0 x1 (y309 ++ y312) (wrap64 (x6 + 1))) else (none)))) else (none)))) else (none))) else (none)) else (none))) else (if 0 ≤ x8 then (none) else (none)))
end
def spec_NeighborsIn.f (k : Nat) (l0 : List (S90)) (a1 : Int) : Option (List Int) := spec_NeighborsIn.l0 k l0 a1 (([] : List Int)) 0
theorem spec_NeighborsIn.mono_l : ∀ k, (∀ y0 y1 y2 y3, LeO (spec_NeighborsIn.l0 k y0 y1 y2 y3) (spec_NeighborsIn.l0 (k + 1) y0 y1 y2 y3)) ∧ (∀ y0 y1 y2 y3 y4, LeO (spec_NeighborsIn.j1 k y0 y1 y2 y3 y4) (spec_NeighborsIn.j1 (k + 1) y0 y1 y2 y3 y4)) ∧ (∀ y0 y1 y2 y3 y4 y5, LeO (spec_NeighborsIn.l1 k y0 y1 y2 y3 y4 y5) (spec_NeighborsIn.l1 (k + 1) y0 y1 y2 y3 y4 y5))
  | 0 => ⟨fun _ _ _ _ r h => by simp [spec_NeighborsIn.l0] at h, fun _ _ _ _ _ r h => by simp [spec_NeighborsIn.j1] at h, fun _ _ _ _ _ _ r h => by simp [spec_NeighborsIn.l1] at h⟩
  | k + 1 => by
    obtain ⟨ih0, ih1, ih2⟩ := spec_NeighborsIn.mono_l k
    refine ⟨?_, ?_, ?_⟩
    · intro y0 y1 y2 y3
      unfold spec_NeighborsIn.l0
      exact mo
    · intro y0 y1 y2 y3 y4
      unfold spec_NeighborsIn.j1
      exact mo
    · intro y0 y1 y2 y3 y4 y5
      unfold spec_NeighborsIn.l1
      exact mo
theorem spec_NeighborsIn.mono : ∀ a0 a1 k, LeO (spec_NeighborsIn.f k a0 a1) (spec_NeighborsIn.f (k + 1) a0 a1) := by
  intro a0 a1 k
  obtain ⟨ih0, ih1, ih2⟩ := spec_NeighborsIn.mono_l k
  unfold spec_NeighborsIn.f
  exact mo
def spec_NeighborsIn.T14 : Bool × List (List Nat × List Nat) := (true, [([], []), ([], []), ([], []), ([1, 2], [1, 2]), ([0, 3], [0, 3]), ([], []), ([5], [5]), ([4, 6, 4], [4, 6]), ([], []), ([], []), ([8, 9], [8, 9]), ([7, 10, 7], [7, 10]), ([11, 11, 0, 1, 2, 3, 4, 5, 6, 7, 8, 9, 10, 11], [1, 8, 11])])
def spec_NeighborsIn.B14 : List Nat := [0, 0, 0, 6, 15, 0, 32, 127, 0, 0, 768, 2047, 4095]
theorem spec_NeighborsIn.tab14 : rtab .any (opsOf Tryz.f102 14) = spec_NeighborsIn.T14 := by kernel_rfl
theorem spec_NeighborsIn.bits14 : waitsOk spec_NeighborsIn.T14.2 spec_NeighborsIn.B14 = true := by kernel_rfl
theorem spec_NeighborsIn.calls (k : Nat) (A0 : Option Addr) (c0 : Nat) (l0 : List (S90)) (a1 : Int) (r : List Int) (w : World) (hr0 : Kd.C k90 w A0 l0.length l0) (hc0 : l0.length ≤ c0) (h : spec_NeighborsIn.f k l0 a1 = some r) :
    Calls Tryz.prog 102 #[.slice A0 l0.length c0, .int .i64 a1] w fun e w' => ∃ v0_ : Value, e = .returned (v0_) ∧ Kd.R (Kd.int .i64) 3 w' w.heap.size (fun _ => True) v0_ r ∧ Below w.heap.size w w' := by
 have HR0 := am hr0
 have HC0 := am hc0
 clear hr0 hc0
 have HB := am (Below.refl w.heap.size w)
 have H := h; unfold spec_NeighborsIn.f at H
 clear h
 obtain ⟨y241, hy241⟩ : ∃ y_ : List Int, y_ = (([] : List Int)) := ⟨_, rfl⟩
 replace H : (spec_NeighborsIn.l0 k l0 a1 y241 0) = some r := ry hy241 H
 have Ny241 := am hy241
 clear hy241
 have H' := am H
 clear H
 go_enter Tryz.func102, Tryz.ntmps102
 go_wp2_with (first | ((with_reducible refine gd 9 rfl ?_); refine rl_ (Kd.int .i64) 3 9 ?_; intro v242 w3 ho4 hb; (first | rw [← Ny241.out] at ho4 | (simp only [Int.reduceToNat] at ho4; rw [← Ny241.out] at ho4)); have HO243 := am (Kd.R_lower ho4 (below_size (sb))); replace HB := bs hb; clear hb ho4))
 go_loopg [5, 6] k (fun kq v5 v6 w' => ∃ (x5_1 : List Int) (x6_1 : Int), v6 = .int .i64 x6_1 ∧ Aside0 (spec_NeighborsIn.l0 kq l0 a1 x5_1 x6_1 = some r) ∧ Aside0 (kq ≤ k) ∧ Aside0 (Kd.R (Kd.int .i64) 3 w' w.heap.size (fun _ => True) v5 x5_1) ∧ Aside0 (Below w.heap.size w w'))
 case atStart => exact ⟨(y241), (0), sc, H', kk0, ⟨sr HO243⟩, ⟨sb⟩⟩
 case round =>
  clear H'
  obtain ⟨x5_1, x6_1, rfl, HA, HK1, HO_5, HB⟩ := hrel
  cases gk with
  | zero => exact absurd HA.out (by simp [spec_NeighborsIn.l0])
  | succ k1 =>
   have H := HA.out
   clear HA
   simp only [spec_NeighborsIn.l0] at H
   obtain ⟨-, c5b0, H⟩ | ⟨-, c5b0, H⟩ := ic_ H
   ·obtain ⟨c6b0, H⟩ := id_ H
    have HC7 := am H
    clear H
    obtain ⟨p244, q244, ad244, e244, _, _, hx244_0, hx244_1⟩ := aT_T90 HR0 HB x6_1
    cases e244
    go_upto_if 22 with (fail)
    go_cut [7] (fun v7 wc => ∃ (kq : Nat) (x7_6 : Int), v7 = .int .i64 x7_6 ∧ Aside0 (spec_NeighborsIn.j1 kq l0 a1 x5_1 x6_1 x7_6 = some r) ∧ Aside0 (kq ≤ k1) ∧ Aside0 (Kd.R (Kd.int .i64) 3 wc w.heap.size (fun _ => True) u5 x5_1) ∧ Aside0 (Below w.heap.size w wc))
    case first =>
     have H := HC7.out
     clear HC7
     obtain ⟨-, c8b0, c8b1, H⟩ | ⟨c8, c8b0, c8b1, H⟩ := ib_ H
     ·(first | rw [c8b0] | (simp only [i64_w, i32_w]; rw [c8b0]) | rw [c8b1] | skip)
      have H' := am H
      clear H
      obtain ⟨p245, q245, ad245, e245, _, _, hx245_0, hx245_1⟩ := aT_T90 HR0 HB x6_1
      obtain rfl : ad244 = ad245 := (by injection e245)
      go_wp2
      go_meet
      case rel => exact ⟨_, ((rd_T90 l0 x6_1).f1), sc, H', ⟨by have := HK1.out; first | omega | exact Nat.le_refl _⟩, ⟨sr HO_5⟩, ⟨sb⟩⟩
     ·(first | rw [c8b0] | (simp only [i64_w, i32_w]; rw [c8b0]) | rw [c8b1] | skip)
      obtain ⟨-, c9b0, c9b1, H⟩ | ⟨c9, c9b0, c9b1, H⟩ := ib_ H
      ·have H' := am H
       clear H
       obtain ⟨p246, q246, ad246, e246, _, _, hx246_0, hx246_1⟩ := aT_T90 HR0 HB x6_1
       obtain rfl : ad244 = ad246 := (by injection e246)
       obtain ⟨p247, q247, ad247, e247, _, _, hx247_0, hx247_1⟩ := aT_T90 HR0 HB x6_1
       obtain rfl : ad244 = ad247 := (by injection e247)
       go_wp2
       go_meet
       case rel => exact ⟨_, ((rd_T90 l0 x6_1).f0), sc, H', ⟨by have := HK1.out; first | omega | exact Nat.le_refl _⟩, ⟨sr HO_5⟩, ⟨sb⟩⟩
      ·have H' := am H
       clear H
       obtain ⟨p246, q246, ad246, e246, _, _, hx246_0, hx246_1⟩ := aT_T90 HR0 HB x6_1
       obtain rfl : ad244 = ad246 := (by injection e246)
       go_wp2
       go_roundg k1
       case measure => have := HK1.out; omega
       case rel => exact ⟨(x5_1), (wrap64 (x6_1 + 1)), sc, H', kk1, ⟨sr HO_5⟩, ⟨sb⟩⟩
    case rest =>
     clear HC7
     try clear c5
     try clear c5b0
     try clear c6b0
     try clear hx244_0
     try clear hx244_1
     try clear p244
     try clear q244
     obtain ⟨kq, x7_6, rfl, HA, HJ6, HO_5, HB⟩ := hcut
     cases kq with
     | zero => exact absurd HA.out (by simp [spec_NeighborsIn.j1])
     | succ kj6 =>
      have H := HA.out
      clear HA
      simp only [spec_NeighborsIn.j1] at H
      have H' := am H
      clear H
      go_wp2
      go_loopg [8] kj6 (fun kq v8 w' => ∃ (x8_3 : Int), v8 = .int .i64 x8_3 ∧ Aside0 (spec_NeighborsIn.l1 kq l0 a1 x5_1 x6_1 x7_6 x8_3 = some r) ∧ Aside0 (kq ≤ kj6) ∧ Aside0 (Kd.R (Kd.int .i64) 3 w' w.heap.size (fun _ => True) u5 x5_1) ∧ Aside0 (Below w.heap.size w w'))
      case atStart => exact ⟨(0), sc, H', kk0, ⟨sr HO_5⟩, ⟨sb⟩⟩
      case round =>
       clear H'
       try clear c5
       try clear c5b0
       try clear c6b0
       try clear hx244_0
       try clear hx244_1
       try clear p244
       try clear q244
       obtain ⟨x8_3, rfl, HA, HK3, HO_5, HB⟩ := hrel
       cases gk with
       | zero => exact absurd HA.out (by simp [spec_NeighborsIn.l1])
       | succ k3 =>
        have H := HA.out
        clear HA
        simp only [spec_NeighborsIn.l1] at H
        obtain ⟨-, c10b0, H⟩ | ⟨-, c10b0, H⟩ := ic_ H
        ·obtain ⟨c11b0, H⟩ := id_ H
         obtain ⟨-, c12b0, H⟩ | ⟨-, c12b0, H⟩ := ic_ H
         ·have H' := am H
          clear H
          obtain ⟨Ao13, co13, eo13⟩ := Kd.R_slice HO_5.out
          subst eo13
          have p248 : 0 ≤ (x8_3 : Int) := sa
          have q248 : x8_3 < (x5_1.length : Int) := sa
          obtain ⟨ad248, e248, hx248_0⟩ := Kd.at_int (Kd.R_reads' HO_5.out).2.2 x8_3 p248 q248
          cases e248
          replace p248 := eq_true p248
          replace q248 := eq_true q248
          go_wp2
          go_roundg k3
          case measure => have := HK1.out; have := HJ6.out; have := HK3.out; omega
          case rel => exact ⟨(wrap64 (x8_3 + 1)), sc, H', ⟨a8_4⟩, ⟨sr HO_5⟩, ⟨sb⟩⟩
         ·obtain ⟨-, c14b0, c14b1, H⟩ | ⟨c14, c14b0, c14b1, H⟩ := ib_ H
          ·obtain ⟨y249, Ny249, H⟩ := iy_ H
           have c15b0 := eq_true (sa : 0 ≤ x8_3)
           obtain ⟨c16, H⟩ := ia_ H
           have c16b0 := eq_true c16
           have c16b1 := decide_eq_true c16
           clear c16
           obtain ⟨y252, Ny252, H⟩ := iy_ H
           obtain ⟨LMc17, H⟩ := il_ H
           obtain ⟨y256, Ny256, H⟩ := iy_ H
           obtain ⟨y259, Ny259, H⟩ := iy_ H
           obtain ⟨LMc18, H⟩ := il_ H
           obtain ⟨y262, Ny262, H⟩ := iy_ H
           have c19b0 := eq_true (sa : 0 ≤ x8_3)
           have c20b0 := eq_true (sa : x8_3 ≤ (x5_1.length : Int))
           obtain ⟨y265, Ny265, H⟩ := iy_ H
           obtain ⟨LMc21, H⟩ := il_ H
           obtain ⟨y269, hy269⟩ : ∃ y_ : List Int, y_ = (y262 ++ y265) := ⟨_, rfl⟩
           replace H : (spec_NeighborsIn.l0 k3 l0 a1 y269 (wrap64 (x6_1 + 1))) = some r := ry hy269 H
           have Ny269 := am hy269
           clear hy269
           have H' := am H
           clear H
           obtain ⟨Ao22, co22, eo22⟩ := Kd.R_slice HO_5.out
           subst eo22
           have p248 : 0 ≤ (x8_3 : Int) := sa
           have q248 : x8_3 < (x5_1.length : Int) := sa
           obtain ⟨ad248, e248, hx248_0⟩ := Kd.at_int (Kd.R_reads' HO_5.out).2.2 x8_3 p248 q248
           cases e248
           replace p248 := eq_true p248
           replace q248 := eq_true q248
           try go_wp2
           replace HO_5 := am (Kd.R_drew HO_5.out)
           replace HB := am (below_drew1 HB.out)
           have q24 : (x8_3 : Int) ≤ ((x5_1.length : Int) : Int) := sa
           obtain ⟨i024, hi024, _, hsz24, _⟩ := info_parts info3
           have hroom24 : x5_1.length ≤ co22 := (Kd.R_reads' HO_5.out).2.1
           have hC24 : Kd.C (Kd.int .i64) _ (some ad248) x5_1.length x5_1 := (Kd.R_reads' HO_5.out).2.2
           have hcut24 := cut_to (P := Tryz.prog) 25 3 .i64 Tryz.underlying25 hi024 (some ad248) x5_1.length co22 x8_3 (sa) q24 hroom24
           have hr24 := Kd.C_take (m := (x8_3 : Int).toNat) hC24 (by omega)
           have hy24 : y252.length = (x8_3 : Int).toNat := (by rw [Ny252.out, List.length_take]; omega)
           rw [← Ny252.out] at hr24
           rw [← hy24] at hcut24
           have HR255 := am hr24
           have HC255 := am (show y252.length ≤ co22 from by omega)
           clear hr24 hC24 hroom24 hi024 hsz24
           have KY24 := am hy24
           clear hy24
           have KL24 := am (show (x8_3 : Int).toNat ≤ x5_1.length from by omega)
           replace q24 := eq_true q24
           have q25 : (x8_3 : Int) ≤ ((x5_1.length : Int) : Int) := sa
           obtain ⟨i025, hi025, _, hsz25, _⟩ := info_parts info3
           have hroom25 : x5_1.length ≤ co22 := (Kd.R_reads' HO_5.out).2.1
           have hC25 : Kd.C (Kd.int .i64) _ (some ad248) x5_1.length x5_1 := (Kd.R_reads' HO_5.out).2.2
           have q025 : (0 : Int) ≤ (x8_3 : Int) := sa
           have hcut25 := cut_from (P := Tryz.prog) 25 3 .i64 Tryz.underlying25 hi025 1 hsz25 (some ad248) x5_1.length co22 x8_3 q025 q25
           have hr25 := Kd.C_drop (m := (x8_3 : Int).toNat) (c := co22) hC25 (by omega) hroom25
           obtain ⟨A25, hA25⟩ : ∃ A1, A1 = (if co22 = (x8_3 : Int).toNat then (some ad248) else ((some ad248) : Option Addr).map (·.add ((x8_3 : Int).toNat * 1))) := ⟨_, rfl⟩
           obtain ⟨c25, hc25⟩ : ∃ c1, c1 = co22 - (x8_3 : Int).toNat := ⟨_, rfl⟩
           have hy25 : y265.length = x5_1.length - (x8_3 : Int).toNat := (by rw [Ny265.out, List.length_drop] <;> omega)
           rw [show (x5_1).drop (x8_3 : Int).toNat = y265 from Ny265.out.symm] at hr25
           replace hr25 : Kd.C (Kd.int .i64) _ A25 y265.length y265 := (by rw [hA25]; exact hr25)
           rw [← hy25, ← hA25, ← hc25] at hcut25
           have HR268 := am hr25
           have HC268 := am (show y265.length ≤ c25 from by rw [hy25, hc25]; exact Nat.sub_le_sub_right hroom25 _)
           clear hr25 hC25 hroom25 hi025 hsz25 hc25
           have KY25 := am hy25
           have KA25 := am hA25
           clear hy25 hA25
           have KL25 := am (show (x8_3 : Int).toNat ≤ x5_1.length from by omega)
           replace q25 := eq_true q25
           refine start_ (n := 13) (S := fun w' => True) (ds := []) (bt 13 0) (by kernel_rfl) rfl (by kernel_rfl) trivial (fun hHeld => ?_); refine with_tabW spec_NeighborsIn.tab14 spec_NeighborsIn.bits14 (fun HT_ HW_ => ?_)
           generalize wr.drew = w23 at HO_5 HB HR255 HR268 hHeld ⊢
           refine r7_ 1 2 3 5 8 9 10 ?_
           refine join_ (σ := Value × Value × Value) 3 (bt 13 1919) (fun s_ => [(66, s_.1), (70, s_.2.1), (72, s_.2.2)]) (fun s_ w' => (Kd.R (Kd.int .i64) 3 w' w.heap.size (fun k_ => some k_ ≠ (s_.2.2 : Value).ownBlock ∧ some k_ ≠ (.slice (some ad248) x5_1.length co22 : Value).ownBlock) s_.2.1 y256) ∧ (Kd.R (Kd.int .i64) 3 w' w.heap.size (fun k_ => some k_ ≠ (s_.2.1 : Value).ownBlock ∧ some k_ ≠ (.slice (some ad248) x5_1.length co22 : Value).ownBlock) s_.2.2 y259) ∧ (Kd.R (Kd.int .i64) 3 w' w.heap.size (fun k_ => some k_ ≠ (s_.2.1 : Value).ownBlock ∧ some k_ ≠ (s_.2.2 : Value).ownBlock) (.slice (some ad248) x5_1.length co22) x5_1) ∧ (Below w.heap.size w w')) ?_ ?_
           rotate_left
           ·intro hCont
            refine tw_ 0 6 (fun K hK => ?_) (fun K hK => ?_)
            ·skip
             refine Kd.R_lit_step (Kd.int .i64) _ 3 ?hg (N := 66) ?hd (xs := ([] : List Int)) (inner := []) (ok := fun _ => True) (okp := fun _ => True) ?hr ?hp (fun _ hk => hk) trivial (Below.refl _ _) (Nat.le_refl _) (by simp) ?_; (case hd => rfl); (case hg => rfl); (case hr => first | (go_simp; done) | (go_simp; rfl)); (case hp => exact (Reps.none _ _))
             intro v250 w26 ho27 hb hg_ hnew_
             clear hg_ hnew_
             (first | rw [← Ny249.out] at ho27 | (simp only [Int.reduceToNat] at ho27; rw [← Ny249.out] at ho27))
             have HO251 := am (Kd.R_lower (Kd.R_new' ho27 (Kd.R_lt (sr HO_5))) (below_size (sb)))
             replace HO_5 := am (Kd.R_elder' (sr HO_5) (Kd.R_base ho27) hb)
             replace HR255 := am (Kd.C_below (cq HR255) hb)
             replace HR268 := am (Kd.C_below (cq HR268) hb)
             replace HB := bs hb
             clear hb ho27
             refine hw_ hK trivial (fun hHeld => ?_)
             clear hK K
             refine tw_ 4 6 (fun K hK => ?_) (fun K hK => ?_)
             ·skip
              refine Kd.R_append_rows_step (Kd.int .i64) (w0 := w) w.heap.size (by rfl) (.tmp 66) (.tmp 69) 25 3 (.int .i64 0) 8 rfl Tryz.underlying25 info3 rfl (by decide) (by omega) v250 y249 y252 _ _ _ (fun k_ => some k_ ≠ (.slice (some ad248) x5_1.length co22 : Value).ownBlock) (fun _ => False) rfl rfl ?aO ?aR (fun _ _ h => h) (fun _ h => h.elim) ?aF ?aB ?aS ?aL ?_
              (case aR => repeat (first | exact (cq HR255) | (with_reducible refine Kd.C_alloc ?_ _) | (with_reducible refine Kd.C_drewN ?_ _) | (with_reducible refine Kd.C_drew ?_)))
              (case aB => exact (sb))
              (case aF => exact (fun k_ hk => Kd.fresh' (Kd.R_lt (sr HO_5)) k_ hk))
              (case aO => exact (by exact rm HO251 (fun _ hk => hk.2)))
              (case aS => exact (below_size (sb)))
              (case aL => have := LMc17.out; omega)
              intro v257 w28 ho hb hg hat
              rw [← Ny256.out] at ho
              replace HB := am hb
              replace HR255 := am ((show Kd.C (Kd.int .i64) w28 (some ad248) y252.length y252 from by rw [Ny252.out]; exact Kd.C_take (m := (x8_3 : Int).toNat) ((Kd.R_reads' (Kd.R_after (ok := (fun _ => True)) (sr HO_5) hg hat)).2.2) KL24.out))
              replace HR268 := am ((show Kd.C (Kd.int .i64) w28 A25 y265.length y265 from by rw [Ny265.out, KA25.out]; exact Kd.C_drop (m := (x8_3 : Int).toNat) (c := co22) ((Kd.R_reads' (Kd.R_after (ok := (fun _ => True)) (sr HO_5) hg hat)).2.2) KL25.out ((Kd.R_reads' (Kd.R_after (ok := (fun _ => True)) (sr HO_5) hg hat)).2.1)))
              replace HO_5 := am (Kd.R_after (ok := (fun _ => True)) (sr HO_5) hg hat)
              have HO258 := am ho
              clear HO251 ho hb hg hat
              refine hw_ hK trivial (fun hHeld => ?_)
              clear hK K
              refine ow_ 6 (fun K hK => ?_)
              refine Kd.R_lit_step (Kd.int .i64) _ 3 ?hg (N := 72) ?hd (xs := ([x7_6] : List Int)) (inner := [.int .i64 x7_6]) (ok := fun _ => True) (okp := fun _ => True) ?hr ?hp (fun _ hk => hk) trivial (Below.refl _ _) (Nat.le_refl _) (by simp) ?_; (case hd => rfl); (case hg => rfl); (case hr => first | (go_simp; done) | (go_simp; rfl)); (case hp => exact (Reps.one (show Kd.M (Kd.int .i64) _ _ _ x7_6 [.int .i64 x7_6] from rfl) (Reps.none _ _)))
              intro v260 w29 ho30 hb hg_ hnew_
              clear hg_ hnew_
              (first | rw [← Ny259.out] at ho30 | (simp only [Int.reduceToNat] at ho30; rw [← Ny259.out] at ho30))
              have HO261 := am (Kd.R_lower (Kd.R_new' (Kd.R_new' ho30 (Kd.R_lt (sr HO_5))) (Kd.R_lt (sr HO258))) (below_size (sb)))
              replace HO_5 := am (Kd.R_elder' (sr HO_5) (Kd.R_base ho30) hb)
              replace HO258 := am (Kd.R_elder' (sr HO258) (Kd.R_base ho30) hb)
              replace HR255 := am (Kd.C_below (cq HR255) hb)
              replace HR268 := am (Kd.C_below (cq HR268) hb)
              replace HB := bs hb
              clear hb ho30
              refine hw_ hK trivial (fun hHeld => ?_)
              clear hK K
              exact norm_ a8_0 (hCont (v250, v257, v260) _ ⟨a8_5, (by exact rm HO261 (fun _ hk => ⟨hk.2, hk.1.2⟩)), a8_1, (sb)⟩)
             ·skip
              refine Kd.R_lit_step (Kd.int .i64) _ 3 ?hg (N := 72) ?hd (xs := ([x7_6] : List Int)) (inner := [.int .i64 x7_6]) (ok := fun _ => True) (okp := fun _ => True) ?hr ?hp (fun _ hk => hk) trivial (Below.refl _ _) (Nat.le_refl _) (by simp) ?_; (case hd => rfl); (case hg => rfl); (case hr => first | (go_simp; done) | (go_simp; rfl)); (case hp => exact (Reps.one (show Kd.M (Kd.int .i64) _ _ _ x7_6 [.int .i64 x7_6] from rfl) (Reps.none _ _)))
              intro v260 w28 ho29 hb hg_ hnew_
              clear hg_ hnew_
              (first | rw [← Ny259.out] at ho29 | (simp only [Int.reduceToNat] at ho29; rw [← Ny259.out] at ho29))
              have HO261 := am (Kd.R_lower (Kd.R_new' (Kd.R_new' ho29 (Kd.R_lt (sr HO_5))) (Kd.R_lt (sr HO251))) (below_size (sb)))
              replace HO_5 := am (Kd.R_elder' (sr HO_5) (Kd.R_base ho29) hb)
              replace HO251 := am (Kd.R_elder' (sr HO251) (Kd.R_base ho29) hb)
              replace HR255 := am (Kd.C_below (cq HR255) hb)
              replace HR268 := am (Kd.C_below (cq HR268) hb)
              replace HB := bs hb
              clear hb ho29
              refine hw_ hK trivial (fun hHeld => ?_)
              clear hK K
              refine ow_ 4 (fun K hK => ?_)
              refine Kd.R_append_rows_step (Kd.int .i64) (w0 := w) w.heap.size (by rfl) (.tmp 66) (.tmp 69) 25 3 (.int .i64 0) 8 rfl Tryz.underlying25 info3 rfl (by decide) (by omega) v250 y249 y252 _ _ _ (fun k_ => some k_ ≠ (.slice (some ad248) x5_1.length co22 : Value).ownBlock ∧ some k_ ≠ (v260 : Value).ownBlock) (fun _ => False) rfl rfl ?aO ?aR (fun _ _ h => h) (fun _ h => h.elim) ?aF ?aB ?aS ?aL ?_
              (case aR => repeat (first | exact (cq HR255) | (with_reducible refine Kd.C_alloc ?_ _) | (with_reducible refine Kd.C_drewN ?_ _) | (with_reducible refine Kd.C_drew ?_)))
              (case aB => exact (sb))
              (case aF => exact (fun k_ hk => ⟨Kd.fresh' (Kd.R_lt (sr HO_5)) k_ hk, Kd.fresh' (Kd.R_lt (sr HO261)) k_ hk⟩))
              (case aO => exact (by exact rm HO251 (fun _ hk => ⟨hk.1.2, hk.2⟩)))
              (case aS => exact (below_size (sb)))
              (case aL => have := LMc17.out; omega)
              intro v257 w30 ho hb hg hat
              rw [← Ny256.out] at ho
              replace HO261 := am (Kd.R_after (ok := (fun k_ => some k_ ≠ (.slice (some ad248) x5_1.length co22 : Value).ownBlock)) (by exact rm HO261 (fun _ hk => ⟨hk.1.2, hk.2⟩)) hg hat)
              replace HB := am hb
              replace HR255 := am ((show Kd.C (Kd.int .i64) w30 (some ad248) y252.length y252 from by rw [Ny252.out]; exact Kd.C_take (m := (x8_3 : Int).toNat) ((Kd.R_reads' (Kd.R_after (ok := (fun k_ => some k_ ≠ (v260 : Value).ownBlock)) a8_2 hg hat)).2.2) KL24.out))
              replace HR268 := am ((show Kd.C (Kd.int .i64) w30 A25 y265.length y265 from by rw [Ny265.out, KA25.out]; exact Kd.C_drop (m := (x8_3 : Int).toNat) (c := co22) ((Kd.R_reads' (Kd.R_after (ok := (fun k_ => some k_ ≠ (v260 : Value).ownBlock)) a8_2 hg hat)).2.2) KL25.out ((Kd.R_reads' (Kd.R_after (ok := (fun k_ => some k_ ≠ (v260 : Value).ownBlock)) a8_2 hg hat)).2.1)))
              replace HO_5 := am (Kd.R_after (ok := (fun k_ => some k_ ≠ (v260 : Value).ownBlock)) a8_2 hg hat)
              have HO258 := am ho
              clear HO251 ho hb hg hat
              refine hw_ hK trivial (fun hHeld => ?_)
              clear hK K
              exact norm_ a8_0 (hCont (v250, v257, v260) _ ⟨a8_5, a8_8, a8_3, (sb)⟩)
            ·skip
             refine Kd.R_lit_step (Kd.int .i64) _ 3 ?hg (N := 72) ?hd (xs := ([x7_6] : List Int)) (inner := [.int .i64 x7_6]) (ok := fun _ => True) (okp := fun _ => True) ?hr ?hp (fun _ hk => hk) trivial (Below.refl _ _) (Nat.le_refl _) (by simp) ?_; (case hd => rfl); (case hg => rfl); (case hr => first | (go_simp; done) | (go_simp; rfl)); (case hp => exact (Reps.one (show Kd.M (Kd.int .i64) _ _ _ x7_6 [.int .i64 x7_6] from rfl) (Reps.none _ _)))
             intro v260 w26 ho27 hb hg_ hnew_
             clear hg_ hnew_
             (first | rw [← Ny259.out] at ho27 | (simp only [Int.reduceToNat] at ho27; rw [← Ny259.out] at ho27))
             have HO261 := am (Kd.R_lower (Kd.R_new' ho27 (Kd.R_lt (sr HO_5))) (below_size (sb)))
             replace HO_5 := am (Kd.R_elder' (sr HO_5) (Kd.R_base ho27) hb)
             replace HR255 := am (Kd.C_below (cq HR255) hb)
             replace HR268 := am (Kd.C_below (cq HR268) hb)
             replace HB := bs hb
             clear hb ho27
             refine hw_ hK trivial (fun hHeld => ?_)
             clear hK K
             refine ow_ 0 (fun K hK => ?_)
             refine Kd.R_lit_step (Kd.int .i64) _ 3 ?hg (N := 66) ?hd (xs := ([] : List Int)) (inner := []) (ok := fun _ => True) (okp := fun _ => True) ?hr ?hp (fun _ hk => hk) trivial (Below.refl _ _) (Nat.le_refl _) (by simp) ?_; (case hd => rfl); (case hg => rfl); (case hr => first | (go_simp; done) | (go_simp; rfl)); (case hp => exact (Reps.none _ _))
             intro v250 w28 ho29 hb hg_ hnew_
             clear hg_ hnew_
             (first | rw [← Ny249.out] at ho29 | (simp only [Int.reduceToNat] at ho29; rw [← Ny249.out] at ho29))
             have HO251 := am (Kd.R_lower (Kd.R_new' (Kd.R_new' ho29 (Kd.R_lt (sr HO_5))) (Kd.R_lt (sr HO261))) (below_size (sb)))
             replace HO_5 := am (Kd.R_elder' (sr HO_5) (Kd.R_base ho29) hb)
             replace HO261 := am (Kd.R_elder' (sr HO261) (Kd.R_base ho29) hb)
             replace HR255 := am (Kd.C_below (cq HR255) hb)
             replace HR268 := am (Kd.C_below (cq HR268) hb)
             replace HB := bs hb
             clear hb ho29
             refine hw_ hK trivial (fun hHeld => ?_)
             clear hK K
             refine ow_ 4 (fun K hK => ?_)
             refine Kd.R_append_rows_step (Kd.int .i64) (w0 := w) w.heap.size (by rfl) (.tmp 66) (.tmp 69) 25 3 (.int .i64 0) 8 rfl Tryz.underlying25 info3 rfl (by decide) (by omega) v250 y249 y252 _ _ _ (fun k_ => some k_ ≠ (.slice (some ad248) x5_1.length co22 : Value).ownBlock ∧ some k_ ≠ (v260 : Value).ownBlock) (fun _ => False) rfl rfl ?aO ?aR (fun _ _ h => h) (fun _ h => h.elim) ?aF ?aB ?aS ?aL ?_
             (case aR => repeat (first | exact (cq HR255) | (with_reducible refine Kd.C_alloc ?_ _) | (with_reducible refine Kd.C_drewN ?_ _) | (with_reducible refine Kd.C_drew ?_)))
             (case aB => exact (sb))
             (case aF => exact (fun k_ hk => ⟨Kd.fresh' (Kd.R_lt (sr HO_5)) k_ hk, Kd.fresh' (Kd.R_lt (sr HO261)) k_ hk⟩))
             (case aO => exact (by exact rm HO251 (fun _ hk => ⟨hk.1.2, hk.2⟩)))
             (case aS => exact (below_size (sb)))
             (case aL => have := LMc17.out; omega)
             intro v257 w30 ho hb hg hat
             rw [← Ny256.out] at ho
             replace HO261 := am (Kd.R_after (ok := (fun k_ => some k_ ≠ (.slice (some ad248) x5_1.length co22 : Value).ownBlock)) (by exact rm HO261 (fun _ hk => ⟨hk.1.2, hk.2⟩)) hg hat)
             replace HB := am hb
             replace HR255 := am ((show Kd.C (Kd.int .i64) w30 (some ad248) y252.length y252 from by rw [Ny252.out]; exact Kd.C_take (m := (x8_3 : Int).toNat) ((Kd.R_reads' (Kd.R_after (ok := (fun k_ => some k_ ≠ (v260 : Value).ownBlock)) a8_1 hg hat)).2.2) KL24.out))
             replace HR268 := am ((show Kd.C (Kd.int .i64) w30 A25 y265.length y265 from by rw [Ny265.out, KA25.out]; exact Kd.C_drop (m := (x8_3 : Int).toNat) (c := co22) ((Kd.R_reads' (Kd.R_after (ok := (fun k_ => some k_ ≠ (v260 : Value).ownBlock)) a8_1 hg hat)).2.2) KL25.out ((Kd.R_reads' (Kd.R_after (ok := (fun k_ => some k_ ≠ (v260 : Value).ownBlock)) a8_1 hg hat)).2.1)))
             replace HO_5 := am (Kd.R_after (ok := (fun k_ => some k_ ≠ (v260 : Value).ownBlock)) a8_1 hg hat)
             have HO258 := am ho
             clear HO251 ho hb hg hat
             refine hw_ hK trivial (fun hHeld => ?_)
             clear hK K
             exact norm_ a8_0 (hCont (v250, v257, v260) _ ⟨a8_5, a8_8, a8_3, (sb)⟩)
           rintro ⟨v250, v257, v260⟩ w31 ⟨h0_, h1_, h2_, h3_⟩
           have HO258 : Aside0 (Kd.R (Kd.int .i64) 3 w31 w.heap.size (fun k_ => some k_ ≠ (v260 : Value).ownBlock ∧ some k_ ≠ (.slice (some ad248) x5_1.length co22 : Value).ownBlock) v257 y256) := ⟨h0_⟩
           have HO261 : Aside0 (Kd.R (Kd.int .i64) 3 w31 w.heap.size (fun k_ => some k_ ≠ (v257 : Value).ownBlock ∧ some k_ ≠ (.slice (some ad248) x5_1.length co22 : Value).ownBlock) v260 y259) := ⟨h1_⟩
           replace HO_5 : Aside0 (Kd.R (Kd.int .i64) 3 w31 w.heap.size (fun k_ => some k_ ≠ (v257 : Value).ownBlock ∧ some k_ ≠ (v260 : Value).ownBlock) (.slice (some ad248) x5_1.length co22) x5_1) := ⟨h2_⟩
           replace HB : Aside0 (Below w.heap.size w w31) := ⟨h3_⟩
           clear h0_ h1_ h2_ h3_
           have hHeld := trivial
           obtain ⟨Ao33, co33, eo33⟩ := Kd.R_slice HO261.out
           (first | subst eo33 | (injection eo33 with f1_ f2_ f3_; have f4_ := f1_.symm; have f5_ := f3_.symm; clear f1_ f2_ f3_; subst f4_; subst f5_))
           refine norm_ (a' := ?_) ?_ ?_
           rotate_left
           ·simp only [putAll, Act.put, List.setIfInBounds_toArray, List.set_cons_zero, List.set_cons_succ]
            rfl
           refine ow_ 7 (fun K hK => ?_)
           refine Kd.R_append_rows_step (Kd.int .i64) (w0 := w) w.heap.size (by rfl) (.tmp 70) (.tmp 72) 25 3 (.int .i64 0) 8 rfl Tryz.underlying25 info3 rfl (by decide) (by omega) v257 y256 y259 _ _ _ (fun k_ => some k_ ≠ (.slice (some ad248) x5_1.length co22 : Value).ownBlock ∧ some k_ ≠ (.slice Ao33 y259.length co33 : Value).ownBlock) (fun _ => False) rfl rfl ?aO ?aR (fun _ _ h => h) (fun _ h => h.elim) ?aF ?aB ?aS ?aL ?_
           (case aR => repeat (first | exact (Kd.R_reads' HO261.out).2.2 | (with_reducible refine Kd.C_alloc ?_ _) | (with_reducible refine Kd.C_drewN ?_ _) | (with_reducible refine Kd.C_drew ?_)))
           (case aB => exact (sb))
           (case aF => exact (fun k_ hk => ⟨Kd.fresh' (Kd.R_lt (sr HO_5)) k_ hk, Kd.fresh' (Kd.R_lt (sr HO261)) k_ hk⟩))
           (case aO => exact a8_5)
           (case aS => exact (below_size (sb)))
           (case aL => have := LMc18.out; omega)
           intro v263 w32 ho hb hg hat
           rw [← Ny262.out] at ho
           replace HO_5 := am (Kd.R_after (ok := (fun k_ => some k_ ≠ (.slice Ao33 y259.length co33 : Value).ownBlock)) a8_3 hg hat)
           replace HO261 := am (Kd.R_after (ok := (fun k_ => some k_ ≠ (.slice (some ad248) x5_1.length co22 : Value).ownBlock)) a8_8 hg hat)
           replace HB := am hb
           have HO264 := am ho
           clear HO258 ho hb hg hat
           refine hw_ hK trivial (fun hHeld => ?_)
           clear hK K
           refine ow_ 11 (fun K hK => ?_)
           refine Kd.R_append_rows_step (Kd.int .i64) (w0 := w) w.heap.size (by rfl) (.tmp 73) (.tmp 76) 25 3 (.int .i64 0) 8 rfl Tryz.underlying25 info3 rfl (by decide) (by omega) v263 y262 y265 _ _ _ (fun k_ => some k_ ≠ (.slice (some ad248) x5_1.length co22 : Value).ownBlock ∧ some k_ ≠ (.slice Ao33 y259.length co33 : Value).ownBlock) (fun _ => False) rfl rfl ?aO ?aR (fun _ _ h => h) (fun _ h => h.elim) ?aF ?aB ?aS ?aL ?_
           (case aR => exact (show Kd.C (Kd.int .i64) _ A25 y265.length y265 from by rw [Ny265.out, KA25.out]; exact Kd.C_drop (m := (x8_3 : Int).toNat) (c := co22) ((Kd.R_reads' (sr HO_5)).2.2) KL25.out ((Kd.R_reads' HO_5.out).2.1)))
           (case aB => exact (sb))
           (case aF => exact (fun k_ hk => ⟨Kd.fresh' (Kd.R_lt (sr HO_5)) k_ hk, Kd.fresh' (Kd.R_lt (sr HO261)) k_ hk⟩))
           (case aO => exact (sr HO264))
           (case aS => exact (below_size (sb)))
           (case aL => have := LMc21.out; omega)
           intro v270 w34 ho hb hg hat
           rw [← Ny269.out] at ho
           replace HO_5 := am (Kd.R_after (ok := (fun k_ => some k_ ≠ (.slice Ao33 y259.length co33 : Value).ownBlock)) (sr HO_5) hg hat)
           replace HO261 := am (Kd.R_after (ok := (fun k_ => some k_ ≠ (.slice (some ad248) x5_1.length co22 : Value).ownBlock)) (sr HO261) hg hat)
           replace HB := am hb
           have HO271 := am ho
           clear HO264 ho hb hg hat
           refine hw_ hK trivial (fun hHeld => ?_)
           clear hK K
           refine r1_ 12 ?_
           refine done_ (done_of HT_.out (by kernel_rfl)) ?_
           try go_wp2
           go_roundg k3
           case measure => have := HK1.out; have := HJ6.out; have := HK3.out; omega
           case rel => exact ⟨(y269), (wrap64 (x6_1 + 1)), sc, H', ⟨a8_4⟩, ⟨by exact rm HO271 (fun _ hk => trivial)⟩, ⟨sb⟩⟩
          ·obtain ⟨-, c35b0, c35b1, H⟩ | ⟨c35, c35b0, c35b1, H⟩ := ib_ H
           ·have H' := am H
            clear H
            obtain ⟨Ao36, co36, eo36⟩ := Kd.R_slice HO_5.out
            subst eo36
            have p248 : 0 ≤ (x8_3 : Int) := sa
            have q248 : x8_3 < (x5_1.length : Int) := sa
            obtain ⟨ad248, e248, hx248_0⟩ := Kd.at_int (Kd.R_reads' HO_5.out).2.2 x8_3 p248 q248
            cases e248
            replace p248 := eq_true p248
            replace q248 := eq_true q248
            have p272 : 0 ≤ (x8_3 : Int) := sa
            have q272 : x8_3 < (x5_1.length : Int) := sa
            obtain ⟨ad272, e272, hx272_0⟩ := Kd.at_int (Kd.R_reads' HO_5.out).2.2 x8_3 p272 q272
            obtain rfl : ad248 = ad272 := (by injection e272)
            replace p272 := eq_true p272
            replace q272 := eq_true q272
            go_wp2
            go_roundg k3
            case measure => have := HK1.out; have := HJ6.out; have := HK3.out; omega
            case rel => exact ⟨(x5_1), (wrap64 (x6_1 + 1)), sc, H', ⟨a8_4⟩, ⟨sr HO_5⟩, ⟨sb⟩⟩
           ·obtain ⟨y273, Ny273, H⟩ := iy_ H
            have c37b0 := eq_true (sa : 0 ≤ x8_3)
            obtain ⟨c38, H⟩ := ia_ H
            have c38b0 := eq_true c38
            have c38b1 := decide_eq_true c38
            clear c38
            obtain ⟨y276, Ny276, H⟩ := iy_ H
            obtain ⟨LMc39, H⟩ := il_ H
            obtain ⟨y280, Ny280, H⟩ := iy_ H
            obtain ⟨y283, Ny283, H⟩ := iy_ H
            obtain ⟨LMc40, H⟩ := il_ H
            obtain ⟨y286, Ny286, H⟩ := iy_ H
            have c41b0 := eq_true (sa : 0 ≤ x8_3)
            have c42b0 := eq_true (sa : x8_3 ≤ (x5_1.length : Int))
            obtain ⟨y289, Ny289, H⟩ := iy_ H
            obtain ⟨LMc43, H⟩ := il_ H
            obtain ⟨y293, hy293⟩ : ∃ y_ : List Int, y_ = (y286 ++ y289) := ⟨_, rfl⟩
            replace H : (spec_NeighborsIn.l0 k3 l0 a1 y293 (wrap64 (x6_1 + 1))) = some r := ry hy293 H
            have Ny293 := am hy293
            clear hy293
            have H' := am H
            clear H
            obtain ⟨Ao44, co44, eo44⟩ := Kd.R_slice HO_5.out
            subst eo44
            have p248 : 0 ≤ (x8_3 : Int) := sa
            have q248 : x8_3 < (x5_1.length : Int) := sa
            obtain ⟨ad248, e248, hx248_0⟩ := Kd.at_int (Kd.R_reads' HO_5.out).2.2 x8_3 p248 q248
            cases e248
            replace p248 := eq_true p248
            replace q248 := eq_true q248
            have p272 : 0 ≤ (x8_3 : Int) := sa
            have q272 : x8_3 < (x5_1.length : Int) := sa
            obtain ⟨ad272, e272, hx272_0⟩ := Kd.at_int (Kd.R_reads' HO_5.out).2.2 x8_3 p272 q272
            obtain rfl : ad248 = ad272 := (by injection e272)
            replace p272 := eq_true p272
            replace q272 := eq_true q272
            try go_wp2
            replace HO_5 := am (Kd.R_drew HO_5.out)
            replace HB := am (below_drew1 HB.out)
            have q46 : (x8_3 : Int) ≤ ((x5_1.length : Int) : Int) := sa
            obtain ⟨i046, hi046, _, hsz46, _⟩ := info_parts info3
            have hroom46 : x5_1.length ≤ co44 := (Kd.R_reads' HO_5.out).2.1
            have hC46 : Kd.C (Kd.int .i64) _ (some ad248) x5_1.length x5_1 := (Kd.R_reads' HO_5.out).2.2
            have hcut46 := cut_to (P := Tryz.prog) 25 3 .i64 Tryz.underlying25 hi046 (some ad248) x5_1.length co44 x8_3 (sa) q46 hroom46
            have hr46 := Kd.C_take (m := (x8_3 : Int).toNat) hC46 (by omega)
            have hy46 : y276.length = (x8_3 : Int).toNat := (by rw [Ny276.out, List.length_take]; omega)
            rw [← Ny276.out] at hr46
            rw [← hy46] at hcut46
            have HR279 := am hr46
            have HC279 := am (show y276.length ≤ co44 from by omega)
            clear hr46 hC46 hroom46 hi046 hsz46
            have KY46 := am hy46
            clear hy46
            have KL46 := am (show (x8_3 : Int).toNat ≤ x5_1.length from by omega)
            replace q46 := eq_true q46
            have q47 : (x8_3 : Int) ≤ ((x5_1.length : Int) : Int) := sa
            obtain ⟨i047, hi047, _, hsz47, _⟩ := info_parts info3
            have hroom47 : x5_1.length ≤ co44 := (Kd.R_reads' HO_5.out).2.1
            have hC47 : Kd.C (Kd.int .i64) _ (some ad248) x5_1.length x5_1 := (Kd.R_reads' HO_5.out).2.2
            have q047 : (0 : Int) ≤ (x8_3 : Int) := sa
            have hcut47 := cut_from (P := Tryz.prog) 25 3 .i64 Tryz.underlying25 hi047 1 hsz47 (some ad248) x5_1.length co44 x8_3 q047 q47
            have hr47 := Kd.C_drop (m := (x8_3 : Int).toNat) (c := co44) hC47 (by omega) hroom47
            obtain ⟨A47, hA47⟩ : ∃ A1, A1 = (if co44 = (x8_3 : Int).toNat then (some ad248) else ((some ad248) : Option Addr).map (·.add ((x8_3 : Int).toNat * 1))) := ⟨_, rfl⟩
            obtain ⟨c47, hc47⟩ : ∃ c1, c1 = co44 - (x8_3 : Int).toNat := ⟨_, rfl⟩
            have hy47 : y289.length = x5_1.length - (x8_3 : Int).toNat := (by rw [Ny289.out, List.length_drop] <;> omega)
            rw [show (x5_1).drop (x8_3 : Int).toNat = y289 from Ny289.out.symm] at hr47
            replace hr47 : Kd.C (Kd.int .i64) _ A47 y289.length y289 := (by rw [hA47]; exact hr47)
            rw [← hy47, ← hA47, ← hc47] at hcut47
            have HR292 := am hr47
            have HC292 := am (show y289.length ≤ c47 from by rw [hy47, hc47]; exact Nat.sub_le_sub_right hroom47 _)
            clear hr47 hC47 hroom47 hi047 hsz47 hc47
            have KY47 := am hy47
            have KA47 := am hA47
            clear hy47 hA47
            have KL47 := am (show (x8_3 : Int).toNat ≤ x5_1.length from by omega)
            replace q47 := eq_true q47
            refine start_ (n := 13) (S := fun w' => True) (ds := []) (bt 13 0) (by kernel_rfl) rfl (by kernel_rfl) trivial (fun hHeld => ?_); refine with_tabW spec_NeighborsIn.tab14 spec_NeighborsIn.bits14 (fun HT_ HW_ => ?_)
            generalize wr.drew = w45 at HO_5 HB HR279 HR292 hHeld ⊢
            refine r7_ 1 2 3 5 8 9 10 ?_
            refine join_ (σ := Value × Value × Value) 3 (bt 13 1919) (fun s_ => [(66, s_.1), (70, s_.2.1), (72, s_.2.2)]) (fun s_ w' => (Kd.R (Kd.int .i64) 3 w' w.heap.size (fun k_ => some k_ ≠ (s_.2.2 : Value).ownBlock ∧ some k_ ≠ (.slice (some ad248) x5_1.length co44 : Value).ownBlock) s_.2.1 y280) ∧ (Kd.R (Kd.int .i64) 3 w' w.heap.size (fun k_ => some k_ ≠ (s_.2.1 : Value).ownBlock ∧ some k_ ≠ (.slice (some ad248) x5_1.length co44 : Value).ownBlock) s_.2.2 y283) ∧ (Kd.R (Kd.int .i64) 3 w' w.heap.size (fun k_ => some k_ ≠ (s_.2.1 : Value).ownBlock ∧ some k_ ≠ (s_.2.2 : Value).ownBlock) (.slice (some ad248) x5_1.length co44) x5_1) ∧ (Below w.heap.size w w')) ?_ ?_
            rotate_left
            ·intro hCont
             refine tw_ 0 6 (fun K hK => ?_) (fun K hK => ?_)
             ·skip
              refine Kd.R_lit_step (Kd.int .i64) _ 3 ?hg (N := 66) ?hd (xs := ([] : List Int)) (inner := []) (ok := fun _ => True) (okp := fun _ => True) ?hr ?hp (fun _ hk => hk) trivial (Below.refl _ _) (Nat.le_refl _) (by simp) ?_; (case hd => rfl); (case hg => rfl); (case hr => first | (go_simp; done) | (go_simp; rfl)); (case hp => exact (Reps.none _ _))
              intro v274 w48 ho49 hb hg_ hnew_
              clear hg_ hnew_
              (first | rw [← Ny273.out] at ho49 | (simp only [Int.reduceToNat] at ho49; rw [← Ny273.out] at ho49))
              have HO275 := am (Kd.R_lower (Kd.R_new' ho49 (Kd.R_lt (sr HO_5))) (below_size (sb)))
              replace HO_5 := am (Kd.R_elder' (sr HO_5) (Kd.R_base ho49) hb)
              replace HR279 := am (Kd.C_below (cq HR279) hb)
              replace HR292 := am (Kd.C_below (cq HR292) hb)
              replace HB := bs hb
              clear hb ho49
              refine hw_ hK trivial (fun hHeld => ?_)
              clear hK K
              refine tw_ 4 6 (fun K hK => ?_) (fun K hK => ?_)
              ·skip
               refine Kd.R_append_rows_step (Kd.int .i64) (w0 := w) w.heap.size (by rfl) (.tmp 66) (.tmp 69) 25 3 (.int .i64 0) 8 rfl Tryz.underlying25 info3 rfl (by decide) (by omega) v274 y273 y276 _ _ _ (fun k_ => some k_ ≠ (.slice (some ad248) x5_1.length co44 : Value).ownBlock) (fun _ => False) rfl rfl ?aO ?aR (fun _ _ h => h) (fun _ h => h.elim) ?aF ?aB ?aS ?aL ?_
               (case aR => repeat (first | exact (cq HR279) | (with_reducible refine Kd.C_alloc ?_ _) | (with_reducible refine Kd.C_drewN ?_ _) | (with_reducible refine Kd.C_drew ?_)))
               (case aB => exact (sb))
               (case aF => exact (fun k_ hk => Kd.fresh' (Kd.R_lt (sr HO_5)) k_ hk))
               (case aO => exact (by exact rm HO275 (fun _ hk => hk.2)))
               (case aS => exact (below_size (sb)))
               (case aL => have := LMc39.out; omega)
               intro v281 w50 ho hb hg hat
               rw [← Ny280.out] at ho
               replace HB := am hb
               replace HR279 := am ((show Kd.C (Kd.int .i64) w50 (some ad248) y276.length y276 from by rw [Ny276.out]; exact Kd.C_take (m := (x8_3 : Int).toNat) ((Kd.R_reads' (Kd.R_after (ok := (fun _ => True)) (sr HO_5) hg hat)).2.2) KL46.out))
               replace HR292 := am ((show Kd.C (Kd.int .i64) w50 A47 y289.length y289 from by rw [Ny289.out, KA47.out]; exact Kd.C_drop (m := (x8_3 : Int).toNat) (c := co44) ((Kd.R_reads' (Kd.R_after (ok := (fun _ => True)) (sr HO_5) hg hat)).2.2) KL47.out ((Kd.R_reads' (Kd.R_after (ok := (fun _ => True)) (sr HO_5) hg hat)).2.1)))
               replace HO_5 := am (Kd.R_after (ok := (fun _ => True)) (sr HO_5) hg hat)
               have HO282 := am ho
               clear HO275 ho hb hg hat
               refine hw_ hK trivial (fun hHeld => ?_)
               clear hK K
               refine ow_ 6 (fun K hK => ?_)
               refine Kd.R_lit_step (Kd.int .i64) _ 3 ?hg (N := 72) ?hd (xs := ([x7_6] : List Int)) (inner := [.int .i64 x7_6]) (ok := fun _ => True) (okp := fun _ => True) ?hr ?hp (fun _ hk => hk) trivial (Below.refl _ _) (Nat.le_refl _) (by simp) ?_; (case hd => rfl); (case hg => rfl); (case hr => first | (go_simp; done) | (go_simp; rfl)); (case hp => exact (Reps.one (show Kd.M (Kd.int .i64) _ _ _ x7_6 [.int .i64 x7_6] from rfl) (Reps.none _ _)))
               intro v284 w51 ho52 hb hg_ hnew_
               clear hg_ hnew_
               (first | rw [← Ny283.out] at ho52 | (simp only [Int.reduceToNat] at ho52; rw [← Ny283.out] at ho52))
               have HO285 := am (Kd.R_lower (Kd.R_new' (Kd.R_new' ho52 (Kd.R_lt (sr HO_5))) (Kd.R_lt (sr HO282))) (below_size (sb)))
               replace HO_5 := am (Kd.R_elder' (sr HO_5) (Kd.R_base ho52) hb)
               replace HO282 := am (Kd.R_elder' (sr HO282) (Kd.R_base ho52) hb)
               replace HR279 := am (Kd.C_below (cq HR279) hb)
               replace HR292 := am (Kd.C_below (cq HR292) hb)
               replace HB := bs hb
               clear hb ho52
               refine hw_ hK trivial (fun hHeld => ?_)
               clear hK K
               exact norm_ a8_0 (hCont (v274, v281, v284) _ ⟨a8_6, (by exact rm HO285 (fun _ hk => ⟨hk.2, hk.1.2⟩)), a8_1, (sb)⟩)
              ·skip
               refine Kd.R_lit_step (Kd.int .i64) _ 3 ?hg (N := 72) ?hd (xs := ([x7_6] : List Int)) (inner := [.int .i64 x7_6]) (ok := fun _ => True) (okp := fun _ => True) ?hr ?hp (fun _ hk => hk) trivial (Below.refl _ _) (Nat.le_refl _) (by simp) ?_; (case hd => rfl); (case hg => rfl); (case hr => first | (go_simp; done) | (go_simp; rfl)); (case hp => exact (Reps.one (show Kd.M (Kd.int .i64) _ _ _ x7_6 [.int .i64 x7_6] from rfl) (Reps.none _ _)))
               intro v284 w50 ho51 hb hg_ hnew_
               clear hg_ hnew_
               (first | rw [← Ny283.out] at ho51 | (simp only [Int.reduceToNat] at ho51; rw [← Ny283.out] at ho51))
               have HO285 := am (Kd.R_lower (Kd.R_new' (Kd.R_new' ho51 (Kd.R_lt (sr HO_5))) (Kd.R_lt (sr HO275))) (below_size (sb)))
               replace HO_5 := am (Kd.R_elder' (sr HO_5) (Kd.R_base ho51) hb)
               replace HO275 := am (Kd.R_elder' (sr HO275) (Kd.R_base ho51) hb)
               replace HR279 := am (Kd.C_below (cq HR279) hb)
               replace HR292 := am (Kd.C_below (cq HR292) hb)
               replace HB := bs hb
               clear hb ho51
               refine hw_ hK trivial (fun hHeld => ?_)
               clear hK K
               refine ow_ 4 (fun K hK => ?_)
               refine Kd.R_append_rows_step (Kd.int .i64) (w0 := w) w.heap.size (by rfl) (.tmp 66) (.tmp 69) 25 3 (.int .i64 0) 8 rfl Tryz.underlying25 info3 rfl (by decide) (by omega) v274 y273 y276 _ _ _ (fun k_ => some k_ ≠ (.slice (some ad248) x5_1.length co44 : Value).ownBlock ∧ some k_ ≠ (v284 : Value).ownBlock) (fun _ => False) rfl rfl ?aO ?aR (fun _ _ h => h) (fun _ h => h.elim) ?aF ?aB ?aS ?aL ?_
               (case aR => repeat (first | exact (cq HR279) | (with_reducible refine Kd.C_alloc ?_ _) | (with_reducible refine Kd.C_drewN ?_ _) | (with_reducible refine Kd.C_drew ?_)))
               (case aB => exact (sb))
               (case aF => exact (fun k_ hk => ⟨Kd.fresh' (Kd.R_lt (sr HO_5)) k_ hk, Kd.fresh' (Kd.R_lt (sr HO285)) k_ hk⟩))
               (case aO => exact (by exact rm HO275 (fun _ hk => ⟨hk.1.2, hk.2⟩)))
               (case aS => exact (below_size (sb)))
               (case aL => have := LMc39.out; omega)
               intro v281 w52 ho hb hg hat
               rw [← Ny280.out] at ho
               replace HO285 := am (Kd.R_after (ok := (fun k_ => some k_ ≠ (.slice (some ad248) x5_1.length co44 : Value).ownBlock)) (by exact rm HO285 (fun _ hk => ⟨hk.1.2, hk.2⟩)) hg hat)
               replace HB := am hb
               replace HR279 := am ((show Kd.C (Kd.int .i64) w52 (some ad248) y276.length y276 from by rw [Ny276.out]; exact Kd.C_take (m := (x8_3 : Int).toNat) ((Kd.R_reads' (Kd.R_after (ok := (fun k_ => some k_ ≠ (v284 : Value).ownBlock)) a8_2 hg hat)).2.2) KL46.out))
               replace HR292 := am ((show Kd.C (Kd.int .i64) w52 A47 y289.length y289 from by rw [Ny289.out, KA47.out]; exact Kd.C_drop (m := (x8_3 : Int).toNat) (c := co44) ((Kd.R_reads' (Kd.R_after (ok := (fun k_ => some k_ ≠ (v284 : Value).ownBlock)) a8_2 hg hat)).2.2) KL47.out ((Kd.R_reads' (Kd.R_after (ok := (fun k_ => some k_ ≠ (v284 : Value).ownBlock)) a8_2 hg hat)).2.1)))
               replace HO_5 := am (Kd.R_after (ok := (fun k_ => some k_ ≠ (v284 : Value).ownBlock)) a8_2 hg hat)
               have HO282 := am ho
               clear HO275 ho hb hg hat
               refine hw_ hK trivial (fun hHeld => ?_)
               clear hK K
               exact norm_ a8_0 (hCont (v274, v281, v284) _ ⟨a8_6, a8_9, a8_3, (sb)⟩)
             ·skip
              refine Kd.R_lit_step (Kd.int .i64) _ 3 ?hg (N := 72) ?hd (xs := ([x7_6] : List Int)) (inner := [.int .i64 x7_6]) (ok := fun _ => True) (okp := fun _ => True) ?hr ?hp (fun _ hk => hk) trivial (Below.refl _ _) (Nat.le_refl _) (by simp) ?_; (case hd => rfl); (case hg => rfl); (case hr => first | (go_simp; done) | (go_simp; rfl)); (case hp => exact (Reps.one (show Kd.M (Kd.int .i64) _ _ _ x7_6 [.int .i64 x7_6] from rfl) (Reps.none _ _)))
              intro v284 w48 ho49 hb hg_ hnew_
              clear hg_ hnew_
              (first | rw [← Ny283.out] at ho49 | (simp only [Int.reduceToNat] at ho49; rw [← Ny283.out] at ho49))
              have HO285 := am (Kd.R_lower (Kd.R_new' ho49 (Kd.R_lt (sr HO_5))) (below_size (sb)))
              replace HO_5 := am (Kd.R_elder' (sr HO_5) (Kd.R_base ho49) hb)
              replace HR279 := am (Kd.C_below (cq HR279) hb)
              replace HR292 := am (Kd.C_below (cq HR292) hb)
              replace HB := bs hb
              clear hb ho49
              refine hw_ hK trivial (fun hHeld => ?_)
              clear hK K
              refine ow_ 0 (fun K hK => ?_)
              refine Kd.R_lit_step (Kd.int .i64) _ 3 ?hg (N := 66) ?hd (xs := ([] : List Int)) (inner := []) (ok := fun _ => True) (okp := fun _ => True) ?hr ?hp (fun _ hk => hk) trivial (Below.refl _ _) (Nat.le_refl _) (by simp) ?_; (case hd => rfl); (case hg => rfl); (case hr => first | (go_simp; done) | (go_simp; rfl)); (case hp => exact (Reps.none _ _))
              intro v274 w50 ho51 hb hg_ hnew_
              clear hg_ hnew_
              (first | rw [← Ny273.out] at ho51 | (simp only [Int.reduceToNat] at ho51; rw [← Ny273.out] at ho51))
              have HO275 := am (Kd.R_lower (Kd.R_new' (Kd.R_new' ho51 (Kd.R_lt (sr HO_5))) (Kd.R_lt (sr HO285))) (below_size (sb)))
              replace HO_5 := am (Kd.R_elder' (sr HO_5) (Kd.R_base ho51) hb)
              replace HO285 := am (Kd.R_elder' (sr HO285) (Kd.R_base ho51) hb)
              replace HR279 := am (Kd.C_below (cq HR279) hb)
              replace HR292 := am (Kd.C_below (cq HR292) hb)
              replace HB := bs hb
              clear hb ho51
              refine hw_ hK trivial (fun hHeld => ?_)
              clear hK K
              refine ow_ 4 (fun K hK => ?_)
              refine Kd.R_append_rows_step (Kd.int .i64) (w0 := w) w.heap.size (by rfl) (.tmp 66) (.tmp 69) 25 3 (.int .i64 0) 8 rfl Tryz.underlying25 info3 rfl (by decide) (by omega) v274 y273 y276 _ _ _ (fun k_ => some k_ ≠ (.slice (some ad248) x5_1.length co44 : Value).ownBlock ∧ some k_ ≠ (v284 : Value).ownBlock) (fun _ => False) rfl rfl ?aO ?aR (fun _ _ h => h) (fun _ h => h.elim) ?aF ?aB ?aS ?aL ?_
              (case aR => repeat (first | exact (cq HR279) | (with_reducible refine Kd.C_alloc ?_ _) | (with_reducible refine Kd.C_drewN ?_ _) | (with_reducible refine Kd.C_drew ?_)))
              (case aB => exact (sb))
              (case aF => exact (fun k_ hk => ⟨Kd.fresh' (Kd.R_lt (sr HO_5)) k_ hk, Kd.fresh' (Kd.R_lt (sr HO285)) k_ hk⟩))
              (case aO => exact (by exact rm HO275 (fun _ hk => ⟨hk.1.2, hk.2⟩)))
              (case aS => exact (below_size (sb)))
              (case aL => have := LMc39.out; omega)
              intro v281 w52 ho hb hg hat
              rw [← Ny280.out] at ho
              replace HO285 := am (Kd.R_after (ok := (fun k_ => some k_ ≠ (.slice (some ad248) x5_1.length co44 : Value).ownBlock)) (by exact rm HO285 (fun _ hk => ⟨hk.1.2, hk.2⟩)) hg hat)
              replace HB := am hb
              replace HR279 := am ((show Kd.C (Kd.int .i64) w52 (some ad248) y276.length y276 from by rw [Ny276.out]; exact Kd.C_take (m := (x8_3 : Int).toNat) ((Kd.R_reads' (Kd.R_after (ok := (fun k_ => some k_ ≠ (v284 : Value).ownBlock)) a8_1 hg hat)).2.2) KL46.out))
              replace HR292 := am ((show Kd.C (Kd.int .i64) w52 A47 y289.length y289 from by rw [Ny289.out, KA47.out]; exact Kd.C_drop (m := (x8_3 : Int).toNat) (c := co44) ((Kd.R_reads' (Kd.R_after (ok := (fun k_ => some k_ ≠ (v284 : Value).ownBlock)) a8_1 hg hat)).2.2) KL47.out ((Kd.R_reads' (Kd.R_after (ok := (fun k_ => some k_ ≠ (v284 : Value).ownBlock)) a8_1 hg hat)).2.1)))
              replace HO_5 := am (Kd.R_after (ok := (fun k_ => some k_ ≠ (v284 : Value).ownBlock)) a8_1 hg hat)
              have HO282 := am ho
              clear HO275 ho hb hg hat
              refine hw_ hK trivial (fun hHeld => ?_)
              clear hK K
              exact norm_ a8_0 (hCont (v274, v281, v284) _ ⟨a8_6, a8_9, a8_3, (sb)⟩)
            rintro ⟨v274, v281, v284⟩ w53 ⟨h0_, h1_, h2_, h3_⟩
            have HO282 : Aside0 (Kd.R (Kd.int .i64) 3 w53 w.heap.size (fun k_ => some k_ ≠ (v284 : Value).ownBlock ∧ some k_ ≠ (.slice (some ad248) x5_1.length co44 : Value).ownBlock) v281 y280) := ⟨h0_⟩
            have HO285 : Aside0 (Kd.R (Kd.int .i64) 3 w53 w.heap.size (fun k_ => some k_ ≠ (v281 : Value).ownBlock ∧ some k_ ≠ (.slice (some ad248) x5_1.length co44 : Value).ownBlock) v284 y283) := ⟨h1_⟩
            replace HO_5 : Aside0 (Kd.R (Kd.int .i64) 3 w53 w.heap.size (fun k_ => some k_ ≠ (v281 : Value).ownBlock ∧ some k_ ≠ (v284 : Value).ownBlock) (.slice (some ad248) x5_1.length co44) x5_1) := ⟨h2_⟩
            replace HB : Aside0 (Below w.heap.size w w53) := ⟨h3_⟩
            clear h0_ h1_ h2_ h3_
            have hHeld := trivial
            obtain ⟨Ao55, co55, eo55⟩ := Kd.R_slice HO285.out
            (first | subst eo55 | (injection eo55 with f1_ f2_ f3_; have f4_ := f1_.symm; have f5_ := f3_.symm; clear f1_ f2_ f3_; subst f4_; subst f5_))
            refine norm_ (a' := ?_) ?_ ?_
            rotate_left
            ·simp only [putAll, Act.put, List.setIfInBounds_toArray, List.set_cons_zero, List.set_cons_succ]
             rfl
            refine ow_ 7 (fun K hK => ?_)
            refine Kd.R_append_rows_step (Kd.int .i64) (w0 := w) w.heap.size (by rfl) (.tmp 70) (.tmp 72) 25 3 (.int .i64 0) 8 rfl Tryz.underlying25 info3 rfl (by decide) (by omega) v281 y280 y283 _ _ _ (fun k_ => some k_ ≠ (.slice (some ad248) x5_1.length co44 : Value).ownBlock ∧ some k_ ≠ (.slice Ao55 y283.length co55 : Value).ownBlock) (fun _ => False) rfl rfl ?aO ?aR (fun _ _ h => h) (fun _ h => h.elim) ?aF ?aB ?aS ?aL ?_
            (case aR => repeat (first | exact (Kd.R_reads' HO285.out).2.2 | (with_reducible refine Kd.C_alloc ?_ _) | (with_reducible refine Kd.C_drewN ?_ _) | (with_reducible refine Kd.C_drew ?_)))
            (case aB => exact (sb))
            (case aF => exact (fun k_ hk => ⟨Kd.fresh' (Kd.R_lt (sr HO_5)) k_ hk, Kd.fresh' (Kd.R_lt (sr HO285)) k_ hk⟩))
            (case aO => exact a8_6)
            (case aS => exact (below_size (sb)))
            (case aL => have := LMc40.out; omega)
            intro v287 w54 ho hb hg hat
            rw [← Ny286.out] at ho
            replace HO_5 := am (Kd.R_after (ok := (fun k_ => some k_ ≠ (.slice Ao55 y283.length co55 : Value).ownBlock)) a8_3 hg hat)
            replace HO285 := am (Kd.R_after (ok := (fun k_ => some k_ ≠ (.slice (some ad248) x5_1.length co44 : Value).ownBlock)) a8_9 hg hat)
            replace HB := am hb
            have HO288 := am ho
            clear HO282 ho hb hg hat
            refine hw_ hK trivial (fun hHeld => ?_)
            clear hK K
            refine ow_ 11 (fun K hK => ?_)
            refine Kd.R_append_rows_step (Kd.int .i64) (w0 := w) w.heap.size (by rfl) (.tmp 73) (.tmp 76) 25 3 (.int .i64 0) 8 rfl Tryz.underlying25 info3 rfl (by decide) (by omega) v287 y286 y289 _ _ _ (fun k_ => some k_ ≠ (.slice (some ad248) x5_1.length co44 : Value).ownBlock ∧ some k_ ≠ (.slice Ao55 y283.length co55 : Value).ownBlock) (fun _ => False) rfl rfl ?aO ?aR (fun _ _ h => h) (fun _ h => h.elim) ?aF ?aB ?aS ?aL ?_
            (case aR => exact (show Kd.C (Kd.int .i64) _ A47 y289.length y289 from by rw [Ny289.out, KA47.out]; exact Kd.C_drop (m := (x8_3 : Int).toNat) (c := co44) ((Kd.R_reads' (sr HO_5)).2.2) KL47.out ((Kd.R_reads' HO_5.out).2.1)))
            (case aB => exact (sb))
            (case aF => exact (fun k_ hk => ⟨Kd.fresh' (Kd.R_lt (sr HO_5)) k_ hk, Kd.fresh' (Kd.R_lt (sr HO285)) k_ hk⟩))
            (case aO => exact (sr HO288))
            (case aS => exact (below_size (sb)))
            (case aL => have := LMc43.out; omega)
            intro v294 w56 ho hb hg hat
            rw [← Ny293.out] at ho
            replace HO_5 := am (Kd.R_after (ok := (fun k_ => some k_ ≠ (.slice Ao55 y283.length co55 : Value).ownBlock)) (sr HO_5) hg hat)
            replace HO285 := am (Kd.R_after (ok := (fun k_ => some k_ ≠ (.slice (some ad248) x5_1.length co44 : Value).ownBlock)) (sr HO285) hg hat)
            replace HB := am hb
            have HO295 := am ho
            clear HO288 ho hb hg hat
            refine hw_ hK trivial (fun hHeld => ?_)
            clear hK K
            refine r1_ 12 ?_
            refine done_ (done_of HT_.out (by kernel_rfl)) ?_
            try go_wp2
            go_roundg k3
            case measure => have := HK1.out; have := HJ6.out; have := HK3.out; omega
            case rel => exact ⟨(y293), (wrap64 (x6_1 + 1)), sc, H', ⟨a8_4⟩, ⟨by exact rm HO295 (fun _ hk => trivial)⟩, ⟨sb⟩⟩
        ·obtain ⟨-, c57b0, c57b1, H⟩ | ⟨c57, c57b0, c57b1, H⟩ := ib_ H
         ·obtain ⟨y296, Ny296, H⟩ := iy_ H
          obtain ⟨c58, H⟩ := ia_ H
          have c58b0 := eq_true c58
          have c58b1 := decide_eq_true c58
          clear c58
          obtain ⟨c59, H⟩ := ia_ H
          have c59b0 := eq_true c59
          have c59b1 := decide_eq_true c59
          clear c59
          obtain ⟨y299, Ny299, H⟩ := iy_ H
          obtain ⟨LMc60, H⟩ := il_ H
          obtain ⟨y303, Ny303, H⟩ := iy_ H
          obtain ⟨y306, Ny306, H⟩ := iy_ H
          obtain ⟨LMc61, H⟩ := il_ H
          obtain ⟨y309, Ny309, H⟩ := iy_ H
          have c62b0 := eq_true (sa : 0 ≤ x8_3)
          have c63b0 := eq_true (sa : x8_3 ≤ (x5_1.length : Int))
          obtain ⟨y312, Ny312, H⟩ := iy_ H
          obtain ⟨LMc64, H⟩ := il_ H
          obtain ⟨y316, hy316⟩ : ∃ y_ : List Int, y_ = (y309 ++ y312) := ⟨_, rfl⟩
          replace H : (spec_NeighborsIn.l0 k3 l0 a1 y316 (wrap64 (x6_1 + 1))) = some r := ry hy316 H
          have Ny316 := am hy316
          clear hy316
          have H' := am H
          clear H
          obtain ⟨Ao65, co65, eo65⟩ := Kd.R_slice HO_5.out
          subst eo65
          try go_wp2
          replace HO_5 := am (Kd.R_drew HO_5.out)
          replace HB := am (below_drew1 HB.out)
          have q67 : (x8_3 : Int) ≤ ((x5_1.length : Int) : Int) := sa
          obtain ⟨i067, hi067, _, hsz67, _⟩ := info_parts info3
          have hroom67 : x5_1.length ≤ co65 := (Kd.R_reads' HO_5.out).2.1
          have hC67 : Kd.C (Kd.int .i64) _ Ao65 x5_1.length x5_1 := (Kd.R_reads' HO_5.out).2.2
          have hcut67 := cut_to (P := Tryz.prog) 25 3 .i64 Tryz.underlying25 hi067 Ao65 x5_1.length co65 x8_3 (sa) q67 hroom67
          have hr67 := Kd.C_take (m := (x8_3 : Int).toNat) hC67 (by omega)
          have hy67 : y299.length = (x8_3 : Int).toNat := (by rw [Ny299.out, List.length_take]; omega)
          rw [← Ny299.out] at hr67
          rw [← hy67] at hcut67
          have HR302 := am hr67
          have HC302 := am (show y299.length ≤ co65 from by omega)
          clear hr67 hC67 hroom67 hi067 hsz67
          have KY67 := am hy67
          clear hy67
          have KL67 := am (show (x8_3 : Int).toNat ≤ x5_1.length from by omega)
          replace q67 := eq_true q67
          have q68 : (x8_3 : Int) ≤ ((x5_1.length : Int) : Int) := sa
          obtain ⟨i068, hi068, _, hsz68, _⟩ := info_parts info3
          have hroom68 : x5_1.length ≤ co65 := (Kd.R_reads' HO_5.out).2.1
          have hC68 : Kd.C (Kd.int .i64) _ Ao65 x5_1.length x5_1 := (Kd.R_reads' HO_5.out).2.2
          have q068 : (0 : Int) ≤ (x8_3 : Int) := sa
          have hcut68 := cut_from (P := Tryz.prog) 25 3 .i64 Tryz.underlying25 hi068 1 hsz68 Ao65 x5_1.length co65 x8_3 q068 q68
          have hr68 := Kd.C_drop (m := (x8_3 : Int).toNat) (c := co65) hC68 (by omega) hroom68
          obtain ⟨A68, hA68⟩ : ∃ A1, A1 = (if co65 = (x8_3 : Int).toNat then Ao65 else (Ao65 : Option Addr).map (·.add ((x8_3 : Int).toNat * 1))) := ⟨_, rfl⟩
          obtain ⟨c68, hc68⟩ : ∃ c1, c1 = co65 - (x8_3 : Int).toNat := ⟨_, rfl⟩
          have hy68 : y312.length = x5_1.length - (x8_3 : Int).toNat := (by rw [Ny312.out, List.length_drop] <;> omega)
          rw [show (x5_1).drop (x8_3 : Int).toNat = y312 from Ny312.out.symm] at hr68
          replace hr68 : Kd.C (Kd.int .i64) _ A68 y312.length y312 := (by rw [hA68]; exact hr68)
          rw [← hy68, ← hA68, ← hc68] at hcut68
          have HR315 := am hr68
          have HC315 := am (show y312.length ≤ c68 from by rw [hy68, hc68]; exact Nat.sub_le_sub_right hroom68 _)
          clear hr68 hC68 hroom68 hi068 hsz68 hc68
          have KY68 := am hy68
          have KA68 := am hA68
          clear hy68 hA68
          have KL68 := am (show (x8_3 : Int).toNat ≤ x5_1.length from by omega)
          replace q68 := eq_true q68
          refine start_ (n := 13) (S := fun w' => True) (ds := []) (bt 13 0) (by kernel_rfl) rfl (by kernel_rfl) trivial (fun hHeld => ?_); refine with_tabW spec_NeighborsIn.tab14 spec_NeighborsIn.bits14 (fun HT_ HW_ => ?_)
          generalize wr.drew = w66 at HO_5 HB HR302 HR315 hHeld ⊢
          refine r7_ 1 2 3 5 8 9 10 ?_
          refine join_ (σ := Value × Value × Value) 3 (bt 13 1919) (fun s_ => [(66, s_.1), (70, s_.2.1), (72, s_.2.2)]) (fun s_ w' => (Kd.R (Kd.int .i64) 3 w' w.heap.size (fun k_ => some k_ ≠ (s_.2.2 : Value).ownBlock ∧ some k_ ≠ (.slice Ao65 x5_1.length co65 : Value).ownBlock) s_.2.1 y303) ∧ (Kd.R (Kd.int .i64) 3 w' w.heap.size (fun k_ => some k_ ≠ (s_.2.1 : Value).ownBlock ∧ some k_ ≠ (.slice Ao65 x5_1.length co65 : Value).ownBlock) s_.2.2 y306) ∧ (Kd.R (Kd.int .i64) 3 w' w.heap.size (fun k_ => some k_ ≠ (s_.2.1 : Value).ownBlock ∧ some k_ ≠ (s_.2.2 : Value).ownBlock) (.slice Ao65 x5_1.length co65) x5_1) ∧ (Below w.heap.size w w')) ?_ ?_
          rotate_left
          ·intro hCont
           refine tw_ 0 6 (fun K hK => ?_) (fun K hK => ?_)
           ·skip
            refine Kd.R_lit_step (Kd.int .i64) _ 3 ?hg (N := 66) ?hd (xs := ([] : List Int)) (inner := []) (ok := fun _ => True) (okp := fun _ => True) ?hr ?hp (fun _ hk => hk) trivial (Below.refl _ _) (Nat.le_refl _) (by simp) ?_; (case hd => rfl); (case hg => rfl); (case hr => first | (go_simp; done) | (go_simp; rfl)); (case hp => exact (Reps.none _ _))
            intro v297 w69 ho70 hb hg_ hnew_
            clear hg_ hnew_
            (first | rw [← Ny296.out] at ho70 | (simp only [Int.reduceToNat] at ho70; rw [← Ny296.out] at ho70))
            have HO298 := am (Kd.R_lower (Kd.R_new' ho70 (Kd.R_lt (sr HO_5))) (below_size (sb)))
            replace HO_5 := am (Kd.R_elder' (sr HO_5) (Kd.R_base ho70) hb)
            replace HR302 := am (Kd.C_below (cq HR302) hb)
            replace HR315 := am (Kd.C_below (cq HR315) hb)
            replace HB := bs hb
            clear hb ho70
            refine hw_ hK trivial (fun hHeld => ?_)
            clear hK K
            refine tw_ 4 6 (fun K hK => ?_) (fun K hK => ?_)
            ·skip
             refine Kd.R_append_rows_step (Kd.int .i64) (w0 := w) w.heap.size (by rfl) (.tmp 66) (.tmp 69) 25 3 (.int .i64 0) 8 rfl Tryz.underlying25 info3 rfl (by decide) (by omega) v297 y296 y299 _ _ _ (fun k_ => some k_ ≠ (.slice Ao65 x5_1.length co65 : Value).ownBlock) (fun _ => False) rfl rfl ?aO ?aR (fun _ _ h => h) (fun _ h => h.elim) ?aF ?aB ?aS ?aL ?_
             (case aR => repeat (first | exact (cq HR302) | (with_reducible refine Kd.C_alloc ?_ _) | (with_reducible refine Kd.C_drewN ?_ _) | (with_reducible refine Kd.C_drew ?_)))
             (case aB => exact (sb))
             (case aF => exact (fun k_ hk => Kd.fresh' (Kd.R_lt (sr HO_5)) k_ hk))
             (case aO => exact (by exact rm HO298 (fun _ hk => hk.2)))
             (case aS => exact (below_size (sb)))
             (case aL => have := LMc60.out; omega)
             intro v304 w71 ho hb hg hat
             rw [← Ny303.out] at ho
             replace HB := am hb
             replace HR302 := am ((show Kd.C (Kd.int .i64) w71 Ao65 y299.length y299 from by rw [Ny299.out]; exact Kd.C_take (m := (x8_3 : Int).toNat) ((Kd.R_reads' (Kd.R_after (ok := (fun _ => True)) (sr HO_5) hg hat)).2.2) KL67.out))
             replace HR315 := am ((show Kd.C (Kd.int .i64) w71 A68 y312.length y312 from by rw [Ny312.out, KA68.out]; exact Kd.C_drop (m := (x8_3 : Int).toNat) (c := co65) ((Kd.R_reads' (Kd.R_after (ok := (fun _ => True)) (sr HO_5) hg hat)).2.2) KL68.out ((Kd.R_reads' (Kd.R_after (ok := (fun _ => True)) (sr HO_5) hg hat)).2.1)))
             replace HO_5 := am (Kd.R_after (ok := (fun _ => True)) (sr HO_5) hg hat)
             have HO305 := am ho
             clear HO298 ho hb hg hat
             refine hw_ hK trivial (fun hHeld => ?_)
             clear hK K
             refine ow_ 6 (fun K hK => ?_)
             refine Kd.R_lit_step (Kd.int .i64) _ 3 ?hg (N := 72) ?hd (xs := ([x7_6] : List Int)) (inner := [.int .i64 x7_6]) (ok := fun _ => True) (okp := fun _ => True) ?hr ?hp (fun _ hk => hk) trivial (Below.refl _ _) (Nat.le_refl _) (by simp) ?_; (case hd => rfl); (case hg => rfl); (case hr => first | (go_simp; done) | (go_simp; rfl)); (case hp => exact (Reps.one (show Kd.M (Kd.int .i64) _ _ _ x7_6 [.int .i64 x7_6] from rfl) (Reps.none _ _)))
             intro v307 w72 ho73 hb hg_ hnew_
             clear hg_ hnew_
             (first | rw [← Ny306.out] at ho73 | (simp only [Int.reduceToNat] at ho73; rw [← Ny306.out] at ho73))
             have HO308 := am (Kd.R_lower (Kd.R_new' (Kd.R_new' ho73 (Kd.R_lt (sr HO_5))) (Kd.R_lt (sr HO305))) (below_size (sb)))
             replace HO_5 := am (Kd.R_elder' (sr HO_5) (Kd.R_base ho73) hb)
             replace HO305 := am (Kd.R_elder' (sr HO305) (Kd.R_base ho73) hb)
             replace HR302 := am (Kd.C_below (cq HR302) hb)
             replace HR315 := am (Kd.C_below (cq HR315) hb)
             replace HB := bs hb
             clear hb ho73
             refine hw_ hK trivial (fun hHeld => ?_)
             clear hK K
             exact norm_ a8_0 (hCont (v297, v304, v307) _ ⟨a8_7, (by exact rm HO308 (fun _ hk => ⟨hk.2, hk.1.2⟩)), a8_1, (sb)⟩)
            ·skip
             refine Kd.R_lit_step (Kd.int .i64) _ 3 ?hg (N := 72) ?hd (xs := ([x7_6] : List Int)) (inner := [.int .i64 x7_6]) (ok := fun _ => True) (okp := fun _ => True) ?hr ?hp (fun _ hk => hk) trivial (Below.refl _ _) (Nat.le_refl _) (by simp) ?_; (case hd => rfl); (case hg => rfl); (case hr => first | (go_simp; done) | (go_simp; rfl)); (case hp => exact (Reps.one (show Kd.M (Kd.int .i64) _ _ _ x7_6 [.int .i64 x7_6] from rfl) (Reps.none _ _)))
             intro v307 w71 ho72 hb hg_ hnew_
             clear hg_ hnew_
             (first | rw [← Ny306.out] at ho72 | (simp only [Int.reduceToNat] at ho72; rw [← Ny306.out] at ho72))
             have HO308 := am (Kd.R_lower (Kd.R_new' (Kd.R_new' ho72 (Kd.R_lt (sr HO_5))) (Kd.R_lt (sr HO298))) (below_size (sb)))
             replace HO_5 := am (Kd.R_elder' (sr HO_5) (Kd.R_base ho72) hb)
             replace HO298 := am (Kd.R_elder' (sr HO298) (Kd.R_base ho72) hb)
             replace HR302 := am (Kd.C_below (cq HR302) hb)
             replace HR315 := am (Kd.C_below (cq HR315) hb)
             replace HB := bs hb
             clear hb ho72
             refine hw_ hK trivial (fun hHeld => ?_)
             clear hK K
             refine ow_ 4 (fun K hK => ?_)
             refine Kd.R_append_rows_step (Kd.int .i64) (w0 := w) w.heap.size (by rfl) (.tmp 66) (.tmp 69) 25 3 (.int .i64 0) 8 rfl Tryz.underlying25 info3 rfl (by decide) (by omega) v297 y296 y299 _ _ _ (fun k_ => some k_ ≠ (.slice Ao65 x5_1.length co65 : Value).ownBlock ∧ some k_ ≠ (v307 : Value).ownBlock) (fun _ => False) rfl rfl ?aO ?aR (fun _ _ h => h) (fun _ h => h.elim) ?aF ?aB ?aS ?aL ?_
             (case aR => repeat (first | exact (cq HR302) | (with_reducible refine Kd.C_alloc ?_ _) | (with_reducible refine Kd.C_drewN ?_ _) | (with_reducible refine Kd.C_drew ?_)))
             (case aB => exact (sb))
             (case aF => exact (fun k_ hk => ⟨Kd.fresh' (Kd.R_lt (sr HO_5)) k_ hk, Kd.fresh' (Kd.R_lt (sr HO308)) k_ hk⟩))
             (case aO => exact (by exact rm HO298 (fun _ hk => ⟨hk.1.2, hk.2⟩)))
             (case aS => exact (below_size (sb)))
             (case aL => have := LMc60.out; omega)
             intro v304 w73 ho hb hg hat
             rw [← Ny303.out] at ho
             replace HO308 := am (Kd.R_after (ok := (fun k_ => some k_ ≠ (.slice Ao65 x5_1.length co65 : Value).ownBlock)) (by exact rm HO308 (fun _ hk => ⟨hk.1.2, hk.2⟩)) hg hat)
             replace HB := am hb
             replace HR302 := am ((show Kd.C (Kd.int .i64) w73 Ao65 y299.length y299 from by rw [Ny299.out]; exact Kd.C_take (m := (x8_3 : Int).toNat) ((Kd.R_reads' (Kd.R_after (ok := (fun k_ => some k_ ≠ (v307 : Value).ownBlock)) a8_2 hg hat)).2.2) KL67.out))
             replace HR315 := am ((show Kd.C (Kd.int .i64) w73 A68 y312.length y312 from by rw [Ny312.out, KA68.out]; exact Kd.C_drop (m := (x8_3 : Int).toNat) (c := co65) ((Kd.R_reads' (Kd.R_after (ok := (fun k_ => some k_ ≠ (v307 : Value).ownBlock)) a8_2 hg hat)).2.2) KL68.out ((Kd.R_reads' (Kd.R_after (ok := (fun k_ => some k_ ≠ (v307 : Value).ownBlock)) a8_2 hg hat)).2.1)))
             replace HO_5 := am (Kd.R_after (ok := (fun k_ => some k_ ≠ (v307 : Value).ownBlock)) a8_2 hg hat)
             have HO305 := am ho
             clear HO298 ho hb hg hat
             refine hw_ hK trivial (fun hHeld => ?_)
             clear hK K
             exact norm_ a8_0 (hCont (v297, v304, v307) _ ⟨a8_7, a8_10, a8_3, (sb)⟩)
           ·skip
            refine Kd.R_lit_step (Kd.int .i64) _ 3 ?hg (N := 72) ?hd (xs := ([x7_6] : List Int)) (inner := [.int .i64 x7_6]) (ok := fun _ => True) (okp := fun _ => True) ?hr ?hp (fun _ hk => hk) trivial (Below.refl _ _) (Nat.le_refl _) (by simp) ?_; (case hd => rfl); (case hg => rfl); (case hr => first | (go_simp; done) | (go_simp; rfl)); (case hp => exact (Reps.one (show Kd.M (Kd.int .i64) _ _ _ x7_6 [.int .i64 x7_6] from rfl) (Reps.none _ _)))
            intro v307 w69 ho70 hb hg_ hnew_
            clear hg_ hnew_
            (first | rw [← Ny306.out] at ho70 | (simp only [Int.reduceToNat] at ho70; rw [← Ny306.out] at ho70))
            have HO308 := am (Kd.R_lower (Kd.R_new' ho70 (Kd.R_lt (sr HO_5))) (below_size (sb)))
            replace HO_5 := am (Kd.R_elder' (sr HO_5) (Kd.R_base ho70) hb)
            replace HR302 := am (Kd.C_below (cq HR302) hb)
            replace HR315 := am (Kd.C_below (cq HR315) hb)
            replace HB := bs hb
            clear hb ho70
            refine hw_ hK trivial (fun hHeld => ?_)
            clear hK K
            refine ow_ 0 (fun K hK => ?_)
            refine Kd.R_lit_step (Kd.int .i64) _ 3 ?hg (N := 66) ?hd (xs := ([] : List Int)) (inner := []) (ok := fun _ => True) (okp := fun _ => True) ?hr ?hp (fun _ hk => hk) trivial (Below.refl _ _) (Nat.le_refl _) (by simp) ?_; (case hd => rfl); (case hg => rfl); (case hr => first | (go_simp; done) | (go_simp; rfl)); (case hp => exact (Reps.none _ _))
            intro v297 w71 ho72 hb hg_ hnew_
            clear hg_ hnew_
            (first | rw [← Ny296.out] at ho72 | (simp only [Int.reduceToNat] at ho72; rw [← Ny296.out] at ho72))
            have HO298 := am (Kd.R_lower (Kd.R_new' (Kd.R_new' ho72 (Kd.R_lt (sr HO_5))) (Kd.R_lt (sr HO308))) (below_size (sb)))
            replace HO_5 := am (Kd.R_elder' (sr HO_5) (Kd.R_base ho72) hb)
            replace HO308 := am (Kd.R_elder' (sr HO308) (Kd.R_base ho72) hb)
            replace HR302 := am (Kd.C_below (cq HR302) hb)
            replace HR315 := am (Kd.C_below (cq HR315) hb)
            replace HB := bs hb
            clear hb ho72
            refine hw_ hK trivial (fun hHeld => ?_)
            clear hK K
            refine ow_ 4 (fun K hK => ?_)
            refine Kd.R_append_rows_step (Kd.int .i64) (w0 := w) w.heap.size (by rfl) (.tmp 66) (.tmp 69) 25 3 (.int .i64 0) 8 rfl Tryz.underlying25 info3 rfl (by decide) (by omega) v297 y296 y299 _ _ _ (fun k_ => some k_ ≠ (.slice Ao65 x5_1.length co65 : Value).ownBlock ∧ some k_ ≠ (v307 : Value).ownBlock) (fun _ => False) rfl rfl ?aO ?aR (fun _ _ h => h) (fun _ h => h.elim) ?aF ?aB ?aS ?aL ?_
            (case aR => repeat (first | exact (cq HR302) | (with_reducible refine Kd.C_alloc ?_ _) | (with_reducible refine Kd.C_drewN ?_ _) | (with_reducible refine Kd.C_drew ?_)))
            (case aB => exact (sb))
            (case aF => exact (fun k_ hk => ⟨Kd.fresh' (Kd.R_lt (sr HO_5)) k_ hk, Kd.fresh' (Kd.R_lt (sr HO308)) k_ hk⟩))
            (case aO => exact (by exact rm HO298 (fun _ hk => ⟨hk.1.2, hk.2⟩)))
            (case aS => exact (below_size (sb)))
            (case aL => have := LMc60.out; omega)
            intro v304 w73 ho hb hg hat
            rw [← Ny303.out] at ho
            replace HO308 := am (Kd.R_after (ok := (fun k_ => some k_ ≠ (.slice Ao65 x5_1.length co65 : Value).ownBlock)) (by exact rm HO308 (fun _ hk => ⟨hk.1.2, hk.2⟩)) hg hat)
            replace HB := am hb
            replace HR302 := am ((show Kd.C (Kd.int .i64) w73 Ao65 y299.length y299 from by rw [Ny299.out]; exact Kd.C_take (m := (x8_3 : Int).toNat) ((Kd.R_reads' (Kd.R_after (ok := (fun k_ => some k_ ≠ (v307 : Value).ownBlock)) a8_1 hg hat)).2.2) KL67.out))
            replace HR315 := am ((show Kd.C (Kd.int .i64) w73 A68 y312.length y312 from by rw [Ny312.out, KA68.out]; exact Kd.C_drop (m := (x8_3 : Int).toNat) (c := co65) ((Kd.R_reads' (Kd.R_after (ok := (fun k_ => some k_ ≠ (v307 : Value).ownBlock)) a8_1 hg hat)).2.2) KL68.out ((Kd.R_reads' (Kd.R_after (ok := (fun k_ => some k_ ≠ (v307 : Value).ownBlock)) a8_1 hg hat)).2.1)))
            replace HO_5 := am (Kd.R_after (ok := (fun k_ => some k_ ≠ (v307 : Value).ownBlock)) a8_1 hg hat)
            have HO305 := am ho
            clear HO298 ho hb hg hat
            refine hw_ hK trivial (fun hHeld => ?_)
            clear hK K
            exact norm_ a8_0 (hCont (v297, v304, v307) _ ⟨a8_7, a8_10, a8_3, (sb)⟩)
          rintro ⟨v297, v304, v307⟩ w74 ⟨h0_, h1_, h2_, h3_⟩
          have HO305 : Aside0 (Kd.R (Kd.int .i64) 3 w74 w.heap.size (fun k_ => some k_ ≠ (v307 : Value).ownBlock ∧ some k_ ≠ (.slice Ao65 x5_1.length co65 : Value).ownBlock) v304 y303) := ⟨h0_⟩
          have HO308 : Aside0 (Kd.R (Kd.int .i64) 3 w74 w.heap.size (fun k_ => some k_ ≠ (v304 : Value).ownBlock ∧ some k_ ≠ (.slice Ao65 x5_1.length co65 : Value).ownBlock) v307 y306) := ⟨h1_⟩
          replace HO_5 : Aside0 (Kd.R (Kd.int .i64) 3 w74 w.heap.size (fun k_ => some k_ ≠ (v304 : Value).ownBlock ∧ some k_ ≠ (v307 : Value).ownBlock) (.slice Ao65 x5_1.length co65) x5_1) := ⟨h2_⟩
          replace HB : Aside0 (Below w.heap.size w w74) := ⟨h3_⟩
          clear h0_ h1_ h2_ h3_
          have hHeld := trivial
          obtain ⟨Ao76, co76, eo76⟩ := Kd.R_slice HO308.out
          (first | subst eo76 | (injection eo76 with f1_ f2_ f3_; have f4_ := f1_.symm; have f5_ := f3_.symm; clear f1_ f2_ f3_; subst f4_; subst f5_))
          refine norm_ (a' := ?_) ?_ ?_
          rotate_left
          ·simp only [putAll, Act.put, List.setIfInBounds_toArray, List.set_cons_zero, List.set_cons_succ]
           rfl
          refine ow_ 7 (fun K hK => ?_)
          refine Kd.R_append_rows_step (Kd.int .i64) (w0 := w) w.heap.size (by rfl) (.tmp 70) (.tmp 72) 25 3 (.int .i64 0) 8 rfl Tryz.underlying25 info3 rfl (by decide) (by omega) v304 y303 y306 _ _ _ (fun k_ => some k_ ≠ (.slice Ao65 x5_1.length co65 : Value).ownBlock ∧ some k_ ≠ (.slice Ao76 y306.length co76 : Value).ownBlock) (fun _ => False) rfl rfl ?aO ?aR (fun _ _ h => h) (fun _ h => h.elim) ?aF ?aB ?aS ?aL ?_
          (case aR => repeat (first | exact (Kd.R_reads' HO308.out).2.2 | (with_reducible refine Kd.C_alloc ?_ _) | (with_reducible refine Kd.C_drewN ?_ _) | (with_reducible refine Kd.C_drew ?_)))
          (case aB => exact (sb))
          (case aF => exact (fun k_ hk => ⟨Kd.fresh' (Kd.R_lt (sr HO_5)) k_ hk, Kd.fresh' (Kd.R_lt (sr HO308)) k_ hk⟩))
          (case aO => exact a8_7)
          (case aS => exact (below_size (sb)))
          (case aL => have := LMc61.out; omega)
          intro v310 w75 ho hb hg hat
          rw [← Ny309.out] at ho
          replace HO_5 := am (Kd.R_after (ok := (fun k_ => some k_ ≠ (.slice Ao76 y306.length co76 : Value).ownBlock)) a8_3 hg hat)
          replace HO308 := am (Kd.R_after (ok := (fun k_ => some k_ ≠ (.slice Ao65 x5_1.length co65 : Value).ownBlock)) a8_10 hg hat)
          replace HB := am hb
          have HO311 := am ho
          clear HO305 ho hb hg hat
          refine hw_ hK trivial (fun hHeld => ?_)
          clear hK K
          refine ow_ 11 (fun K hK => ?_)
          refine Kd.R_append_rows_step (Kd.int .i64) (w0 := w) w.heap.size (by rfl) (.tmp 73) (.tmp 76) 25 3 (.int .i64 0) 8 rfl Tryz.underlying25 info3 rfl (by decide) (by omega) v310 y309 y312 _ _ _ (fun k_ => some k_ ≠ (.slice Ao65 x5_1.length co65 : Value).ownBlock ∧ some k_ ≠ (.slice Ao76 y306.length co76 : Value).ownBlock) (fun _ => False) rfl rfl ?aO ?aR (fun _ _ h => h) (fun _ h => h.elim) ?aF ?aB ?aS ?aL ?_
          (case aR => exact (show Kd.C (Kd.int .i64) _ A68 y312.length y312 from by rw [Ny312.out, KA68.out]; exact Kd.C_drop (m := (x8_3 : Int).toNat) (c := co65) ((Kd.R_reads' (sr HO_5)).2.2) KL68.out ((Kd.R_reads' HO_5.out).2.1)))
          (case aB => exact (sb))
          (case aF => exact (fun k_ hk => ⟨Kd.fresh' (Kd.R_lt (sr HO_5)) k_ hk, Kd.fresh' (Kd.R_lt (sr HO308)) k_ hk⟩))
          (case aO => exact (sr HO311))
          (case aS => exact (below_size (sb)))
          (case aL => have := LMc64.out; omega)
          intro v317 w77 ho hb hg hat
          rw [← Ny316.out] at ho
          replace HO_5 := am (Kd.R_after (ok := (fun k_ => some k_ ≠ (.slice Ao76 y306.length co76 : Value).ownBlock)) (sr HO_5) hg hat)
          replace HO308 := am (Kd.R_after (ok := (fun k_ => some k_ ≠ (.slice Ao65 x5_1.length co65 : Value).ownBlock)) (sr HO308) hg hat)
          replace HB := am hb
          have HO318 := am ho
          clear HO311 ho hb hg hat
          refine hw_ hK trivial (fun hHeld => ?_)
          clear hK K
          refine r1_ 12 ?_
          refine done_ (done_of HT_.out (by kernel_rfl)) ?_
          try go_wp2
          go_roundg k3
          case measure => have := HK1.out; have := HJ6.out; have := HK3.out; omega
          case rel => exact ⟨(y316), (wrap64 (x6_1 + 1)), sc, H', ⟨a8_4⟩, ⟨by exact rm HO318 (fun _ hk => trivial)⟩, ⟨sb⟩⟩
         ·obtain ⟨c78, H⟩ := ia_ H
          exact ab H
   ·obtain rfl := Option.some.inj H
    go_wp2
    go_ret
    exact ⟨_, se, sr HO_5, sb⟩

end Go.Proofs.YthnlkgbhohchoaaGreat.QFnExactRepairedAt
