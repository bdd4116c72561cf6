/- Printed by a program of the session. Conditions: none. (squeezed). -/
import Derived.Test.YthnlkgbhohchoaaGreatVFnExactRepairedAtQFnExactRepairedAtx1
import Derived.Test.YthnlkgbhohchoaaGreatVFnExactRepairedAtQFnExactRepairedAtx8
namespace Go.Proofs.YthnlkgbhohchoaaGreat.QFnExactRepairedAt
set_option maxHeartbeats 8000000
set_option maxRecDepth 100000
open Go.RowKit Go.Proofs.YthnlkgbhohchoaaGreatW.PrintWords Go.Proofs.YthnlkgbhohchoaaGreatW.PrintLast Go.Proofs.YthnlkgbhohchoaaGreatW.PrintMore Go.Proofs.YthnlkgbhohchoaaGreat.Open Go.Proofs.YthnlkgbhohchoaaGreat.Sq
attribute [local go_sem] max2_int min2_int max_two min_two max_three min_three max_four min_four   -- for this text's walks alone
attribute [local go_sem] isSome_set
set_option linter.unusedVariables false
set_option linter.unusedSimpArgs false

theorem a9_18 {P : Prop} (h : P := by exact rm HO_9 (fun _ hk => ⟨⟨hk.2.2, hk.2.1⟩, hk.1⟩)) : P := h
theorem a9_17 {P : Prop} (h : P := by exact rm HO_9 (fun _ hk => ⟨hk.1.2, ⟨hk.2, hk.1.1⟩⟩)) : P := h
theorem a9_16 {P : Prop} (h : P := by exact rm HO376 (fun _ hk => ⟨hk.2, ⟨hk.1.2, hk.1.1⟩⟩)) : P := h
theorem a9_15 {P : Prop} (h : P := by exact rm HO_10 (fun _ hk => ⟨⟨hk.2.2, hk.2.1⟩, hk.1⟩)) : P := h
theorem a9_14 {P : Prop} (h : P := by exact rm HO353 (fun _ hk => ⟨hk.2, ⟨hk.1.2, hk.1.1⟩⟩)) : P := h
theorem a9_13 {P : Prop} (h : P := by exact rm HO_10 (fun _ hk => ⟨⟨hk.1.1, hk.2⟩, hk.1.2⟩)) : P := h
theorem a9_12 {P : Prop} (h : P := by exact rm HO_10 (fun _ hk => ⟨hk.1.2, ⟨hk.2, hk.1.1⟩⟩)) : P := h
theorem a9_11 {P : Prop} (h : P := by exact rm HO376 (fun _ hk => ⟨⟨hk.1.1.2, hk.1.2⟩, hk.2⟩)) : P := h
theorem a9_10 {P : Prop} (h : P := by exact rm HO366 (fun _ hk => ⟨hk.1.1.2, ⟨hk.1.2, hk.2⟩⟩)) : P := h
theorem a9_9 {P : Prop} (h : P := by exact rm HO353 (fun _ hk => ⟨⟨hk.1.1.2, hk.1.2⟩, hk.2⟩)) : P := h
theorem a9_8 {P : Prop} (h : P := by exact rm HO343 (fun _ hk => ⟨hk.1.1.2, ⟨hk.1.2, hk.2⟩⟩)) : P := h
theorem a9_7 {P : Prop} (h : P := by exact rm HO373 (fun _ hk => ⟨hk.2.2, ⟨hk.2.1, hk.1⟩⟩)) : P := h
theorem a9_6 {P : Prop} (h : P := by exact rm HO350 (fun _ hk => ⟨hk.2.2, ⟨hk.2.1, hk.1⟩⟩)) : P := h
theorem a9_5 {P : Prop} (h : P := by have := HJ4.out; have := HK2.out; have := HJ18.out; have := HK4.out; omega) : P := h
theorem a9_4 {P : Prop} (h : P := by exact rm HO_9 (fun _ hk => ⟨hk.2, ⟨hk.1.2, hk.1.1⟩⟩)) : P := h
theorem a9_3 {P : Prop} (h : P := by exact rm HO_10 (fun _ hk => ⟨hk.2, ⟨hk.1.2, hk.1.1⟩⟩)) : P := h
theorem a9_2 {P : Prop} (h : P := by exact rm HO_9 (fun _ hk => ⟨⟨hk.1.1, hk.2⟩, hk.1.2⟩)) : P := h
theorem a9_1 {P : Prop} (h : P := by simp only [putAll, Act.put, List.setIfInBounds_toArray, List.set_cons_zero, List.set_cons_succ]) : P := h
theorem a9_0 {P : Prop} (h : P := by have := HJ4.out; have := HK2.out; first | omega | exact Nat.le_refl _) : P := h
mutual
def spec_AltsOf.j0 : Nat → List (S90) → Int → Int → List Int → Bool → Int → List Int → List Int → Option (List Int)
  | 0, _, _, _, _, _, _, _, _ => none
  | k + 1, x1, x2, x3, x9, x30, x320000, x320001, x320002 => if x30 = true then (some x9) else ((spec_NeighborsIn.f k x1 x3).bind fun t325 => (spec_AltsOf.l0 k x2 x3 x9 t325 0 x320000 x320001 x320002))
def spec_AltsOf.l0 : Nat → Int → Int → List Int → List Int → Int → Int → List Int → List Int → Option (List Int)
  | 0, _, _, _, _, _, _, _, _ => none
  | k + 1, x2, x3, x9, x10, x11, x320000, x320001, x320002 => if x11 < (x10.length : Int) then (if 0 ≤ x11 then (if 0 ≤ x3 then (if x3 < (x320002.length : Int) then (if (rd x10 x11) = (rd x320002 x3) then (spec_AltsOf.j2 k x2 x3 x9 x10 x11 (rd x10 x11) true x320000 x320001 x320002) else (if (rd x10 x11) ≥ x2 then (if (rd x10 x11) = x320000 then ((spec_l1In.f (rd x10 x11) 0 (wrap64 ((x320001.length : Int) - 1))).bind fun t330 => (if t330 = true then (if 0 ≤ (rd x10 x11) then (if (rd x10 x11) < (x320001.length : Int) then (if (rd x320001 (rd x10 x11)) < 0 then (spec_AltsOf.j2 k x2 x3 x9 x10 x11 (rd x10 x11) true x320000 x320001 x320002) else (if x3 < (x320001.length : Int) then (spec_AltsOf.j2 k x2 x3 x9 x10 x11 (rd x10 x11) (decide ((rd x320001 (rd x10 x11)) ≥ (rd x320001 x3))) x320000 x320001 x320002) else (none))) else (none)) else (none)) else (spec_AltsOf.j2 k x2 x3 x9 x10 x11 (rd x10 x11) true x320000 x320001 x320002))) else (spec_AltsOf.j2 k x2 x3 x9 x10 x11 (rd x10 x11) true x320000 x320001 x320002)) else ((spec_l1In.f (rd x10 x11) 0 (wrap64 ((x320001.length : Int) - 1))).bind fun t334 => (if t334 = true then (if 0 ≤ (rd x10 x11) then (if (rd x10 x11) < (x320001.length : Int) then (if (rd x320001 (rd x10 x11)) < 0 then (spec_AltsOf.j2 k x2 x3 x9 x10 x11 (rd x10 x11) true x320000 x320001 x320002) else (if x3 < (x320001.length : Int) then (spec_AltsOf.j2 k x2 x3 x9 x10 x11 (rd x10 x11) (decide ((rd x320001 (rd x10 x11)) ≥ (rd x320001 x3))) x320000 x320001 x320002) else (none))) else (none)) else (none)) else (spec_AltsOf.j2 k x2 x3 x9 x10 x11 (rd x10 x11) true x320000 x320001 x320002))))) else (none)) else (none)) else (none)) else (some x9)
def spec_AltsOf.j2 : Nat → Int → Int → List Int → List Int → Int → Int → Bool → Int → List Int → List Int → Option (List Int)
  | 0, _, _, _, _, _, _, _, _, _, _ => none
  | k + 1, x2, x3, x9, x10, x11, x12, x92, x320000, x320001, x320002 => if x92 = true then (spec_AltsOf.l0 k x2 x3 x9 x10 (wrap64 (x11 + 1)) x320000 x320001 x320002) else (spec_AltsOf.l1 k x2 x3 x9 x10 x11 x12 0 x320000 x320001 x320002)
def spec_AltsOf.l1 : Nat → Int → Int → List Int → List Int → Int → Int → Int → Int → List Int → List Int → Option (List Int)
  | 0, _, _, _, _, _, _, _, _, _, _ => none
  | k + 1, x2, x3, x9, x10, x11, x12, x13, x320000, x320001, x320002 => if x13 < (x9.length : Int) then (if 0 ≤ x13 then (if 0 ≤ (rd x9 x13) then (if (rd x9 x13) < (x320001.length : Int) then (if 0 ≤ x12 then (if x12 < (x320001.length : Int) then (if (rd x320001 (rd x9 x13)) ≤ (rd x320001 x12) then (spec_AltsOf.l1 k x2 x3 x9 x10 x11 x12 (wrap64 (x13 + 1)) x320000 x320001 x320002) else ((some (([] : List Int) : List Int)).bind fun y341 => (if x13 ≤ (x9.length : Int) then ((some (x9.take (x13 : Int).toNat : List Int)).bind fun y344 => (if y341.length + y344.length < 17592186044416 then ((some (y341 ++ y344 : List Int)).bind fun y348 => ((some (([x12] : List Int) : List Int)).bind fun y351 => (if y348.length + y351.length < 17592186044416 then ((some (y348 ++ y351 : List Int)).bind fun y354 => ((some (x9.drop (x13 : Int).toNat : List Int)).bind fun y357 => (if y354.length + y357.length < 17592186044416 then (spec_AltsOf.l0 k x2 x3 (y354 ++ y357) x10 (wrap64 (x11 + 1)) x320000 x320001 x320002) else (none)))) else (none)))) else (none))) else (none)))) else (none)) else (none)) else (none)) else (none)) else (none)) else ((some (([] : List Int) : List Int)).bind fun y364 => (if 0 ≤ x13 then (if x13 ≤ (x9.length : Int) then ((some (x9.take (x13 : Int).toNat : List Int)).bind fun y367 => (if y364.length + y367.length < 17592186044416 then ((some (y364 ++ y367 : List Int)).bind fun y371 => ((some (([x12] : List Int) : List Int)).bind fun y374 => (if y371.length + y374.length < 17592186044416 then ((some (y371 ++ y374 : List Int)).bind fun y377 => ((some (x9.drop (x13 : Int).toNat : List Int)).bind fun y380 => (if y377.length + y380.length < 17592186044416 then (spec_AltsOf.l0 k x2 x3 (y377 ++ y380) x10 (wrap64 (x11 + 1)) x320000 x320001 x320002) else (none)))) else (none)))) else (none))) else (none)) else (none)))
end
def spec_AltsOf.f (k : Nat) (a0_0 : Int) (l0_1 : List Int) (l0_2 : List Int) (l1 : List (S90)) (a2 : Int) (a3 : Int) : Option (List Int) := (some (([] : List Int) : List Int)).bind fun y320 => ((spec_l1In.f a3 0 (wrap64 ((l0_1.length : Int) - 1))).bind fun t323 => (if t323 = true then ((spec_l1In.f a3 0 (wrap64 ((l0_2.length : Int) - 1))).bind fun t324 => (spec_AltsOf.j0 k l1 a2 a3 y320 (!t324) a0_0 l0_1 l0_2)) else (spec_AltsOf.j0 k l1 a2 a3 y320 true a0_0 l0_1 l0_2)))
theorem spec_AltsOf.mono_l : ∀ k, (∀ y0 y1 y2 y3 y4 y5 y6 y7, LeO (spec_AltsOf.j0 k y0 y1 y2 y3 y4 y5 y6 y7) (spec_AltsOf.j0 (k + 1) y0 y1 y2 y3 y4 y5 y6 y7)) ∧ (∀ y0 y1 y2 y3 y4 y5 y6 y7, LeO (spec_AltsOf.l0 k y0 y1 y2 y3 y4 y5 y6 y7) (spec_AltsOf.l0 (k + 1) y0 y1 y2 y3 y4 y5 y6 y7)) ∧ (∀ y0 y1 y2 y3 y4 y5 y6 y7 y8 y9, LeO (spec_AltsOf.j2 k y0 y1 y2 y3 y4 y5 y6 y7 y8 y9) (spec_AltsOf.j2 (k + 1) y0 y1 y2 y3 y4 y5 y6 y7 y8 y9)) ∧ (∀ y0 y1 y2 y3 y4 y5 y6 y7 y8 y9, LeO (spec_AltsOf.l1 k y0 y1 y2 y3 y4 y5 y6 y7 y8 y9) (spec_AltsOf.l1 (k + 1) y0 y1 y2 y3 y4 y5 y6 y7 y8 y9))
  | 0 => ⟨fun _ _ _ _ _ _ _ _ r h => by simp [spec_AltsOf.j0] at h, fun _ _ _ _ _ _ _ _ r h => by simp [spec_AltsOf.l0] at h, fun _ _ _ _ _ _ _ _ _ _ r h => by simp [spec_AltsOf.j2] at h, fun _ _ _ _ _ _ _ _ _ _ r h => by simp [spec_AltsOf.l1] at h⟩
  | k + 1 => by
    obtain ⟨ih0, ih1, ih2, ih3⟩ := spec_AltsOf.mono_l k
    refine ⟨?_, ?_, ?_, ?_⟩
    · intro y0 y1 y2 y3 y4 y5 y6 y7
      unfold spec_AltsOf.j0
      have m0 := @spec_NeighborsIn.mono
      exact mo
    · intro y0 y1 y2 y3 y4 y5 y6 y7
      unfold spec_AltsOf.l0
      have m0 := @spec_NeighborsIn.mono
      exact mo
    · intro y0 y1 y2 y3 y4 y5 y6 y7 y8 y9
      unfold spec_AltsOf.j2
      have m0 := @spec_NeighborsIn.mono
      exact mo
    · intro y0 y1 y2 y3 y4 y5 y6 y7 y8 y9
      unfold spec_AltsOf.l1
      have m0 := @spec_NeighborsIn.mono
      exact mo
theorem spec_AltsOf.mono : ∀ a0 a1 a2 a3 a4 a5 k, LeO (spec_AltsOf.f k a0 a1 a2 a3 a4 a5) (spec_AltsOf.f (k + 1) a0 a1 a2 a3 a4 a5) := by
  intro a0 a1 a2 a3 a4 a5 k
  obtain ⟨ih0, ih1, ih2, ih3⟩ := spec_AltsOf.mono_l k
  unfold spec_AltsOf.f
  have m0 := @spec_NeighborsIn.mono
  exact mo
def spec_AltsOf.T9 : Bool × List (List Nat × List Nat) := (true, [([], []), ([], []), ([1], [1]), ([], []), ([2, 3], [2, 3]), ([4], [4]), ([0, 5], [0, 5]), ([6], [6]), ([7], [7]), ([7], [7]), ([8, 9, 7], [7, 8, 9]), ([10, 7, 7], [7, 10]), ([11], [11]), ([11], [11]), ([13, 11], [11, 13]), ([12, 14, 11], [11, 12, 14]), ([11, 15, 7], [7, 11, 15]), ([7, 16], [7, 16]), ([17, 11], [17]), ([18], [18]), ([18], [18]), ([20, 18], [18, 20]), ([21, 18], [18, 21]), ([22, 18], [18, 22]), ([19, 23, 18, 18], [18, 19, 23]), ([24, 18], [18, 24]), ([18, 25], [18, 25]), ([26, 24], [26]), ([27], [27]), ([28, 27], [27, 28]), ([27], [27]), ([29, 30, 27], [27, 29, 30]), ([31, 27], [27, 31]), ([32, 27], [27, 32]), ([27, 33], [27, 33]), ([34, 27], [34]), ([35], [35]), ([36, 35], [35, 36]), ([35], [35]), ([37, 38, 35], [35, 37, 38]), ([39, 35], [35, 39]), ([35], [35]), ([41, 35], [35, 41]), ([35], [35]), ([42, 43, 35], [35, 42, 43]), ([44, 35], [35, 44]), ([40, 45, 35], [35, 40, 45]), ([35, 46], [35, 46])])
def spec_AltsOf.B9 : List Nat := [0, 0, 2, 0, 14, 30, 63, 127, 255, 255, 1023, 2047, 4095, 4095, 12287, 32767, 65535, 131071, 262143, 524287, 524287, 1572863, 3670015, 7864319, 16777215, 33554431, 67108863, 134217727, 268435455, 536870911, 268435455, 2147483647, 4294967295, 8589934591, 17179869183, 34359738367, 68719476735, 137438953471, 68719476735, 549755813887, 1099511627775, 68719476735, 2267742732287, 68719476735, 15461882265599, 33054068310015, 70368744177663, 140737488355327]
theorem spec_AltsOf.tab9 : rtab .any (opsOf Tryz.f67 9) = spec_AltsOf.T9 := by kernel_rfl
theorem spec_AltsOf.bits9 : waitsOk spec_AltsOf.T9.2 spec_AltsOf.B9 = true := by kernel_rfl
def spec_AltsOf.T11 : Bool × List (List Nat × List Nat) := (true, [([], []), ([], []), ([1], [1]), ([0, 2], [0, 2]), ([3], [3]), ([4], [4]), ([5, 4], [4, 5]), ([4], [4]), ([4], [4]), ([7, 8, 4], [4, 7, 8]), ([9, 4], [4, 9]), ([6, 10, 4], [4, 6, 10]), ([11, 4], [4, 11]), ([4], [4]), ([13, 4], [4, 13]), ([4], [4]), ([14, 15, 4], [4, 14, 15]), ([16, 4], [4, 16]), ([12, 17, 4], [4, 12, 17]), ([4, 18], [4, 18])])
def spec_AltsOf.B11 : List Nat := [0, 0, 2, 7, 15, 31, 63, 31, 31, 415, 927, 2047, 4095, 31, 8223, 31, 57375, 122911, 262143, 524287]
theorem spec_AltsOf.tab11 : rtab .any (opsOf Tryz.f67 11) = spec_AltsOf.T11 := by kernel_rfl
theorem spec_AltsOf.bits11 : waitsOk spec_AltsOf.T11.2 spec_AltsOf.B11 = true := by kernel_rfl
def spec_AltsOf.T13 : Bool × List (List Nat × List Nat) := (true, [([], []), ([], []), ([], []), ([1, 2], [1, 2]), ([0, 3], [0, 3]), ([], []), ([5], [5]), ([4, 6, 4], [4, 6]), ([], []), ([], []), ([8, 9], [8, 9]), ([7, 10, 7], [7, 10]), ([11, 11, 0, 1, 2, 3, 4, 5, 6, 7, 8, 9, 10, 11], [1, 8, 11])])
def spec_AltsOf.B13 : List Nat := [0, 0, 0, 6, 15, 0, 32, 127, 0, 0, 768, 2047, 4095]
theorem spec_AltsOf.tab13 : rtab .any (opsOf Tryz.f67 13) = spec_AltsOf.T13 := by kernel_rfl
theorem spec_AltsOf.bits13 : waitsOk spec_AltsOf.T13.2 spec_AltsOf.B13 = true := by kernel_rfl
theorem spec_AltsOf.calls (k : Nat) (a0_0 : Int) (A0_1 : Option Addr) (c0_1 : Nat) (l0_1 : List Int) (A0_2 : Option Addr) (c0_2 : Nat) (l0_2 : List Int) (A1 : Option Addr) (c1 : Nat) (l1 : List (S90)) (a2 : Int) (a3 : Int) (r : List Int) (w : World) (hr0_1 : Kd.C (Kd.int .i64) w A0_1 l0_1.length l0_1) (hc0_1 : l0_1.length ≤ c0_1) (hr0_2 : Kd.C (Kd.int .i64) w A0_2 l0_2.length l0_2) (hc0_2 : l0_2.length ≤ c0_2) (hr1 : Kd.C k90 w A1 l1.length l1) (hc1 : l1.length ≤ c1) (h : spec_AltsOf.f k a0_0 l0_1 l0_2 l1 a2 a3 = some r) :
    Calls Tryz.prog 67 #[.agg #[.int .i64 a0_0, .slice A0_1 l0_1.length c0_1, .slice A0_2 l0_2.length c0_2], .slice A1 l1.length c1, .int .i64 a2, .int .i64 a3] w fun e w' => ∃ v0_ : Value, e = .returned (v0_) ∧ Kd.R (Kd.int .i64) 3 w' w.heap.size (fun _ => True) v0_ r ∧ Below w.heap.size w w' := by
 have hu50 := Tryz.underlying50
 have HR0_1 := am hr0_1
 have HC0_1 := am hc0_1
 clear hr0_1 hc0_1
 have HR0_2 := am hr0_2
 have HC0_2 := am hc0_2
 clear hr0_2 hc0_2
 have HR1 := am hr1
 have HC1 := am hc1
 clear hr1 hc1
 have HB := am (Below.refl w.heap.size w)
 have H := h; unfold spec_AltsOf.f at H
 clear h
 obtain ⟨y320, Ny320, H⟩ := iy_ H
 have HC5 := am H
 clear H
 go_enter Tryz.func67, Tryz.ntmps67
 go_upto_region 2 with (first | ((with_reducible refine gd 4 rfl ?_); (try (refine gate_guard (by rfl) ?_; dsimp only)); refine bx 4 #[.int .i64 a0_0, .slice A0_1 l0_1.length c0_1, .slice A0_2 l0_2.length c0_2] 50 ?_; intro gb319 hg w6 hbox hb; have GW319 := bz w hg; have GE319 := bz w hg; replace HB := bs hb; have BK319 := am hbox; clear hb hbox hg) | ((with_reducible refine gd 14 rfl ?_); (try (refine gate_guard (by rfl) ?_; dsimp only)); refine rl_ (Kd.int .i64) 3 14 ?_; intro v321 w7 ho8 hb; (first | rw [← Ny320.out] at ho8 | (simp only [Int.reduceToNat] at ho8; rw [← Ny320.out] at ho8)); have HO322 := am (Kd.R_lower ho8 (below_size (sbw))); replace BK319 := bb BK319 hb; replace HB := bsw hb; clear hb ho8))
 (try simp only [Act.put, List.setIfInBounds_toArray, List.set_cons_zero, List.set_cons_succ])
 go_cut [30] (fun v30 wc => ∃ (kq : Nat) (x30_4 : Bool), v30 = .bool x30_4 ∧ Aside0 (spec_AltsOf.j0 kq l1 a2 a3 y320 x30_4 a0_0 l0_1 l0_2 = some r) ∧ Aside0 (kq ≤ k) ∧ Aside0 (Kd.R (Kd.int .i64) 3 wc w.heap.size (fun _ => True) v321 y320) ∧ Aside0 (wc.heap[gb319]? = some (.cells #[.int .i64 a0_0, (.slice A0_1 l0_1.length c0_1), (.slice A0_2 l0_2.length c0_2)] 50 (0, 0))) ∧ Aside0 (Below w.heap.size w wc))
 case first =>
  have H := HC5.out
  clear HC5
  obtain ⟨t323, A9, H⟩ := bnd H
  obtain rfl | rfl := tt t323
  ·replace H := ip H
   obtain ⟨t324, A11, H⟩ := bnd H
   have H' := am H
   clear H
   obtain ⟨_, _, _, _, _, _⟩ := cc3 BK319
   go_wp2_with (first | ((with_reducible refine gc 31 rfl ?_); refine gL (some 20) Tryz.func31 #[.int .i64 a3, .int .i64 0, .int .i64 (wrap64 ((l0_1.length : Int) - 1))] ?_; (with_reducible refine (spec_l1In.calls a3 0 (wrap64 ((l0_1.length : Int) - 1)) true _ A9.out).mono ?_); rintro e w' ⟨rfl, ⟨nd, rfl⟩⟩; refine ⟨_, rfl, ?_⟩) | (go_at_call 31; (try simp only [i64_w, i32_w]); (with_reducible refine (spec_l1In.calls a3 0 (wrap64 ((l0_2.length : Int) - 1)) t324 _ A11.out).mono ?_); rintro e w' ⟨rfl, ⟨nd, rfl⟩⟩))
   go_meet
   case rel => exact ⟨_, (!t324), sc, H', ⟨by first | omega | exact Nat.le_refl _⟩, ⟨sr HO322⟩, ⟨sk BK319⟩, ⟨sbw⟩⟩
  ·replace H := im H
   have H' := am H
   clear H
   obtain ⟨_, _, _, _, _, _⟩ := cc3 BK319
   go_wp2_with (first | ((with_reducible refine gc 31 rfl ?_); refine gL (some 20) Tryz.func31 #[.int .i64 a3, .int .i64 0, .int .i64 (wrap64 ((l0_1.length : Int) - 1))] ?_; (with_reducible refine (spec_l1In.calls a3 0 (wrap64 ((l0_1.length : Int) - 1)) false _ A9.out).mono ?_); rintro e w' ⟨rfl, ⟨nd, rfl⟩⟩; refine ⟨_, rfl, ?_⟩))
   go_meet
   case rel => exact ⟨_, (true), sc, H', ⟨by first | omega | exact Nat.le_refl _⟩, ⟨sr HO322⟩, ⟨sk BK319⟩, ⟨sbw⟩⟩
 case rest =>
  clear HC5
  try clear c1
  obtain ⟨kq, x30_4, rfl, HA, HJ4, HO_9, BK319, HB⟩ := hcut
  cases kq with
  | zero => exact absurd HA.out (by simp [spec_AltsOf.j0])
  | succ kj4 =>
   have H := HA.out
   clear HA
   simp only [spec_AltsOf.j0] at H
   obtain rfl | rfl := tt x30_4
   ·replace H := ip H
    obtain rfl := Option.some.inj H
    go_wp2
    go_ret
    exact ⟨_, se, sr HO_9, sbw⟩
   ·replace H := im H
    obtain ⟨t325, A15, H⟩ := bnd H
    have H' := am H
    clear H
    go_wp2_with (first | ((with_reducible refine gc 102 rfl ?_); refine gL (some 34) Tryz.func102 #[.slice A1 l1.length c1, .int .i64 a3] ?_; (with_reducible refine (spec_NeighborsIn.calls kj4 _ _ l1 a3 t325 _ ?side1 ?side2 A15.out).mono ?_); (case side1 => exact cb HR1); (case side2 => exact HC1.out); rintro e w16 ⟨v326, rfl, ho0, hb⟩; refine ⟨_, rfl, ?_⟩; have HO327 := am (Kd.R_lower (Kd.R_new' ho0 (Kd.R_lt (sr HO_9))) (below_size (sbw))); replace HO_9 := am (Kd.R_elder' (sr HO_9) (Kd.R_base ho0) hb); replace BK319 := bb BK319 hb; replace HB := bsw hb; (try clear hb); (try clear ho0)))
    go_loopg [9, 11] kj4 (fun kq v9 v11 w' => ∃ (x9_2 : List Int) (x11_2 : Int), v11 = .int .i64 x11_2 ∧ Aside0 (spec_AltsOf.l0 kq a2 a3 x9_2 t325 x11_2 a0_0 l0_1 l0_2 = some r) ∧ Aside0 (kq ≤ kj4) ∧ Aside0 (Kd.R (Kd.int .i64) 3 w' w.heap.size (fun k_ => some k_ ≠ (v326 : Value).ownBlock) v9 x9_2) ∧ Aside0 (Kd.R (Kd.int .i64) 3 w' w.heap.size (fun k_ => some k_ ≠ (v9 : Value).ownBlock) v326 t325) ∧ Aside0 (w'.heap[gb319]? = some (.cells #[.int .i64 a0_0, (.slice A0_1 l0_1.length c0_1), (.slice A0_2 l0_2.length c0_2)] 50 (0, 0))) ∧ Aside0 (Below w.heap.size w w'))
    case atStart => exact ⟨(y320), (0), sc, H', kk0, ⟨by exact rm HO_9 (fun _ hk => hk.2)⟩, ⟨by exact rm HO327 (fun _ hk => hk.2)⟩, ⟨sk BK319⟩, ⟨sbw⟩⟩
    case round =>
     clear H'
     try clear c1
     obtain ⟨x9_2, x11_2, rfl, HA, HK2, HO_9, HO_10, BK319, HB⟩ := hrel
     cases gk with
     | zero => exact absurd HA.out (by simp [spec_AltsOf.l0])
     | succ k2 =>
      have H := HA.out
      clear HA
      simp only [spec_AltsOf.l0] at H
      obtain ⟨-, c17b0, H⟩ | ⟨-, c17b0, H⟩ := ic_ H
      ·obtain ⟨c18b0, H⟩ := id_ H
       have HC19 := am H
       clear H
       obtain ⟨Ao20, co20, eo20⟩ := Kd.R_slice HO_10.out
       subst eo20
       have p328 : 0 ≤ (x11_2 : Int) := sa
       have q328 : x11_2 < (t325.length : Int) := sa
       obtain ⟨ad328, e328, hx328_0⟩ := Kd.at_int (Kd.R_reads' HO_10.out).2.2 x11_2 p328 q328
       cases e328
       replace p328 := eq_true p328
       replace q328 := eq_true q328
       go_upto_region 9 with (fail)
       go_cut [92] (fun v92 wc => ∃ (kq : Nat) (x92_18 : Bool), v92 = .bool x92_18 ∧ Aside0 (spec_AltsOf.j2 kq a2 a3 x9_2 t325 x11_2 (rd t325 x11_2) x92_18 a0_0 l0_1 l0_2 = some r) ∧ Aside0 (kq ≤ k2) ∧ Aside0 (Kd.R (Kd.int .i64) 3 wc w.heap.size (fun k_ => some k_ ≠ ((.slice (some ad328) t325.length co20) : Value).ownBlock) u9 x9_2) ∧ Aside0 (Kd.R (Kd.int .i64) 3 wc w.heap.size (fun k_ => some k_ ≠ (u9 : Value).ownBlock) (.slice (some ad328) t325.length co20) t325) ∧ Aside0 (wc.heap[gb319]? = some (.cells #[.int .i64 a0_0, (.slice A0_1 l0_1.length c0_1), (.slice A0_2 l0_2.length c0_2)] 50 (0, 0))) ∧ Aside0 (Below w.heap.size w wc))
       case first =>
        have H := HC19.out
        clear HC19
        obtain ⟨c21b0, H⟩ := id_ H
        (first | rw [c21b0] | (simp only [i64_w, i32_w]; rw [c21b0]) | rw [c21b1] | skip)
        obtain ⟨c22b0, H⟩ := id_ H
        obtain ⟨-, c23b0, c23b1, H⟩ | ⟨c23, c23b0, c23b1, H⟩ := ib_ H
        ·have H' := am H
         clear H
         try go_wp2
         replace HO_9 := am (Kd.R_drew HO_9.out)
         replace HO_10 := am (Kd.R_drew HO_10.out)
         replace BK319 := am (blk_drew BK319.out)
         replace HB := am (below_drew1 HB.out)
         obtain ⟨p329, q329, ad329, e329, hw329_0, hx329_0⟩ := at_i HR0_2 HB a3
         cases e329
         refine start_ (n := 48) (S := fun w' => w'.cell? ⟨gb319, 0, none⟩ = some (.int .i64 a0_0) ∧ w'.cell? ⟨gb319, 1, none⟩ = some (.slice A0_1 l0_1.length c0_1) ∧ w'.cell? ⟨gb319, 2, none⟩ = some (.slice (some ad329) l0_2.length c0_2) ∧ w'.cell? (ad329.add (a3).toNat) = some (.int .i64 (rd l0_2 a3))) (ds := []) (bt 48 0) (by kernel_rfl) rfl (by kernel_rfl) ⟨bc0 BK319, bc1 BK319, bc2 BK319, (hb_ HB hw329_0)⟩ (fun hHeld => ?_); refine with_tabW spec_AltsOf.tab9 spec_AltsOf.bits9 (fun HT_ HW_ => ?_)
         generalize wr.drew = w24 at HO_9 HO_10 BK319 HB hx329_0 hHeld ⊢
         refine r3_ 0 1 3 ?_
         refine tv_ 2 ?_
         refine r1_ 4 ?_
         refine tv_ 5 ?_
         refine r10_ 6 7 8 9 10 11 12 13 14 15 ?_
         refine r10_ 16 17 18 19 20 21 22 23 24 25 ?_
         refine r10_ 26 27 28 29 30 31 32 33 34 35 ?_
         refine r10_ 36 37 38 39 40 41 42 43 44 45 ?_
         refine r2_ 46 47 ?_
         refine done_ (done_of HT_.out (by kernel_rfl)) ?_
         try go_wp2
         go_meet
         case rel => exact ⟨_, (true), sc, H', ⟨a9_0⟩, ⟨sr HO_9⟩, ⟨sr HO_10⟩, ⟨sk BK319⟩, ⟨sbw⟩⟩
        ·obtain ⟨-, c25b0, H⟩ | ⟨-, c25b0, H⟩ := ic_ H
         ·obtain ⟨-, c26b0, c26b1, H⟩ | ⟨c26, c26b0, c26b1, H⟩ := ib_ H
          ·obtain ⟨t330, A27, H⟩ := bnd H
           obtain rfl | rfl := tt t330
           ·replace H := ip H
            obtain ⟨c29b0, H⟩ := id_ H
            obtain ⟨c30b0, H⟩ := id_ H
            obtain ⟨-, c31b0, H⟩ | ⟨-, c31b0, H⟩ := ic_ H
            ·have H' := am H
             clear H
             try go_wp2
             replace HO_9 := am (Kd.R_drew HO_9.out)
             replace HO_10 := am (Kd.R_drew HO_10.out)
             replace BK319 := am (blk_drew BK319.out)
             replace HB := am (below_drew1 HB.out)
             obtain ⟨p329, q329, ad329, e329, hw329_0, hx329_0⟩ := at_i HR0_2 HB a3
             cases e329
             obtain ⟨p331, q331, ad331, e331, hw331_0, hx331_0⟩ := at_i HR0_1 HB (rd t325 x11_2)
             cases e331
             refine start_ (n := 48) (S := fun w' => w'.cell? ⟨gb319, 0, none⟩ = some (.int .i64 a0_0) ∧ w'.cell? ⟨gb319, 1, none⟩ = some (.slice (some ad331) l0_1.length c0_1) ∧ w'.cell? ⟨gb319, 2, none⟩ = some (.slice (some ad329) l0_2.length c0_2) ∧ w'.cell? (ad329.add (a3).toNat) = some (.int .i64 (rd l0_2 a3)) ∧ w'.cell? (ad331.add ((rd t325 x11_2)).toNat) = some (.int .i64 (rd l0_1 (rd t325 x11_2)))) (ds := []) (bt 48 0) (by kernel_rfl) rfl (by kernel_rfl) ⟨bc0 BK319, bc1 BK319, bc2 BK319, (hb_ HB hw329_0), (hb_ HB hw331_0)⟩ (fun hHeld => ?_); refine with_tabW spec_AltsOf.tab9 spec_AltsOf.bits9 (fun HT_ HW_ => ?_)
             generalize wr.drew = w32 at HO_9 HO_10 BK319 HB hx329_0 hx331_0 hHeld ⊢
             refine r3_ 0 1 3 ?_
             refine tv_ 2 ?_
             refine r1_ 4 ?_
             refine tv_ 5 ?_
             refine r8_ 6 7 8 9 10 11 12 13 ?_
             refine tv_ 14 ?_
             refine r6_ 15 16 17 18 19 20 ?_
             refine tv_ 21 ?_
             refine r2_ 22 23 ?_
             refine ow_ 24 (fun K hK => ?_)
             refine goes_ Tryz.func31 (by kernel_rfl) rfl #[.int .i64 (rd t325 x11_2), .int .i64 0, .int .i64 (wrap64 ((l0_1.length : Int) - 1))] (by rfl) rfl rfl sl ?_
             with_reducible refine (spec_l1In.calls (rd t325 x11_2) 0 (wrap64 ((l0_1.length : Int) - 1)) true _ A27.out).mono ?_
             rintro e w' ⟨rfl, ⟨nd, rfl⟩⟩
             refine ⟨_, rfl, ?_⟩
             refine hw_ hK ⟨bc0 BK319, bc1 BK319, bc2 BK319, (hb_ ⟨sb⟩ hw329_0), (hb_ ⟨sb⟩ hw331_0)⟩ (fun hHeld => ?_)
             clear hK K
             refine r5_ 25 26 27 28 30 ?_
             refine tv_ 29 ?_
             refine r1_ 31 ?_
             refine tv_ 32 ?_
             refine r10_ 33 34 35 36 37 38 39 40 41 42 ?_
             refine r5_ 43 44 45 46 47 ?_
             refine done_ (done_of HT_.out (by kernel_rfl)) ?_
             try go_wp2
             go_meet
             case rel => exact ⟨_, (true), sc, H', ⟨a9_0⟩, ⟨sr HO_9⟩, ⟨sr HO_10⟩, ⟨sk BK319⟩, ⟨sbw⟩⟩
            ·obtain ⟨c33b0, H⟩ := id_ H
             have H' := am H
             clear H
             try go_wp2
             replace HO_9 := am (Kd.R_drew HO_9.out)
             replace HO_10 := am (Kd.R_drew HO_10.out)
             replace BK319 := am (blk_drew BK319.out)
             replace HB := am (below_drew1 HB.out)
             obtain ⟨p329, q329, ad329, e329, hw329_0, hx329_0⟩ := at_i HR0_2 HB a3
             cases e329
             obtain ⟨p331, q331, ad331, e331, hw331_0, hx331_0⟩ := at_i HR0_1 HB (rd t325 x11_2)
             cases e331
             obtain ⟨p332, q332, ad332, e332, hw332_0, hx332_0⟩ := at_i HR0_1 HB (rd t325 x11_2)
             obtain rfl : ad331 = ad332 := (by injection e332)
             obtain ⟨p333, q333, ad333, e333, hw333_0, hx333_0⟩ := at_i HR0_1 HB a3
             obtain rfl : ad331 = ad333 := (by injection e333)
             refine start_ (n := 48) (S := fun w' => w'.cell? ⟨gb319, 0, none⟩ = some (.int .i64 a0_0) ∧ w'.cell? ⟨gb319, 1, none⟩ = some (.slice (some ad331) l0_1.length c0_1) ∧ w'.cell? ⟨gb319, 2, none⟩ = some (.slice (some ad329) l0_2.length c0_2) ∧ w'.cell? (ad329.add (a3).toNat) = some (.int .i64 (rd l0_2 a3)) ∧ w'.cell? (ad331.add ((rd t325 x11_2)).toNat) = some (.int .i64 (rd l0_1 (rd t325 x11_2))) ∧ w'.cell? (ad331.add ((rd t325 x11_2)).toNat) = some (.int .i64 (rd l0_1 (rd t325 x11_2))) ∧ w'.cell? (ad331.add (a3).toNat) = some (.int .i64 (rd l0_1 a3))) (ds := []) (bt 48 0) (by kernel_rfl) rfl (by kernel_rfl) ⟨bc0 BK319, bc1 BK319, bc2 BK319, (hb_ HB hw329_0), (hb_ HB hw331_0), (hb_ HB hw332_0), (hb_ HB hw333_0)⟩ (fun hHeld => ?_); refine with_tabW spec_AltsOf.tab9 spec_AltsOf.bits9 (fun HT_ HW_ => ?_)
             generalize wr.drew = w34 at HO_9 HO_10 BK319 HB hx329_0 hx331_0 hx332_0 hx333_0 hHeld ⊢
             refine r3_ 0 1 3 ?_
             refine tv_ 2 ?_
             refine r1_ 4 ?_
             refine tv_ 5 ?_
             refine r8_ 6 7 8 9 10 11 12 13 ?_
             refine tv_ 14 ?_
             refine r6_ 15 16 17 18 19 20 ?_
             refine tv_ 21 ?_
             refine r2_ 22 23 ?_
             refine ow_ 24 (fun K hK => ?_)
             refine goes_ Tryz.func31 (by kernel_rfl) rfl #[.int .i64 (rd t325 x11_2), .int .i64 0, .int .i64 (wrap64 ((l0_1.length : Int) - 1))] (by rfl) rfl rfl sl ?_
             with_reducible refine (spec_l1In.calls (rd t325 x11_2) 0 (wrap64 ((l0_1.length : Int) - 1)) true _ A27.out).mono ?_
             rintro e w' ⟨rfl, ⟨nd, rfl⟩⟩
             refine ⟨_, rfl, ?_⟩
             refine hw_ hK ⟨bc0 BK319, bc1 BK319, bc2 BK319, (hb_ ⟨sb⟩ hw329_0), (hb_ ⟨sb⟩ hw331_0), (hb_ ⟨sb⟩ hw332_0), (hb_ ⟨sb⟩ hw333_0)⟩ (fun hHeld => ?_)
             clear hK K
             refine r5_ 25 26 27 28 30 ?_
             refine tv_ 29 ?_
             refine r1_ 31 ?_
             refine tv_ 32 ?_
             refine r7_ 33 34 35 36 38 41 43 ?_
             refine tv_ 37 ?_
             refine r1_ 39 ?_
             refine tv_ 40 ?_
             refine tv_ 42 ?_
             refine r1_ 44 ?_
             refine tv_ 45 ?_
             refine r2_ 46 47 ?_
             refine done_ (done_of HT_.out (by kernel_rfl)) ?_
             try go_wp2
             go_meet
             case rel => exact ⟨_, (decide ((rd l0_1 (rd t325 x11_2)) ≥ (rd l0_1 a3))), sc, H', ⟨a9_0⟩, ⟨sr HO_9⟩, ⟨sr HO_10⟩, ⟨sk BK319⟩, ⟨sbw⟩⟩
           ·replace H := im H
            have H' := am H
            clear H
            try go_wp2
            replace HO_9 := am (Kd.R_drew HO_9.out)
            replace HO_10 := am (Kd.R_drew HO_10.out)
            replace BK319 := am (blk_drew BK319.out)
            replace HB := am (below_drew1 HB.out)
            obtain ⟨p329, q329, ad329, e329, hw329_0, hx329_0⟩ := at_i HR0_2 HB a3
            cases e329
            refine start_ (n := 48) (S := fun w' => w'.cell? ⟨gb319, 0, none⟩ = some (.int .i64 a0_0) ∧ w'.cell? ⟨gb319, 1, none⟩ = some (.slice A0_1 l0_1.length c0_1) ∧ w'.cell? ⟨gb319, 2, none⟩ = some (.slice (some ad329) l0_2.length c0_2) ∧ w'.cell? (ad329.add (a3).toNat) = some (.int .i64 (rd l0_2 a3))) (ds := []) (bt 48 0) (by kernel_rfl) rfl (by kernel_rfl) ⟨bc0 BK319, bc1 BK319, bc2 BK319, (hb_ HB hw329_0)⟩ (fun hHeld => ?_); refine with_tabW spec_AltsOf.tab9 spec_AltsOf.bits9 (fun HT_ HW_ => ?_)
            generalize wr.drew = w35 at HO_9 HO_10 BK319 HB hx329_0 hHeld ⊢
            refine r3_ 0 1 3 ?_
            refine tv_ 2 ?_
            refine r1_ 4 ?_
            refine tv_ 5 ?_
            refine r8_ 6 7 8 9 10 11 12 13 ?_
            refine tv_ 14 ?_
            refine r6_ 15 16 17 18 19 20 ?_
            refine tv_ 21 ?_
            refine r2_ 22 23 ?_
            refine ow_ 24 (fun K hK => ?_)
            refine goes_ Tryz.func31 (by kernel_rfl) rfl #[.int .i64 (rd t325 x11_2), .int .i64 0, .int .i64 (wrap64 ((l0_1.length : Int) - 1))] (by rfl) rfl rfl sl ?_
            with_reducible refine (spec_l1In.calls (rd t325 x11_2) 0 (wrap64 ((l0_1.length : Int) - 1)) false _ A27.out).mono ?_
            rintro e w' ⟨rfl, ⟨nd, rfl⟩⟩
            refine ⟨_, rfl, ?_⟩
            refine hw_ hK ⟨bc0 BK319, bc1 BK319, bc2 BK319, (hb_ ⟨sb⟩ hw329_0)⟩ (fun hHeld => ?_)
            clear hK K
            refine r10_ 25 26 27 28 29 30 31 32 33 34 ?_
            refine r10_ 35 36 37 38 39 40 41 42 43 44 ?_
            refine r3_ 45 46 47 ?_
            refine done_ (done_of HT_.out (by kernel_rfl)) ?_
            try go_wp2
            go_meet
            case rel => exact ⟨_, (true), sc, H', ⟨a9_0⟩, ⟨sr HO_9⟩, ⟨sr HO_10⟩, ⟨sk BK319⟩, ⟨sbw⟩⟩
          ·have H' := am H
           clear H
           try go_wp2
           replace HO_9 := am (Kd.R_drew HO_9.out)
           replace HO_10 := am (Kd.R_drew HO_10.out)
           replace BK319 := am (blk_drew BK319.out)
           replace HB := am (below_drew1 HB.out)
           obtain ⟨p329, q329, ad329, e329, hw329_0, hx329_0⟩ := at_i HR0_2 HB a3
           cases e329
           refine start_ (n := 48) (S := fun w' => w'.cell? ⟨gb319, 0, none⟩ = some (.int .i64 a0_0) ∧ w'.cell? ⟨gb319, 1, none⟩ = some (.slice A0_1 l0_1.length c0_1) ∧ w'.cell? ⟨gb319, 2, none⟩ = some (.slice (some ad329) l0_2.length c0_2) ∧ w'.cell? (ad329.add (a3).toNat) = some (.int .i64 (rd l0_2 a3))) (ds := []) (bt 48 0) (by kernel_rfl) rfl (by kernel_rfl) ⟨bc0 BK319, bc1 BK319, bc2 BK319, (hb_ HB hw329_0)⟩ (fun hHeld => ?_); refine with_tabW spec_AltsOf.tab9 spec_AltsOf.bits9 (fun HT_ HW_ => ?_)
           generalize wr.drew = w36 at HO_9 HO_10 BK319 HB hx329_0 hHeld ⊢
           refine r3_ 0 1 3 ?_
           refine tv_ 2 ?_
           refine r1_ 4 ?_
           refine tv_ 5 ?_
           refine r8_ 6 7 8 9 10 11 12 13 ?_
           refine tv_ 14 ?_
           refine r10_ 15 16 17 18 19 20 21 22 23 24 ?_
           refine r10_ 25 26 27 28 29 30 31 32 33 34 ?_
           refine r10_ 35 36 37 38 39 40 41 42 43 44 ?_
           refine r3_ 45 46 47 ?_
           refine done_ (done_of HT_.out (by kernel_rfl)) ?_
           try go_wp2
           go_meet
           case rel => exact ⟨_, (true), sc, H', ⟨a9_0⟩, ⟨sr HO_9⟩, ⟨sr HO_10⟩, ⟨sk BK319⟩, ⟨sbw⟩⟩
         ·obtain ⟨t334, A37, H⟩ := bnd H
          obtain rfl | rfl := tt t334
          ·replace H := ip H
           obtain ⟨c39b0, H⟩ := id_ H
           obtain ⟨c40b0, H⟩ := id_ H
           obtain ⟨-, c41b0, H⟩ | ⟨-, c41b0, H⟩ := ic_ H
           ·have H' := am H
            clear H
            try go_wp2
            replace HO_9 := am (Kd.R_drew HO_9.out)
            replace HO_10 := am (Kd.R_drew HO_10.out)
            replace BK319 := am (blk_drew BK319.out)
            replace HB := am (below_drew1 HB.out)
            obtain ⟨p329, q329, ad329, e329, hw329_0, hx329_0⟩ := at_i HR0_2 HB a3
            cases e329
            obtain ⟨p335, q335, ad335, e335, hw335_0, hx335_0⟩ := at_i HR0_1 HB (rd t325 x11_2)
            cases e335
            refine start_ (n := 48) (S := fun w' => w'.cell? ⟨gb319, 0, none⟩ = some (.int .i64 a0_0) ∧ w'.cell? ⟨gb319, 1, none⟩ = some (.slice (some ad335) l0_1.length c0_1) ∧ w'.cell? ⟨gb319, 2, none⟩ = some (.slice (some ad329) l0_2.length c0_2) ∧ w'.cell? (ad329.add (a3).toNat) = some (.int .i64 (rd l0_2 a3)) ∧ w'.cell? (ad335.add ((rd t325 x11_2)).toNat) = some (.int .i64 (rd l0_1 (rd t325 x11_2)))) (ds := []) (bt 48 0) (by kernel_rfl) rfl (by kernel_rfl) ⟨bc0 BK319, bc1 BK319, bc2 BK319, (hb_ HB hw329_0), (hb_ HB hw335_0)⟩ (fun hHeld => ?_); refine with_tabW spec_AltsOf.tab9 spec_AltsOf.bits9 (fun HT_ HW_ => ?_)
            generalize wr.drew = w42 at HO_9 HO_10 BK319 HB hx329_0 hx335_0 hHeld ⊢
            refine r3_ 0 1 3 ?_
            refine tv_ 2 ?_
            refine r1_ 4 ?_
            refine tv_ 5 ?_
            refine r10_ 6 7 8 9 10 11 12 13 14 15 ?_
            refine r5_ 16 17 18 19 20 ?_
            refine tv_ 21 ?_
            refine r2_ 22 23 ?_
            refine ow_ 24 (fun K hK => ?_)
            refine goes_ Tryz.func31 (by kernel_rfl) rfl #[.int .i64 (rd t325 x11_2), .int .i64 0, .int .i64 (wrap64 ((l0_1.length : Int) - 1))] (by rfl) rfl rfl sl ?_
            with_reducible refine (spec_l1In.calls (rd t325 x11_2) 0 (wrap64 ((l0_1.length : Int) - 1)) true _ A37.out).mono ?_
            rintro e w' ⟨rfl, ⟨nd, rfl⟩⟩
            refine ⟨_, rfl, ?_⟩
            refine hw_ hK ⟨bc0 BK319, bc1 BK319, bc2 BK319, (hb_ ⟨sb⟩ hw329_0), (hb_ ⟨sb⟩ hw335_0)⟩ (fun hHeld => ?_)
            clear hK K
            refine r5_ 25 26 27 28 30 ?_
            refine tv_ 29 ?_
            refine r1_ 31 ?_
            refine tv_ 32 ?_
            refine r10_ 33 34 35 36 37 38 39 40 41 42 ?_
            refine r5_ 43 44 45 46 47 ?_
            refine done_ (done_of HT_.out (by kernel_rfl)) ?_
            try go_wp2
            go_meet
            case rel => exact ⟨_, (true), sc, H', ⟨a9_0⟩, ⟨sr HO_9⟩, ⟨sr HO_10⟩, ⟨sk BK319⟩, ⟨sbw⟩⟩
           ·obtain ⟨c43b0, H⟩ := id_ H
            have H' := am H
            clear H
            try go_wp2
            replace HO_9 := am (Kd.R_drew HO_9.out)
            replace HO_10 := am (Kd.R_drew HO_10.out)
            replace BK319 := am (blk_drew BK319.out)
            replace HB := am (below_drew1 HB.out)
            obtain ⟨p329, q329, ad329, e329, hw329_0, hx329_0⟩ := at_i HR0_2 HB a3
            cases e329
            obtain ⟨p335, q335, ad335, e335, hw335_0, hx335_0⟩ := at_i HR0_1 HB (rd t325 x11_2)
            cases e335
            obtain ⟨p336, q336, ad336, e336, hw336_0, hx336_0⟩ := at_i HR0_1 HB (rd t325 x11_2)
            obtain rfl : ad335 = ad336 := (by injection e336)
            obtain ⟨p337, q337, ad337, e337, hw337_0, hx337_0⟩ := at_i HR0_1 HB a3
            obtain rfl : ad335 = ad337 := (by injection e337)
            refine start_ (n := 48) (S := fun w' => w'.cell? ⟨gb319, 0, none⟩ = some (.int .i64 a0_0) ∧ w'.cell? ⟨gb319, 1, none⟩ = some (.slice (some ad335) l0_1.length c0_1) ∧ w'.cell? ⟨gb319, 2, none⟩ = some (.slice (some ad329) l0_2.length c0_2) ∧ w'.cell? (ad329.add (a3).toNat) = some (.int .i64 (rd l0_2 a3)) ∧ w'.cell? (ad335.add ((rd t325 x11_2)).toNat) = some (.int .i64 (rd l0_1 (rd t325 x11_2))) ∧ w'.cell? (ad335.add ((rd t325 x11_2)).toNat) = some (.int .i64 (rd l0_1 (rd t325 x11_2))) ∧ w'.cell? (ad335.add (a3).toNat) = some (.int .i64 (rd l0_1 a3))) (ds := []) (bt 48 0) (by kernel_rfl) rfl (by kernel_rfl) ⟨bc0 BK319, bc1 BK319, bc2 BK319, (hb_ HB hw329_0), (hb_ HB hw335_0), (hb_ HB hw336_0), (hb_ HB hw337_0)⟩ (fun hHeld => ?_); refine with_tabW spec_AltsOf.tab9 spec_AltsOf.bits9 (fun HT_ HW_ => ?_)
            generalize wr.drew = w44 at HO_9 HO_10 BK319 HB hx329_0 hx335_0 hx336_0 hx337_0 hHeld ⊢
            refine r3_ 0 1 3 ?_
            refine tv_ 2 ?_
            refine r1_ 4 ?_
            refine tv_ 5 ?_
            refine r10_ 6 7 8 9 10 11 12 13 14 15 ?_
            refine r5_ 16 17 18 19 20 ?_
            refine tv_ 21 ?_
            refine r2_ 22 23 ?_
            refine ow_ 24 (fun K hK => ?_)
            refine goes_ Tryz.func31 (by kernel_rfl) rfl #[.int .i64 (rd t325 x11_2), .int .i64 0, .int .i64 (wrap64 ((l0_1.length : Int) - 1))] (by rfl) rfl rfl sl ?_
            with_reducible refine (spec_l1In.calls (rd t325 x11_2) 0 (wrap64 ((l0_1.length : Int) - 1)) true _ A37.out).mono ?_
            rintro e w' ⟨rfl, ⟨nd, rfl⟩⟩
            refine ⟨_, rfl, ?_⟩
            refine hw_ hK ⟨bc0 BK319, bc1 BK319, bc2 BK319, (hb_ ⟨sb⟩ hw329_0), (hb_ ⟨sb⟩ hw335_0), (hb_ ⟨sb⟩ hw336_0), (hb_ ⟨sb⟩ hw337_0)⟩ (fun hHeld => ?_)
            clear hK K
            refine r5_ 25 26 27 28 30 ?_
            refine tv_ 29 ?_
            refine r1_ 31 ?_
            refine tv_ 32 ?_
            refine r7_ 33 34 35 36 38 41 43 ?_
            refine tv_ 37 ?_
            refine r1_ 39 ?_
            refine tv_ 40 ?_
            refine tv_ 42 ?_
            refine r1_ 44 ?_
            refine tv_ 45 ?_
            refine r2_ 46 47 ?_
            refine done_ (done_of HT_.out (by kernel_rfl)) ?_
            try go_wp2
            go_meet
            case rel => exact ⟨_, (decide ((rd l0_1 (rd t325 x11_2)) ≥ (rd l0_1 a3))), sc, H', ⟨a9_0⟩, ⟨sr HO_9⟩, ⟨sr HO_10⟩, ⟨sk BK319⟩, ⟨sbw⟩⟩
          ·replace H := im H
           have H' := am H
           clear H
           try go_wp2
           replace HO_9 := am (Kd.R_drew HO_9.out)
           replace HO_10 := am (Kd.R_drew HO_10.out)
           replace BK319 := am (blk_drew BK319.out)
           replace HB := am (below_drew1 HB.out)
           obtain ⟨p329, q329, ad329, e329, hw329_0, hx329_0⟩ := at_i HR0_2 HB a3
           cases e329
           refine start_ (n := 48) (S := fun w' => w'.cell? ⟨gb319, 0, none⟩ = some (.int .i64 a0_0) ∧ w'.cell? ⟨gb319, 1, none⟩ = some (.slice A0_1 l0_1.length c0_1) ∧ w'.cell? ⟨gb319, 2, none⟩ = some (.slice (some ad329) l0_2.length c0_2) ∧ w'.cell? (ad329.add (a3).toNat) = some (.int .i64 (rd l0_2 a3))) (ds := []) (bt 48 0) (by kernel_rfl) rfl (by kernel_rfl) ⟨bc0 BK319, bc1 BK319, bc2 BK319, (hb_ HB hw329_0)⟩ (fun hHeld => ?_); refine with_tabW spec_AltsOf.tab9 spec_AltsOf.bits9 (fun HT_ HW_ => ?_)
           generalize wr.drew = w45 at HO_9 HO_10 BK319 HB hx329_0 hHeld ⊢
           refine r3_ 0 1 3 ?_
           refine tv_ 2 ?_
           refine r1_ 4 ?_
           refine tv_ 5 ?_
           refine r10_ 6 7 8 9 10 11 12 13 14 15 ?_
           refine r5_ 16 17 18 19 20 ?_
           refine tv_ 21 ?_
           refine r2_ 22 23 ?_
           refine ow_ 24 (fun K hK => ?_)
           refine goes_ Tryz.func31 (by kernel_rfl) rfl #[.int .i64 (rd t325 x11_2), .int .i64 0, .int .i64 (wrap64 ((l0_1.length : Int) - 1))] (by rfl) rfl rfl sl ?_
           with_reducible refine (spec_l1In.calls (rd t325 x11_2) 0 (wrap64 ((l0_1.length : Int) - 1)) false _ A37.out).mono ?_
           rintro e w' ⟨rfl, ⟨nd, rfl⟩⟩
           refine ⟨_, rfl, ?_⟩
           refine hw_ hK ⟨bc0 BK319, bc1 BK319, bc2 BK319, (hb_ ⟨sb⟩ hw329_0)⟩ (fun hHeld => ?_)
           clear hK K
           refine r10_ 25 26 27 28 29 30 31 32 33 34 ?_
           refine r10_ 35 36 37 38 39 40 41 42 43 44 ?_
           refine r3_ 45 46 47 ?_
           refine done_ (done_of HT_.out (by kernel_rfl)) ?_
           try go_wp2
           go_meet
           case rel => exact ⟨_, (true), sc, H', ⟨a9_0⟩, ⟨sr HO_9⟩, ⟨sr HO_10⟩, ⟨sk BK319⟩, ⟨sbw⟩⟩
       case rest =>
        clear HC19
        obtain ⟨kq, x92_18, rfl, HA, HJ18, HO_9, HO_10, BK319, HB⟩ := hcut
        cases kq with
        | zero => exact absurd HA.out (by simp [spec_AltsOf.j2])
        | succ kj18 =>
         have H := HA.out
         clear HA
         simp only [spec_AltsOf.j2] at H
         obtain rfl | rfl := tt x92_18
         ·replace H := ip H
          have H' := am H
          clear H
          go_wp2
          go_roundg kj18
          case measure => have := HJ4.out; have := HK2.out; have := HJ18.out; omega
          case rel => exact ⟨(x9_2), (wrap64 (x11_2 + 1)), sc, H', ⟨by have := HJ4.out; have := HK2.out; have := HJ18.out; omega⟩, ⟨sr HO_9⟩, ⟨sr HO_10⟩, ⟨sk BK319⟩, ⟨sbw⟩⟩
         ·replace H := im H
          have H' := am H
          clear H
          go_wp2
          go_loopg [13] kj18 (fun kq v13 w' => ∃ (x13_4 : Int), v13 = .int .i64 x13_4 ∧ Aside0 (spec_AltsOf.l1 kq a2 a3 x9_2 t325 x11_2 (rd t325 x11_2) x13_4 a0_0 l0_1 l0_2 = some r) ∧ Aside0 (kq ≤ kj18) ∧ Aside0 (Kd.R (Kd.int .i64) 3 w' w.heap.size (fun k_ => some k_ ≠ ((.slice (some ad328) t325.length co20) : Value).ownBlock) u9 x9_2) ∧ Aside0 (Kd.R (Kd.int .i64) 3 w' w.heap.size (fun k_ => some k_ ≠ (u9 : Value).ownBlock) (.slice (some ad328) t325.length co20) t325) ∧ Aside0 (w'.heap[gb319]? = some (.cells #[.int .i64 a0_0, (.slice A0_1 l0_1.length c0_1), (.slice A0_2 l0_2.length c0_2)] 50 (0, 0))) ∧ Aside0 (Below w.heap.size w w'))
          case atStart => exact ⟨(0), sc, H', kk0, ⟨sr HO_9⟩, ⟨sr HO_10⟩, ⟨sk BK319⟩, ⟨sbw⟩⟩
          case round =>
           clear H'
           obtain ⟨x13_4, rfl, HA, HK4, HO_9, HO_10, BK319, HB⟩ := hrel
           cases gk with
           | zero => exact absurd HA.out (by simp [spec_AltsOf.l1])
           | succ k4 =>
            have H := HA.out
            clear HA
            simp only [spec_AltsOf.l1] at H
            obtain ⟨-, c47b0, H⟩ | ⟨-, c47b0, H⟩ := ic_ H
            ·obtain ⟨c48b0, H⟩ := id_ H
             obtain ⟨c49b0, H⟩ := id_ H
             obtain ⟨c50b0, H⟩ := id_ H
             obtain ⟨c51b0, H⟩ := id_ H
             obtain ⟨c52b0, H⟩ := id_ H
             obtain ⟨-, c53b0, H⟩ | ⟨-, c53b0, H⟩ := ic_ H
             ·have H' := am H
              clear H
              try go_wp2
              replace HO_9 := am (Kd.R_drew HO_9.out)
              replace HO_10 := am (Kd.R_drew HO_10.out)
              replace BK319 := am (blk_drew BK319.out)
              replace HB := am (below_drew1 HB.out)
              obtain ⟨Ao55, co55, eo55⟩ := Kd.R_slice HO_9.out
              (first | subst eo55 | (injection eo55 with f1_ f2_ f3_; have f4_ := f1_.symm; have f5_ := f3_.symm; clear f1_ f2_ f3_; subst f4_; subst f5_))
              have p338 : 0 ≤ (x13_4 : Int) := sa
              have q338 : x13_4 < (x9_2.length : Int) := sa
              obtain ⟨ad338, e338, hx338_0⟩ := Kd.at_int (Kd.R_reads' HO_9.out).2.2 x13_4 p338 q338
              cases e338
              replace p338 := eq_true p338
              replace q338 := eq_true q338
              obtain ⟨p339, q339, ad339, e339, hw339_0, hx339_0⟩ := at_i HR0_1 HB (rd x9_2 x13_4)
              cases e339
              obtain ⟨p340, q340, ad340, e340, hw340_0, hx340_0⟩ := at_i HR0_1 HB (rd t325 x11_2)
              obtain rfl : ad339 = ad340 := (by injection e340)
              refine start_ (n := 20) (S := fun w' => w'.cell? ⟨gb319, 0, none⟩ = some (.int .i64 a0_0) ∧ w'.cell? ⟨gb319, 1, none⟩ = some (.slice (some ad339) l0_1.length c0_1) ∧ w'.cell? ⟨gb319, 2, none⟩ = some (.slice A0_2 l0_2.length c0_2) ∧ w'.cell? (ad338.add (x13_4).toNat) = some (.int .i64 (rd x9_2 x13_4)) ∧ w'.cell? (ad339.add ((rd x9_2 x13_4)).toNat) = some (.int .i64 (rd l0_1 (rd x9_2 x13_4))) ∧ w'.cell? (ad339.add ((rd t325 x11_2)).toNat) = some (.int .i64 (rd l0_1 (rd t325 x11_2)))) (ds := []) (bt 20 0) (by kernel_rfl) rfl (by kernel_rfl) ⟨bc0 BK319, bc1 BK319, bc2 BK319, hx338_0, (hb_ HB hw339_0), (hb_ HB hw340_0)⟩ (fun hHeld => ?_); refine with_tabW spec_AltsOf.tab11 spec_AltsOf.bits11 (fun HT_ HW_ => ?_)
              generalize wr.drew = w54 at HO_9 HO_10 BK319 HB hx338_0 hx339_0 hx340_0 hHeld ⊢
              refine r10_ 0 1 2 3 4 5 7 8 9 13 ?_
              refine r1_ 15 ?_
              refine tv_ 6 ?_
              refine tv_ 10 ?_
              refine r1_ 11 ?_
              refine tv_ 12 ?_
              refine tv_ 14 ?_
              refine r1_ 16 ?_
              refine tv_ 17 ?_
              refine r2_ 18 19 ?_
              refine done_ (done_of HT_.out (by kernel_rfl)) ?_
              try go_wp2
              go_roundg k4
              case measure => have := HJ4.out; have := HK2.out; have := HJ18.out; have := HK4.out; omega
              case rel => exact ⟨(wrap64 (x13_4 + 1)), sc, H', ⟨a9_5⟩, ⟨sr HO_9⟩, ⟨sr HO_10⟩, ⟨sk BK319⟩, ⟨sbw⟩⟩
             ·obtain ⟨y341, Ny341, H⟩ := iy_ H
              have c56b0 := eq_true (sa : 0 ≤ x13_4)
              obtain ⟨c57, H⟩ := ia_ H
              have c57b0 := eq_true c57
              have c57b1 := decide_eq_true c57
              clear c57
              obtain ⟨y344, Ny344, H⟩ := iy_ H
              obtain ⟨LMc58, H⟩ := il_ H
              obtain ⟨y348, Ny348, H⟩ := iy_ H
              obtain ⟨y351, Ny351, H⟩ := iy_ H
              obtain ⟨LMc59, H⟩ := il_ H
              obtain ⟨y354, Ny354, H⟩ := iy_ H
              have c60b0 := eq_true (sa : 0 ≤ x13_4)
              have c61b0 := eq_true (sa : x13_4 ≤ (x9_2.length : Int))
              obtain ⟨y357, Ny357, H⟩ := iy_ H
              obtain ⟨LMc62, H⟩ := il_ H
              obtain ⟨y361, hy361⟩ : ∃ y_ : List Int, y_ = (y354 ++ y357) := ⟨_, rfl⟩
              replace H : (spec_AltsOf.l0 k4 a2 a3 y361 t325 (wrap64 (x11_2 + 1)) a0_0 l0_1 l0_2) = some r := ry hy361 H
              have Ny361 := am hy361
              clear hy361
              have H' := am H
              clear H
              try go_wp2
              replace HO_9 := am (Kd.R_drew HO_9.out)
              replace HO_10 := am (Kd.R_drew HO_10.out)
              replace BK319 := am (blk_drew BK319.out)
              replace HB := am (below_drew1 HB.out)
              obtain ⟨Ao64, co64, eo64⟩ := Kd.R_slice HO_9.out
              (first | subst eo64 | (injection eo64 with f1_ f2_ f3_; have f4_ := f1_.symm; have f5_ := f3_.symm; clear f1_ f2_ f3_; subst f4_; subst f5_))
              have p338 : 0 ≤ (x13_4 : Int) := sa
              have q338 : x13_4 < (x9_2.length : Int) := sa
              obtain ⟨ad338, e338, hx338_0⟩ := Kd.at_int (Kd.R_reads' HO_9.out).2.2 x13_4 p338 q338
              cases e338
              replace p338 := eq_true p338
              replace q338 := eq_true q338
              obtain ⟨p339, q339, ad339, e339, hw339_0, hx339_0⟩ := at_i HR0_1 HB (rd x9_2 x13_4)
              cases e339
              obtain ⟨p340, q340, ad340, e340, hw340_0, hx340_0⟩ := at_i HR0_1 HB (rd t325 x11_2)
              obtain rfl : ad339 = ad340 := (by injection e340)
              refine start_ (n := 20) (S := fun w' => w'.cell? ⟨gb319, 0, none⟩ = some (.int .i64 a0_0) ∧ w'.cell? ⟨gb319, 1, none⟩ = some (.slice (some ad339) l0_1.length c0_1) ∧ w'.cell? ⟨gb319, 2, none⟩ = some (.slice A0_2 l0_2.length c0_2) ∧ w'.cell? (ad338.add (x13_4).toNat) = some (.int .i64 (rd x9_2 x13_4)) ∧ w'.cell? (ad339.add ((rd x9_2 x13_4)).toNat) = some (.int .i64 (rd l0_1 (rd x9_2 x13_4))) ∧ w'.cell? (ad339.add ((rd t325 x11_2)).toNat) = some (.int .i64 (rd l0_1 (rd t325 x11_2)))) (ds := []) (bt 20 0) (by kernel_rfl) rfl (by kernel_rfl) ⟨bc0 BK319, bc1 BK319, bc2 BK319, hx338_0, (hb_ HB hw339_0), (hb_ HB hw340_0)⟩ (fun hHeld => ?_); refine with_tabW spec_AltsOf.tab11 spec_AltsOf.bits11 (fun HT_ HW_ => ?_)
              generalize wr.drew = w63 at HO_9 HO_10 BK319 HB hx338_0 hx339_0 hx340_0 hHeld ⊢
              refine r10_ 0 1 2 3 4 5 7 8 9 13 ?_
              refine r1_ 15 ?_
              refine tv_ 6 ?_
              refine tv_ 10 ?_
              refine r1_ 11 ?_
              refine tv_ 12 ?_
              refine tv_ 14 ?_
              refine r1_ 16 ?_
              refine tv_ 17 ?_
              refine r2_ 18 19 ?_
              refine done_ (done_of HT_.out (by kernel_rfl)) ?_
              try go_wp2
              replace HO_9 := am (Kd.R_drew HO_9.out)
              replace HO_10 := am (Kd.R_drew HO_10.out)
              replace BK319 := am (blk_drew BK319.out)
              replace HB := am (below_drew1 HB.out)
              have q66 : (x13_4 : Int) ≤ ((x9_2.length : Int) : Int) := sa
              obtain ⟨i066, hi066, _, hsz66, _⟩ := info_parts info3
              have hroom66 : x9_2.length ≤ co64 := (Kd.R_reads' HO_9.out).2.1
              have hC66 : Kd.C (Kd.int .i64) _ (some ad338) x9_2.length x9_2 := (Kd.R_reads' HO_9.out).2.2
              have hcut66 := cut_to (P := Tryz.prog) 25 3 .i64 Tryz.underlying25 hi066 (some ad338) x9_2.length co64 x13_4 (sa) q66 hroom66
              have hr66 := Kd.C_take (m := (x13_4 : Int).toNat) hC66 (by omega)
              have hy66 : y344.length = (x13_4 : Int).toNat := (by rw [Ny344.out, List.length_take]; omega)
              rw [← Ny344.out] at hr66
              rw [← hy66] at hcut66
              have HR347 := am hr66
              have HC347 := am (show y344.length ≤ co64 from by omega)
              clear hr66 hC66 hroom66 hi066 hsz66
              have KY66 := am hy66
              clear hy66
              have KL66 := am (show (x13_4 : Int).toNat ≤ x9_2.length from by omega)
              replace q66 := eq_true q66
              have q67 : (x13_4 : Int) ≤ ((x9_2.length : Int) : Int) := sa
              obtain ⟨i067, hi067, _, hsz67, _⟩ := info_parts info3
              have hroom67 : x9_2.length ≤ co64 := (Kd.R_reads' HO_9.out).2.1
              have hC67 : Kd.C (Kd.int .i64) _ (some ad338) x9_2.length x9_2 := (Kd.R_reads' HO_9.out).2.2
              have q067 : (0 : Int) ≤ (x13_4 : Int) := sa
              have hcut67 := cut_from (P := Tryz.prog) 25 3 .i64 Tryz.underlying25 hi067 1 hsz67 (some ad338) x9_2.length co64 x13_4 q067 q67
              have hr67 := Kd.C_drop (m := (x13_4 : Int).toNat) (c := co64) hC67 (by omega) hroom67
              obtain ⟨A67, hA67⟩ : ∃ A1, A1 = (if co64 = (x13_4 : Int).toNat then (some ad338) else ((some ad338) : Option Addr).map (·.add ((x13_4 : Int).toNat * 1))) := ⟨_, rfl⟩
              obtain ⟨c67, hc67⟩ : ∃ c1, c1 = co64 - (x13_4 : Int).toNat := ⟨_, rfl⟩
              have hy67 : y357.length = x9_2.length - (x13_4 : Int).toNat := (by rw [Ny357.out, List.length_drop] <;> omega)
              rw [show (x9_2).drop (x13_4 : Int).toNat = y357 from Ny357.out.symm] at hr67
              replace hr67 : Kd.C (Kd.int .i64) _ A67 y357.length y357 := (by rw [hA67]; exact hr67)
              rw [← hy67, ← hA67, ← hc67] at hcut67
              have HR360 := am hr67
              have HC360 := am (show y357.length ≤ c67 from by rw [hy67, hc67]; exact Nat.sub_le_sub_right hroom67 _)
              clear hr67 hC67 hroom67 hi067 hsz67 hc67
              have KY67 := am hy67
              have KA67 := am hA67
              clear hy67 hA67
              have KL67 := am (show (x13_4 : Int).toNat ≤ x9_2.length from by omega)
              replace q67 := eq_true q67
              refine start_ (n := 13) (S := fun w' => True) (ds := []) (bt 13 0) (by kernel_rfl) rfl (by kernel_rfl) trivial (fun hHeld => ?_); refine with_tabW spec_AltsOf.tab13 spec_AltsOf.bits13 (fun HT_ HW_ => ?_)
              generalize w63.drew = w65 at HO_9 HO_10 BK319 HB HR347 HR360 hHeld ⊢
              refine r7_ 1 2 3 5 8 9 10 ?_
              refine join_ (σ := Value × Value × Value) 3 (bt 13 1919) (fun s_ => [(115, s_.1), (119, s_.2.1), (121, s_.2.2)]) (fun s_ w' => (Kd.R (Kd.int .i64) 3 w' w.heap.size (fun k_ => some k_ ≠ (s_.2.2 : Value).ownBlock ∧ some k_ ≠ (.slice (some ad328) t325.length co20 : Value).ownBlock ∧ some k_ ≠ (.slice (some ad338) x9_2.length co64 : Value).ownBlock) s_.2.1 y348) ∧ (Kd.R (Kd.int .i64) 3 w' w.heap.size (fun k_ => some k_ ≠ (s_.2.1 : Value).ownBlock ∧ some k_ ≠ (.slice (some ad328) t325.length co20 : Value).ownBlock ∧ some k_ ≠ (.slice (some ad338) x9_2.length co64 : Value).ownBlock) s_.2.2 y351) ∧ (Kd.R (Kd.int .i64) 3 w' w.heap.size (fun k_ => some k_ ≠ (s_.2.1 : Value).ownBlock ∧ some k_ ≠ (s_.2.2 : Value).ownBlock ∧ some k_ ≠ (.slice (some ad338) x9_2.length co64 : Value).ownBlock) (.slice (some ad328) t325.length co20) t325) ∧ (Kd.R (Kd.int .i64) 3 w' w.heap.size (fun k_ => some k_ ≠ (s_.2.1 : Value).ownBlock ∧ some k_ ≠ (s_.2.2 : Value).ownBlock ∧ some k_ ≠ (.slice (some ad328) t325.length co20 : Value).ownBlock) (.slice (some ad338) x9_2.length co64) x9_2) ∧ (w'.heap[gb319]? = some (.cells #[.int .i64 a0_0, .slice (some ad339) l0_1.length c0_1, .slice A0_2 l0_2.length c0_2] 50 (0, 0))) ∧ (Below w.heap.size w w')) ?_ ?_
              rotate_left
              ·intro hCont
               refine tw_ 0 6 (fun K hK => ?_) (fun K hK => ?_)
               ·skip
                refine Kd.R_lit_step (Kd.int .i64) _ 3 ?hg (N := 115) ?hd (xs := ([] : List Int)) (inner := []) (ok := fun _ => True) (okp := fun _ => True) ?hr ?hp (fun _ hk => hk) trivial (Below.refl _ _) (Nat.le_refl _) (by simp) ?_; (case hd => rfl); (case hg => rfl); (case hr => first | (go_simp; done) | (go_simp; rfl)); (case hp => exact (Reps.none _ _))
                intro v342 w68 ho69 hb hg_ hnew_
                clear hg_ hnew_
                (first | rw [← Ny341.out] at ho69 | (simp only [Int.reduceToNat] at ho69; rw [← Ny341.out] at ho69))
                have HO343 := am (Kd.R_lower (Kd.R_new' (Kd.R_new' ho69 (Kd.R_lt (sr HO_9))) (Kd.R_lt (sr HO_10))) (below_size (sbw)))
                replace HO_9 := am (Kd.R_elder' (sr HO_9) (Kd.R_base ho69) hb)
                replace HO_10 := am (Kd.R_elder' (sr HO_10) (Kd.R_base ho69) hb)
                replace BK319 := bb BK319 hb
                replace HR347 := am (Kd.C_below (cq HR347) hb)
                replace HR360 := am (Kd.C_below (cq HR360) hb)
                replace HB := bsw hb
                clear hb ho69
                refine hw_ hK trivial (fun hHeld => ?_)
                clear hK K
                refine tw_ 4 6 (fun K hK => ?_) (fun K hK => ?_)
                ·skip
                 refine Kd.R_append_rows_step (Kd.int .i64) (w0 := w) w.heap.size (by rfl) (.tmp 115) (.tmp 118) 25 3 (.int .i64 0) 8 rfl Tryz.underlying25 info3 rfl (by decide) (by omega) v342 y341 y344 _ _ _ (fun k_ => some k_ ≠ (.slice (some ad338) x9_2.length co64 : Value).ownBlock ∧ some k_ ≠ (.slice (some ad328) t325.length co20 : Value).ownBlock) (fun _ => False) rfl rfl ?aO ?aR (fun _ _ h => h) (fun _ h => h.elim) ?aF ?aB ?aS ?aL ?_
                 (case aR => repeat (first | exact (cq HR347) | (with_reducible refine Kd.C_alloc ?_ _) | (with_reducible refine Kd.C_drewN ?_ _) | (with_reducible refine Kd.C_drew ?_)))
                 (case aB => exact (sbw))
                 (case aF => exact (fun k_ hk => ⟨Kd.fresh' (Kd.R_lt (sr HO_9)) k_ hk, Kd.fresh' (Kd.R_lt (sr HO_10)) k_ hk⟩))
                 (case aO => exact (by exact rm HO343 (fun _ hk => ⟨hk.1.2, hk.2⟩)))
                 (case aS => exact (below_size (sbw)))
                 (case aL => have := LMc58.out; omega)
                 intro v349 w70 ho hb hg hat
                 rw [← Ny348.out] at ho
                 replace HO_10 := am (Kd.R_after (ok := (fun k_ => some k_ ≠ (.slice (some ad338) x9_2.length co64 : Value).ownBlock)) (sr HO_10) hg hat)
                 replace BK319 := am (blk_grown (g := gb319) (o := .cells #[.int .i64 a0_0, .slice (some ad339) l0_1.length c0_1, .slice A0_2 l0_2.length c0_2] 50 (0, 0)) (sk BK319) hg (Kd.R_ne HO343.out BK319.out (by decide)))
                 replace HB := am hb
                 replace HR347 := am ((show Kd.C (Kd.int .i64) w70 (some ad338) y344.length y344 from by rw [Ny344.out]; exact Kd.C_take (m := (x13_4 : Int).toNat) ((Kd.R_reads' (Kd.R_after (ok := (fun k_ => some k_ ≠ (.slice (some ad328) t325.length co20 : Value).ownBlock)) (sr HO_9) hg hat)).2.2) KL66.out))
                 replace HR360 := am ((show Kd.C (Kd.int .i64) w70 A67 y357.length y357 from by rw [Ny357.out, KA67.out]; exact Kd.C_drop (m := (x13_4 : Int).toNat) (c := co64) ((Kd.R_reads' (Kd.R_after (ok := (fun k_ => some k_ ≠ (.slice (some ad328) t325.length co20 : Value).ownBlock)) (sr HO_9) hg hat)).2.2) KL67.out ((Kd.R_reads' (Kd.R_after (ok := (fun k_ => some k_ ≠ (.slice (some ad328) t325.length co20 : Value).ownBlock)) (sr HO_9) hg hat)).2.1)))
                 replace HO_9 := am (Kd.R_after (ok := (fun k_ => some k_ ≠ (.slice (some ad328) t325.length co20 : Value).ownBlock)) (sr HO_9) hg hat)
                 have HO350 := am ho
                 clear HO343 ho hb hg hat
                 refine hw_ hK trivial (fun hHeld => ?_)
                 clear hK K
                 refine ow_ 6 (fun K hK => ?_)
                 refine Kd.R_lit_step (Kd.int .i64) _ 3 ?hg (N := 121) ?hd (xs := ([(rd t325 x11_2)] : List Int)) (inner := [.int .i64 (rd t325 x11_2)]) (ok := fun _ => True) (okp := fun _ => True) ?hr ?hp (fun _ hk => hk) trivial (Below.refl _ _) (Nat.le_refl _) (by simp) ?_; (case hd => rfl); (case hg => rfl); (case hr => first | (go_simp; done) | (go_simp; rfl)); (case hp => exact (Reps.one (show Kd.M (Kd.int .i64) _ _ _ (rd t325 x11_2) [.int .i64 (rd t325 x11_2)] from rfl) (Reps.none _ _)))
                 intro v352 w71 ho72 hb hg_ hnew_
                 clear hg_ hnew_
                 (first | rw [← Ny351.out] at ho72 | (simp only [Int.reduceToNat] at ho72; rw [← Ny351.out] at ho72))
                 have HO353 := am (Kd.R_lower (Kd.R_new' (Kd.R_new' (Kd.R_new' ho72 (Kd.R_lt (sr HO_9))) (Kd.R_lt (sr HO_10))) (Kd.R_lt (sr HO350))) (below_size (sbw)))
                 replace HO_9 := am (Kd.R_elder' (sr HO_9) (Kd.R_base ho72) hb)
                 replace HO_10 := am (Kd.R_elder' (sr HO_10) (Kd.R_base ho72) hb)
                 replace HO350 := am (Kd.R_elder' (sr HO350) (Kd.R_base ho72) hb)
                 replace BK319 := bb BK319 hb
                 replace HR347 := am (Kd.C_below (cq HR347) hb)
                 replace HR360 := am (Kd.C_below (cq HR360) hb)
                 replace HB := bsw hb
                 clear hb ho72
                 refine hw_ hK trivial (fun hHeld => ?_)
                 clear hK K
                 exact norm_ a9_1 (hCont (v342, v349, v352) _ ⟨(by exact rm HO350 (fun _ hk => ⟨hk.2, ⟨hk.1.2, hk.1.1⟩⟩)), (by exact rm HO353 (fun _ hk => ⟨hk.2, ⟨hk.1.2, hk.1.1.2⟩⟩)), a9_12, a9_17, (sk BK319), (sbw)⟩)
                ·skip
                 refine Kd.R_lit_step (Kd.int .i64) _ 3 ?hg (N := 121) ?hd (xs := ([(rd t325 x11_2)] : List Int)) (inner := [.int .i64 (rd t325 x11_2)]) (ok := fun _ => True) (okp := fun _ => True) ?hr ?hp (fun _ hk => hk) trivial (Below.refl _ _) (Nat.le_refl _) (by simp) ?_; (case hd => rfl); (case hg => rfl); (case hr => first | (go_simp; done) | (go_simp; rfl)); (case hp => exact (Reps.one (show Kd.M (Kd.int .i64) _ _ _ (rd t325 x11_2) [.int .i64 (rd t325 x11_2)] from rfl) (Reps.none _ _)))
                 intro v352 w70 ho71 hb hg_ hnew_
                 clear hg_ hnew_
                 (first | rw [← Ny351.out] at ho71 | (simp only [Int.reduceToNat] at ho71; rw [← Ny351.out] at ho71))
                 have HO353 := am (Kd.R_lower (Kd.R_new' (Kd.R_new' (Kd.R_new' ho71 (Kd.R_lt (sr HO_9))) (Kd.R_lt (sr HO_10))) (Kd.R_lt (sr HO343))) (below_size (sbw)))
                 replace HO_9 := am (Kd.R_elder' (sr HO_9) (Kd.R_base ho71) hb)
                 replace HO_10 := am (Kd.R_elder' (sr HO_10) (Kd.R_base ho71) hb)
                 replace HO343 := am (Kd.R_elder' (sr HO343) (Kd.R_base ho71) hb)
                 replace BK319 := bb BK319 hb
                 replace HR347 := am (Kd.C_below (cq HR347) hb)
                 replace HR360 := am (Kd.C_below (cq HR360) hb)
                 replace HB := bsw hb
                 clear hb ho71
                 refine hw_ hK trivial (fun hHeld => ?_)
                 clear hK K
                 refine ow_ 4 (fun K hK => ?_)
                 refine Kd.R_append_rows_step (Kd.int .i64) (w0 := w) w.heap.size (by rfl) (.tmp 115) (.tmp 118) 25 3 (.int .i64 0) 8 rfl Tryz.underlying25 info3 rfl (by decide) (by omega) v342 y341 y344 _ _ _ (fun k_ => some k_ ≠ (.slice (some ad338) x9_2.length co64 : Value).ownBlock ∧ some k_ ≠ (.slice (some ad328) t325.length co20 : Value).ownBlock ∧ some k_ ≠ (v352 : Value).ownBlock) (fun _ => False) rfl rfl ?aO ?aR (fun _ _ h => h) (fun _ h => h.elim) ?aF ?aB ?aS ?aL ?_
                 (case aR => repeat (first | exact (cq HR347) | (with_reducible refine Kd.C_alloc ?_ _) | (with_reducible refine Kd.C_drewN ?_ _) | (with_reducible refine Kd.C_drew ?_)))
                 (case aB => exact (sbw))
                 (case aF => exact (fun k_ hk => ⟨Kd.fresh' (Kd.R_lt (sr HO_9)) k_ hk, Kd.fresh' (Kd.R_lt (sr HO_10)) k_ hk, Kd.fresh' (Kd.R_lt (sr HO353)) k_ hk⟩))
                 (case aO => exact a9_8)
                 (case aS => exact (below_size (sbw)))
                 (case aL => have := LMc58.out; omega)
                 intro v349 w72 ho hb hg hat
                 rw [← Ny348.out] at ho
                 replace HO_10 := am (Kd.R_after (ok := (fun k_ => some k_ ≠ (.slice (some ad338) x9_2.length co64 : Value).ownBlock ∧ some k_ ≠ (v352 : Value).ownBlock)) a9_13 hg hat)
                 replace BK319 := am (blk_grown (g := gb319) (o := .cells #[.int .i64 a0_0, .slice (some ad339) l0_1.length c0_1, .slice A0_2 l0_2.length c0_2] 50 (0, 0)) (sk BK319) hg (Kd.R_ne HO343.out BK319.out (by decide)))
                 replace HO353 := am (Kd.R_after (ok := (fun k_ => some k_ ≠ (.slice (some ad338) x9_2.length co64 : Value).ownBlock ∧ some k_ ≠ (.slice (some ad328) t325.length co20 : Value).ownBlock)) a9_9 hg hat)
                 replace HB := am hb
                 replace HR347 := am ((show Kd.C (Kd.int .i64) w72 (some ad338) y344.length y344 from by rw [Ny344.out]; exact Kd.C_take (m := (x13_4 : Int).toNat) ((Kd.R_reads' (Kd.R_after (ok := (fun k_ => some k_ ≠ (.slice (some ad328) t325.length co20 : Value).ownBlock ∧ some k_ ≠ (v352 : Value).ownBlock)) a9_2 hg hat)).2.2) KL66.out))
                 replace HR360 := am ((show Kd.C (Kd.int .i64) w72 A67 y357.length y357 from by rw [Ny357.out, KA67.out]; exact Kd.C_drop (m := (x13_4 : Int).toNat) (c := co64) ((Kd.R_reads' (Kd.R_after (ok := (fun k_ => some k_ ≠ (.slice (some ad328) t325.length co20 : Value).ownBlock ∧ some k_ ≠ (v352 : Value).ownBlock)) a9_2 hg hat)).2.2) KL67.out ((Kd.R_reads' (Kd.R_after (ok := (fun k_ => some k_ ≠ (.slice (some ad328) t325.length co20 : Value).ownBlock ∧ some k_ ≠ (v352 : Value).ownBlock)) a9_2 hg hat)).2.1)))
                 replace HO_9 := am (Kd.R_after (ok := (fun k_ => some k_ ≠ (.slice (some ad328) t325.length co20 : Value).ownBlock ∧ some k_ ≠ (v352 : Value).ownBlock)) a9_2 hg hat)
                 have HO350 := am ho
                 clear HO343 ho hb hg hat
                 refine hw_ hK trivial (fun hHeld => ?_)
                 clear hK K
                 exact norm_ a9_1 (hCont (v342, v349, v352) _ ⟨a9_6, a9_14, a9_3, a9_4, (sk BK319), (sbw)⟩)
               ·skip
                refine Kd.R_lit_step (Kd.int .i64) _ 3 ?hg (N := 121) ?hd (xs := ([(rd t325 x11_2)] : List Int)) (inner := [.int .i64 (rd t325 x11_2)]) (ok := fun _ => True) (okp := fun _ => True) ?hr ?hp (fun _ hk => hk) trivial (Below.refl _ _) (Nat.le_refl _) (by simp) ?_; (case hd => rfl); (case hg => rfl); (case hr => first | (go_simp; done) | (go_simp; rfl)); (case hp => exact (Reps.one (show Kd.M (Kd.int .i64) _ _ _ (rd t325 x11_2) [.int .i64 (rd t325 x11_2)] from rfl) (Reps.none _ _)))
                intro v352 w68 ho69 hb hg_ hnew_
                clear hg_ hnew_
                (first | rw [← Ny351.out] at ho69 | (simp only [Int.reduceToNat] at ho69; rw [← Ny351.out] at ho69))
                have HO353 := am (Kd.R_lower (Kd.R_new' (Kd.R_new' ho69 (Kd.R_lt (sr HO_9))) (Kd.R_lt (sr HO_10))) (below_size (sbw)))
                replace HO_9 := am (Kd.R_elder' (sr HO_9) (Kd.R_base ho69) hb)
                replace HO_10 := am (Kd.R_elder' (sr HO_10) (Kd.R_base ho69) hb)
                replace BK319 := bb BK319 hb
                replace HR347 := am (Kd.C_below (cq HR347) hb)
                replace HR360 := am (Kd.C_below (cq HR360) hb)
                replace HB := bsw hb
                clear hb ho69
                refine hw_ hK trivial (fun hHeld => ?_)
                clear hK K
                refine ow_ 0 (fun K hK => ?_)
                refine Kd.R_lit_step (Kd.int .i64) _ 3 ?hg (N := 115) ?hd (xs := ([] : List Int)) (inner := []) (ok := fun _ => True) (okp := fun _ => True) ?hr ?hp (fun _ hk => hk) trivial (Below.refl _ _) (Nat.le_refl _) (by simp) ?_; (case hd => rfl); (case hg => rfl); (case hr => first | (go_simp; done) | (go_simp; rfl)); (case hp => exact (Reps.none _ _))
                intro v342 w70 ho71 hb hg_ hnew_
                clear hg_ hnew_
                (first | rw [← Ny341.out] at ho71 | (simp only [Int.reduceToNat] at ho71; rw [← Ny341.out] at ho71))
                have HO343 := am (Kd.R_lower (Kd.R_new' (Kd.R_new' (Kd.R_new' ho71 (Kd.R_lt (sr HO_9))) (Kd.R_lt (sr HO_10))) (Kd.R_lt (sr HO353))) (below_size (sbw)))
                replace HO_9 := am (Kd.R_elder' (sr HO_9) (Kd.R_base ho71) hb)
                replace HO_10 := am (Kd.R_elder' (sr HO_10) (Kd.R_base ho71) hb)
                replace HO353 := am (Kd.R_elder' (sr HO353) (Kd.R_base ho71) hb)
                replace BK319 := bb BK319 hb
                replace HR347 := am (Kd.C_below (cq HR347) hb)
                replace HR360 := am (Kd.C_below (cq HR360) hb)
                replace HB := bsw hb
                clear hb ho71
                refine hw_ hK trivial (fun hHeld => ?_)
                clear hK K
                refine ow_ 4 (fun K hK => ?_)
                refine Kd.R_append_rows_step (Kd.int .i64) (w0 := w) w.heap.size (by rfl) (.tmp 115) (.tmp 118) 25 3 (.int .i64 0) 8 rfl Tryz.underlying25 info3 rfl (by decide) (by omega) v342 y341 y344 _ _ _ (fun k_ => some k_ ≠ (.slice (some ad338) x9_2.length co64 : Value).ownBlock ∧ some k_ ≠ (.slice (some ad328) t325.length co20 : Value).ownBlock ∧ some k_ ≠ (v352 : Value).ownBlock) (fun _ => False) rfl rfl ?aO ?aR (fun _ _ h => h) (fun _ h => h.elim) ?aF ?aB ?aS ?aL ?_
                (case aR => repeat (first | exact (cq HR347) | (with_reducible refine Kd.C_alloc ?_ _) | (with_reducible refine Kd.C_drewN ?_ _) | (with_reducible refine Kd.C_drew ?_)))
                (case aB => exact (sbw))
                (case aF => exact (fun k_ hk => ⟨Kd.fresh' (Kd.R_lt (sr HO_9)) k_ hk, Kd.fresh' (Kd.R_lt (sr HO_10)) k_ hk, Kd.fresh' (Kd.R_lt (sr HO353)) k_ hk⟩))
                (case aO => exact a9_8)
                (case aS => exact (below_size (sbw)))
                (case aL => have := LMc58.out; omega)
                intro v349 w72 ho hb hg hat
                rw [← Ny348.out] at ho
                replace HO_10 := am (Kd.R_after (ok := (fun k_ => some k_ ≠ (.slice (some ad338) x9_2.length co64 : Value).ownBlock ∧ some k_ ≠ (v352 : Value).ownBlock)) (sr HO_10) hg hat)
                replace BK319 := am (blk_grown (g := gb319) (o := .cells #[.int .i64 a0_0, .slice (some ad339) l0_1.length c0_1, .slice A0_2 l0_2.length c0_2] 50 (0, 0)) (sk BK319) hg (Kd.R_ne HO343.out BK319.out (by decide)))
                replace HO353 := am (Kd.R_after (ok := (fun k_ => some k_ ≠ (.slice (some ad338) x9_2.length co64 : Value).ownBlock ∧ some k_ ≠ (.slice (some ad328) t325.length co20 : Value).ownBlock)) a9_9 hg hat)
                replace HB := am hb
                replace HR347 := am ((show Kd.C (Kd.int .i64) w72 (some ad338) y344.length y344 from by rw [Ny344.out]; exact Kd.C_take (m := (x13_4 : Int).toNat) ((Kd.R_reads' (Kd.R_after (ok := (fun k_ => some k_ ≠ (.slice (some ad328) t325.length co20 : Value).ownBlock ∧ some k_ ≠ (v352 : Value).ownBlock)) (sr HO_9) hg hat)).2.2) KL66.out))
                replace HR360 := am ((show Kd.C (Kd.int .i64) w72 A67 y357.length y357 from by rw [Ny357.out, KA67.out]; exact Kd.C_drop (m := (x13_4 : Int).toNat) (c := co64) ((Kd.R_reads' (Kd.R_after (ok := (fun k_ => some k_ ≠ (.slice (some ad328) t325.length co20 : Value).ownBlock ∧ some k_ ≠ (v352 : Value).ownBlock)) (sr HO_9) hg hat)).2.2) KL67.out ((Kd.R_reads' (Kd.R_after (ok := (fun k_ => some k_ ≠ (.slice (some ad328) t325.length co20 : Value).ownBlock ∧ some k_ ≠ (v352 : Value).ownBlock)) (sr HO_9) hg hat)).2.1)))
                replace HO_9 := am (Kd.R_after (ok := (fun k_ => some k_ ≠ (.slice (some ad328) t325.length co20 : Value).ownBlock ∧ some k_ ≠ (v352 : Value).ownBlock)) (sr HO_9) hg hat)
                have HO350 := am ho
                clear HO343 ho hb hg hat
                refine hw_ hK trivial (fun hHeld => ?_)
                clear hK K
                exact norm_ a9_1 (hCont (v342, v349, v352) _ ⟨a9_6, a9_14, a9_3, a9_4, (sk BK319), (sbw)⟩)
              rintro ⟨v342, v349, v352⟩ w73 ⟨h0_, h1_, h2_, h3_, h4_, h5_⟩
              have HO350 : Aside0 (Kd.R (Kd.int .i64) 3 w73 w.heap.size (fun k_ => some k_ ≠ (v352 : Value).ownBlock ∧ some k_ ≠ (.slice (some ad328) t325.length co20 : Value).ownBlock ∧ some k_ ≠ (.slice (some ad338) x9_2.length co64 : Value).ownBlock) v349 y348) := ⟨h0_⟩
              have HO353 : Aside0 (Kd.R (Kd.int .i64) 3 w73 w.heap.size (fun k_ => some k_ ≠ (v349 : Value).ownBlock ∧ some k_ ≠ (.slice (some ad328) t325.length co20 : Value).ownBlock ∧ some k_ ≠ (.slice (some ad338) x9_2.length co64 : Value).ownBlock) v352 y351) := ⟨h1_⟩
              replace HO_10 : Aside0 (Kd.R (Kd.int .i64) 3 w73 w.heap.size (fun k_ => some k_ ≠ (v349 : Value).ownBlock ∧ some k_ ≠ (v352 : Value).ownBlock ∧ some k_ ≠ (.slice (some ad338) x9_2.length co64 : Value).ownBlock) (.slice (some ad328) t325.length co20) t325) := ⟨h2_⟩
              replace HO_9 : Aside0 (Kd.R (Kd.int .i64) 3 w73 w.heap.size (fun k_ => some k_ ≠ (v349 : Value).ownBlock ∧ some k_ ≠ (v352 : Value).ownBlock ∧ some k_ ≠ (.slice (some ad328) t325.length co20 : Value).ownBlock) (.slice (some ad338) x9_2.length co64) x9_2) := ⟨h3_⟩
              replace BK319 : Aside0 (w73.heap[gb319]? = some (.cells #[.int .i64 a0_0, .slice (some ad339) l0_1.length c0_1, .slice A0_2 l0_2.length c0_2] 50 (0, 0))) := ⟨h4_⟩
              replace HB : Aside0 (Below w.heap.size w w73) := ⟨h5_⟩
              clear h0_ h1_ h2_ h3_ h4_ h5_
              have hHeld := trivial
              obtain ⟨Ao75, co75, eo75⟩ := Kd.R_slice HO353.out
              (first | subst eo75 | (injection eo75 with f1_ f2_ f3_; have f4_ := f1_.symm; have f5_ := f3_.symm; clear f1_ f2_ f3_; subst f4_; subst f5_))
              refine norm_ (a' := ?_) ?_ ?_
              rotate_left
              ·simp only [putAll, Act.put, List.setIfInBounds_toArray, List.set_cons_zero, List.set_cons_succ]
               rfl
              refine ow_ 7 (fun K hK => ?_)
              refine Kd.R_append_rows_step (Kd.int .i64) (w0 := w) w.heap.size (by rfl) (.tmp 119) (.tmp 121) 25 3 (.int .i64 0) 8 rfl Tryz.underlying25 info3 rfl (by decide) (by omega) v349 y348 y351 _ _ _ (fun k_ => some k_ ≠ (.slice (some ad338) x9_2.length co64 : Value).ownBlock ∧ some k_ ≠ (.slice (some ad328) t325.length co20 : Value).ownBlock ∧ some k_ ≠ (.slice Ao75 y351.length co75 : Value).ownBlock) (fun _ => False) rfl rfl ?aO ?aR (fun _ _ h => h) (fun _ h => h.elim) ?aF ?aB ?aS ?aL ?_
              (case aR => repeat (first | exact (Kd.R_reads' HO353.out).2.2 | (with_reducible refine Kd.C_alloc ?_ _) | (with_reducible refine Kd.C_drewN ?_ _) | (with_reducible refine Kd.C_drew ?_)))
              (case aB => exact (sbw))
              (case aF => exact (fun k_ hk => ⟨Kd.fresh' (Kd.R_lt (sr HO_9)) k_ hk, Kd.fresh' (Kd.R_lt (sr HO_10)) k_ hk, Kd.fresh' (Kd.R_lt (sr HO353)) k_ hk⟩))
              (case aO => exact a9_6)
              (case aS => exact (below_size (sbw)))
              (case aL => have := LMc59.out; omega)
              intro v355 w74 ho hb hg hat
              rw [← Ny354.out] at ho
              replace HO_9 := am (Kd.R_after (ok := (fun k_ => some k_ ≠ (.slice (some ad328) t325.length co20 : Value).ownBlock ∧ some k_ ≠ (.slice Ao75 y351.length co75 : Value).ownBlock)) a9_18 hg hat)
              replace HO_10 := am (Kd.R_after (ok := (fun k_ => some k_ ≠ (.slice (some ad338) x9_2.length co64 : Value).ownBlock ∧ some k_ ≠ (.slice Ao75 y351.length co75 : Value).ownBlock)) a9_15 hg hat)
              replace BK319 := am (blk_grown (g := gb319) (o := .cells #[.int .i64 a0_0, .slice (some ad339) l0_1.length c0_1, .slice A0_2 l0_2.length c0_2] 50 (0, 0)) (sk BK319) hg (Kd.R_ne HO350.out BK319.out (by decide)))
              replace HO353 := am (Kd.R_after (ok := (fun k_ => some k_ ≠ (.slice (some ad338) x9_2.length co64 : Value).ownBlock ∧ some k_ ≠ (.slice (some ad328) t325.length co20 : Value).ownBlock)) (by exact rm HO353 (fun _ hk => ⟨⟨hk.2.2, hk.2.1⟩, hk.1⟩)) hg hat)
              replace HB := am hb
              have HO356 := am ho
              clear HO350 ho hb hg hat
              refine hw_ hK trivial (fun hHeld => ?_)
              clear hK K
              refine ow_ 11 (fun K hK => ?_)
              refine Kd.R_append_rows_step (Kd.int .i64) (w0 := w) w.heap.size (by rfl) (.tmp 122) (.tmp 125) 25 3 (.int .i64 0) 8 rfl Tryz.underlying25 info3 rfl (by decide) (by omega) v355 y354 y357 _ _ _ (fun k_ => some k_ ≠ (.slice (some ad338) x9_2.length co64 : Value).ownBlock ∧ some k_ ≠ (.slice (some ad328) t325.length co20 : Value).ownBlock ∧ some k_ ≠ (.slice Ao75 y351.length co75 : Value).ownBlock) (fun _ => False) rfl rfl ?aO ?aR (fun _ _ h => h) (fun _ h => h.elim) ?aF ?aB ?aS ?aL ?_
              (case aR => exact (show Kd.C (Kd.int .i64) _ A67 y357.length y357 from by rw [Ny357.out, KA67.out]; exact Kd.C_drop (m := (x13_4 : Int).toNat) (c := co64) ((Kd.R_reads' (sr HO_9)).2.2) KL67.out ((Kd.R_reads' HO_9.out).2.1)))
              (case aB => exact (sbw))
              (case aF => exact (fun k_ hk => ⟨Kd.fresh' (Kd.R_lt (sr HO_9)) k_ hk, Kd.fresh' (Kd.R_lt (sr HO_10)) k_ hk, Kd.fresh' (Kd.R_lt (sr HO353)) k_ hk⟩))
              (case aO => exact (sr HO356))
              (case aS => exact (below_size (sbw)))
              (case aL => have := LMc62.out; omega)
              intro v362 w76 ho hb hg hat
              rw [← Ny361.out] at ho
              replace HO_9 := am (Kd.R_after (ok := (fun k_ => some k_ ≠ (.slice (some ad328) t325.length co20 : Value).ownBlock ∧ some k_ ≠ (.slice Ao75 y351.length co75 : Value).ownBlock)) (sr HO_9) hg hat)
              replace HO_10 := am (Kd.R_after (ok := (fun k_ => some k_ ≠ (.slice (some ad338) x9_2.length co64 : Value).ownBlock ∧ some k_ ≠ (.slice Ao75 y351.length co75 : Value).ownBlock)) (sr HO_10) hg hat)
              replace BK319 := am (blk_grown (g := gb319) (o := .cells #[.int .i64 a0_0, .slice (some ad339) l0_1.length c0_1, .slice A0_2 l0_2.length c0_2] 50 (0, 0)) (sk BK319) hg (Kd.R_ne HO356.out BK319.out (by decide)))
              replace HO353 := am (Kd.R_after (ok := (fun k_ => some k_ ≠ (.slice (some ad338) x9_2.length co64 : Value).ownBlock ∧ some k_ ≠ (.slice (some ad328) t325.length co20 : Value).ownBlock)) (sr HO353) hg hat)
              replace HB := am hb
              have HO363 := am ho
              clear HO356 ho hb hg hat
              refine hw_ hK trivial (fun hHeld => ?_)
              clear hK K
              refine r1_ 12 ?_
              refine done_ (done_of HT_.out (by kernel_rfl)) ?_
              try go_wp2
              go_roundg k4
              case measure => have := HJ4.out; have := HK2.out; have := HJ18.out; have := HK4.out; omega
              case rel => exact ⟨(y361), (wrap64 (x11_2 + 1)), sc, H', ⟨a9_5⟩, ⟨by exact rm HO363 (fun _ hk => hk.2.1)⟩, ⟨by exact rm HO_10 (fun _ hk => hk.2)⟩, ⟨sk BK319⟩, ⟨sbw⟩⟩
            ·obtain ⟨y364, Ny364, H⟩ := iy_ H
             obtain ⟨c77, H⟩ := ia_ H
             have c77b0 := eq_true c77
             have c77b1 := decide_eq_true c77
             clear c77
             obtain ⟨c78, H⟩ := ia_ H
             have c78b0 := eq_true c78
             have c78b1 := decide_eq_true c78
             clear c78
             obtain ⟨y367, Ny367, H⟩ := iy_ H
             obtain ⟨LMc79, H⟩ := il_ H
             obtain ⟨y371, Ny371, H⟩ := iy_ H
             obtain ⟨y374, Ny374, H⟩ := iy_ H
             obtain ⟨LMc80, H⟩ := il_ H
             obtain ⟨y377, Ny377, H⟩ := iy_ H
             have c81b0 := eq_true (sa : 0 ≤ x13_4)
             have c82b0 := eq_true (sa : x13_4 ≤ (x9_2.length : Int))
             obtain ⟨y380, Ny380, H⟩ := iy_ H
             obtain ⟨LMc83, H⟩ := il_ H
             obtain ⟨y384, hy384⟩ : ∃ y_ : List Int, y_ = (y377 ++ y380) := ⟨_, rfl⟩
             replace H : (spec_AltsOf.l0 k4 a2 a3 y384 t325 (wrap64 (x11_2 + 1)) a0_0 l0_1 l0_2) = some r := ry hy384 H
             have Ny384 := am hy384
             clear hy384
             have H' := am H
             clear H
             try go_wp2
             replace HO_9 := am (Kd.R_drew HO_9.out)
             replace HO_10 := am (Kd.R_drew HO_10.out)
             replace BK319 := am (blk_drew BK319.out)
             replace HB := am (below_drew1 HB.out)
             obtain ⟨Ao85, co85, eo85⟩ := Kd.R_slice HO_9.out
             (first | subst eo85 | (injection eo85 with f1_ f2_ f3_; have f4_ := f1_.symm; have f5_ := f3_.symm; clear f1_ f2_ f3_; subst f4_; subst f5_))
             refine start_ (n := 20) (S := fun w' => True) (ds := []) (bt 20 0) (by kernel_rfl) rfl (by kernel_rfl) trivial (fun hHeld => ?_); refine with_tabW spec_AltsOf.tab11 spec_AltsOf.bits11 (fun HT_ HW_ => ?_)
             generalize wr.drew = w84 at HO_9 HO_10 BK319 HB hHeld ⊢
             refine r10_ 0 1 2 3 4 5 6 7 8 9 ?_
             refine r10_ 10 11 12 13 14 15 16 17 18 19 ?_
             refine done_ (done_of HT_.out (by kernel_rfl)) ?_
             try go_wp2
             replace HO_9 := am (Kd.R_drew HO_9.out)
             replace HO_10 := am (Kd.R_drew HO_10.out)
             replace BK319 := am (blk_drew BK319.out)
             replace HB := am (below_drew1 HB.out)
             have q87 : (x13_4 : Int) ≤ ((x9_2.length : Int) : Int) := sa
             obtain ⟨i087, hi087, _, hsz87, _⟩ := info_parts info3
             have hroom87 : x9_2.length ≤ co85 := (Kd.R_reads' HO_9.out).2.1
             have hC87 : Kd.C (Kd.int .i64) _ Ao85 x9_2.length x9_2 := (Kd.R_reads' HO_9.out).2.2
             have hcut87 := cut_to (P := Tryz.prog) 25 3 .i64 Tryz.underlying25 hi087 Ao85 x9_2.length co85 x13_4 (sa) q87 hroom87
             have hr87 := Kd.C_take (m := (x13_4 : Int).toNat) hC87 (by omega)
             have hy87 : y367.length = (x13_4 : Int).toNat := (by rw [Ny367.out, List.length_take]; omega)
             rw [← Ny367.out] at hr87
             rw [← hy87] at hcut87
             have HR370 := am hr87
             have HC370 := am (show y367.length ≤ co85 from by omega)
             clear hr87 hC87 hroom87 hi087 hsz87
             have KY87 := am hy87
             clear hy87
             have KL87 := am (show (x13_4 : Int).toNat ≤ x9_2.length from by omega)
             replace q87 := eq_true q87
             have q88 : (x13_4 : Int) ≤ ((x9_2.length : Int) : Int) := sa
             obtain ⟨i088, hi088, _, hsz88, _⟩ := info_parts info3
             have hroom88 : x9_2.length ≤ co85 := (Kd.R_reads' HO_9.out).2.1
             have hC88 : Kd.C (Kd.int .i64) _ Ao85 x9_2.length x9_2 := (Kd.R_reads' HO_9.out).2.2
             have q088 : (0 : Int) ≤ (x13_4 : Int) := sa
             have hcut88 := cut_from (P := Tryz.prog) 25 3 .i64 Tryz.underlying25 hi088 1 hsz88 Ao85 x9_2.length co85 x13_4 q088 q88
             have hr88 := Kd.C_drop (m := (x13_4 : Int).toNat) (c := co85) hC88 (by omega) hroom88
             obtain ⟨A88, hA88⟩ : ∃ A1, A1 = (if co85 = (x13_4 : Int).toNat then Ao85 else (Ao85 : Option Addr).map (·.add ((x13_4 : Int).toNat * 1))) := ⟨_, rfl⟩
             obtain ⟨c88, hc88⟩ : ∃ c1, c1 = co85 - (x13_4 : Int).toNat := ⟨_, rfl⟩
             have hy88 : y380.length = x9_2.length - (x13_4 : Int).toNat := (by rw [Ny380.out, List.length_drop] <;> omega)
             rw [show (x9_2).drop (x13_4 : Int).toNat = y380 from Ny380.out.symm] at hr88
             replace hr88 : Kd.C (Kd.int .i64) _ A88 y380.length y380 := (by rw [hA88]; exact hr88)
             rw [← hy88, ← hA88, ← hc88] at hcut88
             have HR383 := am hr88
             have HC383 := am (show y380.length ≤ c88 from by rw [hy88, hc88]; exact Nat.sub_le_sub_right hroom88 _)
             clear hr88 hC88 hroom88 hi088 hsz88 hc88
             have KY88 := am hy88
             have KA88 := am hA88
             clear hy88 hA88
             have KL88 := am (show (x13_4 : Int).toNat ≤ x9_2.length from by omega)
             replace q88 := eq_true q88
             refine start_ (n := 13) (S := fun w' => True) (ds := []) (bt 13 0) (by kernel_rfl) rfl (by kernel_rfl) trivial (fun hHeld => ?_); refine with_tabW spec_AltsOf.tab13 spec_AltsOf.bits13 (fun HT_ HW_ => ?_)
             generalize w84.drew = w86 at HO_9 HO_10 BK319 HB HR370 HR383 hHeld ⊢
             refine r7_ 1 2 3 5 8 9 10 ?_
             refine join_ (σ := Value × Value × Value) 3 (bt 13 1919) (fun s_ => [(115, s_.1), (119, s_.2.1), (121, s_.2.2)]) (fun s_ w' => (Kd.R (Kd.int .i64) 3 w' w.heap.size (fun k_ => some k_ ≠ (s_.2.2 : Value).ownBlock ∧ some k_ ≠ (.slice (some ad328) t325.length co20 : Value).ownBlock ∧ some k_ ≠ (.slice Ao85 x9_2.length co85 : Value).ownBlock) s_.2.1 y371) ∧ (Kd.R (Kd.int .i64) 3 w' w.heap.size (fun k_ => some k_ ≠ (s_.2.1 : Value).ownBlock ∧ some k_ ≠ (.slice (some ad328) t325.length co20 : Value).ownBlock ∧ some k_ ≠ (.slice Ao85 x9_2.length co85 : Value).ownBlock) s_.2.2 y374) ∧ (Kd.R (Kd.int .i64) 3 w' w.heap.size (fun k_ => some k_ ≠ (s_.2.1 : Value).ownBlock ∧ some k_ ≠ (s_.2.2 : Value).ownBlock ∧ some k_ ≠ (.slice Ao85 x9_2.length co85 : Value).ownBlock) (.slice (some ad328) t325.length co20) t325) ∧ (Kd.R (Kd.int .i64) 3 w' w.heap.size (fun k_ => some k_ ≠ (s_.2.1 : Value).ownBlock ∧ some k_ ≠ (s_.2.2 : Value).ownBlock ∧ some k_ ≠ (.slice (some ad328) t325.length co20 : Value).ownBlock) (.slice Ao85 x9_2.length co85) x9_2) ∧ (w'.heap[gb319]? = some (.cells #[.int .i64 a0_0, .slice A0_1 l0_1.length c0_1, .slice A0_2 l0_2.length c0_2] 50 (0, 0))) ∧ (Below w.heap.size w w')) ?_ ?_
             rotate_left
             ·intro hCont
              refine tw_ 0 6 (fun K hK => ?_) (fun K hK => ?_)
              ·skip
               refine Kd.R_lit_step (Kd.int .i64) _ 3 ?hg (N := 115) ?hd (xs := ([] : List Int)) (inner := []) (ok := fun _ => True) (okp := fun _ => True) ?hr ?hp (fun _ hk => hk) trivial (Below.refl _ _) (Nat.le_refl _) (by simp) ?_; (case hd => rfl); (case hg => rfl); (case hr => first | (go_simp; done) | (go_simp; rfl)); (case hp => exact (Reps.none _ _))
               intro v365 w89 ho90 hb hg_ hnew_
               clear hg_ hnew_
               (first | rw [← Ny364.out] at ho90 | (simp only [Int.reduceToNat] at ho90; rw [← Ny364.out] at ho90))
               have HO366 := am (Kd.R_lower (Kd.R_new' (Kd.R_new' ho90 (Kd.R_lt (sr HO_9))) (Kd.R_lt (sr HO_10))) (below_size (sbw)))
               replace HO_9 := am (Kd.R_elder' (sr HO_9) (Kd.R_base ho90) hb)
               replace HO_10 := am (Kd.R_elder' (sr HO_10) (Kd.R_base ho90) hb)
               replace BK319 := bb BK319 hb
               replace HR370 := am (Kd.C_below (cq HR370) hb)
               replace HR383 := am (Kd.C_below (cq HR383) hb)
               replace HB := bsw hb
               clear hb ho90
               refine hw_ hK trivial (fun hHeld => ?_)
               clear hK K
               refine tw_ 4 6 (fun K hK => ?_) (fun K hK => ?_)
               ·skip
                refine Kd.R_append_rows_step (Kd.int .i64) (w0 := w) w.heap.size (by rfl) (.tmp 115) (.tmp 118) 25 3 (.int .i64 0) 8 rfl Tryz.underlying25 info3 rfl (by decide) (by omega) v365 y364 y367 _ _ _ (fun k_ => some k_ ≠ (.slice Ao85 x9_2.length co85 : Value).ownBlock ∧ some k_ ≠ (.slice (some ad328) t325.length co20 : Value).ownBlock) (fun _ => False) rfl rfl ?aO ?aR (fun _ _ h => h) (fun _ h => h.elim) ?aF ?aB ?aS ?aL ?_
                (case aR => repeat (first | exact (cq HR370) | (with_reducible refine Kd.C_alloc ?_ _) | (with_reducible refine Kd.C_drewN ?_ _) | (with_reducible refine Kd.C_drew ?_)))
                (case aB => exact (sbw))
                (case aF => exact (fun k_ hk => ⟨Kd.fresh' (Kd.R_lt (sr HO_9)) k_ hk, Kd.fresh' (Kd.R_lt (sr HO_10)) k_ hk⟩))
                (case aO => exact (by exact rm HO366 (fun _ hk => ⟨hk.1.2, hk.2⟩)))
                (case aS => exact (below_size (sbw)))
                (case aL => have := LMc79.out; omega)
                intro v372 w91 ho hb hg hat
                rw [← Ny371.out] at ho
                replace HO_10 := am (Kd.R_after (ok := (fun k_ => some k_ ≠ (.slice Ao85 x9_2.length co85 : Value).ownBlock)) (sr HO_10) hg hat)
                replace BK319 := am (blk_grown (g := gb319) (o := .cells #[.int .i64 a0_0, .slice A0_1 l0_1.length c0_1, .slice A0_2 l0_2.length c0_2] 50 (0, 0)) (sk BK319) hg (Kd.R_ne HO366.out BK319.out (by decide)))
                replace HB := am hb
                replace HR370 := am ((show Kd.C (Kd.int .i64) w91 Ao85 y367.length y367 from by rw [Ny367.out]; exact Kd.C_take (m := (x13_4 : Int).toNat) ((Kd.R_reads' (Kd.R_after (ok := (fun k_ => some k_ ≠ (.slice (some ad328) t325.length co20 : Value).ownBlock)) (sr HO_9) hg hat)).2.2) KL87.out))
                replace HR383 := am ((show Kd.C (Kd.int .i64) w91 A88 y380.length y380 from by rw [Ny380.out, KA88.out]; exact Kd.C_drop (m := (x13_4 : Int).toNat) (c := co85) ((Kd.R_reads' (Kd.R_after (ok := (fun k_ => some k_ ≠ (.slice (some ad328) t325.length co20 : Value).ownBlock)) (sr HO_9) hg hat)).2.2) KL88.out ((Kd.R_reads' (Kd.R_after (ok := (fun k_ => some k_ ≠ (.slice (some ad328) t325.length co20 : Value).ownBlock)) (sr HO_9) hg hat)).2.1)))
                replace HO_9 := am (Kd.R_after (ok := (fun k_ => some k_ ≠ (.slice (some ad328) t325.length co20 : Value).ownBlock)) (sr HO_9) hg hat)
                have HO373 := am ho
                clear HO366 ho hb hg hat
                refine hw_ hK trivial (fun hHeld => ?_)
                clear hK K
                refine ow_ 6 (fun K hK => ?_)
                refine Kd.R_lit_step (Kd.int .i64) _ 3 ?hg (N := 121) ?hd (xs := ([(rd t325 x11_2)] : List Int)) (inner := [.int .i64 (rd t325 x11_2)]) (ok := fun _ => True) (okp := fun _ => True) ?hr ?hp (fun _ hk => hk) trivial (Below.refl _ _) (Nat.le_refl _) (by simp) ?_; (case hd => rfl); (case hg => rfl); (case hr => first | (go_simp; done) | (go_simp; rfl)); (case hp => exact (Reps.one (show Kd.M (Kd.int .i64) _ _ _ (rd t325 x11_2) [.int .i64 (rd t325 x11_2)] from rfl) (Reps.none _ _)))
                intro v375 w92 ho93 hb hg_ hnew_
                clear hg_ hnew_
                (first | rw [← Ny374.out] at ho93 | (simp only [Int.reduceToNat] at ho93; rw [← Ny374.out] at ho93))
                have HO376 := am (Kd.R_lower (Kd.R_new' (Kd.R_new' (Kd.R_new' ho93 (Kd.R_lt (sr HO_9))) (Kd.R_lt (sr HO_10))) (Kd.R_lt (sr HO373))) (below_size (sbw)))
                replace HO_9 := am (Kd.R_elder' (sr HO_9) (Kd.R_base ho93) hb)
                replace HO_10 := am (Kd.R_elder' (sr HO_10) (Kd.R_base ho93) hb)
                replace HO373 := am (Kd.R_elder' (sr HO373) (Kd.R_base ho93) hb)
                replace BK319 := bb BK319 hb
                replace HR370 := am (Kd.C_below (cq HR370) hb)
                replace HR383 := am (Kd.C_below (cq HR383) hb)
                replace HB := bsw hb
                clear hb ho93
                refine hw_ hK trivial (fun hHeld => ?_)
                clear hK K
                exact norm_ a9_1 (hCont (v365, v372, v375) _ ⟨(by exact rm HO373 (fun _ hk => ⟨hk.2, ⟨hk.1.2, hk.1.1⟩⟩)), (by exact rm HO376 (fun _ hk => ⟨hk.2, ⟨hk.1.2, hk.1.1.2⟩⟩)), a9_12, a9_17, (sk BK319), (sbw)⟩)
               ·skip
                refine Kd.R_lit_step (Kd.int .i64) _ 3 ?hg (N := 121) ?hd (xs := ([(rd t325 x11_2)] : List Int)) (inner := [.int .i64 (rd t325 x11_2)]) (ok := fun _ => True) (okp := fun _ => True) ?hr ?hp (fun _ hk => hk) trivial (Below.refl _ _) (Nat.le_refl _) (by simp) ?_; (case hd => rfl); (case hg => rfl); (case hr => first | (go_simp; done) | (go_simp; rfl)); (case hp => exact (Reps.one (show Kd.M (Kd.int .i64) _ _ _ (rd t325 x11_2) [.int .i64 (rd t325 x11_2)] from rfl) (Reps.none _ _)))
                intro v375 w91 ho92 hb hg_ hnew_
                clear hg_ hnew_
                (first | rw [← Ny374.out] at ho92 | (simp only [Int.reduceToNat] at ho92; rw [← Ny374.out] at ho92))
                have HO376 := am (Kd.R_lower (Kd.R_new' (Kd.R_new' (Kd.R_new' ho92 (Kd.R_lt (sr HO_9))) (Kd.R_lt (sr HO_10))) (Kd.R_lt (sr HO366))) (below_size (sbw)))
                replace HO_9 := am (Kd.R_elder' (sr HO_9) (Kd.R_base ho92) hb)
                replace HO_10 := am (Kd.R_elder' (sr HO_10) (Kd.R_base ho92) hb)
                replace HO366 := am (Kd.R_elder' (sr HO366) (Kd.R_base ho92) hb)
                replace BK319 := bb BK319 hb
                replace HR370 := am (Kd.C_below (cq HR370) hb)
                replace HR383 := am (Kd.C_below (cq HR383) hb)
                replace HB := bsw hb
                clear hb ho92
                refine hw_ hK trivial (fun hHeld => ?_)
                clear hK K
                refine ow_ 4 (fun K hK => ?_)
                refine Kd.R_append_rows_step (Kd.int .i64) (w0 := w) w.heap.size (by rfl) (.tmp 115) (.tmp 118) 25 3 (.int .i64 0) 8 rfl Tryz.underlying25 info3 rfl (by decide) (by omega) v365 y364 y367 _ _ _ (fun k_ => some k_ ≠ (.slice Ao85 x9_2.length co85 : Value).ownBlock ∧ some k_ ≠ (.slice (some ad328) t325.length co20 : Value).ownBlock ∧ some k_ ≠ (v375 : Value).ownBlock) (fun _ => False) rfl rfl ?aO ?aR (fun _ _ h => h) (fun _ h => h.elim) ?aF ?aB ?aS ?aL ?_
                (case aR => repeat (first | exact (cq HR370) | (with_reducible refine Kd.C_alloc ?_ _) | (with_reducible refine Kd.C_drewN ?_ _) | (with_reducible refine Kd.C_drew ?_)))
                (case aB => exact (sbw))
                (case aF => exact (fun k_ hk => ⟨Kd.fresh' (Kd.R_lt (sr HO_9)) k_ hk, Kd.fresh' (Kd.R_lt (sr HO_10)) k_ hk, Kd.fresh' (Kd.R_lt (sr HO376)) k_ hk⟩))
                (case aO => exact a9_10)
                (case aS => exact (below_size (sbw)))
                (case aL => have := LMc79.out; omega)
                intro v372 w93 ho hb hg hat
                rw [← Ny371.out] at ho
                replace HO_10 := am (Kd.R_after (ok := (fun k_ => some k_ ≠ (.slice Ao85 x9_2.length co85 : Value).ownBlock ∧ some k_ ≠ (v375 : Value).ownBlock)) a9_13 hg hat)
                replace BK319 := am (blk_grown (g := gb319) (o := .cells #[.int .i64 a0_0, .slice A0_1 l0_1.length c0_1, .slice A0_2 l0_2.length c0_2] 50 (0, 0)) (sk BK319) hg (Kd.R_ne HO366.out BK319.out (by decide)))
                replace HO376 := am (Kd.R_after (ok := (fun k_ => some k_ ≠ (.slice Ao85 x9_2.length co85 : Value).ownBlock ∧ some k_ ≠ (.slice (some ad328) t325.length co20 : Value).ownBlock)) a9_11 hg hat)
                replace HB := am hb
                replace HR370 := am ((show Kd.C (Kd.int .i64) w93 Ao85 y367.length y367 from by rw [Ny367.out]; exact Kd.C_take (m := (x13_4 : Int).toNat) ((Kd.R_reads' (Kd.R_after (ok := (fun k_ => some k_ ≠ (.slice (some ad328) t325.length co20 : Value).ownBlock ∧ some k_ ≠ (v375 : Value).ownBlock)) a9_2 hg hat)).2.2) KL87.out))
                replace HR383 := am ((show Kd.C (Kd.int .i64) w93 A88 y380.length y380 from by rw [Ny380.out, KA88.out]; exact Kd.C_drop (m := (x13_4 : Int).toNat) (c := co85) ((Kd.R_reads' (Kd.R_after (ok := (fun k_ => some k_ ≠ (.slice (some ad328) t325.length co20 : Value).ownBlock ∧ some k_ ≠ (v375 : Value).ownBlock)) a9_2 hg hat)).2.2) KL88.out ((Kd.R_reads' (Kd.R_after (ok := (fun k_ => some k_ ≠ (.slice (some ad328) t325.length co20 : Value).ownBlock ∧ some k_ ≠ (v375 : Value).ownBlock)) a9_2 hg hat)).2.1)))
                replace HO_9 := am (Kd.R_after (ok := (fun k_ => some k_ ≠ (.slice (some ad328) t325.length co20 : Value).ownBlock ∧ some k_ ≠ (v375 : Value).ownBlock)) a9_2 hg hat)
                have HO373 := am ho
                clear HO366 ho hb hg hat
                refine hw_ hK trivial (fun hHeld => ?_)
                clear hK K
                exact norm_ a9_1 (hCont (v365, v372, v375) _ ⟨a9_7, a9_16, a9_3, a9_4, (sk BK319), (sbw)⟩)
              ·skip
               refine Kd.R_lit_step (Kd.int .i64) _ 3 ?hg (N := 121) ?hd (xs := ([(rd t325 x11_2)] : List Int)) (inner := [.int .i64 (rd t325 x11_2)]) (ok := fun _ => True) (okp := fun _ => True) ?hr ?hp (fun _ hk => hk) trivial (Below.refl _ _) (Nat.le_refl _) (by simp) ?_; (case hd => rfl); (case hg => rfl); (case hr => first | (go_simp; done) | (go_simp; rfl)); (case hp => exact (Reps.one (show Kd.M (Kd.int .i64) _ _ _ (rd t325 x11_2) [.int .i64 (rd t325 x11_2)] from rfl) (Reps.none _ _)))
               intro v375 w89 ho90 hb hg_ hnew_
               clear hg_ hnew_
               (first | rw [← Ny374.out] at ho90 | (simp only [Int.reduceToNat] at ho90; rw [← Ny374.out] at ho90))
               have HO376 := am (Kd.R_lower (Kd.R_new' (Kd.R_new' ho90 (Kd.R_lt (sr HO_9))) (Kd.R_lt (sr HO_10))) (below_size (sbw)))
               replace HO_9 := am (Kd.R_elder' (sr HO_9) (Kd.R_base ho90) hb)
               replace HO_10 := am (Kd.R_elder' (sr HO_10) (Kd.R_base ho90) hb)
               replace BK319 := bb BK319 hb
               replace HR370 := am (Kd.C_below (cq HR370) hb)
               replace HR383 := am (Kd.C_below (cq HR383) hb)
               replace HB := bsw hb
               clear hb ho90
               refine hw_ hK trivial (fun hHeld => ?_)
               clear hK K
               refine ow_ 0 (fun K hK => ?_)
               refine Kd.R_lit_step (Kd.int .i64) _ 3 ?hg (N := 115) ?hd (xs := ([] : List Int)) (inner := []) (ok := fun _ => True) (okp := fun _ => True) ?hr ?hp (fun _ hk => hk) trivial (Below.refl _ _) (Nat.le_refl _) (by simp) ?_; (case hd => rfl); (case hg => rfl); (case hr => first | (go_simp; done) | (go_simp; rfl)); (case hp => exact (Reps.none _ _))
               intro v365 w91 ho92 hb hg_ hnew_
               clear hg_ hnew_
               (first | rw [← Ny364.out] at ho92 | (simp only [Int.reduceToNat] at ho92; rw [← Ny364.out] at ho92))
               have HO366 := am (Kd.R_lower (Kd.R_new' (Kd.R_new' (Kd.R_new' ho92 (Kd.R_lt (sr HO_9))) (Kd.R_lt (sr HO_10))) (Kd.R_lt (sr HO376))) (below_size (sbw)))
               replace HO_9 := am (Kd.R_elder' (sr HO_9) (Kd.R_base ho92) hb)
               replace HO_10 := am (Kd.R_elder' (sr HO_10) (Kd.R_base ho92) hb)
               replace HO376 := am (Kd.R_elder' (sr HO376) (Kd.R_base ho92) hb)
               replace BK319 := bb BK319 hb
               replace HR370 := am (Kd.C_below (cq HR370) hb)
               replace HR383 := am (Kd.C_below (cq HR383) hb)
               replace HB := bsw hb
               clear hb ho92
               refine hw_ hK trivial (fun hHeld => ?_)
               clear hK K
               refine ow_ 4 (fun K hK => ?_)
               refine Kd.R_append_rows_step (Kd.int .i64) (w0 := w) w.heap.size (by rfl) (.tmp 115) (.tmp 118) 25 3 (.int .i64 0) 8 rfl Tryz.underlying25 info3 rfl (by decide) (by omega) v365 y364 y367 _ _ _ (fun k_ => some k_ ≠ (.slice Ao85 x9_2.length co85 : Value).ownBlock ∧ some k_ ≠ (.slice (some ad328) t325.length co20 : Value).ownBlock ∧ some k_ ≠ (v375 : Value).ownBlock) (fun _ => False) rfl rfl ?aO ?aR (fun _ _ h => h) (fun _ h => h.elim) ?aF ?aB ?aS ?aL ?_
               (case aR => repeat (first | exact (cq HR370) | (with_reducible refine Kd.C_alloc ?_ _) | (with_reducible refine Kd.C_drewN ?_ _) | (with_reducible refine Kd.C_drew ?_)))
               (case aB => exact (sbw))
               (case aF => exact (fun k_ hk => ⟨Kd.fresh' (Kd.R_lt (sr HO_9)) k_ hk, Kd.fresh' (Kd.R_lt (sr HO_10)) k_ hk, Kd.fresh' (Kd.R_lt (sr HO376)) k_ hk⟩))
               (case aO => exact a9_10)
               (case aS => exact (below_size (sbw)))
               (case aL => have := LMc79.out; omega)
               intro v372 w93 ho hb hg hat
               rw [← Ny371.out] at ho
               replace HO_10 := am (Kd.R_after (ok := (fun k_ => some k_ ≠ (.slice Ao85 x9_2.length co85 : Value).ownBlock ∧ some k_ ≠ (v375 : Value).ownBlock)) (sr HO_10) hg hat)
               replace BK319 := am (blk_grown (g := gb319) (o := .cells #[.int .i64 a0_0, .slice A0_1 l0_1.length c0_1, .slice A0_2 l0_2.length c0_2] 50 (0, 0)) (sk BK319) hg (Kd.R_ne HO366.out BK319.out (by decide)))
               replace HO376 := am (Kd.R_after (ok := (fun k_ => some k_ ≠ (.slice Ao85 x9_2.length co85 : Value).ownBlock ∧ some k_ ≠ (.slice (some ad328) t325.length co20 : Value).ownBlock)) a9_11 hg hat)
               replace HB := am hb
               replace HR370 := am ((show Kd.C (Kd.int .i64) w93 Ao85 y367.length y367 from by rw [Ny367.out]; exact Kd.C_take (m := (x13_4 : Int).toNat) ((Kd.R_reads' (Kd.R_after (ok := (fun k_ => some k_ ≠ (.slice (some ad328) t325.length co20 : Value).ownBlock ∧ some k_ ≠ (v375 : Value).ownBlock)) (sr HO_9) hg hat)).2.2) KL87.out))
               replace HR383 := am ((show Kd.C (Kd.int .i64) w93 A88 y380.length y380 from by rw [Ny380.out, KA88.out]; exact Kd.C_drop (m := (x13_4 : Int).toNat) (c := co85) ((Kd.R_reads' (Kd.R_after (ok := (fun k_ => some k_ ≠ (.slice (some ad328) t325.length co20 : Value).ownBlock ∧ some k_ ≠ (v375 : Value).ownBlock)) (sr HO_9) hg hat)).2.2) KL88.out ((Kd.R_reads' (Kd.R_after (ok := (fun k_ => some k_ ≠ (.slice (some ad328) t325.length co20 : Value).ownBlock ∧ some k_ ≠ (v375 : Value).ownBlock)) (sr HO_9) hg hat)).2.1)))
               replace HO_9 := am (Kd.R_after (ok := (fun k_ => some k_ ≠ (.slice (some ad328) t325.length co20 : Value).ownBlock ∧ some k_ ≠ (v375 : Value).ownBlock)) (sr HO_9) hg hat)
               have HO373 := am ho
               clear HO366 ho hb hg hat
               refine hw_ hK trivial (fun hHeld => ?_)
               clear hK K
               exact norm_ a9_1 (hCont (v365, v372, v375) _ ⟨a9_7, a9_16, a9_3, a9_4, (sk BK319), (sbw)⟩)
             rintro ⟨v365, v372, v375⟩ w94 ⟨h0_, h1_, h2_, h3_, h4_, h5_⟩
             have HO373 : Aside0 (Kd.R (Kd.int .i64) 3 w94 w.heap.size (fun k_ => some k_ ≠ (v375 : Value).ownBlock ∧ some k_ ≠ (.slice (some ad328) t325.length co20 : Value).ownBlock ∧ some k_ ≠ (.slice Ao85 x9_2.length co85 : Value).ownBlock) v372 y371) := ⟨h0_⟩
             have HO376 : Aside0 (Kd.R (Kd.int .i64) 3 w94 w.heap.size (fun k_ => some k_ ≠ (v372 : Value).ownBlock ∧ some k_ ≠ (.slice (some ad328) t325.length co20 : Value).ownBlock ∧ some k_ ≠ (.slice Ao85 x9_2.length co85 : Value).ownBlock) v375 y374) := ⟨h1_⟩
             replace HO_10 : Aside0 (Kd.R (Kd.int .i64) 3 w94 w.heap.size (fun k_ => some k_ ≠ (v372 : Value).ownBlock ∧ some k_ ≠ (v375 : Value).ownBlock ∧ some k_ ≠ (.slice Ao85 x9_2.length co85 : Value).ownBlock) (.slice (some ad328) t325.length co20) t325) := ⟨h2_⟩
             replace HO_9 : Aside0 (Kd.R (Kd.int .i64) 3 w94 w.heap.size (fun k_ => some k_ ≠ (v372 : Value).ownBlock ∧ some k_ ≠ (v375 : Value).ownBlock ∧ some k_ ≠ (.slice (some ad328) t325.length co20 : Value).ownBlock) (.slice Ao85 x9_2.length co85) x9_2) := ⟨h3_⟩
             replace BK319 : Aside0 (w94.heap[gb319]? = some (.cells #[.int .i64 a0_0, .slice A0_1 l0_1.length c0_1, .slice A0_2 l0_2.length c0_2] 50 (0, 0))) := ⟨h4_⟩
             replace HB : Aside0 (Below w.heap.size w w94) := ⟨h5_⟩
             clear h0_ h1_ h2_ h3_ h4_ h5_
             have hHeld := trivial
             obtain ⟨Ao96, co96, eo96⟩ := Kd.R_slice HO376.out
             (first | subst eo96 | (injection eo96 with f1_ f2_ f3_; have f4_ := f1_.symm; have f5_ := f3_.symm; clear f1_ f2_ f3_; subst f4_; subst f5_))
             refine norm_ (a' := ?_) ?_ ?_
             rotate_left
             ·simp only [putAll, Act.put, List.setIfInBounds_toArray, List.set_cons_zero, List.set_cons_succ]
              rfl
             refine ow_ 7 (fun K hK => ?_)
             refine Kd.R_append_rows_step (Kd.int .i64) (w0 := w) w.heap.size (by rfl) (.tmp 119) (.tmp 121) 25 3 (.int .i64 0) 8 rfl Tryz.underlying25 info3 rfl (by decide) (by omega) v372 y371 y374 _ _ _ (fun k_ => some k_ ≠ (.slice Ao85 x9_2.length co85 : Value).ownBlock ∧ some k_ ≠ (.slice (some ad328) t325.length co20 : Value).ownBlock ∧ some k_ ≠ (.slice Ao96 y374.length co96 : Value).ownBlock) (fun _ => False) rfl rfl ?aO ?aR (fun _ _ h => h) (fun _ h => h.elim) ?aF ?aB ?aS ?aL ?_
             (case aR => repeat (first | exact (Kd.R_reads' HO376.out).2.2 | (with_reducible refine Kd.C_alloc ?_ _) | (with_reducible refine Kd.C_drewN ?_ _) | (with_reducible refine Kd.C_drew ?_)))
             (case aB => exact (sbw))
             (case aF => exact (fun k_ hk => ⟨Kd.fresh' (Kd.R_lt (sr HO_9)) k_ hk, Kd.fresh' (Kd.R_lt (sr HO_10)) k_ hk, Kd.fresh' (Kd.R_lt (sr HO376)) k_ hk⟩))
             (case aO => exact a9_7)
             (case aS => exact (below_size (sbw)))
             (case aL => have := LMc80.out; omega)
             intro v378 w95 ho hb hg hat
             rw [← Ny377.out] at ho
             replace HO_9 := am (Kd.R_after (ok := (fun k_ => some k_ ≠ (.slice (some ad328) t325.length co20 : Value).ownBlock ∧ some k_ ≠ (.slice Ao96 y374.length co96 : Value).ownBlock)) a9_18 hg hat)
             replace HO_10 := am (Kd.R_after (ok := (fun k_ => some k_ ≠ (.slice Ao85 x9_2.length co85 : Value).ownBlock ∧ some k_ ≠ (.slice Ao96 y374.length co96 : Value).ownBlock)) a9_15 hg hat)
             replace BK319 := am (blk_grown (g := gb319) (o := .cells #[.int .i64 a0_0, .slice A0_1 l0_1.length c0_1, .slice A0_2 l0_2.length c0_2] 50 (0, 0)) (sk BK319) hg (Kd.R_ne HO373.out BK319.out (by decide)))
             replace HO376 := am (Kd.R_after (ok := (fun k_ => some k_ ≠ (.slice Ao85 x9_2.length co85 : Value).ownBlock ∧ some k_ ≠ (.slice (some ad328) t325.length co20 : Value).ownBlock)) (by exact rm HO376 (fun _ hk => ⟨⟨hk.2.2, hk.2.1⟩, hk.1⟩)) hg hat)
             replace HB := am hb
             have HO379 := am ho
             clear HO373 ho hb hg hat
             refine hw_ hK trivial (fun hHeld => ?_)
             clear hK K
             refine ow_ 11 (fun K hK => ?_)
             refine Kd.R_append_rows_step (Kd.int .i64) (w0 := w) w.heap.size (by rfl) (.tmp 122) (.tmp 125) 25 3 (.int .i64 0) 8 rfl Tryz.underlying25 info3 rfl (by decide) (by omega) v378 y377 y380 _ _ _ (fun k_ => some k_ ≠ (.slice Ao85 x9_2.length co85 : Value).ownBlock ∧ some k_ ≠ (.slice (some ad328) t325.length co20 : Value).ownBlock ∧ some k_ ≠ (.slice Ao96 y374.length co96 : Value).ownBlock) (fun _ => False) rfl rfl ?aO ?aR (fun _ _ h => h) (fun _ h => h.elim) ?aF ?aB ?aS ?aL ?_
             (case aR => exact (show Kd.C (Kd.int .i64) _ A88 y380.length y380 from by rw [Ny380.out, KA88.out]; exact Kd.C_drop (m := (x13_4 : Int).toNat) (c := co85) ((Kd.R_reads' (sr HO_9)).2.2) KL88.out ((Kd.R_reads' HO_9.out).2.1)))
             (case aB => exact (sbw))
             (case aF => exact (fun k_ hk => ⟨Kd.fresh' (Kd.R_lt (sr HO_9)) k_ hk, Kd.fresh' (Kd.R_lt (sr HO_10)) k_ hk, Kd.fresh' (Kd.R_lt (sr HO376)) k_ hk⟩))
             (case aO => exact (sr HO379))
             (case aS => exact (below_size (sbw)))
             (case aL => have := LMc83.out; omega)
             intro v385 w97 ho hb hg hat
             rw [← Ny384.out] at ho
             replace HO_9 := am (Kd.R_after (ok := (fun k_ => some k_ ≠ (.slice (some ad328) t325.length co20 : Value).ownBlock ∧ some k_ ≠ (.slice Ao96 y374.length co96 : Value).ownBlock)) (sr HO_9) hg hat)
             replace HO_10 := am (Kd.R_after (ok := (fun k_ => some k_ ≠ (.slice Ao85 x9_2.length co85 : Value).ownBlock ∧ some k_ ≠ (.slice Ao96 y374.length co96 : Value).ownBlock)) (sr HO_10) hg hat)
             replace BK319 := am (blk_grown (g := gb319) (o := .cells #[.int .i64 a0_0, .slice A0_1 l0_1.length c0_1, .slice A0_2 l0_2.length c0_2] 50 (0, 0)) (sk BK319) hg (Kd.R_ne HO379.out BK319.out (by decide)))
             replace HO376 := am (Kd.R_after (ok := (fun k_ => some k_ ≠ (.slice Ao85 x9_2.length co85 : Value).ownBlock ∧ some k_ ≠ (.slice (some ad328) t325.length co20 : Value).ownBlock)) (sr HO376) hg hat)
             replace HB := am hb
             have HO386 := am ho
             clear HO379 ho hb hg hat
             refine hw_ hK trivial (fun hHeld => ?_)
             clear hK K
             refine r1_ 12 ?_
             refine done_ (done_of HT_.out (by kernel_rfl)) ?_
             try go_wp2
             go_roundg k4
             case measure => have := HJ4.out; have := HK2.out; have := HJ18.out; have := HK4.out; omega
             case rel => exact ⟨(y384), (wrap64 (x11_2 + 1)), sc, H', ⟨a9_5⟩, ⟨by exact rm HO386 (fun _ hk => hk.2.1)⟩, ⟨by exact rm HO_10 (fun _ hk => hk.2)⟩, ⟨sk BK319⟩, ⟨sbw⟩⟩
      ·obtain rfl := Option.some.inj H
       obtain ⟨Ao98, co98, eo98⟩ := Kd.R_slice HO_10.out
       subst eo98
       go_wp2
       go_ret
       exact ⟨_, se, by exact rm HO_9 (fun _ hk => trivial), sbw⟩

end Go.Proofs.YthnlkgbhohchoaaGreat.QFnExactRepairedAt
