/- Printed by a program of the session. Conditions: none. (squeezed). -/
import Derived.Test.YtohbccekdmdmbaaVFnExactRepairHopQFnExactRepairHopx1
import Derived.Test.YtohbccekdmdmbaaVFnExactRepairHopQFnExactRepairHopx2
namespace Go.Proofs.Ytohbccekdmdmbaa.QFnExactRepairHop
set_option maxHeartbeats 8000000
set_option maxRecDepth 100000
open Go.RowKit Go.Proofs.YtohbccekdmdmbaaW.PrintWords Go.Proofs.YtohbccekdmdmbaaW.PrintLast Go.Proofs.YtohbccekdmdmbaaW.PrintMore Go.Proofs.Ytohbccekdmdmbaa.Open Go.Proofs.Ytohbccekdmdmbaa.Sq
attribute [local go_sem] max2_int min2_int max_two min_two max_three min_three max_four min_four   -- for this text's walks alone
attribute [local go_sem] isSome_set
set_option linter.unusedVariables false
set_option linter.unusedSimpArgs false

theorem a3_18 {P : Prop} (h : P := by exact rm HO_9 (fun _ hk => ⟨⟨hk.2.2, hk.2.1⟩, hk.1⟩)) : P := h
theorem a3_17 {P : Prop} (h : P := by exact rm HO_9 (fun _ hk => ⟨hk.1.2, ⟨hk.2, hk.1.1⟩⟩)) : P := h
theorem a3_16 {P : Prop} (h : P := by exact rm HO250 (fun _ hk => ⟨hk.2, ⟨hk.1.2, hk.1.1⟩⟩)) : P := h
theorem a3_15 {P : Prop} (h : P := by exact rm HO_10 (fun _ hk => ⟨⟨hk.2.2, hk.2.1⟩, hk.1⟩)) : P := h
theorem a3_14 {P : Prop} (h : P := by exact rm HO227 (fun _ hk => ⟨hk.2, ⟨hk.1.2, hk.1.1⟩⟩)) : P := h
theorem a3_13 {P : Prop} (h : P := by exact rm HO_10 (fun _ hk => ⟨⟨hk.1.1, hk.2⟩, hk.1.2⟩)) : P := h
theorem a3_12 {P : Prop} (h : P := by exact rm HO_10 (fun _ hk => ⟨hk.1.2, ⟨hk.2, hk.1.1⟩⟩)) : P := h
theorem a3_11 {P : Prop} (h : P := by exact rm HO250 (fun _ hk => ⟨⟨hk.1.1.2, hk.1.2⟩, hk.2⟩)) : P := h
theorem a3_10 {P : Prop} (h : P := by exact rm HO240 (fun _ hk => ⟨hk.1.1.2, ⟨hk.1.2, hk.2⟩⟩)) : P := h
theorem a3_9 {P : Prop} (h : P := by exact rm HO227 (fun _ hk => ⟨⟨hk.1.1.2, hk.1.2⟩, hk.2⟩)) : P := h
theorem a3_8 {P : Prop} (h : P := by exact rm HO217 (fun _ hk => ⟨hk.1.1.2, ⟨hk.1.2, hk.2⟩⟩)) : P := h
theorem a3_7 {P : Prop} (h : P := by exact rm HO247 (fun _ hk => ⟨hk.2.2, ⟨hk.2.1, hk.1⟩⟩)) : P := h
theorem a3_6 {P : Prop} (h : P := by exact rm HO224 (fun _ hk => ⟨hk.2.2, ⟨hk.2.1, hk.1⟩⟩)) : P := h
theorem a3_5 {P : Prop} (h : P := by have := HJ4.out; have := HK2.out; have := HJ18.out; have := HK4.out; omega) : P := h
theorem a3_4 {P : Prop} (h : P := by exact rm HO_9 (fun _ hk => ⟨hk.2, ⟨hk.1.2, hk.1.1⟩⟩)) : P := h
theorem a3_3 {P : Prop} (h : P := by exact rm HO_10 (fun _ hk => ⟨hk.2, ⟨hk.1.2, hk.1.1⟩⟩)) : P := h
theorem a3_2 {P : Prop} (h : P := by exact rm HO_9 (fun _ hk => ⟨⟨hk.1.1, hk.2⟩, hk.1.2⟩)) : P := h
theorem a3_1 {P : Prop} (h : P := by simp only [putAll, Act.put, List.setIfInBounds_toArray, List.set_cons_zero, List.set_cons_succ]) : P := h
theorem a3_0 {P : Prop} (h : P := by have := HJ4.out; have := HK2.out; first | omega | exact Nat.le_refl _) : P := h
mutual
def spec_AltsOf.j0 : Nat → List (S55) → Int → Int → List Int → Bool → Int → List Int → List Int → Option (List Int)
  | 0, _, _, _, _, _, _, _, _ => none
  | k + 1, x1, x2, x3, x9, x30, x194000, x194001, x194002 => if x30 = true then (some x9) else ((spec_NeighborsIn.f k x1 x3).bind fun t199 => (spec_AltsOf.l0 k x2 x3 x9 t199 0 x194000 x194001 x194002))
def spec_AltsOf.l0 : Nat → Int → Int → List Int → List Int → Int → Int → List Int → List Int → Option (List Int)
  | 0, _, _, _, _, _, _, _, _ => none
  | k + 1, x2, x3, x9, x10, x11, x194000, x194001, x194002 => if x11 < (x10.length : Int) then (if 0 ≤ x11 then (if 0 ≤ x3 then (if x3 < (x194002.length : Int) then (if (rd x10 x11) = (rd x194002 x3) then (spec_AltsOf.j2 k x2 x3 x9 x10 x11 (rd x10 x11) true x194000 x194001 x194002) else (if (rd x10 x11) ≥ x2 then (if (rd x10 x11) = x194000 then ((spec_l1In.f (rd x10 x11) 0 (wrap64 ((x194001.length : Int) - 1))).bind fun t204 => (if t204 = true then (if 0 ≤ (rd x10 x11) then (if (rd x10 x11) < (x194001.length : Int) then (if (rd x194001 (rd x10 x11)) < 0 then (spec_AltsOf.j2 k x2 x3 x9 x10 x11 (rd x10 x11) true x194000 x194001 x194002) else (if x3 < (x194001.length : Int) then (spec_AltsOf.j2 k x2 x3 x9 x10 x11 (rd x10 x11) (decide ((rd x194001 (rd x10 x11)) ≥ (rd x194001 x3))) x194000 x194001 x194002) else (none))) else (none)) else (none)) else (spec_AltsOf.j2 k x2 x3 x9 x10 x11 (rd x10 x11) true x194000 x194001 x194002))) else (spec_AltsOf.j2 k x2 x3 x9 x10 x11 (rd x10 x11) true x194000 x194001 x194002)) else ((spec_l1In.f (rd x10 x11) 0 (wrap64 ((x194001.length : Int) - 1))).bind fun t208 => (if t208 = true then (if 0 ≤ (rd x10 x11) then (if (rd x10 x11) < (x194001.length : Int) then (if (rd x194001 (rd x10 x11)) < 0 then (spec_AltsOf.j2 k x2 x3 x9 x10 x11 (rd x10 x11) true x194000 x194001 x194002) else (if x3 < (x194001.length : Int) then (spec_AltsOf.j2 k x2 x3 x9 x10 x11 (rd x10 x11) (decide ((rd x194001 (rd x10 x11)) ≥ (rd x194001 x3))) x194000 x194001 x194002) else (none))) else (none)) else (none)) else (spec_AltsOf.j2 k x2 x3 x9 x10 x11 (rd x10 x11) true x194000 x194001 x194002))))) else (none)) else (none)) else (none)) else (some x9)
def spec_AltsOf.j2 : Nat → Int → Int → List Int → List Int → Int → Int → Bool → Int → List Int → List Int → Option (List Int)
  | 0, _, _, _, _, _, _, _, _, _, _ => none
  | k + 1, x2, x3, x9, x10, x11, x12, x92, x194000, x194001, x194002 => if x92 = true then (spec_AltsOf.l0 k x2 x3 x9 x10 (wrap64 (x11 + 1)) x194000 x194001 x194002) else (spec_AltsOf.l1 k x2 x3 x9 x10 x11 x12 0 x194000 x194001 x194002)
def spec_AltsOf.l1 : Nat → Int → Int → List Int → List Int → Int → Int → Int → Int → List Int → List Int → Option (List Int)
  | 0, _, _, _, _, _, _, _, _, _, _ => none
  | k + 1, x2, x3, x9, x10, x11, x12, x13, x194000, x194001, x194002 => if x13 < (x9.length : Int) then (if 0 ≤ x13 then (if 0 ≤ (rd x9 x13) then (if (rd x9 x13) < (x194001.length : Int) then (if 0 ≤ x12 then (if x12 < (x194001.length : Int) then (if (rd x194001 (rd x9 x13)) ≤ (rd x194001 x12) then (spec_AltsOf.l1 k x2 x3 x9 x10 x11 x12 (wrap64 (x13 + 1)) x194000 x194001 x194002) else ((some (([] : List Int) : List Int)).bind fun y215 => (if x13 ≤ (x9.length : Int) then ((some (x9.take (x13 : Int).toNat : List Int)).bind fun y218 => (if y215.length + y218.length < 17592186044416 then ((some (y215 ++ y218 : List Int)).bind fun y222 => ((some (([x12] : List Int) : List Int)).bind fun y225 => (if y222.length + y225.length < 17592186044416 then ((some (y222 ++ y225 : List Int)).bind fun y228 => ((some (x9.drop (x13 : Int).toNat : List Int)).bind fun y231 => (if y228.length + y231.length < 17592186044416 then (spec_AltsOf.l0 k x2 x3 (y228 ++ y231) x10 (wrap64 (x11 + 1)) x194000 x194001 x194002) else (none)))) else (none)))) else (none))) else (none)))) else (none)) else (none)) else (none)) else (none)) else (none)) else ((some (([] : List Int) : List Int)).bind fun y238 => (if 0 ≤ x13 then (if x13 ≤ (x9.length : Int) then ((some (x9.take (x13 : Int).toNat : List Int)).bind fun y241 => (if y238.length + y241.length < 17592186044416 then ((some (y238 ++ y241 : List Int)).bind fun y245 => ((some (([x12] : List Int) : List Int)).bind fun y248 => (if y245.length + y248.length < 17592186044416 then ((some (y245 ++ y248 : List Int)).bind fun y251 => ((some (x9.drop (x13 : Int).toNat : List Int)).bind fun y254 => (if y251.length + y254.length < 17592186044416 then (spec_AltsOf.l0 k x2 x3 (y251 ++ y254) x10 (wrap64 (x11 + 1)) x194000 x194001 x194002) else (none)))) else (none)))) else (none))) else (none)) else (none)))
end
def spec_AltsOf.f (k : Nat) (a0_0 : Int) (l0_1 : List Int) (l0_2 : List Int) (l1 : List (S55)) (a2 : Int) (a3 : Int) : Option (List Int) := (some (([] : List Int) : List Int)).bind fun y194 => ((spec_l1In.f a3 0 (wrap64 ((l0_1.length : Int) - 1))).bind fun t197 => (if t197 = true then ((spec_l1In.f a3 0 (wrap64 ((l0_2.length : Int) - 1))).bind fun t198 => (spec_AltsOf.j0 k l1 a2 a3 y194 (!t198) a0_0 l0_1 l0_2)) else (spec_AltsOf.j0 k l1 a2 a3 y194 true a0_0 l0_1 l0_2)))
theorem spec_AltsOf.mono_l : ∀ k, (∀ y0 y1 y2 y3 y4 y5 y6 y7, LeO (spec_AltsOf.j0 k y0 y1 y2 y3 y4 y5 y6 y7) (spec_AltsOf.j0 (k + 1) y0 y1 y2 y3 y4 y5 y6 y7)) ∧ (∀ y0 y1 y2 y3 y4 y5 y6 y7, LeO (spec_AltsOf.l0 k y0 y1 y2 y3 y4 y5 y6 y7) (spec_AltsOf.l0 (k + 1) y0 y1 y2 y3 y4 y5 y6 y7)) ∧ (∀ y0 y1 y2 y3 y4 y5 y6 y7 y8 y9, LeO (spec_AltsOf.j2 k y0 y1 y2 y3 y4 y5 y6 y7 y8 y9) (spec_AltsOf.j2 (k + 1) y0 y1 y2 y3 y4 y5 y6 y7 y8 y9)) ∧ (∀ y0 y1 y2 y3 y4 y5 y6 y7 y8 y9, LeO (spec_AltsOf.l1 k y0 y1 y2 y3 y4 y5 y6 y7 y8 y9) (spec_AltsOf.l1 (k + 1) y0 y1 y2 y3 y4 y5 y6 y7 y8 y9))
  | 0 => ⟨fun _ _ _ _ _ _ _ _ r h => by simp [spec_AltsOf.j0] at h, fun _ _ _ _ _ _ _ _ r h => by simp [spec_AltsOf.l0] at h, fun _ _ _ _ _ _ _ _ _ _ r h => by simp [spec_AltsOf.j2] at h, fun _ _ _ _ _ _ _ _ _ _ r h => by simp [spec_AltsOf.l1] at h⟩
  | k + 1 => by
    obtain ⟨ih0, ih1, ih2, ih3⟩ := spec_AltsOf.mono_l k
    refine ⟨?_, ?_, ?_, ?_⟩
    · intro y0 y1 y2 y3 y4 y5 y6 y7
      unfold spec_AltsOf.j0
      have m0 := @spec_NeighborsIn.mono
      exact mo
    · intro y0 y1 y2 y3 y4 y5 y6 y7
      unfold spec_AltsOf.l0
      have m0 := @spec_NeighborsIn.mono
      exact mo
    · intro y0 y1 y2 y3 y4 y5 y6 y7 y8 y9
      unfold spec_AltsOf.j2
      have m0 := @spec_NeighborsIn.mono
      exact mo
    · intro y0 y1 y2 y3 y4 y5 y6 y7 y8 y9
      unfold spec_AltsOf.l1
      have m0 := @spec_NeighborsIn.mono
      exact mo
theorem spec_AltsOf.mono : ∀ a0 a1 a2 a3 a4 a5 k, LeO (spec_AltsOf.f k a0 a1 a2 a3 a4 a5) (spec_AltsOf.f (k + 1) a0 a1 a2 a3 a4 a5) := by
  intro a0 a1 a2 a3 a4 a5 k
  obtain ⟨ih0, ih1, ih2, ih3⟩ := spec_AltsOf.mono_l k
  unfold spec_AltsOf.f
  have m0 := @spec_NeighborsIn.mono
  exact mo
def spec_AltsOf.T9 : Bool × List (List Nat × List Nat) := (true, [([], []), ([], []), ([1], [1]), ([], []), ([2, 3], [2, 3]), ([4], [4]), ([0, 5], [0, 5]), ([6], [6]), ([7], [7]), ([7], [7]), ([8, 9, 7], [7, 8, 9]), ([10, 7, 7], [7, 10]), ([11], [11]), ([11], [11]), ([13, 11], [11, 13]), ([12, 14, 11], [11, 12, 14]), ([11, 15, 7], [7, 11, 15]), ([7, 16], [7, 16]), ([17, 11], [17]), ([18], [18]), ([18], [18]), ([20, 18], [18, 20]), ([21, 18], [18, 21]), ([22, 18], [18, 22]), ([19, 23, 18, 18], [18, 19, 23]), ([24, 18], [18, 24]), ([18, 25], [18, 25]), ([26, 24], [26]), ([27], [27]), ([28, 27], [27, 28]), ([27], [27]), ([29, 30, 27], [27, 29, 30]), ([31, 27], [27, 31]), ([32, 27], [27, 32]), ([27, 33], [27, 33]), ([34, 27], [34]), ([35], [35]), ([36, 35], [35, 36]), ([35], [35]), ([37, 38, 35], [35, 37, 38]), ([39, 35], [35, 39]), ([35], [35]), ([41, 35], [35, 41]), ([35], [35]), ([42, 43, 35], [35, 42, 43]), ([44, 35], [35, 44]), ([40, 45, 35], [35, 40, 45]), ([35, 46], [35, 46])])
def spec_AltsOf.B9 : List Nat := [0, 0, 2, 0, 14, 30, 63, 127, 255, 255, 1023, 2047, 4095, 4095, 12287, 32767, 65535, 131071, 262143, 524287, 524287, 1572863, 3670015, 7864319, 16777215, 33554431, 67108863, 134217727, 268435455, 536870911, 268435455, 2147483647, 4294967295, 8589934591, 17179869183, 34359738367, 68719476735, 137438953471, 68719476735, 549755813887, 1099511627775, 68719476735, 2267742732287, 68719476735, 15461882265599, 33054068310015, 70368744177663, 140737488355327]
theorem spec_AltsOf.tab9 : rtab .any (opsOf Try.f14 9) = spec_AltsOf.T9 := by kernel_rfl
theorem spec_AltsOf.bits9 : waitsOk spec_AltsOf.T9.2 spec_AltsOf.B9 = true := by kernel_rfl
def spec_AltsOf.T11 : Bool × List (List Nat × List Nat) := (true, [([], []), ([], []), ([1], [1]), ([0, 2], [0, 2]), ([3], [3]), ([4], [4]), ([5, 4], [4, 5]), ([4], [4]), ([4], [4]), ([7, 8, 4], [4, 7, 8]), ([9, 4], [4, 9]), ([6, 10, 4], [4, 6, 10]), ([11, 4], [4, 11]), ([4], [4]), ([13, 4], [4, 13]), ([4], [4]), ([14, 15, 4], [4, 14, 15]), ([16, 4], [4, 16]), ([12, 17, 4], [4, 12, 17]), ([4, 18], [4, 18])])
def spec_AltsOf.B11 : List Nat := [0, 0, 2, 7, 15, 31, 63, 31, 31, 415, 927, 2047, 4095, 31, 8223, 31, 57375, 122911, 262143, 524287]
theorem spec_AltsOf.tab11 : rtab .any (opsOf Try.f14 11) = spec_AltsOf.T11 := by kernel_rfl
theorem spec_AltsOf.bits11 : waitsOk spec_AltsOf.T11.2 spec_AltsOf.B11 = true := by kernel_rfl
def spec_AltsOf.T13 : Bool × List (List Nat × List Nat) := (true, [([], []), ([], []), ([], []), ([1, 2], [1, 2]), ([0, 3], [0, 3]), ([], []), ([5], [5]), ([4, 6, 4], [4, 6]), ([], []), ([], []), ([8, 9], [8, 9]), ([7, 10, 7], [7, 10]), ([11, 11, 0, 1, 2, 3, 4, 5, 6, 7, 8, 9, 10, 11], [1, 8, 11])])
def spec_AltsOf.B13 : List Nat := [0, 0, 0, 6, 15, 0, 32, 127, 0, 0, 768, 2047, 4095]
theorem spec_AltsOf.tab13 : rtab .any (opsOf Try.f14 13) = spec_AltsOf.T13 := by kernel_rfl
theorem spec_AltsOf.bits13 : waitsOk spec_AltsOf.T13.2 spec_AltsOf.B13 = true := by kernel_rfl
theorem spec_AltsOf.calls (k : Nat) (a0_0 : Int) (A0_1 : Option Addr) (c0_1 : Nat) (l0_1 : List Int) (A0_2 : Option Addr) (c0_2 : Nat) (l0_2 : List Int) (A1 : Option Addr) (c1 : Nat) (l1 : List (S55)) (a2 : Int) (a3 : Int) (r : List Int) (w : World) (hr0_1 : Kd.C (Kd.int .i64) w A0_1 l0_1.length l0_1) (hc0_1 : l0_1.length ≤ c0_1) (hr0_2 : Kd.C (Kd.int .i64) w A0_2 l0_2.length l0_2) (hc0_2 : l0_2.length ≤ c0_2) (hr1 : Kd.C k55 w A1 l1.length l1) (hc1 : l1.length ≤ c1) (h : spec_AltsOf.f k a0_0 l0_1 l0_2 l1 a2 a3 = some r) :
    Calls Try.prog 14 #[.agg #[.int .i64 a0_0, .slice A0_1 l0_1.length c0_1, .slice A0_2 l0_2.length c0_2], .slice A1 l1.length c1, .int .i64 a2, .int .i64 a3] w fun e w' => ∃ v0_ : Value, e = .returned (v0_) ∧ Kd.R (Kd.int .i64) 3 w' w.heap.size (fun _ => True) v0_ r ∧ Below w.heap.size w w' := by
 have hu29 := Try.underlying29
 have HR0_1 := am hr0_1
 have HC0_1 := am hc0_1
 clear hr0_1 hc0_1
 have HR0_2 := am hr0_2
 have HC0_2 := am hc0_2
 clear hr0_2 hc0_2
 have HR1 := am hr1
 have HC1 := am hc1
 clear hr1 hc1
 have HB := am (Below.refl w.heap.size w)
 have H := h; unfold spec_AltsOf.f at H
 clear h
 obtain ⟨y194, Ny194, H⟩ := iy_ H
 have HC5 := am H
 clear H
 go_enter Try.func14, Try.ntmps14
 go_upto_region 2 with (first | ((with_reducible refine gd 4 rfl ?_); (try (refine gate_guard (by rfl) ?_; dsimp only)); refine bx 4 #[.int .i64 a0_0, .slice A0_1 l0_1.length c0_1, .slice A0_2 l0_2.length c0_2] 29 ?_; intro gb193 hg w6 hbox hb; have GW193 := bz w hg; have GE193 := bz w hg; replace HB := bs hb; have BK193 := am hbox; clear hb hbox hg) | ((with_reducible refine gd 14 rfl ?_); (try (refine gate_guard (by rfl) ?_; dsimp only)); refine Kd.R_lit (Kd.int .i64) _ 3 ?hg (N := 14) ?hd (xs := ([] : List Int)) (inner := []) (ok := fun _ => True) (okp := fun _ => True) ?hr ?hp (fun _ hk => hk) trivial (Below.refl _ _) (Nat.le_refl _) (by simp) ?_; (case hd => rfl); (case hg => rfl); (case hr => first | (go_simp; done) | (go_simp; rfl)); (case hp => exact (Reps.none _ _)); intro v195 w7 ho8 hb hg_ hnew_; clear hg_ hnew_; (first | rw [← Ny194.out] at ho8 | (simp only [Int.reduceToNat] at ho8; rw [← Ny194.out] at ho8)); have HO196 := am (Kd.R_lower ho8 (below_size (sbw))); replace BK193 := bb BK193 hb; replace HB := bsw hb; clear hb ho8))
 (try simp only [Act.put, List.setIfInBounds_toArray, List.set_cons_zero, List.set_cons_succ])
 go_cut [30] (fun v30 wc => ∃ (kq : Nat) (x30_4 : Bool), v30 = .bool x30_4 ∧ Aside0 (spec_AltsOf.j0 kq l1 a2 a3 y194 x30_4 a0_0 l0_1 l0_2 = some r) ∧ Aside0 (kq ≤ k) ∧ Aside0 (Kd.R (Kd.int .i64) 3 wc w.heap.size (fun _ => True) v195 y194) ∧ Aside0 (wc.heap[gb193]? = some (.cells #[.int .i64 a0_0, (.slice A0_1 l0_1.length c0_1), (.slice A0_2 l0_2.length c0_2)] 29 (0, 0))) ∧ Aside0 (Below w.heap.size w wc))
 case first =>
  have H := HC5.out
  clear HC5
  obtain ⟨t197, A9, H⟩ := bnd H
  obtain rfl | rfl := tt t197
  ·replace H := ip H
   obtain ⟨t198, A11, H⟩ := bnd H
   have H' := am H
   clear H
   obtain ⟨hcz12_0, hcz12_1, hcz12_2, hfz12_0, hfz12_1, hfz12_2⟩ := cc3 BK193
   go_wp2_with (first | ((with_reducible refine gc 30 rfl ?_); refine gL (some 20) Try.func30 #[.int .i64 a3, .int .i64 0, .int .i64 (wrap64 ((l0_1.length : Int) - 1))] ?_; (with_reducible refine (spec_l1In.calls a3 0 (wrap64 ((l0_1.length : Int) - 1)) true _ A9.out).mono ?_); rintro e w' ⟨rfl, ⟨nd, rfl⟩⟩; refine ⟨_, rfl, ?_⟩) | (go_at_call 30; (try simp only [i64_w, i32_w]); (with_reducible refine (spec_l1In.calls a3 0 (wrap64 ((l0_2.length : Int) - 1)) t198 _ A11.out).mono ?_); rintro e w' ⟨rfl, ⟨nd, rfl⟩⟩))
   go_meet
   case rel => exact ⟨_, (!t198), sc, H', ⟨by first | omega | exact Nat.le_refl _⟩, ⟨sr HO196⟩, ⟨sk BK193⟩, ⟨sbw⟩⟩
  ·replace H := im H
   have H' := am H
   clear H
   obtain ⟨hcz13_0, hcz13_1, hcz13_2, hfz13_0, hfz13_1, hfz13_2⟩ := cc3 BK193
   go_wp2_with (first | ((with_reducible refine gc 30 rfl ?_); refine gL (some 20) Try.func30 #[.int .i64 a3, .int .i64 0, .int .i64 (wrap64 ((l0_1.length : Int) - 1))] ?_; (with_reducible refine (spec_l1In.calls a3 0 (wrap64 ((l0_1.length : Int) - 1)) false _ A9.out).mono ?_); rintro e w' ⟨rfl, ⟨nd, rfl⟩⟩; refine ⟨_, rfl, ?_⟩))
   go_meet
   case rel => exact ⟨_, (true), sc, H', ⟨by first | omega | exact Nat.le_refl _⟩, ⟨sr HO196⟩, ⟨sk BK193⟩, ⟨sbw⟩⟩
 case rest =>
  clear HC5
  try clear c1
  obtain ⟨kq, x30_4, rfl, HA, HJ4, HO_9, BK193, HB⟩ := hcut
  cases kq with
  | zero => exact absurd HA.out (by simp [spec_AltsOf.j0])
  | succ kj4 =>
   have H := HA.out
   clear HA
   simp only [spec_AltsOf.j0] at H
   obtain rfl | rfl := tt x30_4
   ·replace H := ip H
    obtain rfl := Option.some.inj H
    go_wp2
    go_ret
    exact ⟨_, se, sr HO_9, sbw⟩
   ·replace H := im H
    obtain ⟨t199, A15, H⟩ := bnd H
    have H' := am H
    clear H
    go_wp2_with (first | ((with_reducible refine gc 31 rfl ?_); refine gL (some 34) Try.func31 #[.slice A1 l1.length c1, .int .i64 a3] ?_; (with_reducible refine (spec_NeighborsIn.calls kj4 _ _ l1 a3 t199 _ ?side1 ?side2 A15.out).mono ?_); (case side1 => exact cb HR1); (case side2 => exact HC1.out); rintro e w16 ⟨v200, rfl, ho0, hb⟩; refine ⟨_, rfl, ?_⟩; have HO201 := am (Kd.R_lower (Kd.R_new' ho0 (Kd.R_lt (sr HO_9))) (below_size (sbw))); replace HO_9 := am (Kd.R_elder' (sr HO_9) (Kd.R_base ho0) hb); replace BK193 := bb BK193 hb; replace HB := bsw hb; (try clear hb); (try clear ho0)))
    go_loopg [9, 11] kj4 (fun kq v9 v11 w' => ∃ (x9_2 : List Int) (x11_2 : Int), v11 = .int .i64 x11_2 ∧ Aside0 (spec_AltsOf.l0 kq a2 a3 x9_2 t199 x11_2 a0_0 l0_1 l0_2 = some r) ∧ Aside0 (kq ≤ kj4) ∧ Aside0 (Kd.R (Kd.int .i64) 3 w' w.heap.size (fun k_ => some k_ ≠ (v200 : Value).ownBlock) v9 x9_2) ∧ Aside0 (Kd.R (Kd.int .i64) 3 w' w.heap.size (fun k_ => some k_ ≠ (v9 : Value).ownBlock) v200 t199) ∧ Aside0 (w'.heap[gb193]? = some (.cells #[.int .i64 a0_0, (.slice A0_1 l0_1.length c0_1), (.slice A0_2 l0_2.length c0_2)] 29 (0, 0))) ∧ Aside0 (Below w.heap.size w w'))
    case atStart => exact ⟨(y194), (0), sc, H', kk0, ⟨by exact rm HO_9 (fun _ hk => hk.2)⟩, ⟨by exact rm HO201 (fun _ hk => hk.2)⟩, ⟨sk BK193⟩, ⟨sbw⟩⟩
    case round =>
     clear H'
     try clear c1
     obtain ⟨x9_2, x11_2, rfl, HA, HK2, HO_9, HO_10, BK193, HB⟩ := hrel
     cases gk with
     | zero => exact absurd HA.out (by simp [spec_AltsOf.l0])
     | succ k2 =>
      have H := HA.out
      clear HA
      simp only [spec_AltsOf.l0] at H
      obtain ⟨-, c17b0, H⟩ | ⟨-, c17b0, H⟩ := ic_ H
      ·obtain ⟨c18b0, H⟩ := id_ H
       have HC19 := am H
       clear H
       obtain ⟨Ao20, co20, eo20⟩ := Kd.R_slice HO_10.out
       subst eo20
       have p202 : 0 ≤ (x11_2 : Int) := sa
       have q202 : x11_2 < (t199.length : Int) := sa
       obtain ⟨ad202, e202, hx202_0⟩ := Kd.at_int (Kd.R_reads' HO_10.out).2.2 x11_2 p202 q202
       cases e202
       replace p202 := eq_true p202
       replace q202 := eq_true q202
       go_upto_region 9 with (fail)
       go_cut [92] (fun v92 wc => ∃ (kq : Nat) (x92_18 : Bool), v92 = .bool x92_18 ∧ Aside0 (spec_AltsOf.j2 kq a2 a3 x9_2 t199 x11_2 (rd t199 x11_2) x92_18 a0_0 l0_1 l0_2 = some r) ∧ Aside0 (kq ≤ k2) ∧ Aside0 (Kd.R (Kd.int .i64) 3 wc w.heap.size (fun k_ => some k_ ≠ ((.slice (some ad202) t199.length co20) : Value).ownBlock) u9 x9_2) ∧ Aside0 (Kd.R (Kd.int .i64) 3 wc w.heap.size (fun k_ => some k_ ≠ (u9 : Value).ownBlock) (.slice (some ad202) t199.length co20) t199) ∧ Aside0 (wc.heap[gb193]? = some (.cells #[.int .i64 a0_0, (.slice A0_1 l0_1.length c0_1), (.slice A0_2 l0_2.length c0_2)] 29 (0, 0))) ∧ Aside0 (Below w.heap.size w wc))
       case first =>
        have H := HC19.out
        clear HC19
        obtain ⟨c21b0, H⟩ := id_ H
        (first | rw [c21b0] | (simp only [i64_w, i32_w]; rw [c21b0]) | rw [c21b1] | skip)
        obtain ⟨c22b0, H⟩ := id_ H
        obtain ⟨-, c23b0, c23b1, H⟩ | ⟨c23, c23b0, c23b1, H⟩ := ib_ H
        ·have H' := am H
         clear H
         try go_wp2
         replace HO_9 := am (Kd.R_drew HO_9.out)
         replace HO_10 := am (Kd.R_drew HO_10.out)
         replace BK193 := am (blk_drew BK193.out)
         replace HB := am (below_drew1 HB.out)
         obtain ⟨p203, q203, ad203, e203, hw203_0, hx203_0⟩ := at_i HR0_2 HB a3
         cases e203
         refine start_ (n := 48) (S := fun w' => w'.cell? ⟨gb193, 0, none⟩ = some (.int .i64 a0_0) ∧ w'.cell? ⟨gb193, 1, none⟩ = some (.slice A0_1 l0_1.length c0_1) ∧ w'.cell? ⟨gb193, 2, none⟩ = some (.slice (some ad203) l0_2.length c0_2) ∧ w'.cell? (ad203.add (a3).toNat) = some (.int .i64 (rd l0_2 a3))) (ds := []) #[false, false, false, false, false, false, false, false, false, false, false, false, false, false, false, false, false, false, false, false, false, false, false, false, false, false, false, false, false, false, false, false, false, false, false, false, false, false, false, false, false, false, false, false, false, false, false, false] (by kernel_rfl) rfl rfl ⟨bc0 BK193, bc1 BK193, bc2 BK193, (hb_ HB hw203_0)⟩ (fun hHeld => ?_); refine with_tabW spec_AltsOf.tab9 spec_AltsOf.bits9 (fun HT_ HW_ => ?_)
         generalize wr.drew = w24 at HO_9 HO_10 BK193 HB hx203_0 hHeld ⊢
         refine put 0 45 (bt 48 1) HT_ ?_
         refine put 1 46 (bt 48 3) HT_ ?_
         refine put 3 48 (bt 48 11) HT_ ?_
         refine tat4 2 47 (bt 48 15) HT_ HW_ hHeld ?_
         refine put 4 49 (bt 48 31) HT_ ?_
         refine tat4 5 50 (bt 48 63) HT_ HW_ hHeld ?_
         refine put 6 51 (bt 48 127) HT_ ?_
         refine put 7 52 (bt 48 255) HT_ ?_
         refine pn 8 53 (bt 48 511) HT_ ?_
         refine pn 9 54 (bt 48 1023) HT_ ?_
         refine pn 10 55 (bt 48 2047) HT_ ?_
         refine pn 11 56 (bt 48 4095) HT_ ?_
         refine pn 12 57 (bt 48 8191) HT_ ?_
         refine pn 13 58 (bt 48 16383) HT_ ?_
         refine pn 14 59 (bt 48 32767) HT_ ?_
         refine pn 15 60 (bt 48 65535) HT_ ?_
         refine pn 16 61 (bt 48 131071) HT_ ?_
         refine put 17 62 (bt 48 262143) HT_ ?_
         refine put 18 63 (bt 48 524287) HT_ ?_
         refine pn 19 64 (bt 48 1048575) HT_ ?_
         refine pn 20 65 (bt 48 2097151) HT_ ?_
         refine pn 21 66 (bt 48 4194303) HT_ ?_
         refine pn 22 67 (bt 48 8388607) HT_ ?_
         refine pn 23 68 (bt 48 16777215) HT_ ?_
         refine pn 24 69 (bt 48 33554431) HT_ ?_
         refine pn 25 70 (bt 48 67108863) HT_ ?_
         refine put 26 71 (bt 48 134217727) HT_ ?_
         refine put 27 72 (bt 48 268435455) HT_ ?_
         refine pn 28 73 (bt 48 536870911) HT_ ?_
         refine pn 29 74 (bt 48 1073741823) HT_ ?_
         refine pn 30 75 (bt 48 2147483647) HT_ ?_
         refine pn 31 76 (bt 48 4294967295) HT_ ?_
         refine pn 32 77 (bt 48 8589934591) HT_ ?_
         refine pn 33 78 (bt 48 17179869183) HT_ ?_
         refine put 34 79 (bt 48 34359738367) HT_ ?_
         refine put 35 80 (bt 48 68719476735) HT_ ?_
         refine pn 36 81 (bt 48 137438953471) HT_ ?_
         refine pn 37 82 (bt 48 274877906943) HT_ ?_
         refine pn 38 83 (bt 48 549755813887) HT_ ?_
         refine pn 39 84 (bt 48 1099511627775) HT_ ?_
         refine pn 40 85 (bt 48 2199023255551) HT_ ?_
         refine pn 41 86 (bt 48 4398046511103) HT_ ?_
         refine pn 42 87 (bt 48 8796093022207) HT_ ?_
         refine pn 43 88 (bt 48 17592186044415) HT_ ?_
         refine pn 44 89 (bt 48 35184372088831) HT_ ?_
         refine pn 45 90 (bt 48 70368744177663) HT_ ?_
         refine pn 46 91 (bt 48 140737488355327) HT_ ?_
         refine put 47 92 (bt 48 281474976710655) HT_ ?_
         refine done_ (done_of HT_.out (by kernel_rfl)) ?_
         try go_wp2
         go_meet
         case rel => exact ⟨_, (true), sc, H', ⟨a3_0⟩, ⟨sr HO_9⟩, ⟨sr HO_10⟩, ⟨sk BK193⟩, ⟨sbw⟩⟩
        ·obtain ⟨-, c25b0, H⟩ | ⟨-, c25b0, H⟩ := ic_ H
         ·obtain ⟨-, c26b0, c26b1, H⟩ | ⟨c26, c26b0, c26b1, H⟩ := ib_ H
          ·obtain ⟨t204, A27, H⟩ := bnd H
           obtain rfl | rfl := tt t204
           ·replace H := ip H
            obtain ⟨c29b0, H⟩ := id_ H
            obtain ⟨c30b0, H⟩ := id_ H
            obtain ⟨-, c31b0, H⟩ | ⟨-, c31b0, H⟩ := ic_ H
            ·have H' := am H
             clear H
             try go_wp2
             replace HO_9 := am (Kd.R_drew HO_9.out)
             replace HO_10 := am (Kd.R_drew HO_10.out)
             replace BK193 := am (blk_drew BK193.out)
             replace HB := am (below_drew1 HB.out)
             obtain ⟨p203, q203, ad203, e203, hw203_0, hx203_0⟩ := at_i HR0_2 HB a3
             cases e203
             obtain ⟨p205, q205, ad205, e205, hw205_0, hx205_0⟩ := at_i HR0_1 HB (rd t199 x11_2)
             cases e205
             refine start_ (n := 48) (S := fun w' => w'.cell? ⟨gb193, 0, none⟩ = some (.int .i64 a0_0) ∧ w'.cell? ⟨gb193, 1, none⟩ = some (.slice (some ad205) l0_1.length c0_1) ∧ w'.cell? ⟨gb193, 2, none⟩ = some (.slice (some ad203) l0_2.length c0_2) ∧ w'.cell? (ad203.add (a3).toNat) = some (.int .i64 (rd l0_2 a3)) ∧ w'.cell? (ad205.add ((rd t199 x11_2)).toNat) = some (.int .i64 (rd l0_1 (rd t199 x11_2)))) (ds := []) #[false, false, false, false, false, false, false, false, false, false, false, false, false, false, false, false, false, false, false, false, false, false, false, false, false, false, false, false, false, false, false, false, false, false, false, false, false, false, false, false, false, false, false, false, false, false, false, false] (by kernel_rfl) rfl rfl ⟨bc0 BK193, bc1 BK193, bc2 BK193, (hb_ HB hw203_0), (hb_ HB hw205_0)⟩ (fun hHeld => ?_); refine with_tabW spec_AltsOf.tab9 spec_AltsOf.bits9 (fun HT_ HW_ => ?_)
             generalize wr.drew = w32 at HO_9 HO_10 BK193 HB hx203_0 hx205_0 hHeld ⊢
             refine put 0 45 (bt 48 1) HT_ ?_
             refine put 1 46 (bt 48 3) HT_ ?_
             refine put 3 48 (bt 48 11) HT_ ?_
             refine tat5 2 47 (bt 48 15) HT_ HW_ hHeld ?_
             refine put 4 49 (bt 48 31) HT_ ?_
             refine tat5 5 50 (bt 48 63) HT_ HW_ hHeld ?_
             refine put 6 51 (bt 48 127) HT_ ?_
             refine put 7 52 (bt 48 255) HT_ ?_
             refine put 8 53 (bt 48 511) HT_ ?_
             refine put 9 54 (bt 48 1023) HT_ ?_
             refine put 10 55 (bt 48 2047) HT_ ?_
             refine put 11 56 (bt 48 4095) HT_ ?_
             refine put 12 57 (bt 48 8191) HT_ ?_
             refine put 13 58 (bt 48 16383) HT_ ?_
             refine tat5 14 59 (bt 48 32767) HT_ HW_ hHeld ?_
             refine put 15 60 (bt 48 65535) HT_ ?_
             refine put 16 61 (bt 48 131071) HT_ ?_
             refine put 17 62 (bt 48 262143) HT_ ?_
             refine put 18 63 (bt 48 524287) HT_ ?_
             refine put 19 64 (bt 48 1048575) HT_ ?_
             refine put 20 65 (bt 48 2097151) HT_ ?_
             refine tat5 21 66 (bt 48 4194303) HT_ HW_ hHeld ?_
             refine put 22 67 (bt 48 8388607) HT_ ?_
             refine put 23 68 (bt 48 16777215) HT_ ?_
             refine on 24 69 (bt 48 33554431) HT_ (fun K hK => ?_)
             refine goes_ Try.func30 (by kernel_rfl) rfl #[.int .i64 (rd t199 x11_2), .int .i64 0, .int .i64 (wrap64 ((l0_1.length : Int) - 1))] (by rfl) rfl rfl sl ?_
             with_reducible refine (spec_l1In.calls (rd t199 x11_2) 0 (wrap64 ((l0_1.length : Int) - 1)) true _ A27.out).mono ?_
             rintro e w' ⟨rfl, ⟨nd, rfl⟩⟩
             refine ⟨_, rfl, ?_⟩
             refine hK.out _ _ ⟨bc0 BK193, bc1 BK193, bc2 BK193, (hb_ ⟨sb⟩ hw203_0), (hb_ ⟨sb⟩ hw205_0)⟩ (fun hHeld => ?_)
             clear hK K
             refine nm 69 ?_
             refine put 25 70 (bt 48 67108863) HT_ ?_
             refine put 26 71 (bt 48 134217727) HT_ ?_
             refine put 27 72 (bt 48 268435455) HT_ ?_
             refine put 28 73 (bt 48 536870911) HT_ ?_
             refine put 30 75 (bt 48 1610612735) HT_ ?_
             refine tat5 29 74 (bt 48 2147483647) HT_ HW_ hHeld ?_
             refine put 31 76 (bt 48 4294967295) HT_ ?_
             refine tat5 32 77 (bt 48 8589934591) HT_ HW_ hHeld ?_
             refine put 33 78 (bt 48 17179869183) HT_ ?_
             refine put 34 79 (bt 48 34359738367) HT_ ?_
             refine put 35 80 (bt 48 68719476735) HT_ ?_
             refine pn 36 81 (bt 48 137438953471) HT_ ?_
             refine pn 37 82 (bt 48 274877906943) HT_ ?_
             refine pn 38 83 (bt 48 549755813887) HT_ ?_
             refine pn 39 84 (bt 48 1099511627775) HT_ ?_
             refine pn 40 85 (bt 48 2199023255551) HT_ ?_
             refine pn 41 86 (bt 48 4398046511103) HT_ ?_
             refine pn 42 87 (bt 48 8796093022207) HT_ ?_
             refine pn 43 88 (bt 48 17592186044415) HT_ ?_
             refine pn 44 89 (bt 48 35184372088831) HT_ ?_
             refine pn 45 90 (bt 48 70368744177663) HT_ ?_
             refine pn 46 91 (bt 48 140737488355327) HT_ ?_
             refine put 47 92 (bt 48 281474976710655) HT_ ?_
             refine done_ (done_of HT_.out (by kernel_rfl)) ?_
             try go_wp2
             go_meet
             case rel => exact ⟨_, (true), sc, H', ⟨a3_0⟩, ⟨sr HO_9⟩, ⟨sr HO_10⟩, ⟨sk BK193⟩, ⟨sbw⟩⟩
            ·obtain ⟨c33b0, H⟩ := id_ H
             have H' := am H
             clear H
             try go_wp2
             replace HO_9 := am (Kd.R_drew HO_9.out)
             replace HO_10 := am (Kd.R_drew HO_10.out)
             replace BK193 := am (blk_drew BK193.out)
             replace HB := am (below_drew1 HB.out)
             obtain ⟨p203, q203, ad203, e203, hw203_0, hx203_0⟩ := at_i HR0_2 HB a3
             cases e203
             obtain ⟨p205, q205, ad205, e205, hw205_0, hx205_0⟩ := at_i HR0_1 HB (rd t199 x11_2)
             cases e205
             obtain ⟨p206, q206, ad206, e206, hw206_0, hx206_0⟩ := at_i HR0_1 HB (rd t199 x11_2)
             obtain rfl : ad205 = ad206 := (by injection e206)
             obtain ⟨p207, q207, ad207, e207, hw207_0, hx207_0⟩ := at_i HR0_1 HB a3
             obtain rfl : ad205 = ad207 := (by injection e207)
             refine start_ (n := 48) (S := fun w' => w'.cell? ⟨gb193, 0, none⟩ = some (.int .i64 a0_0) ∧ w'.cell? ⟨gb193, 1, none⟩ = some (.slice (some ad205) l0_1.length c0_1) ∧ w'.cell? ⟨gb193, 2, none⟩ = some (.slice (some ad203) l0_2.length c0_2) ∧ w'.cell? (ad203.add (a3).toNat) = some (.int .i64 (rd l0_2 a3)) ∧ w'.cell? (ad205.add ((rd t199 x11_2)).toNat) = some (.int .i64 (rd l0_1 (rd t199 x11_2))) ∧ w'.cell? (ad205.add ((rd t199 x11_2)).toNat) = some (.int .i64 (rd l0_1 (rd t199 x11_2))) ∧ w'.cell? (ad205.add (a3).toNat) = some (.int .i64 (rd l0_1 a3))) (ds := []) #[false, false, false, false, false, false, false, false, false, false, false, false, false, false, false, false, false, false, false, false, false, false, false, false, false, false, false, false, false, false, false, false, false, false, false, false, false, false, false, false, false, false, false, false, false, false, false, false] (by kernel_rfl) rfl rfl ⟨bc0 BK193, bc1 BK193, bc2 BK193, (hb_ HB hw203_0), (hb_ HB hw205_0), (hb_ HB hw206_0), (hb_ HB hw207_0)⟩ (fun hHeld => ?_); refine with_tabW spec_AltsOf.tab9 spec_AltsOf.bits9 (fun HT_ HW_ => ?_)
             generalize wr.drew = w34 at HO_9 HO_10 BK193 HB hx203_0 hx205_0 hx206_0 hx207_0 hHeld ⊢
             refine put 0 45 (bt 48 1) HT_ ?_
             refine put 1 46 (bt 48 3) HT_ ?_
             refine put 3 48 (bt 48 11) HT_ ?_
             refine tat7 2 47 (bt 48 15) HT_ HW_ hHeld ?_
             refine put 4 49 (bt 48 31) HT_ ?_
             refine tat7 5 50 (bt 48 63) HT_ HW_ hHeld ?_
             refine put 6 51 (bt 48 127) HT_ ?_
             refine put 7 52 (bt 48 255) HT_ ?_
             refine put 8 53 (bt 48 511) HT_ ?_
             refine put 9 54 (bt 48 1023) HT_ ?_
             refine put 10 55 (bt 48 2047) HT_ ?_
             refine put 11 56 (bt 48 4095) HT_ ?_
             refine put 12 57 (bt 48 8191) HT_ ?_
             refine put 13 58 (bt 48 16383) HT_ ?_
             refine tat7 14 59 (bt 48 32767) HT_ HW_ hHeld ?_
             refine put 15 60 (bt 48 65535) HT_ ?_
             refine put 16 61 (bt 48 131071) HT_ ?_
             refine put 17 62 (bt 48 262143) HT_ ?_
             refine put 18 63 (bt 48 524287) HT_ ?_
             refine put 19 64 (bt 48 1048575) HT_ ?_
             refine put 20 65 (bt 48 2097151) HT_ ?_
             refine tat7 21 66 (bt 48 4194303) HT_ HW_ hHeld ?_
             refine put 22 67 (bt 48 8388607) HT_ ?_
             refine put 23 68 (bt 48 16777215) HT_ ?_
             refine on 24 69 (bt 48 33554431) HT_ (fun K hK => ?_)
             refine goes_ Try.func30 (by kernel_rfl) rfl #[.int .i64 (rd t199 x11_2), .int .i64 0, .int .i64 (wrap64 ((l0_1.length : Int) - 1))] (by rfl) rfl rfl sl ?_
             with_reducible refine (spec_l1In.calls (rd t199 x11_2) 0 (wrap64 ((l0_1.length : Int) - 1)) true _ A27.out).mono ?_
             rintro e w' ⟨rfl, ⟨nd, rfl⟩⟩
             refine ⟨_, rfl, ?_⟩
             refine hK.out _ _ ⟨bc0 BK193, bc1 BK193, bc2 BK193, (hb_ ⟨sb⟩ hw203_0), (hb_ ⟨sb⟩ hw205_0), (hb_ ⟨sb⟩ hw206_0), (hb_ ⟨sb⟩ hw207_0)⟩ (fun hHeld => ?_)
             clear hK K
             refine nm 69 ?_
             refine put 25 70 (bt 48 67108863) HT_ ?_
             refine put 26 71 (bt 48 134217727) HT_ ?_
             refine put 27 72 (bt 48 268435455) HT_ ?_
             refine put 28 73 (bt 48 536870911) HT_ ?_
             refine put 30 75 (bt 48 1610612735) HT_ ?_
             refine tat7 29 74 (bt 48 2147483647) HT_ HW_ hHeld ?_
             refine put 31 76 (bt 48 4294967295) HT_ ?_
             refine tat7 32 77 (bt 48 8589934591) HT_ HW_ hHeld ?_
             refine put 33 78 (bt 48 17179869183) HT_ ?_
             refine put 34 79 (bt 48 34359738367) HT_ ?_
             refine put 35 80 (bt 48 68719476735) HT_ ?_
             refine put 36 81 (bt 48 137438953471) HT_ ?_
             refine put 38 83 (bt 48 412316860415) HT_ ?_
             refine put 41 86 (bt 48 2611340115967) HT_ ?_
             refine put 43 88 (bt 48 11407433138175) HT_ ?_
             refine tat7 37 82 (bt 48 11544872091647) HT_ HW_ hHeld ?_
             refine put 39 84 (bt 48 12094627905535) HT_ ?_
             refine tat7 40 85 (bt 48 13194139533311) HT_ HW_ hHeld ?_
             refine tat7 42 87 (bt 48 17592186044415) HT_ HW_ hHeld ?_
             refine put 44 89 (bt 48 35184372088831) HT_ ?_
             refine tat7 45 90 (bt 48 70368744177663) HT_ HW_ hHeld ?_
             refine put 46 91 (bt 48 140737488355327) HT_ ?_
             refine put 47 92 (bt 48 281474976710655) HT_ ?_
             refine done_ (done_of HT_.out (by kernel_rfl)) ?_
             try go_wp2
             go_meet
             case rel => exact ⟨_, (decide ((rd l0_1 (rd t199 x11_2)) ≥ (rd l0_1 a3))), sc, H', ⟨a3_0⟩, ⟨sr HO_9⟩, ⟨sr HO_10⟩, ⟨sk BK193⟩, ⟨sbw⟩⟩
           ·replace H := im H
            have H' := am H
            clear H
            try go_wp2
            replace HO_9 := am (Kd.R_drew HO_9.out)
            replace HO_10 := am (Kd.R_drew HO_10.out)
            replace BK193 := am (blk_drew BK193.out)
            replace HB := am (below_drew1 HB.out)
            obtain ⟨p203, q203, ad203, e203, hw203_0, hx203_0⟩ := at_i HR0_2 HB a3
            cases e203
            refine start_ (n := 48) (S := fun w' => w'.cell? ⟨gb193, 0, none⟩ = some (.int .i64 a0_0) ∧ w'.cell? ⟨gb193, 1, none⟩ = some (.slice A0_1 l0_1.length c0_1) ∧ w'.cell? ⟨gb193, 2, none⟩ = some (.slice (some ad203) l0_2.length c0_2) ∧ w'.cell? (ad203.add (a3).toNat) = some (.int .i64 (rd l0_2 a3))) (ds := []) #[false, false, false, false, false, false, false, false, false, false, false, false, false, false, false, false, false, false, false, false, false, false, false, false, false, false, false, false, false, false, false, false, false, false, false, false, false, false, false, false, false, false, false, false, false, false, false, false] (by kernel_rfl) rfl rfl ⟨bc0 BK193, bc1 BK193, bc2 BK193, (hb_ HB hw203_0)⟩ (fun hHeld => ?_); refine with_tabW spec_AltsOf.tab9 spec_AltsOf.bits9 (fun HT_ HW_ => ?_)
            generalize wr.drew = w35 at HO_9 HO_10 BK193 HB hx203_0 hHeld ⊢
            refine put 0 45 (bt 48 1) HT_ ?_
            refine put 1 46 (bt 48 3) HT_ ?_
            refine put 3 48 (bt 48 11) HT_ ?_
            refine tat4 2 47 (bt 48 15) HT_ HW_ hHeld ?_
            refine put 4 49 (bt 48 31) HT_ ?_
            refine tat4 5 50 (bt 48 63) HT_ HW_ hHeld ?_
            refine put 6 51 (bt 48 127) HT_ ?_
            refine put 7 52 (bt 48 255) HT_ ?_
            refine put 8 53 (bt 48 511) HT_ ?_
            refine put 9 54 (bt 48 1023) HT_ ?_
            refine put 10 55 (bt 48 2047) HT_ ?_
            refine put 11 56 (bt 48 4095) HT_ ?_
            refine put 12 57 (bt 48 8191) HT_ ?_
            refine put 13 58 (bt 48 16383) HT_ ?_
            refine tat4 14 59 (bt 48 32767) HT_ HW_ hHeld ?_
            refine put 15 60 (bt 48 65535) HT_ ?_
            refine put 16 61 (bt 48 131071) HT_ ?_
            refine put 17 62 (bt 48 262143) HT_ ?_
            refine put 18 63 (bt 48 524287) HT_ ?_
            refine put 19 64 (bt 48 1048575) HT_ ?_
            refine put 20 65 (bt 48 2097151) HT_ ?_
            refine tat4 21 66 (bt 48 4194303) HT_ HW_ hHeld ?_
            refine put 22 67 (bt 48 8388607) HT_ ?_
            refine put 23 68 (bt 48 16777215) HT_ ?_
            refine on 24 69 (bt 48 33554431) HT_ (fun K hK => ?_)
            refine goes_ Try.func30 (by kernel_rfl) rfl #[.int .i64 (rd t199 x11_2), .int .i64 0, .int .i64 (wrap64 ((l0_1.length : Int) - 1))] (by rfl) rfl rfl sl ?_
            with_reducible refine (spec_l1In.calls (rd t199 x11_2) 0 (wrap64 ((l0_1.length : Int) - 1)) false _ A27.out).mono ?_
            rintro e w' ⟨rfl, ⟨nd, rfl⟩⟩
            refine ⟨_, rfl, ?_⟩
            refine hK.out _ _ ⟨bc0 BK193, bc1 BK193, bc2 BK193, (hb_ ⟨sb⟩ hw203_0)⟩ (fun hHeld => ?_)
            clear hK K
            refine nm 69 ?_
            refine put 25 70 (bt 48 67108863) HT_ ?_
            refine put 26 71 (bt 48 134217727) HT_ ?_
            refine put 27 72 (bt 48 268435455) HT_ ?_
            refine pn 28 73 (bt 48 536870911) HT_ ?_
            refine pn 29 74 (bt 48 1073741823) HT_ ?_
            refine pn 30 75 (bt 48 2147483647) HT_ ?_
            refine pn 31 76 (bt 48 4294967295) HT_ ?_
            refine pn 32 77 (bt 48 8589934591) HT_ ?_
            refine pn 33 78 (bt 48 17179869183) HT_ ?_
            refine put 34 79 (bt 48 34359738367) HT_ ?_
            refine put 35 80 (bt 48 68719476735) HT_ ?_
            refine pn 36 81 (bt 48 137438953471) HT_ ?_
            refine pn 37 82 (bt 48 274877906943) HT_ ?_
            refine pn 38 83 (bt 48 549755813887) HT_ ?_
            refine pn 39 84 (bt 48 1099511627775) HT_ ?_
            refine pn 40 85 (bt 48 2199023255551) HT_ ?_
            refine pn 41 86 (bt 48 4398046511103) HT_ ?_
            refine pn 42 87 (bt 48 8796093022207) HT_ ?_
            refine pn 43 88 (bt 48 17592186044415) HT_ ?_
            refine pn 44 89 (bt 48 35184372088831) HT_ ?_
            refine pn 45 90 (bt 48 70368744177663) HT_ ?_
            refine pn 46 91 (bt 48 140737488355327) HT_ ?_
            refine put 47 92 (bt 48 281474976710655) HT_ ?_
            refine done_ (done_of HT_.out (by kernel_rfl)) ?_
            try go_wp2
            go_meet
            case rel => exact ⟨_, (true), sc, H', ⟨a3_0⟩, ⟨sr HO_9⟩, ⟨sr HO_10⟩, ⟨sk BK193⟩, ⟨sbw⟩⟩
          ·have H' := am H
           clear H
           try go_wp2
           replace HO_9 := am (Kd.R_drew HO_9.out)
           replace HO_10 := am (Kd.R_drew HO_10.out)
           replace BK193 := am (blk_drew BK193.out)
           replace HB := am (below_drew1 HB.out)
           obtain ⟨p203, q203, ad203, e203, hw203_0, hx203_0⟩ := at_i HR0_2 HB a3
           cases e203
           refine start_ (n := 48) (S := fun w' => w'.cell? ⟨gb193, 0, none⟩ = some (.int .i64 a0_0) ∧ w'.cell? ⟨gb193, 1, none⟩ = some (.slice A0_1 l0_1.length c0_1) ∧ w'.cell? ⟨gb193, 2, none⟩ = some (.slice (some ad203) l0_2.length c0_2) ∧ w'.cell? (ad203.add (a3).toNat) = some (.int .i64 (rd l0_2 a3))) (ds := []) #[false, false, false, false, false, false, false, false, false, false, false, false, false, false, false, false, false, false, false, false, false, false, false, false, false, false, false, false, false, false, false, false, false, false, false, false, false, false, false, false, false, false, false, false, false, false, false, false] (by kernel_rfl) rfl rfl ⟨bc0 BK193, bc1 BK193, bc2 BK193, (hb_ HB hw203_0)⟩ (fun hHeld => ?_); refine with_tabW spec_AltsOf.tab9 spec_AltsOf.bits9 (fun HT_ HW_ => ?_)
           generalize wr.drew = w36 at HO_9 HO_10 BK193 HB hx203_0 hHeld ⊢
           refine put 0 45 (bt 48 1) HT_ ?_
           refine put 1 46 (bt 48 3) HT_ ?_
           refine put 3 48 (bt 48 11) HT_ ?_
           refine tat4 2 47 (bt 48 15) HT_ HW_ hHeld ?_
           refine put 4 49 (bt 48 31) HT_ ?_
           refine tat4 5 50 (bt 48 63) HT_ HW_ hHeld ?_
           refine put 6 51 (bt 48 127) HT_ ?_
           refine put 7 52 (bt 48 255) HT_ ?_
           refine put 8 53 (bt 48 511) HT_ ?_
           refine put 9 54 (bt 48 1023) HT_ ?_
           refine put 10 55 (bt 48 2047) HT_ ?_
           refine put 11 56 (bt 48 4095) HT_ ?_
           refine put 12 57 (bt 48 8191) HT_ ?_
           refine put 13 58 (bt 48 16383) HT_ ?_
           refine tat4 14 59 (bt 48 32767) HT_ HW_ hHeld ?_
           refine put 15 60 (bt 48 65535) HT_ ?_
           refine put 16 61 (bt 48 131071) HT_ ?_
           refine put 17 62 (bt 48 262143) HT_ ?_
           refine put 18 63 (bt 48 524287) HT_ ?_
           refine pn 19 64 (bt 48 1048575) HT_ ?_
           refine pn 20 65 (bt 48 2097151) HT_ ?_
           refine pn 21 66 (bt 48 4194303) HT_ ?_
           refine pn 22 67 (bt 48 8388607) HT_ ?_
           refine pn 23 68 (bt 48 16777215) HT_ ?_
           refine pn 24 69 (bt 48 33554431) HT_ ?_
           refine pn 25 70 (bt 48 67108863) HT_ ?_
           refine put 26 71 (bt 48 134217727) HT_ ?_
           refine put 27 72 (bt 48 268435455) HT_ ?_
           refine pn 28 73 (bt 48 536870911) HT_ ?_
           refine pn 29 74 (bt 48 1073741823) HT_ ?_
           refine pn 30 75 (bt 48 2147483647) HT_ ?_
           refine pn 31 76 (bt 48 4294967295) HT_ ?_
           refine pn 32 77 (bt 48 8589934591) HT_ ?_
           refine pn 33 78 (bt 48 17179869183) HT_ ?_
           refine put 34 79 (bt 48 34359738367) HT_ ?_
           refine put 35 80 (bt 48 68719476735) HT_ ?_
           refine pn 36 81 (bt 48 137438953471) HT_ ?_
           refine pn 37 82 (bt 48 274877906943) HT_ ?_
           refine pn 38 83 (bt 48 549755813887) HT_ ?_
           refine pn 39 84 (bt 48 1099511627775) HT_ ?_
           refine pn 40 85 (bt 48 2199023255551) HT_ ?_
           refine pn 41 86 (bt 48 4398046511103) HT_ ?_
           refine pn 42 87 (bt 48 8796093022207) HT_ ?_
           refine pn 43 88 (bt 48 17592186044415) HT_ ?_
           refine pn 44 89 (bt 48 35184372088831) HT_ ?_
           refine pn 45 90 (bt 48 70368744177663) HT_ ?_
           refine pn 46 91 (bt 48 140737488355327) HT_ ?_
           refine put 47 92 (bt 48 281474976710655) HT_ ?_
           refine done_ (done_of HT_.out (by kernel_rfl)) ?_
           try go_wp2
           go_meet
           case rel => exact ⟨_, (true), sc, H', ⟨a3_0⟩, ⟨sr HO_9⟩, ⟨sr HO_10⟩, ⟨sk BK193⟩, ⟨sbw⟩⟩
         ·obtain ⟨t208, A37, H⟩ := bnd H
          obtain rfl | rfl := tt t208
          ·replace H := ip H
           obtain ⟨c39b0, H⟩ := id_ H
           obtain ⟨c40b0, H⟩ := id_ H
           obtain ⟨-, c41b0, H⟩ | ⟨-, c41b0, H⟩ := ic_ H
           ·have H' := am H
            clear H
            try go_wp2
            replace HO_9 := am (Kd.R_drew HO_9.out)
            replace HO_10 := am (Kd.R_drew HO_10.out)
            replace BK193 := am (blk_drew BK193.out)
            replace HB := am (below_drew1 HB.out)
            obtain ⟨p203, q203, ad203, e203, hw203_0, hx203_0⟩ := at_i HR0_2 HB a3
            cases e203
            obtain ⟨p209, q209, ad209, e209, hw209_0, hx209_0⟩ := at_i HR0_1 HB (rd t199 x11_2)
            cases e209
            refine start_ (n := 48) (S := fun w' => w'.cell? ⟨gb193, 0, none⟩ = some (.int .i64 a0_0) ∧ w'.cell? ⟨gb193, 1, none⟩ = some (.slice (some ad209) l0_1.length c0_1) ∧ w'.cell? ⟨gb193, 2, none⟩ = some (.slice (some ad203) l0_2.length c0_2) ∧ w'.cell? (ad203.add (a3).toNat) = some (.int .i64 (rd l0_2 a3)) ∧ w'.cell? (ad209.add ((rd t199 x11_2)).toNat) = some (.int .i64 (rd l0_1 (rd t199 x11_2)))) (ds := []) #[false, false, false, false, false, false, false, false, false, false, false, false, false, false, false, false, false, false, false, false, false, false, false, false, false, false, false, false, false, false, false, false, false, false, false, false, false, false, false, false, false, false, false, false, false, false, false, false] (by kernel_rfl) rfl rfl ⟨bc0 BK193, bc1 BK193, bc2 BK193, (hb_ HB hw203_0), (hb_ HB hw209_0)⟩ (fun hHeld => ?_); refine with_tabW spec_AltsOf.tab9 spec_AltsOf.bits9 (fun HT_ HW_ => ?_)
            generalize wr.drew = w42 at HO_9 HO_10 BK193 HB hx203_0 hx209_0 hHeld ⊢
            refine put 0 45 (bt 48 1) HT_ ?_
            refine put 1 46 (bt 48 3) HT_ ?_
            refine put 3 48 (bt 48 11) HT_ ?_
            refine tat5 2 47 (bt 48 15) HT_ HW_ hHeld ?_
            refine put 4 49 (bt 48 31) HT_ ?_
            refine tat5 5 50 (bt 48 63) HT_ HW_ hHeld ?_
            refine put 6 51 (bt 48 127) HT_ ?_
            refine put 7 52 (bt 48 255) HT_ ?_
            refine put 8 53 (bt 48 511) HT_ ?_
            refine put 9 54 (bt 48 1023) HT_ ?_
            refine put 10 55 (bt 48 2047) HT_ ?_
            refine put 11 56 (bt 48 4095) HT_ ?_
            refine pn 12 57 (bt 48 8191) HT_ ?_
            refine pn 13 58 (bt 48 16383) HT_ ?_
            refine pn 14 59 (bt 48 32767) HT_ ?_
            refine pn 15 60 (bt 48 65535) HT_ ?_
            refine put 16 61 (bt 48 131071) HT_ ?_
            refine put 17 62 (bt 48 262143) HT_ ?_
            refine put 18 63 (bt 48 524287) HT_ ?_
            refine put 19 64 (bt 48 1048575) HT_ ?_
            refine put 20 65 (bt 48 2097151) HT_ ?_
            refine tat5 21 66 (bt 48 4194303) HT_ HW_ hHeld ?_
            refine put 22 67 (bt 48 8388607) HT_ ?_
            refine put 23 68 (bt 48 16777215) HT_ ?_
            refine on 24 69 (bt 48 33554431) HT_ (fun K hK => ?_)
            refine goes_ Try.func30 (by kernel_rfl) rfl #[.int .i64 (rd t199 x11_2), .int .i64 0, .int .i64 (wrap64 ((l0_1.length : Int) - 1))] (by rfl) rfl rfl sl ?_
            with_reducible refine (spec_l1In.calls (rd t199 x11_2) 0 (wrap64 ((l0_1.length : Int) - 1)) true _ A37.out).mono ?_
            rintro e w' ⟨rfl, ⟨nd, rfl⟩⟩
            refine ⟨_, rfl, ?_⟩
            refine hK.out _ _ ⟨bc0 BK193, bc1 BK193, bc2 BK193, (hb_ ⟨sb⟩ hw203_0), (hb_ ⟨sb⟩ hw209_0)⟩ (fun hHeld => ?_)
            clear hK K
            refine nm 69 ?_
            refine put 25 70 (bt 48 67108863) HT_ ?_
            refine put 26 71 (bt 48 134217727) HT_ ?_
            refine put 27 72 (bt 48 268435455) HT_ ?_
            refine put 28 73 (bt 48 536870911) HT_ ?_
            refine put 30 75 (bt 48 1610612735) HT_ ?_
            refine tat5 29 74 (bt 48 2147483647) HT_ HW_ hHeld ?_
            refine put 31 76 (bt 48 4294967295) HT_ ?_
            refine tat5 32 77 (bt 48 8589934591) HT_ HW_ hHeld ?_
            refine put 33 78 (bt 48 17179869183) HT_ ?_
            refine put 34 79 (bt 48 34359738367) HT_ ?_
            refine put 35 80 (bt 48 68719476735) HT_ ?_
            refine pn 36 81 (bt 48 137438953471) HT_ ?_
            refine pn 37 82 (bt 48 274877906943) HT_ ?_
            refine pn 38 83 (bt 48 549755813887) HT_ ?_
            refine pn 39 84 (bt 48 1099511627775) HT_ ?_
            refine pn 40 85 (bt 48 2199023255551) HT_ ?_
            refine pn 41 86 (bt 48 4398046511103) HT_ ?_
            refine pn 42 87 (bt 48 8796093022207) HT_ ?_
            refine pn 43 88 (bt 48 17592186044415) HT_ ?_
            refine pn 44 89 (bt 48 35184372088831) HT_ ?_
            refine pn 45 90 (bt 48 70368744177663) HT_ ?_
            refine pn 46 91 (bt 48 140737488355327) HT_ ?_
            refine put 47 92 (bt 48 281474976710655) HT_ ?_
            refine done_ (done_of HT_.out (by kernel_rfl)) ?_
            try go_wp2
            go_meet
            case rel => exact ⟨_, (true), sc, H', ⟨a3_0⟩, ⟨sr HO_9⟩, ⟨sr HO_10⟩, ⟨sk BK193⟩, ⟨sbw⟩⟩
           ·obtain ⟨c43b0, H⟩ := id_ H
            have H' := am H
            clear H
            try go_wp2
            replace HO_9 := am (Kd.R_drew HO_9.out)
            replace HO_10 := am (Kd.R_drew HO_10.out)
            replace BK193 := am (blk_drew BK193.out)
            replace HB := am (below_drew1 HB.out)
            obtain ⟨p203, q203, ad203, e203, hw203_0, hx203_0⟩ := at_i HR0_2 HB a3
            cases e203
            obtain ⟨p209, q209, ad209, e209, hw209_0, hx209_0⟩ := at_i HR0_1 HB (rd t199 x11_2)
            cases e209
            obtain ⟨p210, q210, ad210, e210, hw210_0, hx210_0⟩ := at_i HR0_1 HB (rd t199 x11_2)
            obtain rfl : ad209 = ad210 := (by injection e210)
            obtain ⟨p211, q211, ad211, e211, hw211_0, hx211_0⟩ := at_i HR0_1 HB a3
            obtain rfl : ad209 = ad211 := (by injection e211)
            refine start_ (n := 48) (S := fun w' => w'.cell? ⟨gb193, 0, none⟩ = some (.int .i64 a0_0) ∧ w'.cell? ⟨gb193, 1, none⟩ = some (.slice (some ad209) l0_1.length c0_1) ∧ w'.cell? ⟨gb193, 2, none⟩ = some (.slice (some ad203) l0_2.length c0_2) ∧ w'.cell? (ad203.add (a3).toNat) = some (.int .i64 (rd l0_2 a3)) ∧ w'.cell? (ad209.add ((rd t199 x11_2)).toNat) = some (.int .i64 (rd l0_1 (rd t199 x11_2))) ∧ w'.cell? (ad209.add ((rd t199 x11_2)).toNat) = some (.int .i64 (rd l0_1 (rd t199 x11_2))) ∧ w'.cell? (ad209.add (a3).toNat) = some (.int .i64 (rd l0_1 a3))) (ds := []) #[false, false, false, false, false, false, false, false, false, false, false, false, false, false, false, false, false, false, false, false, false, false, false, false, false, false, false, false, false, false, false, false, false, false, false, false, false, false, false, false, false, false, false, false, false, false, false, false] (by kernel_rfl) rfl rfl ⟨bc0 BK193, bc1 BK193, bc2 BK193, (hb_ HB hw203_0), (hb_ HB hw209_0), (hb_ HB hw210_0), (hb_ HB hw211_0)⟩ (fun hHeld => ?_); refine with_tabW spec_AltsOf.tab9 spec_AltsOf.bits9 (fun HT_ HW_ => ?_)
            generalize wr.drew = w44 at HO_9 HO_10 BK193 HB hx203_0 hx209_0 hx210_0 hx211_0 hHeld ⊢
            refine put 0 45 (bt 48 1) HT_ ?_
            refine put 1 46 (bt 48 3) HT_ ?_
            refine put 3 48 (bt 48 11) HT_ ?_
            refine tat7 2 47 (bt 48 15) HT_ HW_ hHeld ?_
            refine put 4 49 (bt 48 31) HT_ ?_
            refine tat7 5 50 (bt 48 63) HT_ HW_ hHeld ?_
            refine put 6 51 (bt 48 127) HT_ ?_
            refine put 7 52 (bt 48 255) HT_ ?_
            refine put 8 53 (bt 48 511) HT_ ?_
            refine put 9 54 (bt 48 1023) HT_ ?_
            refine put 10 55 (bt 48 2047) HT_ ?_
            refine put 11 56 (bt 48 4095) HT_ ?_
            refine pn 12 57 (bt 48 8191) HT_ ?_
            refine pn 13 58 (bt 48 16383) HT_ ?_
            refine pn 14 59 (bt 48 32767) HT_ ?_
            refine pn 15 60 (bt 48 65535) HT_ ?_
            refine put 16 61 (bt 48 131071) HT_ ?_
            refine put 17 62 (bt 48 262143) HT_ ?_
            refine put 18 63 (bt 48 524287) HT_ ?_
            refine put 19 64 (bt 48 1048575) HT_ ?_
            refine put 20 65 (bt 48 2097151) HT_ ?_
            refine tat7 21 66 (bt 48 4194303) HT_ HW_ hHeld ?_
            refine put 22 67 (bt 48 8388607) HT_ ?_
            refine put 23 68 (bt 48 16777215) HT_ ?_
            refine on 24 69 (bt 48 33554431) HT_ (fun K hK => ?_)
            refine goes_ Try.func30 (by kernel_rfl) rfl #[.int .i64 (rd t199 x11_2), .int .i64 0, .int .i64 (wrap64 ((l0_1.length : Int) - 1))] (by rfl) rfl rfl sl ?_
            with_reducible refine (spec_l1In.calls (rd t199 x11_2) 0 (wrap64 ((l0_1.length : Int) - 1)) true _ A37.out).mono ?_
            rintro e w' ⟨rfl, ⟨nd, rfl⟩⟩
            refine ⟨_, rfl, ?_⟩
            refine hK.out _ _ ⟨bc0 BK193, bc1 BK193, bc2 BK193, (hb_ ⟨sb⟩ hw203_0), (hb_ ⟨sb⟩ hw209_0), (hb_ ⟨sb⟩ hw210_0), (hb_ ⟨sb⟩ hw211_0)⟩ (fun hHeld => ?_)
            clear hK K
            refine nm 69 ?_
            refine put 25 70 (bt 48 67108863) HT_ ?_
            refine put 26 71 (bt 48 134217727) HT_ ?_
            refine put 27 72 (bt 48 268435455) HT_ ?_
            refine put 28 73 (bt 48 536870911) HT_ ?_
            refine put 30 75 (bt 48 1610612735) HT_ ?_
            refine tat7 29 74 (bt 48 2147483647) HT_ HW_ hHeld ?_
            refine put 31 76 (bt 48 4294967295) HT_ ?_
            refine tat7 32 77 (bt 48 8589934591) HT_ HW_ hHeld ?_
            refine put 33 78 (bt 48 17179869183) HT_ ?_
            refine put 34 79 (bt 48 34359738367) HT_ ?_
            refine put 35 80 (bt 48 68719476735) HT_ ?_
            refine put 36 81 (bt 48 137438953471) HT_ ?_
            refine put 38 83 (bt 48 412316860415) HT_ ?_
            refine put 41 86 (bt 48 2611340115967) HT_ ?_
            refine put 43 88 (bt 48 11407433138175) HT_ ?_
            refine tat7 37 82 (bt 48 11544872091647) HT_ HW_ hHeld ?_
            refine put 39 84 (bt 48 12094627905535) HT_ ?_
            refine tat7 40 85 (bt 48 13194139533311) HT_ HW_ hHeld ?_
            refine tat7 42 87 (bt 48 17592186044415) HT_ HW_ hHeld ?_
            refine put 44 89 (bt 48 35184372088831) HT_ ?_
            refine tat7 45 90 (bt 48 70368744177663) HT_ HW_ hHeld ?_
            refine put 46 91 (bt 48 140737488355327) HT_ ?_
            refine put 47 92 (bt 48 281474976710655) HT_ ?_
            refine done_ (done_of HT_.out (by kernel_rfl)) ?_
            try go_wp2
            go_meet
            case rel => exact ⟨_, (decide ((rd l0_1 (rd t199 x11_2)) ≥ (rd l0_1 a3))), sc, H', ⟨a3_0⟩, ⟨sr HO_9⟩, ⟨sr HO_10⟩, ⟨sk BK193⟩, ⟨sbw⟩⟩
          ·replace H := im H
           have H' := am H
           clear H
           try go_wp2
           replace HO_9 := am (Kd.R_drew HO_9.out)
           replace HO_10 := am (Kd.R_drew HO_10.out)
           replace BK193 := am (blk_drew BK193.out)
           replace HB := am (below_drew1 HB.out)
           obtain ⟨p203, q203, ad203, e203, hw203_0, hx203_0⟩ := at_i HR0_2 HB a3
           cases e203
           refine start_ (n := 48) (S := fun w' => w'.cell? ⟨gb193, 0, none⟩ = some (.int .i64 a0_0) ∧ w'.cell? ⟨gb193, 1, none⟩ = some (.slice A0_1 l0_1.length c0_1) ∧ w'.cell? ⟨gb193, 2, none⟩ = some (.slice (some ad203) l0_2.length c0_2) ∧ w'.cell? (ad203.add (a3).toNat) = some (.int .i64 (rd l0_2 a3))) (ds := []) #[false, false, false, false, false, false, false, false, false, false, false, false, false, false, false, false, false, false, false, false, false, false, false, false, false, false, false, false, false, false, false, false, false, false, false, false, false, false, false, false, false, false, false, false, false, false, false, false] (by kernel_rfl) rfl rfl ⟨bc0 BK193, bc1 BK193, bc2 BK193, (hb_ HB hw203_0)⟩ (fun hHeld => ?_); refine with_tabW spec_AltsOf.tab9 spec_AltsOf.bits9 (fun HT_ HW_ => ?_)
           generalize wr.drew = w45 at HO_9 HO_10 BK193 HB hx203_0 hHeld ⊢
           refine put 0 45 (bt 48 1) HT_ ?_
           refine put 1 46 (bt 48 3) HT_ ?_
           refine put 3 48 (bt 48 11) HT_ ?_
           refine tat4 2 47 (bt 48 15) HT_ HW_ hHeld ?_
           refine put 4 49 (bt 48 31) HT_ ?_
           refine tat4 5 50 (bt 48 63) HT_ HW_ hHeld ?_
           refine put 6 51 (bt 48 127) HT_ ?_
           refine put 7 52 (bt 48 255) HT_ ?_
           refine put 8 53 (bt 48 511) HT_ ?_
           refine put 9 54 (bt 48 1023) HT_ ?_
           refine put 10 55 (bt 48 2047) HT_ ?_
           refine put 11 56 (bt 48 4095) HT_ ?_
           refine pn 12 57 (bt 48 8191) HT_ ?_
           refine pn 13 58 (bt 48 16383) HT_ ?_
           refine pn 14 59 (bt 48 32767) HT_ ?_
           refine pn 15 60 (bt 48 65535) HT_ ?_
           refine put 16 61 (bt 48 131071) HT_ ?_
           refine put 17 62 (bt 48 262143) HT_ ?_
           refine put 18 63 (bt 48 524287) HT_ ?_
           refine put 19 64 (bt 48 1048575) HT_ ?_
           refine put 20 65 (bt 48 2097151) HT_ ?_
           refine tat4 21 66 (bt 48 4194303) HT_ HW_ hHeld ?_
           refine put 22 67 (bt 48 8388607) HT_ ?_
           refine put 23 68 (bt 48 16777215) HT_ ?_
           refine on 24 69 (bt 48 33554431) HT_ (fun K hK => ?_)
           refine goes_ Try.func30 (by kernel_rfl) rfl #[.int .i64 (rd t199 x11_2), .int .i64 0, .int .i64 (wrap64 ((l0_1.length : Int) - 1))] (by rfl) rfl rfl sl ?_
           with_reducible refine (spec_l1In.calls (rd t199 x11_2) 0 (wrap64 ((l0_1.length : Int) - 1)) false _ A37.out).mono ?_
           rintro e w' ⟨rfl, ⟨nd, rfl⟩⟩
           refine ⟨_, rfl, ?_⟩
           refine hK.out _ _ ⟨bc0 BK193, bc1 BK193, bc2 BK193, (hb_ ⟨sb⟩ hw203_0)⟩ (fun hHeld => ?_)
           clear hK K
           refine nm 69 ?_
           refine put 25 70 (bt 48 67108863) HT_ ?_
           refine put 26 71 (bt 48 134217727) HT_ ?_
           refine put 27 72 (bt 48 268435455) HT_ ?_
           refine pn 28 73 (bt 48 536870911) HT_ ?_
           refine pn 29 74 (bt 48 1073741823) HT_ ?_
           refine pn 30 75 (bt 48 2147483647) HT_ ?_
           refine pn 31 76 (bt 48 4294967295) HT_ ?_
           refine pn 32 77 (bt 48 8589934591) HT_ ?_
           refine pn 33 78 (bt 48 17179869183) HT_ ?_
           refine put 34 79 (bt 48 34359738367) HT_ ?_
           refine put 35 80 (bt 48 68719476735) HT_ ?_
           refine pn 36 81 (bt 48 137438953471) HT_ ?_
           refine pn 37 82 (bt 48 274877906943) HT_ ?_
           refine pn 38 83 (bt 48 549755813887) HT_ ?_
           refine pn 39 84 (bt 48 1099511627775) HT_ ?_
           refine pn 40 85 (bt 48 2199023255551) HT_ ?_
           refine pn 41 86 (bt 48 4398046511103) HT_ ?_
           refine pn 42 87 (bt 48 8796093022207) HT_ ?_
           refine pn 43 88 (bt 48 17592186044415) HT_ ?_
           refine pn 44 89 (bt 48 35184372088831) HT_ ?_
           refine pn 45 90 (bt 48 70368744177663) HT_ ?_
           refine pn 46 91 (bt 48 140737488355327) HT_ ?_
           refine put 47 92 (bt 48 281474976710655) HT_ ?_
           refine done_ (done_of HT_.out (by kernel_rfl)) ?_
           try go_wp2
           go_meet
           case rel => exact ⟨_, (true), sc, H', ⟨a3_0⟩, ⟨sr HO_9⟩, ⟨sr HO_10⟩, ⟨sk BK193⟩, ⟨sbw⟩⟩
       case rest =>
        clear HC19
        obtain ⟨kq, x92_18, rfl, HA, HJ18, HO_9, HO_10, BK193, HB⟩ := hcut
        cases kq with
        | zero => exact absurd HA.out (by simp [spec_AltsOf.j2])
        | succ kj18 =>
         have H := HA.out
         clear HA
         simp only [spec_AltsOf.j2] at H
         obtain rfl | rfl := tt x92_18
         ·replace H := ip H
          have H' := am H
          clear H
          go_wp2
          go_roundg kj18
          case measure => have := HJ4.out; have := HK2.out; have := HJ18.out; omega
          case rel => exact ⟨(x9_2), (wrap64 (x11_2 + 1)), sc, H', ⟨by have := HJ4.out; have := HK2.out; have := HJ18.out; omega⟩, ⟨sr HO_9⟩, ⟨sr HO_10⟩, ⟨sk BK193⟩, ⟨sbw⟩⟩
         ·replace H := im H
          have H' := am H
          clear H
          go_wp2
          go_loopg [13] kj18 (fun kq v13 w' => ∃ (x13_4 : Int), v13 = .int .i64 x13_4 ∧ Aside0 (spec_AltsOf.l1 kq a2 a3 x9_2 t199 x11_2 (rd t199 x11_2) x13_4 a0_0 l0_1 l0_2 = some r) ∧ Aside0 (kq ≤ kj18) ∧ Aside0 (Kd.R (Kd.int .i64) 3 w' w.heap.size (fun k_ => some k_ ≠ ((.slice (some ad202) t199.length co20) : Value).ownBlock) u9 x9_2) ∧ Aside0 (Kd.R (Kd.int .i64) 3 w' w.heap.size (fun k_ => some k_ ≠ (u9 : Value).ownBlock) (.slice (some ad202) t199.length co20) t199) ∧ Aside0 (w'.heap[gb193]? = some (.cells #[.int .i64 a0_0, (.slice A0_1 l0_1.length c0_1), (.slice A0_2 l0_2.length c0_2)] 29 (0, 0))) ∧ Aside0 (Below w.heap.size w w'))
          case atStart => exact ⟨(0), sc, H', kk0, ⟨sr HO_9⟩, ⟨sr HO_10⟩, ⟨sk BK193⟩, ⟨sbw⟩⟩
          case round =>
           clear H'
           obtain ⟨x13_4, rfl, HA, HK4, HO_9, HO_10, BK193, HB⟩ := hrel
           cases gk with
           | zero => exact absurd HA.out (by simp [spec_AltsOf.l1])
           | succ k4 =>
            have H := HA.out
            clear HA
            simp only [spec_AltsOf.l1] at H
            obtain ⟨-, c47b0, H⟩ | ⟨-, c47b0, H⟩ := ic_ H
            ·obtain ⟨c48b0, H⟩ := id_ H
             obtain ⟨c49b0, H⟩ := id_ H
             obtain ⟨c50b0, H⟩ := id_ H
             obtain ⟨c51b0, H⟩ := id_ H
             obtain ⟨c52b0, H⟩ := id_ H
             obtain ⟨-, c53b0, H⟩ | ⟨-, c53b0, H⟩ := ic_ H
             ·have H' := am H
              clear H
              try go_wp2
              replace HO_9 := am (Kd.R_drew HO_9.out)
              replace HO_10 := am (Kd.R_drew HO_10.out)
              replace BK193 := am (blk_drew BK193.out)
              replace HB := am (below_drew1 HB.out)
              obtain ⟨Ao55, co55, eo55⟩ := Kd.R_slice HO_9.out
              (first | subst eo55 | (injection eo55 with f1_ f2_ f3_; have f4_ := f1_.symm; have f5_ := f3_.symm; clear f1_ f2_ f3_; subst f4_; subst f5_))
              have p212 : 0 ≤ (x13_4 : Int) := sa
              have q212 : x13_4 < (x9_2.length : Int) := sa
              obtain ⟨ad212, e212, hx212_0⟩ := Kd.at_int (Kd.R_reads' HO_9.out).2.2 x13_4 p212 q212
              cases e212
              replace p212 := eq_true p212
              replace q212 := eq_true q212
              obtain ⟨p213, q213, ad213, e213, hw213_0, hx213_0⟩ := at_i HR0_1 HB (rd x9_2 x13_4)
              cases e213
              obtain ⟨p214, q214, ad214, e214, hw214_0, hx214_0⟩ := at_i HR0_1 HB (rd t199 x11_2)
              obtain rfl : ad213 = ad214 := (by injection e214)
              refine start_ (n := 20) (S := fun w' => w'.cell? ⟨gb193, 0, none⟩ = some (.int .i64 a0_0) ∧ w'.cell? ⟨gb193, 1, none⟩ = some (.slice (some ad213) l0_1.length c0_1) ∧ w'.cell? ⟨gb193, 2, none⟩ = some (.slice A0_2 l0_2.length c0_2) ∧ w'.cell? (ad212.add (x13_4).toNat) = some (.int .i64 (rd x9_2 x13_4)) ∧ w'.cell? (ad213.add ((rd x9_2 x13_4)).toNat) = some (.int .i64 (rd l0_1 (rd x9_2 x13_4))) ∧ w'.cell? (ad213.add ((rd t199 x11_2)).toNat) = some (.int .i64 (rd l0_1 (rd t199 x11_2)))) (ds := []) #[false, false, false, false, false, false, false, false, false, false, false, false, false, false, false, false, false, false, false, false] (by kernel_rfl) rfl rfl ⟨bc0 BK193, bc1 BK193, bc2 BK193, hx212_0, (hb_ HB hw213_0), (hb_ HB hw214_0)⟩ (fun hHeld => ?_); refine with_tabW spec_AltsOf.tab11 spec_AltsOf.bits11 (fun HT_ HW_ => ?_)
              generalize wr.drew = w54 at HO_9 HO_10 BK193 HB hx212_0 hx213_0 hx214_0 hHeld ⊢
              refine put 0 93 (bt 20 1) HT_ ?_
              refine put 1 94 (bt 20 3) HT_ ?_
              refine put 2 95 (bt 20 7) HT_ ?_
              refine put 3 96 (bt 20 15) HT_ ?_
              refine put 4 97 (bt 20 31) HT_ ?_
              refine put 5 98 (bt 20 63) HT_ ?_
              refine put 7 100 (bt 20 191) HT_ ?_
              refine put 8 101 (bt 20 447) HT_ ?_
              refine put 9 102 (bt 20 959) HT_ ?_
              refine put 13 106 (bt 20 9151) HT_ ?_
              refine put 15 108 (bt 20 41919) HT_ ?_
              refine tat6 6 99 (bt 20 41983) HT_ HW_ hHeld ?_
              refine tat6 10 103 (bt 20 43007) HT_ HW_ hHeld ?_
              refine put 11 104 (bt 20 45055) HT_ ?_
              refine tat6 12 105 (bt 20 49151) HT_ HW_ hHeld ?_
              refine tat6 14 107 (bt 20 65535) HT_ HW_ hHeld ?_
              refine put 16 109 (bt 20 131071) HT_ ?_
              refine tat6 17 110 (bt 20 262143) HT_ HW_ hHeld ?_
              refine put 18 111 (bt 20 524287) HT_ ?_
              refine put 19 112 (bt 20 1048575) HT_ ?_
              refine done_ (done_of HT_.out (by kernel_rfl)) ?_
              try go_wp2
              go_roundg k4
              case measure => have := HJ4.out; have := HK2.out; have := HJ18.out; have := HK4.out; omega
              case rel => exact ⟨(wrap64 (x13_4 + 1)), sc, H', ⟨a3_5⟩, ⟨sr HO_9⟩, ⟨sr HO_10⟩, ⟨sk BK193⟩, ⟨sbw⟩⟩
             ·obtain ⟨y215, Ny215, H⟩ := iy_ H
              have c56b0 := eq_true (sa : 0 ≤ x13_4)
              obtain ⟨c57, H⟩ := ia_ H
              have c57b0 := eq_true c57
              have c57b1 := decide_eq_true c57
              clear c57
              obtain ⟨y218, Ny218, H⟩ := iy_ H
              obtain ⟨LMc58, H⟩ := il_ H
              obtain ⟨y222, Ny222, H⟩ := iy_ H
              obtain ⟨y225, Ny225, H⟩ := iy_ H
              obtain ⟨LMc59, H⟩ := il_ H
              obtain ⟨y228, Ny228, H⟩ := iy_ H
              have c60b0 := eq_true (sa : 0 ≤ x13_4)
              have c61b0 := eq_true (sa : x13_4 ≤ (x9_2.length : Int))
              obtain ⟨y231, Ny231, H⟩ := iy_ H
              obtain ⟨LMc62, H⟩ := il_ H
              obtain ⟨y235, hy235⟩ : ∃ y_ : List Int, y_ = (y228 ++ y231) := ⟨_, rfl⟩
              replace H : (spec_AltsOf.l0 k4 a2 a3 y235 t199 (wrap64 (x11_2 + 1)) a0_0 l0_1 l0_2) = some r := ry hy235 H
              have Ny235 := am hy235
              clear hy235
              have H' := am H
              clear H
              try go_wp2
              replace HO_9 := am (Kd.R_drew HO_9.out)
              replace HO_10 := am (Kd.R_drew HO_10.out)
              replace BK193 := am (blk_drew BK193.out)
              replace HB := am (below_drew1 HB.out)
              obtain ⟨Ao64, co64, eo64⟩ := Kd.R_slice HO_9.out
              (first | subst eo64 | (injection eo64 with f1_ f2_ f3_; have f4_ := f1_.symm; have f5_ := f3_.symm; clear f1_ f2_ f3_; subst f4_; subst f5_))
              have p212 : 0 ≤ (x13_4 : Int) := sa
              have q212 : x13_4 < (x9_2.length : Int) := sa
              obtain ⟨ad212, e212, hx212_0⟩ := Kd.at_int (Kd.R_reads' HO_9.out).2.2 x13_4 p212 q212
              cases e212
              replace p212 := eq_true p212
              replace q212 := eq_true q212
              obtain ⟨p213, q213, ad213, e213, hw213_0, hx213_0⟩ := at_i HR0_1 HB (rd x9_2 x13_4)
              cases e213
              obtain ⟨p214, q214, ad214, e214, hw214_0, hx214_0⟩ := at_i HR0_1 HB (rd t199 x11_2)
              obtain rfl : ad213 = ad214 := (by injection e214)
              refine start_ (n := 20) (S := fun w' => w'.cell? ⟨gb193, 0, none⟩ = some (.int .i64 a0_0) ∧ w'.cell? ⟨gb193, 1, none⟩ = some (.slice (some ad213) l0_1.length c0_1) ∧ w'.cell? ⟨gb193, 2, none⟩ = some (.slice A0_2 l0_2.length c0_2) ∧ w'.cell? (ad212.add (x13_4).toNat) = some (.int .i64 (rd x9_2 x13_4)) ∧ w'.cell? (ad213.add ((rd x9_2 x13_4)).toNat) = some (.int .i64 (rd l0_1 (rd x9_2 x13_4))) ∧ w'.cell? (ad213.add ((rd t199 x11_2)).toNat) = some (.int .i64 (rd l0_1 (rd t199 x11_2)))) (ds := []) #[false, false, false, false, false, false, false, false, false, false, false, false, false, false, false, false, false, false, false, false] (by kernel_rfl) rfl rfl ⟨bc0 BK193, bc1 BK193, bc2 BK193, hx212_0, (hb_ HB hw213_0), (hb_ HB hw214_0)⟩ (fun hHeld => ?_); refine with_tabW spec_AltsOf.tab11 spec_AltsOf.bits11 (fun HT_ HW_ => ?_)
              generalize wr.drew = w63 at HO_9 HO_10 BK193 HB hx212_0 hx213_0 hx214_0 hHeld ⊢
              refine put 0 93 (bt 20 1) HT_ ?_
              refine put 1 94 (bt 20 3) HT_ ?_
              refine put 2 95 (bt 20 7) HT_ ?_
              refine put 3 96 (bt 20 15) HT_ ?_
              refine put 4 97 (bt 20 31) HT_ ?_
              refine put 5 98 (bt 20 63) HT_ ?_
              refine put 7 100 (bt 20 191) HT_ ?_
              refine put 8 101 (bt 20 447) HT_ ?_
              refine put 9 102 (bt 20 959) HT_ ?_
              refine put 13 106 (bt 20 9151) HT_ ?_
              refine put 15 108 (bt 20 41919) HT_ ?_
              refine tat6 6 99 (bt 20 41983) HT_ HW_ hHeld ?_
              refine tat6 10 103 (bt 20 43007) HT_ HW_ hHeld ?_
              refine put 11 104 (bt 20 45055) HT_ ?_
              refine tat6 12 105 (bt 20 49151) HT_ HW_ hHeld ?_
              refine tat6 14 107 (bt 20 65535) HT_ HW_ hHeld ?_
              refine put 16 109 (bt 20 131071) HT_ ?_
              refine tat6 17 110 (bt 20 262143) HT_ HW_ hHeld ?_
              refine put 18 111 (bt 20 524287) HT_ ?_
              refine put 19 112 (bt 20 1048575) HT_ ?_
              refine done_ (done_of HT_.out (by kernel_rfl)) ?_
              try go_wp2
              replace HO_9 := am (Kd.R_drew HO_9.out)
              replace HO_10 := am (Kd.R_drew HO_10.out)
              replace BK193 := am (blk_drew BK193.out)
              replace HB := am (below_drew1 HB.out)
              have q66 : (x13_4 : Int) ≤ ((x9_2.length : Int) : Int) := sa
              obtain ⟨i066, hi066, _, hsz66, _⟩ := info_parts info3
              have hroom66 : x9_2.length ≤ co64 := (Kd.R_reads' HO_9.out).2.1
              have hC66 : Kd.C (Kd.int .i64) _ (some ad212) x9_2.length x9_2 := (Kd.R_reads' HO_9.out).2.2
              have hcut66 := cut_to (P := Try.prog) 22 3 .i64 Try.underlying22 hi066 (some ad212) x9_2.length co64 x13_4 (sa) q66 hroom66
              have hr66 := Kd.C_take (m := (x13_4 : Int).toNat) hC66 (by omega)
              have hy66 : y218.length = (x13_4 : Int).toNat := (by rw [Ny218.out, List.length_take]; omega)
              rw [← Ny218.out] at hr66
              rw [← hy66] at hcut66
              have HR221 := am hr66
              have HC221 := am (show y218.length ≤ co64 from by omega)
              clear hr66 hC66 hroom66 hi066 hsz66
              have KY66 := am hy66
              clear hy66
              have KL66 := am (show (x13_4 : Int).toNat ≤ x9_2.length from by omega)
              replace q66 := eq_true q66
              have q67 : (x13_4 : Int) ≤ ((x9_2.length : Int) : Int) := sa
              obtain ⟨i067, hi067, _, hsz67, _⟩ := info_parts info3
              have hroom67 : x9_2.length ≤ co64 := (Kd.R_reads' HO_9.out).2.1
              have hC67 : Kd.C (Kd.int .i64) _ (some ad212) x9_2.length x9_2 := (Kd.R_reads' HO_9.out).2.2
              have q067 : (0 : Int) ≤ (x13_4 : Int) := sa
              have hcut67 := cut_from (P := Try.prog) 22 3 .i64 Try.underlying22 hi067 1 hsz67 (some ad212) x9_2.length co64 x13_4 q067 q67
              have hr67 := Kd.C_drop (m := (x13_4 : Int).toNat) (c := co64) hC67 (by omega) hroom67
              obtain ⟨A67, hA67⟩ : ∃ A1, A1 = (if co64 = (x13_4 : Int).toNat then (some ad212) else ((some ad212) : Option Addr).map (·.add ((x13_4 : Int).toNat * 1))) := ⟨_, rfl⟩
              obtain ⟨c67, hc67⟩ : ∃ c1, c1 = co64 - (x13_4 : Int).toNat := ⟨_, rfl⟩
              have hy67 : y231.length = x9_2.length - (x13_4 : Int).toNat := (by rw [Ny231.out, List.length_drop] <;> omega)
              rw [show (x9_2).drop (x13_4 : Int).toNat = y231 from Ny231.out.symm] at hr67
              replace hr67 : Kd.C (Kd.int .i64) _ A67 y231.length y231 := (by rw [hA67]; exact hr67)
              rw [← hy67, ← hA67, ← hc67] at hcut67
              have HR234 := am hr67
              have HC234 := am (show y231.length ≤ c67 from by rw [hy67, hc67]; exact Nat.sub_le_sub_right hroom67 _)
              clear hr67 hC67 hroom67 hi067 hsz67 hc67
              have KY67 := am hy67
              have KA67 := am hA67
              clear hy67 hA67
              have KL67 := am (show (x13_4 : Int).toNat ≤ x9_2.length from by omega)
              replace q67 := eq_true q67
              refine start_ (n := 13) (S := fun w' => True) (ds := []) #[false, false, false, false, false, false, false, false, false, false, false, false, false] (by kernel_rfl) rfl rfl trivial (fun hHeld => ?_); refine with_tabW spec_AltsOf.tab13 spec_AltsOf.bits13 (fun HT_ HW_ => ?_)
              generalize w63.drew = w65 at HO_9 HO_10 BK193 HB HR221 HR234 hHeld ⊢
              refine put 1 116 (bt 13 2) HT_ ?_
              refine put 2 117 (bt 13 6) HT_ ?_
              refine put 3 118 (bt 13 14) HT_ ?_
              refine put 5 120 (bt 13 46) HT_ ?_
              refine put 8 123 (bt 13 302) HT_ ?_
              refine put 9 124 (bt 13 814) HT_ ?_
              refine put 10 125 (bt 13 1838) HT_ ?_
              refine join_ (σ := Value × Value × Value) 3 (bt 13 1919) (fun s_ => [(115, s_.1), (119, s_.2.1), (121, s_.2.2)]) (fun s_ w' => (Kd.R (Kd.int .i64) 3 w' w.heap.size (fun k_ => some k_ ≠ (s_.2.2 : Value).ownBlock ∧ some k_ ≠ (.slice (some ad202) t199.length co20 : Value).ownBlock ∧ some k_ ≠ (.slice (some ad212) x9_2.length co64 : Value).ownBlock) s_.2.1 y222) ∧ (Kd.R (Kd.int .i64) 3 w' w.heap.size (fun k_ => some k_ ≠ (s_.2.1 : Value).ownBlock ∧ some k_ ≠ (.slice (some ad202) t199.length co20 : Value).ownBlock ∧ some k_ ≠ (.slice (some ad212) x9_2.length co64 : Value).ownBlock) s_.2.2 y225) ∧ (Kd.R (Kd.int .i64) 3 w' w.heap.size (fun k_ => some k_ ≠ (s_.2.1 : Value).ownBlock ∧ some k_ ≠ (s_.2.2 : Value).ownBlock ∧ some k_ ≠ (.slice (some ad212) x9_2.length co64 : Value).ownBlock) (.slice (some ad202) t199.length co20) t199) ∧ (Kd.R (Kd.int .i64) 3 w' w.heap.size (fun k_ => some k_ ≠ (s_.2.1 : Value).ownBlock ∧ some k_ ≠ (s_.2.2 : Value).ownBlock ∧ some k_ ≠ (.slice (some ad202) t199.length co20 : Value).ownBlock) (.slice (some ad212) x9_2.length co64) x9_2) ∧ (w'.heap[gb193]? = some (.cells #[.int .i64 a0_0, .slice (some ad213) l0_1.length c0_1, .slice A0_2 l0_2.length c0_2] 29 (0, 0))) ∧ (Below w.heap.size w w')) ?_ ?_
              rotate_left
              ·intro hCont
               refine two_ (i := 0) (j := 6) (Ni := some 115) (Nj := some 121) (bt 13 1839) (bt 13 1902) rfl rfl rfl rfl (two_of HT_.out (by kernel_rfl)) (by decide) (by decide) (fun K hK => ?_) (fun K hK => ?_)
               ·skip
                refine Kd.R_lit_step (Kd.int .i64) _ 3 ?hg (N := 115) ?hd (xs := ([] : List Int)) (inner := []) (ok := fun _ => True) (okp := fun _ => True) ?hr ?hp (fun _ hk => hk) trivial (Below.refl _ _) (Nat.le_refl _) (by simp) ?_; (case hd => rfl); (case hg => rfl); (case hr => first | (go_simp; done) | (go_simp; rfl)); (case hp => exact (Reps.none _ _))
                intro v216 w68 ho69 hb hg_ hnew_
                clear hg_ hnew_
                (first | rw [← Ny215.out] at ho69 | (simp only [Int.reduceToNat] at ho69; rw [← Ny215.out] at ho69))
                have HO217 := am (Kd.R_lower (Kd.R_new' (Kd.R_new' ho69 (Kd.R_lt (sr HO_9))) (Kd.R_lt (sr HO_10))) (below_size (sbw)))
                replace HO_9 := am (Kd.R_elder' (sr HO_9) (Kd.R_base ho69) hb)
                replace HO_10 := am (Kd.R_elder' (sr HO_10) (Kd.R_base ho69) hb)
                replace BK193 := bb BK193 hb
                replace HR221 := am (Kd.C_below (cq HR221) hb)
                replace HR234 := am (Kd.C_below (cq HR234) hb)
                replace HB := bsw hb
                clear hb ho69
                refine hK.out _ _ trivial (fun hHeld => ?_)
                clear hK K
                refine nm 115 ?_
                refine two_ (i := 4) (j := 6) (Ni := some 119) (Nj := some 121) (bt 13 1855) (bt 13 1903) rfl rfl rfl rfl (two_of HT_.out (by kernel_rfl)) (by decide) (by decide) (fun K hK => ?_) (fun K hK => ?_)
                ·skip
                 refine Kd.R_append_rows_step (Kd.int .i64) (w0 := w) w.heap.size (by rfl) (.tmp 115) (.tmp 118) 22 3 (.int .i64 0) 8 rfl Try.underlying22 info3 rfl (by decide) (by omega) v216 y215 y218 _ _ _ (fun k_ => some k_ ≠ (.slice (some ad212) x9_2.length co64 : Value).ownBlock ∧ some k_ ≠ (.slice (some ad202) t199.length co20 : Value).ownBlock) (fun _ => False) rfl rfl ?aO ?aR (fun _ _ h => h) (fun _ h => h.elim) ?aF ?aB ?aS ?aL ?_
                 (case aR => repeat (first | exact (cq HR221) | (with_reducible refine Kd.C_alloc ?_ _) | (with_reducible refine Kd.C_drewN ?_ _) | (with_reducible refine Kd.C_drew ?_)))
                 (case aB => exact (sbw))
                 (case aF => exact (fun k_ hk => ⟨Kd.fresh' (Kd.R_lt (sr HO_9)) k_ hk, Kd.fresh' (Kd.R_lt (sr HO_10)) k_ hk⟩))
                 (case aO => exact (by exact rm HO217 (fun _ hk => ⟨hk.1.2, hk.2⟩)))
                 (case aS => exact (below_size (sbw)))
                 (case aL => have := LMc58.out; omega)
                 intro v223 w70 ho hb hg hat
                 rw [← Ny222.out] at ho
                 replace HO_10 := am (Kd.R_after (ok := (fun k_ => some k_ ≠ (.slice (some ad212) x9_2.length co64 : Value).ownBlock)) (sr HO_10) hg hat)
                 replace BK193 := am (blk_grown (g := gb193) (o := .cells #[.int .i64 a0_0, .slice (some ad213) l0_1.length c0_1, .slice A0_2 l0_2.length c0_2] 29 (0, 0)) (sk BK193) hg (Kd.R_ne HO217.out BK193.out (by decide)))
                 replace HB := am hb
                 replace HR221 := am ((show Kd.C (Kd.int .i64) w70 (some ad212) y218.length y218 from by rw [Ny218.out]; exact Kd.C_take (m := (x13_4 : Int).toNat) ((Kd.R_reads' (Kd.R_after (ok := (fun k_ => some k_ ≠ (.slice (some ad202) t199.length co20 : Value).ownBlock)) (sr HO_9) hg hat)).2.2) KL66.out))
                 replace HR234 := am ((show Kd.C (Kd.int .i64) w70 A67 y231.length y231 from by rw [Ny231.out, KA67.out]; exact Kd.C_drop (m := (x13_4 : Int).toNat) (c := co64) ((Kd.R_reads' (Kd.R_after (ok := (fun k_ => some k_ ≠ (.slice (some ad202) t199.length co20 : Value).ownBlock)) (sr HO_9) hg hat)).2.2) KL67.out ((Kd.R_reads' (Kd.R_after (ok := (fun k_ => some k_ ≠ (.slice (some ad202) t199.length co20 : Value).ownBlock)) (sr HO_9) hg hat)).2.1)))
                 replace HO_9 := am (Kd.R_after (ok := (fun k_ => some k_ ≠ (.slice (some ad202) t199.length co20 : Value).ownBlock)) (sr HO_9) hg hat)
                 have HO224 := am ho
                 clear HO217 ho hb hg hat
                 refine hK.out _ _ trivial (fun hHeld => ?_)
                 clear hK K
                 refine nm 119 ?_
                 refine on 6 121 (bt 13 1919) HT_ (fun K hK => ?_)
                 refine Kd.R_lit_step (Kd.int .i64) _ 3 ?hg (N := 121) ?hd (xs := ([(rd t199 x11_2)] : List Int)) (inner := [.int .i64 (rd t199 x11_2)]) (ok := fun _ => True) (okp := fun _ => True) ?hr ?hp (fun _ hk => hk) trivial (Below.refl _ _) (Nat.le_refl _) (by simp) ?_; (case hd => rfl); (case hg => rfl); (case hr => first | (go_simp; done) | (go_simp; rfl)); (case hp => exact (Reps.one (show Kd.M (Kd.int .i64) _ _ _ (rd t199 x11_2) [.int .i64 (rd t199 x11_2)] from rfl) (Reps.none _ _)))
                 intro v226 w71 ho72 hb hg_ hnew_
                 clear hg_ hnew_
                 (first | rw [← Ny225.out] at ho72 | (simp only [Int.reduceToNat] at ho72; rw [← Ny225.out] at ho72))
                 have HO227 := am (Kd.R_lower (Kd.R_new' (Kd.R_new' (Kd.R_new' ho72 (Kd.R_lt (sr HO_9))) (Kd.R_lt (sr HO_10))) (Kd.R_lt (sr HO224))) (below_size (sbw)))
                 replace HO_9 := am (Kd.R_elder' (sr HO_9) (Kd.R_base ho72) hb)
                 replace HO_10 := am (Kd.R_elder' (sr HO_10) (Kd.R_base ho72) hb)
                 replace HO224 := am (Kd.R_elder' (sr HO224) (Kd.R_base ho72) hb)
                 replace BK193 := bb BK193 hb
                 replace HR221 := am (Kd.C_below (cq HR221) hb)
                 replace HR234 := am (Kd.C_below (cq HR234) hb)
                 replace HB := bsw hb
                 clear hb ho72
                 refine hK.out _ _ trivial (fun hHeld => ?_)
                 clear hK K
                 refine nm 121 ?_
                 exact norm_ a3_1 (hCont (v216, v223, v226) _ ⟨(by exact rm HO224 (fun _ hk => ⟨hk.2, ⟨hk.1.2, hk.1.1⟩⟩)), (by exact rm HO227 (fun _ hk => ⟨hk.2, ⟨hk.1.2, hk.1.1.2⟩⟩)), a3_12, a3_17, (sk BK193), (sbw)⟩)
                ·skip
                 refine Kd.R_lit_step (Kd.int .i64) _ 3 ?hg (N := 121) ?hd (xs := ([(rd t199 x11_2)] : List Int)) (inner := [.int .i64 (rd t199 x11_2)]) (ok := fun _ => True) (okp := fun _ => True) ?hr ?hp (fun _ hk => hk) trivial (Below.refl _ _) (Nat.le_refl _) (by simp) ?_; (case hd => rfl); (case hg => rfl); (case hr => first | (go_simp; done) | (go_simp; rfl)); (case hp => exact (Reps.one (show Kd.M (Kd.int .i64) _ _ _ (rd t199 x11_2) [.int .i64 (rd t199 x11_2)] from rfl) (Reps.none _ _)))
                 intro v226 w70 ho71 hb hg_ hnew_
                 clear hg_ hnew_
                 (first | rw [← Ny225.out] at ho71 | (simp only [Int.reduceToNat] at ho71; rw [← Ny225.out] at ho71))
                 have HO227 := am (Kd.R_lower (Kd.R_new' (Kd.R_new' (Kd.R_new' ho71 (Kd.R_lt (sr HO_9))) (Kd.R_lt (sr HO_10))) (Kd.R_lt (sr HO217))) (below_size (sbw)))
                 replace HO_9 := am (Kd.R_elder' (sr HO_9) (Kd.R_base ho71) hb)
                 replace HO_10 := am (Kd.R_elder' (sr HO_10) (Kd.R_base ho71) hb)
                 replace HO217 := am (Kd.R_elder' (sr HO217) (Kd.R_base ho71) hb)
                 replace BK193 := bb BK193 hb
                 replace HR221 := am (Kd.C_below (cq HR221) hb)
                 replace HR234 := am (Kd.C_below (cq HR234) hb)
                 replace HB := bsw hb
                 clear hb ho71
                 refine hK.out _ _ trivial (fun hHeld => ?_)
                 clear hK K
                 refine nm 121 ?_
                 refine on 4 119 (bt 13 1919) HT_ (fun K hK => ?_)
                 refine Kd.R_append_rows_step (Kd.int .i64) (w0 := w) w.heap.size (by rfl) (.tmp 115) (.tmp 118) 22 3 (.int .i64 0) 8 rfl Try.underlying22 info3 rfl (by decide) (by omega) v216 y215 y218 _ _ _ (fun k_ => some k_ ≠ (.slice (some ad212) x9_2.length co64 : Value).ownBlock ∧ some k_ ≠ (.slice (some ad202) t199.length co20 : Value).ownBlock ∧ some k_ ≠ (v226 : Value).ownBlock) (fun _ => False) rfl rfl ?aO ?aR (fun _ _ h => h) (fun _ h => h.elim) ?aF ?aB ?aS ?aL ?_
                 (case aR => repeat (first | exact (cq HR221) | (with_reducible refine Kd.C_alloc ?_ _) | (with_reducible refine Kd.C_drewN ?_ _) | (with_reducible refine Kd.C_drew ?_)))
                 (case aB => exact (sbw))
                 (case aF => exact (fun k_ hk => ⟨Kd.fresh' (Kd.R_lt (sr HO_9)) k_ hk, Kd.fresh' (Kd.R_lt (sr HO_10)) k_ hk, Kd.fresh' (Kd.R_lt (sr HO227)) k_ hk⟩))
                 (case aO => exact a3_8)
                 (case aS => exact (below_size (sbw)))
                 (case aL => have := LMc58.out; omega)
                 intro v223 w72 ho hb hg hat
                 rw [← Ny222.out] at ho
                 replace HO_10 := am (Kd.R_after (ok := (fun k_ => some k_ ≠ (.slice (some ad212) x9_2.length co64 : Value).ownBlock ∧ some k_ ≠ (v226 : Value).ownBlock)) a3_13 hg hat)
                 replace BK193 := am (blk_grown (g := gb193) (o := .cells #[.int .i64 a0_0, .slice (some ad213) l0_1.length c0_1, .slice A0_2 l0_2.length c0_2] 29 (0, 0)) (sk BK193) hg (Kd.R_ne HO217.out BK193.out (by decide)))
                 replace HO227 := am (Kd.R_after (ok := (fun k_ => some k_ ≠ (.slice (some ad212) x9_2.length co64 : Value).ownBlock ∧ some k_ ≠ (.slice (some ad202) t199.length co20 : Value).ownBlock)) a3_9 hg hat)
                 replace HB := am hb
                 replace HR221 := am ((show Kd.C (Kd.int .i64) w72 (some ad212) y218.length y218 from by rw [Ny218.out]; exact Kd.C_take (m := (x13_4 : Int).toNat) ((Kd.R_reads' (Kd.R_after (ok := (fun k_ => some k_ ≠ (.slice (some ad202) t199.length co20 : Value).ownBlock ∧ some k_ ≠ (v226 : Value).ownBlock)) a3_2 hg hat)).2.2) KL66.out))
                 replace HR234 := am ((show Kd.C (Kd.int .i64) w72 A67 y231.length y231 from by rw [Ny231.out, KA67.out]; exact Kd.C_drop (m := (x13_4 : Int).toNat) (c := co64) ((Kd.R_reads' (Kd.R_after (ok := (fun k_ => some k_ ≠ (.slice (some ad202) t199.length co20 : Value).ownBlock ∧ some k_ ≠ (v226 : Value).ownBlock)) a3_2 hg hat)).2.2) KL67.out ((Kd.R_reads' (Kd.R_after (ok := (fun k_ => some k_ ≠ (.slice (some ad202) t199.length co20 : Value).ownBlock ∧ some k_ ≠ (v226 : Value).ownBlock)) a3_2 hg hat)).2.1)))
                 replace HO_9 := am (Kd.R_after (ok := (fun k_ => some k_ ≠ (.slice (some ad202) t199.length co20 : Value).ownBlock ∧ some k_ ≠ (v226 : Value).ownBlock)) a3_2 hg hat)
                 have HO224 := am ho
                 clear HO217 ho hb hg hat
                 refine hK.out _ _ trivial (fun hHeld => ?_)
                 clear hK K
                 refine nm 119 ?_
                 exact norm_ a3_1 (hCont (v216, v223, v226) _ ⟨a3_6, a3_14, a3_3, a3_4, (sk BK193), (sbw)⟩)
               ·skip
                refine Kd.R_lit_step (Kd.int .i64) _ 3 ?hg (N := 121) ?hd (xs := ([(rd t199 x11_2)] : List Int)) (inner := [.int .i64 (rd t199 x11_2)]) (ok := fun _ => True) (okp := fun _ => True) ?hr ?hp (fun _ hk => hk) trivial (Below.refl _ _) (Nat.le_refl _) (by simp) ?_; (case hd => rfl); (case hg => rfl); (case hr => first | (go_simp; done) | (go_simp; rfl)); (case hp => exact (Reps.one (show Kd.M (Kd.int .i64) _ _ _ (rd t199 x11_2) [.int .i64 (rd t199 x11_2)] from rfl) (Reps.none _ _)))
                intro v226 w68 ho69 hb hg_ hnew_
                clear hg_ hnew_
                (first | rw [← Ny225.out] at ho69 | (simp only [Int.reduceToNat] at ho69; rw [← Ny225.out] at ho69))
                have HO227 := am (Kd.R_lower (Kd.R_new' (Kd.R_new' ho69 (Kd.R_lt (sr HO_9))) (Kd.R_lt (sr HO_10))) (below_size (sbw)))
                replace HO_9 := am (Kd.R_elder' (sr HO_9) (Kd.R_base ho69) hb)
                replace HO_10 := am (Kd.R_elder' (sr HO_10) (Kd.R_base ho69) hb)
                replace BK193 := bb BK193 hb
                replace HR221 := am (Kd.C_below (cq HR221) hb)
                replace HR234 := am (Kd.C_below (cq HR234) hb)
                replace HB := bsw hb
                clear hb ho69
                refine hK.out _ _ trivial (fun hHeld => ?_)
                clear hK K
                refine nm 121 ?_
                refine on 0 115 (bt 13 1903) HT_ (fun K hK => ?_)
                refine Kd.R_lit_step (Kd.int .i64) _ 3 ?hg (N := 115) ?hd (xs := ([] : List Int)) (inner := []) (ok := fun _ => True) (okp := fun _ => True) ?hr ?hp (fun _ hk => hk) trivial (Below.refl _ _) (Nat.le_refl _) (by simp) ?_; (case hd => rfl); (case hg => rfl); (case hr => first | (go_simp; done) | (go_simp; rfl)); (case hp => exact (Reps.none _ _))
                intro v216 w70 ho71 hb hg_ hnew_
                clear hg_ hnew_
                (first | rw [← Ny215.out] at ho71 | (simp only [Int.reduceToNat] at ho71; rw [← Ny215.out] at ho71))
                have HO217 := am (Kd.R_lower (Kd.R_new' (Kd.R_new' (Kd.R_new' ho71 (Kd.R_lt (sr HO_9))) (Kd.R_lt (sr HO_10))) (Kd.R_lt (sr HO227))) (below_size (sbw)))
                replace HO_9 := am (Kd.R_elder' (sr HO_9) (Kd.R_base ho71) hb)
                replace HO_10 := am (Kd.R_elder' (sr HO_10) (Kd.R_base ho71) hb)
                replace HO227 := am (Kd.R_elder' (sr HO227) (Kd.R_base ho71) hb)
                replace BK193 := bb BK193 hb
                replace HR221 := am (Kd.C_below (cq HR221) hb)
                replace HR234 := am (Kd.C_below (cq HR234) hb)
                replace HB := bsw hb
                clear hb ho71
                refine hK.out _ _ trivial (fun hHeld => ?_)
                clear hK K
                refine nm 115 ?_
                refine on 4 119 (bt 13 1919) HT_ (fun K hK => ?_)
                refine Kd.R_append_rows_step (Kd.int .i64) (w0 := w) w.heap.size (by rfl) (.tmp 115) (.tmp 118) 22 3 (.int .i64 0) 8 rfl Try.underlying22 info3 rfl (by decide) (by omega) v216 y215 y218 _ _ _ (fun k_ => some k_ ≠ (.slice (some ad212) x9_2.length co64 : Value).ownBlock ∧ some k_ ≠ (.slice (some ad202) t199.length co20 : Value).ownBlock ∧ some k_ ≠ (v226 : Value).ownBlock) (fun _ => False) rfl rfl ?aO ?aR (fun _ _ h => h) (fun _ h => h.elim) ?aF ?aB ?aS ?aL ?_
                (case aR => repeat (first | exact (cq HR221) | (with_reducible refine Kd.C_alloc ?_ _) | (with_reducible refine Kd.C_drewN ?_ _) | (with_reducible refine Kd.C_drew ?_)))
                (case aB => exact (sbw))
                (case aF => exact (fun k_ hk => ⟨Kd.fresh' (Kd.R_lt (sr HO_9)) k_ hk, Kd.fresh' (Kd.R_lt (sr HO_10)) k_ hk, Kd.fresh' (Kd.R_lt (sr HO227)) k_ hk⟩))
                (case aO => exact a3_8)
                (case aS => exact (below_size (sbw)))
                (case aL => have := LMc58.out; omega)
                intro v223 w72 ho hb hg hat
                rw [← Ny222.out] at ho
                replace HO_10 := am (Kd.R_after (ok := (fun k_ => some k_ ≠ (.slice (some ad212) x9_2.length co64 : Value).ownBlock ∧ some k_ ≠ (v226 : Value).ownBlock)) (sr HO_10) hg hat)
                replace BK193 := am (blk_grown (g := gb193) (o := .cells #[.int .i64 a0_0, .slice (some ad213) l0_1.length c0_1, .slice A0_2 l0_2.length c0_2] 29 (0, 0)) (sk BK193) hg (Kd.R_ne HO217.out BK193.out (by decide)))
                replace HO227 := am (Kd.R_after (ok := (fun k_ => some k_ ≠ (.slice (some ad212) x9_2.length co64 : Value).ownBlock ∧ some k_ ≠ (.slice (some ad202) t199.length co20 : Value).ownBlock)) a3_9 hg hat)
                replace HB := am hb
                replace HR221 := am ((show Kd.C (Kd.int .i64) w72 (some ad212) y218.length y218 from by rw [Ny218.out]; exact Kd.C_take (m := (x13_4 : Int).toNat) ((Kd.R_reads' (Kd.R_after (ok := (fun k_ => some k_ ≠ (.slice (some ad202) t199.length co20 : Value).ownBlock ∧ some k_ ≠ (v226 : Value).ownBlock)) (sr HO_9) hg hat)).2.2) KL66.out))
                replace HR234 := am ((show Kd.C (Kd.int .i64) w72 A67 y231.length y231 from by rw [Ny231.out, KA67.out]; exact Kd.C_drop (m := (x13_4 : Int).toNat) (c := co64) ((Kd.R_reads' (Kd.R_after (ok := (fun k_ => some k_ ≠ (.slice (some ad202) t199.length co20 : Value).ownBlock ∧ some k_ ≠ (v226 : Value).ownBlock)) (sr HO_9) hg hat)).2.2) KL67.out ((Kd.R_reads' (Kd.R_after (ok := (fun k_ => some k_ ≠ (.slice (some ad202) t199.length co20 : Value).ownBlock ∧ some k_ ≠ (v226 : Value).ownBlock)) (sr HO_9) hg hat)).2.1)))
                replace HO_9 := am (Kd.R_after (ok := (fun k_ => some k_ ≠ (.slice (some ad202) t199.length co20 : Value).ownBlock ∧ some k_ ≠ (v226 : Value).ownBlock)) (sr HO_9) hg hat)
                have HO224 := am ho
                clear HO217 ho hb hg hat
                refine hK.out _ _ trivial (fun hHeld => ?_)
                clear hK K
                refine nm 119 ?_
                exact norm_ a3_1 (hCont (v216, v223, v226) _ ⟨a3_6, a3_14, a3_3, a3_4, (sk BK193), (sbw)⟩)
              rintro ⟨v216, v223, v226⟩ w73 ⟨h0_, h1_, h2_, h3_, h4_, h5_⟩
              have HO224 : Aside0 (Kd.R (Kd.int .i64) 3 w73 w.heap.size (fun k_ => some k_ ≠ (v226 : Value).ownBlock ∧ some k_ ≠ (.slice (some ad202) t199.length co20 : Value).ownBlock ∧ some k_ ≠ (.slice (some ad212) x9_2.length co64 : Value).ownBlock) v223 y222) := ⟨h0_⟩
              have HO227 : Aside0 (Kd.R (Kd.int .i64) 3 w73 w.heap.size (fun k_ => some k_ ≠ (v223 : Value).ownBlock ∧ some k_ ≠ (.slice (some ad202) t199.length co20 : Value).ownBlock ∧ some k_ ≠ (.slice (some ad212) x9_2.length co64 : Value).ownBlock) v226 y225) := ⟨h1_⟩
              replace HO_10 : Aside0 (Kd.R (Kd.int .i64) 3 w73 w.heap.size (fun k_ => some k_ ≠ (v223 : Value).ownBlock ∧ some k_ ≠ (v226 : Value).ownBlock ∧ some k_ ≠ (.slice (some ad212) x9_2.length co64 : Value).ownBlock) (.slice (some ad202) t199.length co20) t199) := ⟨h2_⟩
              replace HO_9 : Aside0 (Kd.R (Kd.int .i64) 3 w73 w.heap.size (fun k_ => some k_ ≠ (v223 : Value).ownBlock ∧ some k_ ≠ (v226 : Value).ownBlock ∧ some k_ ≠ (.slice (some ad202) t199.length co20 : Value).ownBlock) (.slice (some ad212) x9_2.length co64) x9_2) := ⟨h3_⟩
              replace BK193 : Aside0 (w73.heap[gb193]? = some (.cells #[.int .i64 a0_0, .slice (some ad213) l0_1.length c0_1, .slice A0_2 l0_2.length c0_2] 29 (0, 0))) := ⟨h4_⟩
              replace HB : Aside0 (Below w.heap.size w w73) := ⟨h5_⟩
              clear h0_ h1_ h2_ h3_ h4_ h5_
              have hHeld := trivial
              obtain ⟨Ao75, co75, eo75⟩ := Kd.R_slice HO227.out
              (first | subst eo75 | (injection eo75 with f1_ f2_ f3_; have f4_ := f1_.symm; have f5_ := f3_.symm; clear f1_ f2_ f3_; subst f4_; subst f5_))
              refine norm_ (a' := ?_) ?_ ?_
              rotate_left
              ·simp only [putAll, Act.put, List.setIfInBounds_toArray, List.set_cons_zero, List.set_cons_succ]
               rfl
              refine on 7 122 (bt 13 2047) HT_ (fun K hK => ?_)
              refine Kd.R_append_rows_step (Kd.int .i64) (w0 := w) w.heap.size (by rfl) (.tmp 119) (.tmp 121) 22 3 (.int .i64 0) 8 rfl Try.underlying22 info3 rfl (by decide) (by omega) v223 y222 y225 _ _ _ (fun k_ => some k_ ≠ (.slice (some ad212) x9_2.length co64 : Value).ownBlock ∧ some k_ ≠ (.slice (some ad202) t199.length co20 : Value).ownBlock ∧ some k_ ≠ (.slice Ao75 y225.length co75 : Value).ownBlock) (fun _ => False) rfl rfl ?aO ?aR (fun _ _ h => h) (fun _ h => h.elim) ?aF ?aB ?aS ?aL ?_
              (case aR => repeat (first | exact (Kd.R_reads' HO227.out).2.2 | (with_reducible refine Kd.C_alloc ?_ _) | (with_reducible refine Kd.C_drewN ?_ _) | (with_reducible refine Kd.C_drew ?_)))
              (case aB => exact (sbw))
              (case aF => exact (fun k_ hk => ⟨Kd.fresh' (Kd.R_lt (sr HO_9)) k_ hk, Kd.fresh' (Kd.R_lt (sr HO_10)) k_ hk, Kd.fresh' (Kd.R_lt (sr HO227)) k_ hk⟩))
              (case aO => exact a3_6)
              (case aS => exact (below_size (sbw)))
              (case aL => have := LMc59.out; omega)
              intro v229 w74 ho hb hg hat
              rw [← Ny228.out] at ho
              replace HO_9 := am (Kd.R_after (ok := (fun k_ => some k_ ≠ (.slice (some ad202) t199.length co20 : Value).ownBlock ∧ some k_ ≠ (.slice Ao75 y225.length co75 : Value).ownBlock)) a3_18 hg hat)
              replace HO_10 := am (Kd.R_after (ok := (fun k_ => some k_ ≠ (.slice (some ad212) x9_2.length co64 : Value).ownBlock ∧ some k_ ≠ (.slice Ao75 y225.length co75 : Value).ownBlock)) a3_15 hg hat)
              replace BK193 := am (blk_grown (g := gb193) (o := .cells #[.int .i64 a0_0, .slice (some ad213) l0_1.length c0_1, .slice A0_2 l0_2.length c0_2] 29 (0, 0)) (sk BK193) hg (Kd.R_ne HO224.out BK193.out (by decide)))
              replace HO227 := am (Kd.R_after (ok := (fun k_ => some k_ ≠ (.slice (some ad212) x9_2.length co64 : Value).ownBlock ∧ some k_ ≠ (.slice (some ad202) t199.length co20 : Value).ownBlock)) (by exact rm HO227 (fun _ hk => ⟨⟨hk.2.2, hk.2.1⟩, hk.1⟩)) hg hat)
              replace HB := am hb
              have HO230 := am ho
              clear HO224 ho hb hg hat
              refine hK.out _ _ trivial (fun hHeld => ?_)
              clear hK K
              refine nm 122 ?_
              refine on 11 126 (bt 13 4095) HT_ (fun K hK => ?_)
              refine Kd.R_append_rows_step (Kd.int .i64) (w0 := w) w.heap.size (by rfl) (.tmp 122) (.tmp 125) 22 3 (.int .i64 0) 8 rfl Try.underlying22 info3 rfl (by decide) (by omega) v229 y228 y231 _ _ _ (fun k_ => some k_ ≠ (.slice (some ad212) x9_2.length co64 : Value).ownBlock ∧ some k_ ≠ (.slice (some ad202) t199.length co20 : Value).ownBlock ∧ some k_ ≠ (.slice Ao75 y225.length co75 : Value).ownBlock) (fun _ => False) rfl rfl ?aO ?aR (fun _ _ h => h) (fun _ h => h.elim) ?aF ?aB ?aS ?aL ?_
              (case aR => exact (show Kd.C (Kd.int .i64) _ A67 y231.length y231 from by rw [Ny231.out, KA67.out]; exact Kd.C_drop (m := (x13_4 : Int).toNat) (c := co64) ((Kd.R_reads' (sr HO_9)).2.2) KL67.out ((Kd.R_reads' HO_9.out).2.1)))
              (case aB => exact (sbw))
              (case aF => exact (fun k_ hk => ⟨Kd.fresh' (Kd.R_lt (sr HO_9)) k_ hk, Kd.fresh' (Kd.R_lt (sr HO_10)) k_ hk, Kd.fresh' (Kd.R_lt (sr HO227)) k_ hk⟩))
              (case aO => exact (sr HO230))
              (case aS => exact (below_size (sbw)))
              (case aL => have := LMc62.out; omega)
              intro v236 w76 ho hb hg hat
              rw [← Ny235.out] at ho
              replace HO_9 := am (Kd.R_after (ok := (fun k_ => some k_ ≠ (.slice (some ad202) t199.length co20 : Value).ownBlock ∧ some k_ ≠ (.slice Ao75 y225.length co75 : Value).ownBlock)) (sr HO_9) hg hat)
              replace HO_10 := am (Kd.R_after (ok := (fun k_ => some k_ ≠ (.slice (some ad212) x9_2.length co64 : Value).ownBlock ∧ some k_ ≠ (.slice Ao75 y225.length co75 : Value).ownBlock)) (sr HO_10) hg hat)
              replace BK193 := am (blk_grown (g := gb193) (o := .cells #[.int .i64 a0_0, .slice (some ad213) l0_1.length c0_1, .slice A0_2 l0_2.length c0_2] 29 (0, 0)) (sk BK193) hg (Kd.R_ne HO230.out BK193.out (by decide)))
              replace HO227 := am (Kd.R_after (ok := (fun k_ => some k_ ≠ (.slice (some ad212) x9_2.length co64 : Value).ownBlock ∧ some k_ ≠ (.slice (some ad202) t199.length co20 : Value).ownBlock)) (sr HO227) hg hat)
              replace HB := am hb
              have HO237 := am ho
              clear HO230 ho hb hg hat
              refine hK.out _ _ trivial (fun hHeld => ?_)
              clear hK K
              refine nm 126 ?_
              refine put 12 9 (bt 13 8191) HT_ ?_
              refine done_ (done_of HT_.out (by kernel_rfl)) ?_
              try go_wp2
              go_roundg k4
              case measure => have := HJ4.out; have := HK2.out; have := HJ18.out; have := HK4.out; omega
              case rel => exact ⟨(y235), (wrap64 (x11_2 + 1)), sc, H', ⟨a3_5⟩, ⟨by exact rm HO237 (fun _ hk => hk.2.1)⟩, ⟨by exact rm HO_10 (fun _ hk => hk.2)⟩, ⟨sk BK193⟩, ⟨sbw⟩⟩
            ·obtain ⟨y238, Ny238, H⟩ := iy_ H
             obtain ⟨c77, H⟩ := ia_ H
             have c77b0 := eq_true c77
             have c77b1 := decide_eq_true c77
             clear c77
             obtain ⟨c78, H⟩ := ia_ H
             have c78b0 := eq_true c78
             have c78b1 := decide_eq_true c78
             clear c78
             obtain ⟨y241, Ny241, H⟩ := iy_ H
             obtain ⟨LMc79, H⟩ := il_ H
             obtain ⟨y245, Ny245, H⟩ := iy_ H
             obtain ⟨y248, Ny248, H⟩ := iy_ H
             obtain ⟨LMc80, H⟩ := il_ H
             obtain ⟨y251, Ny251, H⟩ := iy_ H
             have c81b0 := eq_true (sa : 0 ≤ x13_4)
             have c82b0 := eq_true (sa : x13_4 ≤ (x9_2.length : Int))
             obtain ⟨y254, Ny254, H⟩ := iy_ H
             obtain ⟨LMc83, H⟩ := il_ H
             obtain ⟨y258, hy258⟩ : ∃ y_ : List Int, y_ = (y251 ++ y254) := ⟨_, rfl⟩
             replace H : (spec_AltsOf.l0 k4 a2 a3 y258 t199 (wrap64 (x11_2 + 1)) a0_0 l0_1 l0_2) = some r := ry hy258 H
             have Ny258 := am hy258
             clear hy258
             have H' := am H
             clear H
             try go_wp2
             replace HO_9 := am (Kd.R_drew HO_9.out)
             replace HO_10 := am (Kd.R_drew HO_10.out)
             replace BK193 := am (blk_drew BK193.out)
             replace HB := am (below_drew1 HB.out)
             obtain ⟨Ao85, co85, eo85⟩ := Kd.R_slice HO_9.out
             (first | subst eo85 | (injection eo85 with f1_ f2_ f3_; have f4_ := f1_.symm; have f5_ := f3_.symm; clear f1_ f2_ f3_; subst f4_; subst f5_))
             refine start_ (n := 20) (S := fun w' => True) (ds := []) #[false, false, false, false, false, false, false, false, false, false, false, false, false, false, false, false, false, false, false, false] (by kernel_rfl) rfl rfl trivial (fun hHeld => ?_); refine with_tabW spec_AltsOf.tab11 spec_AltsOf.bits11 (fun HT_ HW_ => ?_)
             generalize wr.drew = w84 at HO_9 HO_10 BK193 HB hHeld ⊢
             refine put 0 93 (bt 20 1) HT_ ?_
             refine put 1 94 (bt 20 3) HT_ ?_
             refine put 2 95 (bt 20 7) HT_ ?_
             refine put 3 96 (bt 20 15) HT_ ?_
             refine put 4 97 (bt 20 31) HT_ ?_
             refine pn 5 98 (bt 20 63) HT_ ?_
             refine pn 6 99 (bt 20 127) HT_ ?_
             refine pn 7 100 (bt 20 255) HT_ ?_
             refine pn 8 101 (bt 20 511) HT_ ?_
             refine pn 9 102 (bt 20 1023) HT_ ?_
             refine pn 10 103 (bt 20 2047) HT_ ?_
             refine pn 11 104 (bt 20 4095) HT_ ?_
             refine pn 12 105 (bt 20 8191) HT_ ?_
             refine pn 13 106 (bt 20 16383) HT_ ?_
             refine pn 14 107 (bt 20 32767) HT_ ?_
             refine pn 15 108 (bt 20 65535) HT_ ?_
             refine pn 16 109 (bt 20 131071) HT_ ?_
             refine pn 17 110 (bt 20 262143) HT_ ?_
             refine pn 18 111 (bt 20 524287) HT_ ?_
             refine put 19 112 (bt 20 1048575) HT_ ?_
             refine done_ (done_of HT_.out (by kernel_rfl)) ?_
             try go_wp2
             replace HO_9 := am (Kd.R_drew HO_9.out)
             replace HO_10 := am (Kd.R_drew HO_10.out)
             replace BK193 := am (blk_drew BK193.out)
             replace HB := am (below_drew1 HB.out)
             have q87 : (x13_4 : Int) ≤ ((x9_2.length : Int) : Int) := sa
             obtain ⟨i087, hi087, _, hsz87, _⟩ := info_parts info3
             have hroom87 : x9_2.length ≤ co85 := (Kd.R_reads' HO_9.out).2.1
             have hC87 : Kd.C (Kd.int .i64) _ Ao85 x9_2.length x9_2 := (Kd.R_reads' HO_9.out).2.2
             have hcut87 := cut_to (P := Try.prog) 22 3 .i64 Try.underlying22 hi087 Ao85 x9_2.length co85 x13_4 (sa) q87 hroom87
             have hr87 := Kd.C_take (m := (x13_4 : Int).toNat) hC87 (by omega)
             have hy87 : y241.length = (x13_4 : Int).toNat := (by rw [Ny241.out, List.length_take]; omega)
             rw [← Ny241.out] at hr87
             rw [← hy87] at hcut87
             have HR244 := am hr87
             have HC244 := am (show y241.length ≤ co85 from by omega)
             clear hr87 hC87 hroom87 hi087 hsz87
             have KY87 := am hy87
             clear hy87
             have KL87 := am (show (x13_4 : Int).toNat ≤ x9_2.length from by omega)
             replace q87 := eq_true q87
             have q88 : (x13_4 : Int) ≤ ((x9_2.length : Int) : Int) := sa
             obtain ⟨i088, hi088, _, hsz88, _⟩ := info_parts info3
             have hroom88 : x9_2.length ≤ co85 := (Kd.R_reads' HO_9.out).2.1
             have hC88 : Kd.C (Kd.int .i64) _ Ao85 x9_2.length x9_2 := (Kd.R_reads' HO_9.out).2.2
             have q088 : (0 : Int) ≤ (x13_4 : Int) := sa
             have hcut88 := cut_from (P := Try.prog) 22 3 .i64 Try.underlying22 hi088 1 hsz88 Ao85 x9_2.length co85 x13_4 q088 q88
             have hr88 := Kd.C_drop (m := (x13_4 : Int).toNat) (c := co85) hC88 (by omega) hroom88
             obtain ⟨A88, hA88⟩ : ∃ A1, A1 = (if co85 = (x13_4 : Int).toNat then Ao85 else (Ao85 : Option Addr).map (·.add ((x13_4 : Int).toNat * 1))) := ⟨_, rfl⟩
             obtain ⟨c88, hc88⟩ : ∃ c1, c1 = co85 - (x13_4 : Int).toNat := ⟨_, rfl⟩
             have hy88 : y254.length = x9_2.length - (x13_4 : Int).toNat := (by rw [Ny254.out, List.length_drop] <;> omega)
             rw [show (x9_2).drop (x13_4 : Int).toNat = y254 from Ny254.out.symm] at hr88
             replace hr88 : Kd.C (Kd.int .i64) _ A88 y254.length y254 := (by rw [hA88]; exact hr88)
             rw [← hy88, ← hA88, ← hc88] at hcut88
             have HR257 := am hr88
             have HC257 := am (show y254.length ≤ c88 from by rw [hy88, hc88]; exact Nat.sub_le_sub_right hroom88 _)
             clear hr88 hC88 hroom88 hi088 hsz88 hc88
             have KY88 := am hy88
             have KA88 := am hA88
             clear hy88 hA88
             have KL88 := am (show (x13_4 : Int).toNat ≤ x9_2.length from by omega)
             replace q88 := eq_true q88
             refine start_ (n := 13) (S := fun w' => True) (ds := []) #[false, false, false, false, false, false, false, false, false, false, false, false, false] (by kernel_rfl) rfl rfl trivial (fun hHeld => ?_); refine with_tabW spec_AltsOf.tab13 spec_AltsOf.bits13 (fun HT_ HW_ => ?_)
             generalize w84.drew = w86 at HO_9 HO_10 BK193 HB HR244 HR257 hHeld ⊢
             refine put 1 116 (bt 13 2) HT_ ?_
             refine put 2 117 (bt 13 6) HT_ ?_
             refine put 3 118 (bt 13 14) HT_ ?_
             refine put 5 120 (bt 13 46) HT_ ?_
             refine put 8 123 (bt 13 302) HT_ ?_
             refine put 9 124 (bt 13 814) HT_ ?_
             refine put 10 125 (bt 13 1838) HT_ ?_
             refine join_ (σ := Value × Value × Value) 3 (bt 13 1919) (fun s_ => [(115, s_.1), (119, s_.2.1), (121, s_.2.2)]) (fun s_ w' => (Kd.R (Kd.int .i64) 3 w' w.heap.size (fun k_ => some k_ ≠ (s_.2.2 : Value).ownBlock ∧ some k_ ≠ (.slice (some ad202) t199.length co20 : Value).ownBlock ∧ some k_ ≠ (.slice Ao85 x9_2.length co85 : Value).ownBlock) s_.2.1 y245) ∧ (Kd.R (Kd.int .i64) 3 w' w.heap.size (fun k_ => some k_ ≠ (s_.2.1 : Value).ownBlock ∧ some k_ ≠ (.slice (some ad202) t199.length co20 : Value).ownBlock ∧ some k_ ≠ (.slice Ao85 x9_2.length co85 : Value).ownBlock) s_.2.2 y248) ∧ (Kd.R (Kd.int .i64) 3 w' w.heap.size (fun k_ => some k_ ≠ (s_.2.1 : Value).ownBlock ∧ some k_ ≠ (s_.2.2 : Value).ownBlock ∧ some k_ ≠ (.slice Ao85 x9_2.length co85 : Value).ownBlock) (.slice (some ad202) t199.length co20) t199) ∧ (Kd.R (Kd.int .i64) 3 w' w.heap.size (fun k_ => some k_ ≠ (s_.2.1 : Value).ownBlock ∧ some k_ ≠ (s_.2.2 : Value).ownBlock ∧ some k_ ≠ (.slice (some ad202) t199.length co20 : Value).ownBlock) (.slice Ao85 x9_2.length co85) x9_2) ∧ (w'.heap[gb193]? = some (.cells #[.int .i64 a0_0, .slice A0_1 l0_1.length c0_1, .slice A0_2 l0_2.length c0_2] 29 (0, 0))) ∧ (Below w.heap.size w w')) ?_ ?_
             rotate_left
             ·intro hCont
              refine two_ (i := 0) (j := 6) (Ni := some 115) (Nj := some 121) (bt 13 1839) (bt 13 1902) rfl rfl rfl rfl (two_of HT_.out (by kernel_rfl)) (by decide) (by decide) (fun K hK => ?_) (fun K hK => ?_)
              ·skip
               refine Kd.R_lit_step (Kd.int .i64) _ 3 ?hg (N := 115) ?hd (xs := ([] : List Int)) (inner := []) (ok := fun _ => True) (okp := fun _ => True) ?hr ?hp (fun _ hk => hk) trivial (Below.refl _ _) (Nat.le_refl _) (by simp) ?_; (case hd => rfl); (case hg => rfl); (case hr => first | (go_simp; done) | (go_simp; rfl)); (case hp => exact (Reps.none _ _))
               intro v239 w89 ho90 hb hg_ hnew_
               clear hg_ hnew_
               (first | rw [← Ny238.out] at ho90 | (simp only [Int.reduceToNat] at ho90; rw [← Ny238.out] at ho90))
               have HO240 := am (Kd.R_lower (Kd.R_new' (Kd.R_new' ho90 (Kd.R_lt (sr HO_9))) (Kd.R_lt (sr HO_10))) (below_size (sbw)))
               replace HO_9 := am (Kd.R_elder' (sr HO_9) (Kd.R_base ho90) hb)
               replace HO_10 := am (Kd.R_elder' (sr HO_10) (Kd.R_base ho90) hb)
               replace BK193 := bb BK193 hb
               replace HR244 := am (Kd.C_below (cq HR244) hb)
               replace HR257 := am (Kd.C_below (cq HR257) hb)
               replace HB := bsw hb
               clear hb ho90
               refine hK.out _ _ trivial (fun hHeld => ?_)
               clear hK K
               refine nm 115 ?_
               refine two_ (i := 4) (j := 6) (Ni := some 119) (Nj := some 121) (bt 13 1855) (bt 13 1903) rfl rfl rfl rfl (two_of HT_.out (by kernel_rfl)) (by decide) (by decide) (fun K hK => ?_) (fun K hK => ?_)
               ·skip
                refine Kd.R_append_rows_step (Kd.int .i64) (w0 := w) w.heap.size (by rfl) (.tmp 115) (.tmp 118) 22 3 (.int .i64 0) 8 rfl Try.underlying22 info3 rfl (by decide) (by omega) v239 y238 y241 _ _ _ (fun k_ => some k_ ≠ (.slice Ao85 x9_2.length co85 : Value).ownBlock ∧ some k_ ≠ (.slice (some ad202) t199.length co20 : Value).ownBlock) (fun _ => False) rfl rfl ?aO ?aR (fun _ _ h => h) (fun _ h => h.elim) ?aF ?aB ?aS ?aL ?_
                (case aR => repeat (first | exact (cq HR244) | (with_reducible refine Kd.C_alloc ?_ _) | (with_reducible refine Kd.C_drewN ?_ _) | (with_reducible refine Kd.C_drew ?_)))
                (case aB => exact (sbw))
                (case aF => exact (fun k_ hk => ⟨Kd.fresh' (Kd.R_lt (sr HO_9)) k_ hk, Kd.fresh' (Kd.R_lt (sr HO_10)) k_ hk⟩))
                (case aO => exact (by exact rm HO240 (fun _ hk => ⟨hk.1.2, hk.2⟩)))
                (case aS => exact (below_size (sbw)))
                (case aL => have := LMc79.out; omega)
                intro v246 w91 ho hb hg hat
                rw [← Ny245.out] at ho
                replace HO_10 := am (Kd.R_after (ok := (fun k_ => some k_ ≠ (.slice Ao85 x9_2.length co85 : Value).ownBlock)) (sr HO_10) hg hat)
                replace BK193 := am (blk_grown (g := gb193) (o := .cells #[.int .i64 a0_0, .slice A0_1 l0_1.length c0_1, .slice A0_2 l0_2.length c0_2] 29 (0, 0)) (sk BK193) hg (Kd.R_ne HO240.out BK193.out (by decide)))
                replace HB := am hb
                replace HR244 := am ((show Kd.C (Kd.int .i64) w91 Ao85 y241.length y241 from by rw [Ny241.out]; exact Kd.C_take (m := (x13_4 : Int).toNat) ((Kd.R_reads' (Kd.R_after (ok := (fun k_ => some k_ ≠ (.slice (some ad202) t199.length co20 : Value).ownBlock)) (sr HO_9) hg hat)).2.2) KL87.out))
                replace HR257 := am ((show Kd.C (Kd.int .i64) w91 A88 y254.length y254 from by rw [Ny254.out, KA88.out]; exact Kd.C_drop (m := (x13_4 : Int).toNat) (c := co85) ((Kd.R_reads' (Kd.R_after (ok := (fun k_ => some k_ ≠ (.slice (some ad202) t199.length co20 : Value).ownBlock)) (sr HO_9) hg hat)).2.2) KL88.out ((Kd.R_reads' (Kd.R_after (ok := (fun k_ => some k_ ≠ (.slice (some ad202) t199.length co20 : Value).ownBlock)) (sr HO_9) hg hat)).2.1)))
                replace HO_9 := am (Kd.R_after (ok := (fun k_ => some k_ ≠ (.slice (some ad202) t199.length co20 : Value).ownBlock)) (sr HO_9) hg hat)
                have HO247 := am ho
                clear HO240 ho hb hg hat
                refine hK.out _ _ trivial (fun hHeld => ?_)
                clear hK K
                refine nm 119 ?_
                refine on 6 121 (bt 13 1919) HT_ (fun K hK => ?_)
                refine Kd.R_lit_step (Kd.int .i64) _ 3 ?hg (N := 121) ?hd (xs := ([(rd t199 x11_2)] : List Int)) (inner := [.int .i64 (rd t199 x11_2)]) (ok := fun _ => True) (okp := fun _ => True) ?hr ?hp (fun _ hk => hk) trivial (Below.refl _ _) (Nat.le_refl _) (by simp) ?_; (case hd => rfl); (case hg => rfl); (case hr => first | (go_simp; done) | (go_simp; rfl)); (case hp => exact (Reps.one (show Kd.M (Kd.int .i64) _ _ _ (rd t199 x11_2) [.int .i64 (rd t199 x11_2)] from rfl) (Reps.none _ _)))
                intro v249 w92 ho93 hb hg_ hnew_
                clear hg_ hnew_
                (first | rw [← Ny248.out] at ho93 | (simp only [Int.reduceToNat] at ho93; rw [← Ny248.out] at ho93))
                have HO250 := am (Kd.R_lower (Kd.R_new' (Kd.R_new' (Kd.R_new' ho93 (Kd.R_lt (sr HO_9))) (Kd.R_lt (sr HO_10))) (Kd.R_lt (sr HO247))) (below_size (sbw)))
                replace HO_9 := am (Kd.R_elder' (sr HO_9) (Kd.R_base ho93) hb)
                replace HO_10 := am (Kd.R_elder' (sr HO_10) (Kd.R_base ho93) hb)
                replace HO247 := am (Kd.R_elder' (sr HO247) (Kd.R_base ho93) hb)
                replace BK193 := bb BK193 hb
                replace HR244 := am (Kd.C_below (cq HR244) hb)
                replace HR257 := am (Kd.C_below (cq HR257) hb)
                replace HB := bsw hb
                clear hb ho93
                refine hK.out _ _ trivial (fun hHeld => ?_)
                clear hK K
                refine nm 121 ?_
                exact norm_ a3_1 (hCont (v239, v246, v249) _ ⟨(by exact rm HO247 (fun _ hk => ⟨hk.2, ⟨hk.1.2, hk.1.1⟩⟩)), (by exact rm HO250 (fun _ hk => ⟨hk.2, ⟨hk.1.2, hk.1.1.2⟩⟩)), a3_12, a3_17, (sk BK193), (sbw)⟩)
               ·skip
                refine Kd.R_lit_step (Kd.int .i64) _ 3 ?hg (N := 121) ?hd (xs := ([(rd t199 x11_2)] : List Int)) (inner := [.int .i64 (rd t199 x11_2)]) (ok := fun _ => True) (okp := fun _ => True) ?hr ?hp (fun _ hk => hk) trivial (Below.refl _ _) (Nat.le_refl _) (by simp) ?_; (case hd => rfl); (case hg => rfl); (case hr => first | (go_simp; done) | (go_simp; rfl)); (case hp => exact (Reps.one (show Kd.M (Kd.int .i64) _ _ _ (rd t199 x11_2) [.int .i64 (rd t199 x11_2)] from rfl) (Reps.none _ _)))
                intro v249 w91 ho92 hb hg_ hnew_
                clear hg_ hnew_
                (first | rw [← Ny248.out] at ho92 | (simp only [Int.reduceToNat] at ho92; rw [← Ny248.out] at ho92))
                have HO250 := am (Kd.R_lower (Kd.R_new' (Kd.R_new' (Kd.R_new' ho92 (Kd.R_lt (sr HO_9))) (Kd.R_lt (sr HO_10))) (Kd.R_lt (sr HO240))) (below_size (sbw)))
                replace HO_9 := am (Kd.R_elder' (sr HO_9) (Kd.R_base ho92) hb)
                replace HO_10 := am (Kd.R_elder' (sr HO_10) (Kd.R_base ho92) hb)
                replace HO240 := am (Kd.R_elder' (sr HO240) (Kd.R_base ho92) hb)
                replace BK193 := bb BK193 hb
                replace HR244 := am (Kd.C_below (cq HR244) hb)
                replace HR257 := am (Kd.C_below (cq HR257) hb)
                replace HB := bsw hb
                clear hb ho92
                refine hK.out _ _ trivial (fun hHeld => ?_)
                clear hK K
                refine nm 121 ?_
                refine on 4 119 (bt 13 1919) HT_ (fun K hK => ?_)
                refine Kd.R_append_rows_step (Kd.int .i64) (w0 := w) w.heap.size (by rfl) (.tmp 115) (.tmp 118) 22 3 (.int .i64 0) 8 rfl Try.underlying22 info3 rfl (by decide) (by omega) v239 y238 y241 _ _ _ (fun k_ => some k_ ≠ (.slice Ao85 x9_2.length co85 : Value).ownBlock ∧ some k_ ≠ (.slice (some ad202) t199.length co20 : Value).ownBlock ∧ some k_ ≠ (v249 : Value).ownBlock) (fun _ => False) rfl rfl ?aO ?aR (fun _ _ h => h) (fun _ h => h.elim) ?aF ?aB ?aS ?aL ?_
                (case aR => repeat (first | exact (cq HR244) | (with_reducible refine Kd.C_alloc ?_ _) | (with_reducible refine Kd.C_drewN ?_ _) | (with_reducible refine Kd.C_drew ?_)))
                (case aB => exact (sbw))
                (case aF => exact (fun k_ hk => ⟨Kd.fresh' (Kd.R_lt (sr HO_9)) k_ hk, Kd.fresh' (Kd.R_lt (sr HO_10)) k_ hk, Kd.fresh' (Kd.R_lt (sr HO250)) k_ hk⟩))
                (case aO => exact a3_10)
                (case aS => exact (below_size (sbw)))
                (case aL => have := LMc79.out; omega)
                intro v246 w93 ho hb hg hat
                rw [← Ny245.out] at ho
                replace HO_10 := am (Kd.R_after (ok := (fun k_ => some k_ ≠ (.slice Ao85 x9_2.length co85 : Value).ownBlock ∧ some k_ ≠ (v249 : Value).ownBlock)) a3_13 hg hat)
                replace BK193 := am (blk_grown (g := gb193) (o := .cells #[.int .i64 a0_0, .slice A0_1 l0_1.length c0_1, .slice A0_2 l0_2.length c0_2] 29 (0, 0)) (sk BK193) hg (Kd.R_ne HO240.out BK193.out (by decide)))
                replace HO250 := am (Kd.R_after (ok := (fun k_ => some k_ ≠ (.slice Ao85 x9_2.length co85 : Value).ownBlock ∧ some k_ ≠ (.slice (some ad202) t199.length co20 : Value).ownBlock)) a3_11 hg hat)
                replace HB := am hb
                replace HR244 := am ((show Kd.C (Kd.int .i64) w93 Ao85 y241.length y241 from by rw [Ny241.out]; exact Kd.C_take (m := (x13_4 : Int).toNat) ((Kd.R_reads' (Kd.R_after (ok := (fun k_ => some k_ ≠ (.slice (some ad202) t199.length co20 : Value).ownBlock ∧ some k_ ≠ (v249 : Value).ownBlock)) a3_2 hg hat)).2.2) KL87.out))
                replace HR257 := am ((show Kd.C (Kd.int .i64) w93 A88 y254.length y254 from by rw [Ny254.out, KA88.out]; exact Kd.C_drop (m := (x13_4 : Int).toNat) (c := co85) ((Kd.R_reads' (Kd.R_after (ok := (fun k_ => some k_ ≠ (.slice (some ad202) t199.length co20 : Value).ownBlock ∧ some k_ ≠ (v249 : Value).ownBlock)) a3_2 hg hat)).2.2) KL88.out ((Kd.R_reads' (Kd.R_after (ok := (fun k_ => some k_ ≠ (.slice (some ad202) t199.length co20 : Value).ownBlock ∧ some k_ ≠ (v249 : Value).ownBlock)) a3_2 hg hat)).2.1)))
                replace HO_9 := am (Kd.R_after (ok := (fun k_ => some k_ ≠ (.slice (some ad202) t199.length co20 : Value).ownBlock ∧ some k_ ≠ (v249 : Value).ownBlock)) a3_2 hg hat)
                have HO247 := am ho
                clear HO240 ho hb hg hat
                refine hK.out _ _ trivial (fun hHeld => ?_)
                clear hK K
                refine nm 119 ?_
                exact norm_ a3_1 (hCont (v239, v246, v249) _ ⟨a3_7, a3_16, a3_3, a3_4, (sk BK193), (sbw)⟩)
              ·skip
               refine Kd.R_lit_step (Kd.int .i64) _ 3 ?hg (N := 121) ?hd (xs := ([(rd t199 x11_2)] : List Int)) (inner := [.int .i64 (rd t199 x11_2)]) (ok := fun _ => True) (okp := fun _ => True) ?hr ?hp (fun _ hk => hk) trivial (Below.refl _ _) (Nat.le_refl _) (by simp) ?_; (case hd => rfl); (case hg => rfl); (case hr => first | (go_simp; done) | (go_simp; rfl)); (case hp => exact (Reps.one (show Kd.M (Kd.int .i64) _ _ _ (rd t199 x11_2) [.int .i64 (rd t199 x11_2)] from rfl) (Reps.none _ _)))
               intro v249 w89 ho90 hb hg_ hnew_
               clear hg_ hnew_
               (first | rw [← Ny248.out] at ho90 | (simp only [Int.reduceToNat] at ho90; rw [← Ny248.out] at ho90))
               have HO250 := am (Kd.R_lower (Kd.R_new' (Kd.R_new' ho90 (Kd.R_lt (sr HO_9))) (Kd.R_lt (sr HO_10))) (below_size (sbw)))
               replace HO_9 := am (Kd.R_elder' (sr HO_9) (Kd.R_base ho90) hb)
               replace HO_10 := am (Kd.R_elder' (sr HO_10) (Kd.R_base ho90) hb)
               replace BK193 := bb BK193 hb
               replace HR244 := am (Kd.C_below (cq HR244) hb)
               replace HR257 := am (Kd.C_below (cq HR257) hb)
               replace HB := bsw hb
               clear hb ho90
               refine hK.out _ _ trivial (fun hHeld => ?_)
               clear hK K
               refine nm 121 ?_
               refine on 0 115 (bt 13 1903) HT_ (fun K hK => ?_)
               refine Kd.R_lit_step (Kd.int .i64) _ 3 ?hg (N := 115) ?hd (xs := ([] : List Int)) (inner := []) (ok := fun _ => True) (okp := fun _ => True) ?hr ?hp (fun _ hk => hk) trivial (Below.refl _ _) (Nat.le_refl _) (by simp) ?_; (case hd => rfl); (case hg => rfl); (case hr => first | (go_simp; done) | (go_simp; rfl)); (case hp => exact (Reps.none _ _))
               intro v239 w91 ho92 hb hg_ hnew_
               clear hg_ hnew_
               (first | rw [← Ny238.out] at ho92 | (simp only [Int.reduceToNat] at ho92; rw [← Ny238.out] at ho92))
               have HO240 := am (Kd.R_lower (Kd.R_new' (Kd.R_new' (Kd.R_new' ho92 (Kd.R_lt (sr HO_9))) (Kd.R_lt (sr HO_10))) (Kd.R_lt (sr HO250))) (below_size (sbw)))
               replace HO_9 := am (Kd.R_elder' (sr HO_9) (Kd.R_base ho92) hb)
               replace HO_10 := am (Kd.R_elder' (sr HO_10) (Kd.R_base ho92) hb)
               replace HO250 := am (Kd.R_elder' (sr HO250) (Kd.R_base ho92) hb)
               replace BK193 := bb BK193 hb
               replace HR244 := am (Kd.C_below (cq HR244) hb)
               replace HR257 := am (Kd.C_below (cq HR257) hb)
               replace HB := bsw hb
               clear hb ho92
               refine hK.out _ _ trivial (fun hHeld => ?_)
               clear hK K
               refine nm 115 ?_
               refine on 4 119 (bt 13 1919) HT_ (fun K hK => ?_)
               refine Kd.R_append_rows_step (Kd.int .i64) (w0 := w) w.heap.size (by rfl) (.tmp 115) (.tmp 118) 22 3 (.int .i64 0) 8 rfl Try.underlying22 info3 rfl (by decide) (by omega) v239 y238 y241 _ _ _ (fun k_ => some k_ ≠ (.slice Ao85 x9_2.length co85 : Value).ownBlock ∧ some k_ ≠ (.slice (some ad202) t199.length co20 : Value).ownBlock ∧ some k_ ≠ (v249 : Value).ownBlock) (fun _ => False) rfl rfl ?aO ?aR (fun _ _ h => h) (fun _ h => h.elim) ?aF ?aB ?aS ?aL ?_
               (case aR => repeat (first | exact (cq HR244) | (with_reducible refine Kd.C_alloc ?_ _) | (with_reducible refine Kd.C_drewN ?_ _) | (with_reducible refine Kd.C_drew ?_)))
               (case aB => exact (sbw))
               (case aF => exact (fun k_ hk => ⟨Kd.fresh' (Kd.R_lt (sr HO_9)) k_ hk, Kd.fresh' (Kd.R_lt (sr HO_10)) k_ hk, Kd.fresh' (Kd.R_lt (sr HO250)) k_ hk⟩))
               (case aO => exact a3_10)
               (case aS => exact (below_size (sbw)))
               (case aL => have := LMc79.out; omega)
               intro v246 w93 ho hb hg hat
               rw [← Ny245.out] at ho
               replace HO_10 := am (Kd.R_after (ok := (fun k_ => some k_ ≠ (.slice Ao85 x9_2.length co85 : Value).ownBlock ∧ some k_ ≠ (v249 : Value).ownBlock)) (sr HO_10) hg hat)
               replace BK193 := am (blk_grown (g := gb193) (o := .cells #[.int .i64 a0_0, .slice A0_1 l0_1.length c0_1, .slice A0_2 l0_2.length c0_2] 29 (0, 0)) (sk BK193) hg (Kd.R_ne HO240.out BK193.out (by decide)))
               replace HO250 := am (Kd.R_after (ok := (fun k_ => some k_ ≠ (.slice Ao85 x9_2.length co85 : Value).ownBlock ∧ some k_ ≠ (.slice (some ad202) t199.length co20 : Value).ownBlock)) a3_11 hg hat)
               replace HB := am hb
               replace HR244 := am ((show Kd.C (Kd.int .i64) w93 Ao85 y241.length y241 from by rw [Ny241.out]; exact Kd.C_take (m := (x13_4 : Int).toNat) ((Kd.R_reads' (Kd.R_after (ok := (fun k_ => some k_ ≠ (.slice (some ad202) t199.length co20 : Value).ownBlock ∧ some k_ ≠ (v249 : Value).ownBlock)) (sr HO_9) hg hat)).2.2) KL87.out))
               replace HR257 := am ((show Kd.C (Kd.int .i64) w93 A88 y254.length y254 from by rw [Ny254.out, KA88.out]; exact Kd.C_drop (m := (x13_4 : Int).toNat) (c := co85) ((Kd.R_reads' (Kd.R_after (ok := (fun k_ => some k_ ≠ (.slice (some ad202) t199.length co20 : Value).ownBlock ∧ some k_ ≠ (v249 : Value).ownBlock)) (sr HO_9) hg hat)).2.2) KL88.out ((Kd.R_reads' (Kd.R_after (ok := (fun k_ => some k_ ≠ (.slice (some ad202) t199.length co20 : Value).ownBlock ∧ some k_ ≠ (v249 : Value).ownBlock)) (sr HO_9) hg hat)).2.1)))
               replace HO_9 := am (Kd.R_after (ok := (fun k_ => some k_ ≠ (.slice (some ad202) t199.length co20 : Value).ownBlock ∧ some k_ ≠ (v249 : Value).ownBlock)) (sr HO_9) hg hat)
               have HO247 := am ho
               clear HO240 ho hb hg hat
               refine hK.out _ _ trivial (fun hHeld => ?_)
               clear hK K
               refine nm 119 ?_
               exact norm_ a3_1 (hCont (v239, v246, v249) _ ⟨a3_7, a3_16, a3_3, a3_4, (sk BK193), (sbw)⟩)
             rintro ⟨v239, v246, v249⟩ w94 ⟨h0_, h1_, h2_, h3_, h4_, h5_⟩
             have HO247 : Aside0 (Kd.R (Kd.int .i64) 3 w94 w.heap.size (fun k_ => some k_ ≠ (v249 : Value).ownBlock ∧ some k_ ≠ (.slice (some ad202) t199.length co20 : Value).ownBlock ∧ some k_ ≠ (.slice Ao85 x9_2.length co85 : Value).ownBlock) v246 y245) := ⟨h0_⟩
             have HO250 : Aside0 (Kd.R (Kd.int .i64) 3 w94 w.heap.size (fun k_ => some k_ ≠ (v246 : Value).ownBlock ∧ some k_ ≠ (.slice (some ad202) t199.length co20 : Value).ownBlock ∧ some k_ ≠ (.slice Ao85 x9_2.length co85 : Value).ownBlock) v249 y248) := ⟨h1_⟩
             replace HO_10 : Aside0 (Kd.R (Kd.int .i64) 3 w94 w.heap.size (fun k_ => some k_ ≠ (v246 : Value).ownBlock ∧ some k_ ≠ (v249 : Value).ownBlock ∧ some k_ ≠ (.slice Ao85 x9_2.length co85 : Value).ownBlock) (.slice (some ad202) t199.length co20) t199) := ⟨h2_⟩
             replace HO_9 : Aside0 (Kd.R (Kd.int .i64) 3 w94 w.heap.size (fun k_ => some k_ ≠ (v246 : Value).ownBlock ∧ some k_ ≠ (v249 : Value).ownBlock ∧ some k_ ≠ (.slice (some ad202) t199.length co20 : Value).ownBlock) (.slice Ao85 x9_2.length co85) x9_2) := ⟨h3_⟩
             replace BK193 : Aside0 (w94.heap[gb193]? = some (.cells #[.int .i64 a0_0, .slice A0_1 l0_1.length c0_1, .slice A0_2 l0_2.length c0_2] 29 (0, 0))) := ⟨h4_⟩
             replace HB : Aside0 (Below w.heap.size w w94) := ⟨h5_⟩
             clear h0_ h1_ h2_ h3_ h4_ h5_
             have hHeld := trivial
             obtain ⟨Ao96, co96, eo96⟩ := Kd.R_slice HO250.out
             (first | subst eo96 | (injection eo96 with f1_ f2_ f3_; have f4_ := f1_.symm; have f5_ := f3_.symm; clear f1_ f2_ f3_; subst f4_; subst f5_))
             refine norm_ (a' := ?_) ?_ ?_
             rotate_left
             ·simp only [putAll, Act.put, List.setIfInBounds_toArray, List.set_cons_zero, List.set_cons_succ]
              rfl
             refine on 7 122 (bt 13 2047) HT_ (fun K hK => ?_)
             refine Kd.R_append_rows_step (Kd.int .i64) (w0 := w) w.heap.size (by rfl) (.tmp 119) (.tmp 121) 22 3 (.int .i64 0) 8 rfl Try.underlying22 info3 rfl (by decide) (by omega) v246 y245 y248 _ _ _ (fun k_ => some k_ ≠ (.slice Ao85 x9_2.length co85 : Value).ownBlock ∧ some k_ ≠ (.slice (some ad202) t199.length co20 : Value).ownBlock ∧ some k_ ≠ (.slice Ao96 y248.length co96 : Value).ownBlock) (fun _ => False) rfl rfl ?aO ?aR (fun _ _ h => h) (fun _ h => h.elim) ?aF ?aB ?aS ?aL ?_
             (case aR => repeat (first | exact (Kd.R_reads' HO250.out).2.2 | (with_reducible refine Kd.C_alloc ?_ _) | (with_reducible refine Kd.C_drewN ?_ _) | (with_reducible refine Kd.C_drew ?_)))
             (case aB => exact (sbw))
             (case aF => exact (fun k_ hk => ⟨Kd.fresh' (Kd.R_lt (sr HO_9)) k_ hk, Kd.fresh' (Kd.R_lt (sr HO_10)) k_ hk, Kd.fresh' (Kd.R_lt (sr HO250)) k_ hk⟩))
             (case aO => exact a3_7)
             (case aS => exact (below_size (sbw)))
             (case aL => have := LMc80.out; omega)
             intro v252 w95 ho hb hg hat
             rw [← Ny251.out] at ho
             replace HO_9 := am (Kd.R_after (ok := (fun k_ => some k_ ≠ (.slice (some ad202) t199.length co20 : Value).ownBlock ∧ some k_ ≠ (.slice Ao96 y248.length co96 : Value).ownBlock)) a3_18 hg hat)
             replace HO_10 := am (Kd.R_after (ok := (fun k_ => some k_ ≠ (.slice Ao85 x9_2.length co85 : Value).ownBlock ∧ some k_ ≠ (.slice Ao96 y248.length co96 : Value).ownBlock)) a3_15 hg hat)
             replace BK193 := am (blk_grown (g := gb193) (o := .cells #[.int .i64 a0_0, .slice A0_1 l0_1.length c0_1, .slice A0_2 l0_2.length c0_2] 29 (0, 0)) (sk BK193) hg (Kd.R_ne HO247.out BK193.out (by decide)))
             replace HO250 := am (Kd.R_after (ok := (fun k_ => some k_ ≠ (.slice Ao85 x9_2.length co85 : Value).ownBlock ∧ some k_ ≠ (.slice (some ad202) t199.length co20 : Value).ownBlock)) (by exact rm HO250 (fun _ hk => ⟨⟨hk.2.2, hk.2.1⟩, hk.1⟩)) hg hat)
             replace HB := am hb
             have HO253 := am ho
             clear HO247 ho hb hg hat
             refine hK.out _ _ trivial (fun hHeld => ?_)
             clear hK K
             refine nm 122 ?_
             refine on 11 126 (bt 13 4095) HT_ (fun K hK => ?_)
             refine Kd.R_append_rows_step (Kd.int .i64) (w0 := w) w.heap.size (by rfl) (.tmp 122) (.tmp 125) 22 3 (.int .i64 0) 8 rfl Try.underlying22 info3 rfl (by decide) (by omega) v252 y251 y254 _ _ _ (fun k_ => some k_ ≠ (.slice Ao85 x9_2.length co85 : Value).ownBlock ∧ some k_ ≠ (.slice (some ad202) t199.length co20 : Value).ownBlock ∧ some k_ ≠ (.slice Ao96 y248.length co96 : Value).ownBlock) (fun _ => False) rfl rfl ?aO ?aR (fun _ _ h => h) (fun _ h => h.elim) ?aF ?aB ?aS ?aL ?_
             (case aR => exact (show Kd.C (Kd.int .i64) _ A88 y254.length y254 from by rw [Ny254.out, KA88.out]; exact Kd.C_drop (m := (x13_4 : Int).toNat) (c := co85) ((Kd.R_reads' (sr HO_9)).2.2) KL88.out ((Kd.R_reads' HO_9.out).2.1)))
             (case aB => exact (sbw))
             (case aF => exact (fun k_ hk => ⟨Kd.fresh' (Kd.R_lt (sr HO_9)) k_ hk, Kd.fresh' (Kd.R_lt (sr HO_10)) k_ hk, Kd.fresh' (Kd.R_lt (sr HO250)) k_ hk⟩))
             (case aO => exact (sr HO253))
             (case aS => exact (below_size (sbw)))
             (case aL => have := LMc83.out; omega)
             intro v259 w97 ho hb hg hat
             rw [← Ny258.out] at ho
             replace HO_9 := am (Kd.R_after (ok := (fun k_ => some k_ ≠ (.slice (some ad202) t199.length co20 : Value).ownBlock ∧ some k_ ≠ (.slice Ao96 y248.length co96 : Value).ownBlock)) (sr HO_9) hg hat)
             replace HO_10 := am (Kd.R_after (ok := (fun k_ => some k_ ≠ (.slice Ao85 x9_2.length co85 : Value).ownBlock ∧ some k_ ≠ (.slice Ao96 y248.length co96 : Value).ownBlock)) (sr HO_10) hg hat)
             replace BK193 := am (blk_grown (g := gb193) (o := .cells #[.int .i64 a0_0, .slice A0_1 l0_1.length c0_1, .slice A0_2 l0_2.length c0_2] 29 (0, 0)) (sk BK193) hg (Kd.R_ne HO253.out BK193.out (by decide)))
             replace HO250 := am (Kd.R_after (ok := (fun k_ => some k_ ≠ (.slice Ao85 x9_2.length co85 : Value).ownBlock ∧ some k_ ≠ (.slice (some ad202) t199.length co20 : Value).ownBlock)) (sr HO250) hg hat)
             replace HB := am hb
             have HO260 := am ho
             clear HO253 ho hb hg hat
             refine hK.out _ _ trivial (fun hHeld => ?_)
             clear hK K
             refine nm 126 ?_
             refine put 12 9 (bt 13 8191) HT_ ?_
             refine done_ (done_of HT_.out (by kernel_rfl)) ?_
             try go_wp2
             go_roundg k4
             case measure => have := HJ4.out; have := HK2.out; have := HJ18.out; have := HK4.out; omega
             case rel => exact ⟨(y258), (wrap64 (x11_2 + 1)), sc, H', ⟨a3_5⟩, ⟨by exact rm HO260 (fun _ hk => hk.2.1)⟩, ⟨by exact rm HO_10 (fun _ hk => hk.2)⟩, ⟨sk BK193⟩, ⟨sbw⟩⟩
      ·obtain rfl := Option.some.inj H
       obtain ⟨Ao98, co98, eo98⟩ := Kd.R_slice HO_10.out
       subst eo98
       go_wp2
       go_ret
       exact ⟨_, se, by exact rm HO_9 (fun _ hk => trivial), sbw⟩

end Go.Proofs.Ytohbccekdmdmbaa.QFnExactRepairHop
