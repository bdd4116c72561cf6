/- What the Go functions of the law FnExactBuildProgram come to, as Lean functions, and that they do: by a program of the session, out of the kit's printer. Conditions: none. (squeezed). -/
import Derived.Test.YtcjlbgbenjmkgaaVFnExactBuildProgramSq2
import Derived.Test.YtcjlbgbenjmkgaaVFnExactBuildProgramSq
import Derived.Test.YtcjlbgbenjmkgaaVFnExactBuildProgramShelf
import Derived.Test.YtcjlbgbenjmkgaaVFnExactBuildProgramQFnExactBuildProgramx0
import Derived.Test.YtcjlbgbenjmkgaaVFnExactBuildProgramQFnExactBuildProgramx10
import Derived.Test.YtcjlbgbenjmkgaaVFnExactBuildProgramQFnExactBuildProgramx13
namespace Go.Proofs.Ytcjlbgbenjmkgaa.QFnExactBuildProgram
open Go.RowKit Go.Proofs.YtcjlbgbenjmkgaaW.PrintWords Go.Proofs.YtcjlbgbenjmkgaaW.PrintLast Go.Proofs.YtcjlbgbenjmkgaaW.PrintMore Go.Proofs.Ytcjlbgbenjmkgaa.Open Go.Proofs.Ytcjlbgbenjmkgaa.Sq
attribute [local go_sem] max2_int min2_int max_two min_two max_three min_three max_four min_four   -- for this text's walks alone
attribute [local go_sem] isSome_set
set_option linter.unusedVariables false
set_option linter.unusedSimpArgs false

/-! ### impl_PiecesOf: function 22 -/
def impl_PiecesOf.l0 : Nat → Int → List (S43) → List Int → Int → Int → Option ((List (S43)))
  | 0, _, _, _, _, _ => none
  | k + 1, x1, x7, x23, x24, x25 => if x25 < x24 then (if 0 ≤ x25 then (if x25 < (x23.length : Int) then (if x7.length < 8796093022208 then (impl_PiecesOf.l0 k (rd x23 x25) (x7 ++ [(⟨x1, rd x23 x25⟩ : S43)]) x23 x24 (wrap64 (x25 + 1))) else (none)) else (none)) else (none)) else (some x7)
def impl_PiecesOf.f (k : Nat) (l0 : List (S49)) (a1 : Int) (a2 : Int) : Option ((List (S43))) := (some (([] : List (S43)) : List (S43))).bind fun y401 => ((impl_IsSpan.f a1 a2).bind fun t404 => (if t404 = true then ((impl_ChangesOf.f k l0 a1 a2).bind fun t405 => (if t405.length < 17592186044416 then ((some (t405 ++ [a2] : List Int)).bind fun y408 => (impl_PiecesOf.l0 k a1 y401 y408 (y408.length : Int) 0)) else (none))) else (some y401)))
theorem impl_PiecesOf.mono_l : ∀ k, (∀ y0 y1 y2 y3 y4, LeO (impl_PiecesOf.l0 k y0 y1 y2 y3 y4) (impl_PiecesOf.l0 (k + 1) y0 y1 y2 y3 y4))
  | 0 => fun _ _ _ _ _ r h => by simp [impl_PiecesOf.l0] at h
  | k + 1 => by
    have ih0 := impl_PiecesOf.mono_l k
    · intro y0 y1 y2 y3 y4
      unfold impl_PiecesOf.l0
      have m0 := @impl_ChangesOf.mono
      exact mo
theorem impl_PiecesOf.mono : ∀ a0 a1 a2 k, LeO (impl_PiecesOf.f k a0 a1 a2) (impl_PiecesOf.f (k + 1) a0 a1 a2) := by
  intro a0 a1 a2 k
  have ih0 := impl_PiecesOf.mono_l k
  unfold impl_PiecesOf.f
  have m0 := @impl_ChangesOf.mono
  exact mo
set_option maxHeartbeats 8000000 in
set_option maxRecDepth 100000 in
theorem impl_PiecesOf.calls (k : Nat) (A0 : Option Addr) (c0 : Nat) (l0 : List (S49)) (a1 : Int) (a2 : Int) (r : List (S43)) (w : World) (hr0 : Kd.C k49 w A0 l0.length l0) (hc0 : l0.length ≤ c0) (h : impl_PiecesOf.f k l0 a1 a2 = some r) :
    Calls Try.prog 22 #[.slice A0 l0.length c0, .int .i64 a1, .int .i64 a2] w fun e w' => ∃ v0_ : Value, e = .returned (v0_) ∧ Kd.R k43 43 w' w.heap.size (fun _ => True) v0_ r ∧ Below w.heap.size w w' := by
 have hu43 := Try.underlying43
 have HR0 := Aside0.mk hr0
 have HC0 := Aside0.mk hc0
 clear hr0 hc0
 have HB := Aside0.mk (Below.refl w.heap.size w)
 have H : ((some (([] : List (S43)) : List (S43))).bind fun y401 => ((impl_IsSpan.f a1 a2).bind fun t404 => (if t404 = true then ((impl_ChangesOf.f k l0 a1 a2).bind fun t405 => (if t405.length < 17592186044416 then ((some (t405 ++ [a2] : List Int)).bind fun y408 => (impl_PiecesOf.l0 k a1 y401 y408 (y408.length : Int) 0)) else (none))) else (some y401)))) = some r := h
 clear h
 obtain ⟨y401, hy401⟩ : ∃ y_ : List (S43), y_ = (([] : List (S43))) := ⟨_, rfl⟩
 replace H : ((impl_IsSpan.f a1 a2).bind fun t404 => (if t404 = true then ((impl_ChangesOf.f k l0 a1 a2).bind fun t405 => (if t405.length < 17592186044416 then ((some (t405 ++ [a2] : List Int)).bind fun y408 => (impl_PiecesOf.l0 k a1 y401 y408 (y408.length : Int) 0)) else (none))) else (some y401))) = some r := by first | (rw [hy401]; with_reducible exact H) | (have H2_ := (Option.bind_some _ _).symm.trans H; rw [hy401]; with_reducible exact H2_) | (have H2_ := (Option.bind_some _ _).symm.trans H; with_reducible exact H2_) | with_reducible exact H | (rw [hy401]; exact H) | exact H
 have Ny401 := Aside0.mk hy401
 clear hy401
 obtain ⟨t404, A4, H⟩ := bnd H
 obtain rfl | rfl := tt t404
 ·replace H := ip H
  obtain ⟨t405, A6, H⟩ := bnd H
  obtain ⟨LMc7, H⟩ := il_ H
  obtain ⟨y408, hy408⟩ : ∃ y_ : List Int, y_ = (t405 ++ [a2]) := ⟨_, rfl⟩
  replace H : (impl_PiecesOf.l0 k a1 y401 y408 (y408.length : Int) 0) = some r := by first | (rw [hy408]; with_reducible exact H) | (have H2_ := (Option.bind_some _ _).symm.trans H; rw [hy408]; with_reducible exact H2_) | (have H2_ := (Option.bind_some _ _).symm.trans H; with_reducible exact H2_) | with_reducible exact H | (rw [hy408]; exact H) | exact H
  have Ny408 := Aside0.mk hy408
  clear hy408
  have H' := Aside0.mk H
  clear H
  go_enter Try.func22, Try.ntmps22
  go_wp2_with (first | ((with_reducible refine gate_dst (N := 10) rfl ?_); refine Kd.R_lit k43 _ 43 ?hg (N := 10) ?hd (xs := ([] : List (S43))) (inner := []) (ok := fun _ => True) (okp := fun _ => True) ?hr ?hp (fun _ hk => hk) trivial (Below.refl _ _) (Nat.le_refl _) (by simp) ?_; (case hd => rfl); (case hg => rfl); (case hr => first | (go_simp; done) | (go_simp; rfl)); (case hp => exact (Reps.none _ _)); intro v402 w8 ho9 hb hg_ hnew_; clear hg_ hnew_; (first | rw [← Ny401.out] at ho9 | (simp only [Int.reduceToNat] at ho9; rw [← Ny401.out] at ho9)); have HO403 := Aside0.mk (Kd.R_lower ho9 (below_size (sb))); replace HB := bs hb; clear hb ho9) | ((with_reducible refine gate_callee (f := 40) rfl ?_); refine gL (some 14) Try.func40 #[.agg #[.int .i64 a1, .int .i64 a2]] ?_; (with_reducible refine (impl_IsSpan.calls a1 a2 true _ A4.out).mono ?_); rintro e w10 ⟨rfl, hb⟩; refine ⟨_, rfl, ?_⟩; replace HO403 := rb HO403 hb; replace HB := bs hb; (try clear hb); (try clear hb2); (try clear hk); (try clear hi)) | ((with_reducible refine gate_callee (f := 41) rfl ?_); refine gL (some 20) Try.func41 #[.slice A0 l0.length c0, .int .i64 a1, .int .i64 a2] ?_; (with_reducible refine (impl_ChangesOf.calls k _ _ l0 a1 a2 t405 _ ?side1 ?side2 A6.out).mono ?_); (case side1 => exact cb HR0); (case side2 => exact HC0.out); rintro e w11 ⟨v406, rfl, ho0, hb⟩; refine ⟨_, rfl, ?_⟩; replace HO403 := rb HO403 hb; have HO407 := Aside0.mk (Kd.R_lower ho0 (below_size (sb))); replace HB := bs hb; (try clear hb); (try clear hb2); (try clear hk); (try clear hi); (try clear ho0)) | ((with_reducible refine gate_builtin (b := .append) (xs := #[.tmp 20, .tmp 22]) rfl ?_); at_builtin; refine Kd.R_append (Kd.int .i64) (w0 := w) w.heap.size rfl (.tmp 20) (.tmp 22) 57 3 (.int .i64 0) 8 rfl Try.underlying57 info3 rfl (by decide) (by omega) v406 t405 a2 [.int .i64 a2] (fun _ => True) (fun _ => False) rfl rfl ?aP (fun _ hk => hk.elim) ?aF ?aO ?aB ?aS ?aL ?_; (case aP => exact rfl); (case aB => exact (sb)); (case aF => exact (fun _ _ => trivial)); (case aO => exact (sr HO407)); (case aS => exact (below_size (sb))); (case aL => have := LMc7.out; omega); intro v409 w12 ho hb hg hat; rw [← Ny408.out] at ho; replace HO403 := Aside0.mk (Kd.R_over' (sr HO403) (Kd.R_typed (sr HO407)) (by decide) hg); replace HB := Aside0.mk hb; have HO410 := Aside0.mk ho; clear HO407; clear ho hb hg hat; obtain ⟨Ao13, co13, eo13⟩ := Kd.R_slice HO410.out; subst eo13))
  go_loopg [1, 7, 25] k (fun kq v1 v7 v25 w' => ∃ (x1_1 : Int) (x7_1 : List (S43)) (x25_1 : Int), v1 = .int .i64 x1_1 ∧ v25 = .int .i64 x25_1 ∧ Aside0 (impl_PiecesOf.l0 kq x1_1 x7_1 y408 (y408.length : Int) x25_1 = some r) ∧ Aside0 (kq ≤ k) ∧ Aside0 (Kd.R k43 43 w' w.heap.size (fun _ => True) v7 x7_1) ∧ Aside0 (Kd.R (Kd.int .i64) 3 w' w.heap.size (fun _ => True) (.slice Ao13 y408.length co13) y408) ∧ Aside0 (Below w.heap.size w w'))
  case atStart => exact ⟨(a1), (y401), (0), sc, sc, H', kk0, ⟨sr HO403⟩, ⟨sr HO410⟩, ⟨sb⟩⟩
  case round =>
   clear H'
   obtain ⟨x1_1, x7_1, x25_1, rfl, rfl, HA, HK1, HO_7, HO_23, HB⟩ := hrel
   cases gk with
   | zero => exact absurd HA.out (by simp [impl_PiecesOf.l0])
   | succ k1 =>
    have H := HA.out
    clear HA
    simp only [impl_PiecesOf.l0] at H
    obtain ⟨c14, H⟩ | ⟨c14, H⟩ := ie_ H
    ·have c14b0 := decide_eq_true c14
     clear c14
     obtain ⟨c15b0, H⟩ := id_ H
     obtain ⟨c16b0, H⟩ := id_ H
     obtain ⟨LMc17, H⟩ := il_ H
     obtain ⟨y412, hy412⟩ : ∃ y_ : List (S43), y_ = (x7_1 ++ [(⟨x1_1, rd y408 x25_1⟩ : S43)]) := ⟨_, rfl⟩
     replace H : (impl_PiecesOf.l0 k1 (rd y408 x25_1) y412 y408 (y408.length : Int) (wrap64 (x25_1 + 1))) = some r := by first | (rw [hy412]; with_reducible exact H) | (have H2_ := (Option.bind_some _ _).symm.trans H; rw [hy412]; with_reducible exact H2_) | (have H2_ := (Option.bind_some _ _).symm.trans H; with_reducible exact H2_) | with_reducible exact H | (rw [hy412]; exact H) | exact H
     have Ny412 := Aside0.mk hy412
     clear hy412
     have H' := Aside0.mk H
     clear H
     have p411 : 0 ≤ (x25_1 : Int) := sa
     have q411 : x25_1 < (y408.length : Int) := sa
     obtain ⟨ad411, e411, hx411_0⟩ := Kd.at_int (Kd.R_reads' HO_23.out).2.2 x25_1 p411 q411
     cases e411
     replace p411 := eq_true p411
     replace q411 := eq_true q411
     go_wp2_with (first | ((with_reducible refine gate_builtin (b := .append) (xs := #[.tmp 29, .tmp 33]) rfl ?_); at_builtin; refine Kd.R_append k43 (w0 := w) w.heap.size rfl (.tmp 29) (.tmp 33) 38 43 (.agg #[(.int .i64 0), (.int .i64 0)]) 16 rfl Try.underlying38 info43 rfl (by decide) (by omega) u7 x7_1 (⟨x1_1, rd y408 x25_1⟩ : S43) [.int .i64 x1_1, .int .i64 (rd y408 x25_1)] (fun _ => True) (fun _ => False) rfl rfl ?aP (fun _ hk => hk.elim) ?aF ?aO ?aB ?aS ?aL ?_; (case aP => exact k43_mkM _ _ _ (⟨x1_1, rd y408 x25_1⟩ : S43)); (case aB => exact (sb)); (case aF => exact (fun _ _ => trivial)); (case aO => exact (sr HO_7)); (case aS => exact (below_size (sb))); (case aL => have := LMc17.out; omega); intro v413 w18 ho hb hg hat; rw [← Ny412.out] at ho; replace HO_23 := Aside0.mk (Kd.R_over' (sr HO_23) (Kd.R_typed (sr HO_7)) (by decide) hg); replace HB := Aside0.mk hb; have HO414 := Aside0.mk ho; clear HO_7; clear ho hb hg hat))
     go_roundg k1
     case measure => have := HK1.out; omega
     case rel => exact ⟨(rd y408 x25_1), (y412), (wrap64 (x25_1 + 1)), sc, sc, H', kk1, ⟨sr HO414⟩, ⟨sr HO_23⟩, ⟨sb⟩⟩
    ·have c14b0 := decide_eq_false c14
     clear c14
     obtain rfl := Option.some.inj H
     go_wp2
     go_ret
     exact ⟨_, se, sr HO_7, sb⟩
 ·replace H := im H
  obtain rfl := Option.some.inj H
  go_enter Try.func22, Try.ntmps22
  go_wp2_with (first | ((with_reducible refine gate_dst (N := 10) rfl ?_); refine Kd.R_lit k43 _ 43 ?hg (N := 10) ?hd (xs := ([] : List (S43))) (inner := []) (ok := fun _ => True) (okp := fun _ => True) ?hr ?hp (fun _ hk => hk) trivial (Below.refl _ _) (Nat.le_refl _) (by simp) ?_; (case hd => rfl); (case hg => rfl); (case hr => first | (go_simp; done) | (go_simp; rfl)); (case hp => exact (Reps.none _ _)); intro v402 w19 ho20 hb hg_ hnew_; clear hg_ hnew_; (first | rw [← Ny401.out] at ho20 | (simp only [Int.reduceToNat] at ho20; rw [← Ny401.out] at ho20)); have HO403 := Aside0.mk (Kd.R_lower ho20 (below_size (sb))); replace HB := bs hb; clear hb ho20) | ((with_reducible refine gate_callee (f := 40) rfl ?_); refine gL (some 14) Try.func40 #[.agg #[.int .i64 a1, .int .i64 a2]] ?_; (with_reducible refine (impl_IsSpan.calls a1 a2 false _ A4.out).mono ?_); rintro e w21 ⟨rfl, hb⟩; refine ⟨_, rfl, ?_⟩; replace HO403 := rb HO403 hb; replace HB := bs hb; (try clear hb); (try clear hb2); (try clear hk); (try clear hi)))
  go_ret
  exact ⟨_, se, sr HO403, sb⟩

/-! ### impl_isIndex: function 69 -/
def impl_isIndex.f (a0 : Int) (a1 : Int) : Option (Bool) := if a0 ≥ 0 then (some (decide (a0 < a1))) else (some false)
set_option maxHeartbeats 8000000 in
set_option maxRecDepth 100000 in
theorem impl_isIndex.calls (a0 : Int) (a1 : Int) (r : Bool) (w : World) (h : impl_isIndex.f a0 a1 = some r) :
    Calls Try.prog 69 #[.int .i64 a0, .int .i64 a1] w fun e w' => e = .returned (.bool r) ∧ Drawn0 w w' := by
 have H : (if a0 ≥ 0 then (some (decide (a0 < a1))) else (some false)) = some r := h
 clear h
 obtain ⟨c3, H⟩ | ⟨c3, H⟩ := ie_ H
 ·have c3b0 := decide_eq_true c3
  clear c3
  obtain rfl := Option.some.inj H
  go_enter Try.func69, Try.ntmps69
  go_wp2
  go_ret
  exact ⟨sc, sd⟩
 ·have c3b0 := decide_eq_false c3
  clear c3
  obtain rfl := Option.some.inj H
  go_enter Try.func69, Try.ntmps69
  go_wp2
  go_ret
  exact ⟨sc, sd⟩

/-! ### slices_Sort_int_int: function 73 (the shelf's contract) -/
/-- A row of ints of the call's own, behind a library function that wrote it and left the first m. -/
theorem row_put {w : World} {base g n c m q : Nat} {xs ys : List Int} {ok : Nat → Prop} (HO : Kd.R (Kd.int .i64) 3 w base ok (.slice (some ⟨g, 0, none⟩) n c) xs) (hy : ys.length = n) (hm : m ≤ n) (os : Array Obj) :
    Kd.R (Kd.int .i64) 3 (Go.Sort.grow (Go.Sort.putRow (Value.int .i64) (Go.Sort.ahead w q) g 0 ys.toArray) os) base ok (.slice (some ⟨g, 0, none⟩) m c) (ys.take m) ∧ w.grownBy (Go.Sort.grow (Go.Sort.putRow (Value.int .i64) (Go.Sort.ahead w q) g 0 ys.toArray) os) (some g) := by
  obtain ⟨hn, hnc, _⟩ := Kd.R_reads' HO
  obtain ⟨hok, inner, hown, hr⟩ := HO
  rcases hown.2 with ⟨hv', _⟩ | ⟨g', cap', cur, hv', hb, hh, hlc, hcm, hcs, htake⟩
  · cases hv'
  injection hv' with ha _ hc
  injection ha with ha
  injection ha with hg
  subst hg; subst hc
  have hcs' : cur.size = c := by rw [hcs]; exact Nat.mul_one c
  have hsz : (Go.Sort.putRow (Value.int .i64) (Go.Sort.ahead w q) g 0 ys.toArray).heap.size = w.heap.size := by
    simp [Go.Sort.putRow, Go.Sort.mapBlock, Go.Sort.ahead]
  have hg0 : g < w.heap.size := blk_lt hh
  have hB : (Go.Sort.grow (Go.Sort.putRow (Value.int .i64) (Go.Sort.ahead w q) g 0 ys.toArray) os).heap[g]? = some (.cells (Go.Sort.putCells (Value.int .i64) 0 ys.toArray cur) 3 (0, 0)) := by
    rw [Go.Sort.heap_grow_old _ _ (by omega)]
    show (w.heap.modify g (Go.Sort.onCells _))[g]? = _
    rw [Array.getElem?_modify, if_pos rfl, hh]
    rfl
  have hfar : ∀ k, k < w.heap.size → k ≠ g → (Go.Sort.grow (Go.Sort.putRow (Value.int .i64) (Go.Sort.ahead w q) g 0 ys.toArray) os).heap[k]? = w.heap[k]? := by
    intro k hk hne
    rw [Go.Sort.heap_grow_old _ _ (by omega)]
    show (w.heap.modify g (Go.Sort.onCells _))[k]? = _
    rw [Array.getElem?_modify, if_neg (fun e => hne e.symm)]
  have htl : (ys.take m).length = m := by rw [List.length_take]; omega
  refine ⟨⟨hok, (ys.take m).map (Value.int .i64), ⟨by rw [List.length_map]; exact (Nat.mul_one _).symm, .inr ⟨g, c, _, by rw [htl], hb, hB, by omega, hcm, ?_, ?_⟩⟩, ⟨by rw [List.length_map]; exact (Nat.mul_one _).symm, ?_⟩⟩, ⟨rfl, rfl, rfl, ?_, ?_⟩⟩
  · show (Go.Sort.putCells (Value.int .i64) 0 ys.toArray cur).size = c * 1
    simp [Go.Sort.putCells, hcs']
  · rw [htl]
    apply List.ext_getElem?
    intro i
    show ((Go.Sort.putCells (Value.int .i64) 0 ys.toArray cur).toList.take (m * 1))[i]? = _
    rw [Nat.mul_one, List.getElem?_take, List.getElem?_map, List.getElem?_take]
    by_cases hi : i < m
    · have h1 : i < cur.size := by omega
      have h2 : i < ys.length := by omega
      rw [if_pos hi, if_pos hi, Array.getElem?_toList]
      simp [Go.Sort.putCells, h1, h2]
    · rw [if_neg hi, if_neg hi]
      rfl
  · intro j p hp
    show ((((ys.take m).map (Value.int .i64)).drop (j * 1)).take 1) = [Value.int .i64 p]
    rw [Nat.mul_one]
    have h1 : ((ys.take m).map (Value.int .i64))[j]? = some (.int .i64 p) := by rw [List.getElem?_map, hp]; rfl
    obtain ⟨h2, h3⟩ := List.getElem?_eq_some_iff.1 h1
    rw [List.drop_eq_getElem_cons h2, h3]
    rfl
  · simp [Go.Sort.grow, hsz]
  · intro k hk hne
    exact hfar k hk (fun e => hne (by rw [e]))
theorem row_holds {w : World} {base g n c : Nat} {xs : List Int} {ok : Nat → Prop} (HO : Kd.R (Kd.int .i64) 3 w base ok (.slice (some ⟨g, 0, none⟩) n c) xs) : Go.Sort.Holds (Value.int .i64) w g 0 xs.toArray ∧ g < w.heap.size := by
  obtain ⟨hn, hnc, hC⟩ := Kd.R_reads' HO
  obtain ⟨hok, inner, hown, hr⟩ := HO
  rcases hown.2 with ⟨hv', _⟩ | ⟨g', cap', cur, hv', hb, hh, hlc, hcm, hcs, htake⟩
  · cases hv'
  injection hv' with ha _ hc
  injection ha with ha
  injection ha with hg
  subst hg; subst hc
  refine ⟨fun j hj => ⟨?_, blk_frozen hh _⟩, blk_lt hh⟩
  have hj' : j < xs.length := by simpa using hj
  obtain ⟨ad, e, h⟩ := Kd.at_int hC (j : Int) (by omega) (by omega)
  injection e with e
  subst e
  rw [Int.toNat_natCast, add_at] at h
  simpa [rd, hj'] using h
def slices_Sort_int_int.f (l0 : List Int) : Option (List Int) := if l0.length < 4611686018427387904 then some (l0.mergeSort fun x y => decide (x ≤ y)) else none
theorem slices_Sort_int_int.calls (P0_ : Nat → Prop) (u9000_ : Value) (l0 : List Int) (r : List Int) (w0 w : World) (hB : Below w0.heap.size w0 w) (ho0 : Kd.R (Kd.int .i64) 3 w w0.heap.size P0_ u9000_ l0) (h : slices_Sort_int_int.f l0 = some r) :
    Calls Try.prog 73 #[u9000_] w fun e w' => e = .returned (.tuple #[]) ∧ Kd.R (Kd.int .i64) 3 w' w0.heap.size (fun k_ => (P0_ k_ ∨ w.heap.size ≤ k_)) u9000_ r ∧ Below w0.heap.size w0 w' ∧ Kept w w' (fun k_ => P0_ k_) := by
 unfold slices_Sort_int_int.f at h
 by_cases hm : l0.length < 4611686018427387904
 rotate_left
 ·rw [if_neg hm] at h
  cases h
 rw [if_pos hm] at h
 obtain rfl := Option.some.inj h
 by_cases hz : l0 = []
 ·subst hz
  obtain ⟨A, c, rfl⟩ := Kd.R_slice ho0
  refine (Try.slices_Sort_int_none A c w).mono ?_
  rintro e w' ⟨rfl, rfl⟩
  refine ⟨rfl, ?_, hB, Kept.refl _ _⟩
  rw [List.mergeSort_nil]
  exact Kd.R_mono ho0 (fun _ h_ => Or.inl h_)
 have hlen : 0 < l0.length := List.length_pos_iff.2 hz
 obtain ⟨A, c, rfl⟩ := Kd.R_slice ho0
 obtain ⟨g, cap_, ev_, _⟩ := Kd.R_form ho0 (by omega)
 injection ev_ with ea_ _ ec_
 subst ea_
 obtain ⟨hH, hg0⟩ := row_holds ho0
 refine (Try.slices_Sort_int g 0 c l0 w hH hg0 hm).mono ?_
 rintro e w' ⟨rfl, q, os, rfl⟩
 have hs : (l0.mergeSort fun x y => decide (x ≤ y)).length = l0.length := List.length_mergeSort l0
 have h1 := row_put (q := q) ho0 hs (Nat.le_refl _) os
 rw [List.take_of_length_le (by omega)] at h1
 have hg : P0_ g := ho0.1 g (by simp [Value.ownBlock])
 exact ⟨rfl, Kd.R_mono h1.1 (fun _ h_ => Or.inl h_), hB.grown h1.2 hB.size (fun k_ e_ => by injection e_ with e_; subst e_; exact Kd.R_base ho0 _ (by simp [Value.ownBlock])), Kept.of_grown h1.2 (Kept.refl _ _) (fun k_ e_ => by injection e_ with e_; subst e_; exact Or.inl hg)⟩

/-! ### slices_Compact_int_int: function 74 (the shelf's contract) -/
def slices_Compact_int_int.f (l0 : List Int) : Option (List Int) := if l0.length ≤ 4611686018427387904 then some (Go.Lib.compact l0) else none
theorem slices_Compact_int_int.calls (P0_ : Nat → Prop) (u9000_ : Value) (l0 : List Int) (r : List Int) (w0 w : World) (hB : Below w0.heap.size w0 w) (ho0 : Kd.R (Kd.int .i64) 3 w w0.heap.size P0_ u9000_ l0) (h : slices_Compact_int_int.f l0 = some r) :
    Calls Try.prog 74 #[u9000_] w fun e w' => ∃ v0_ : Value, e = .returned (v0_) ∧ Kd.R (Kd.int .i64) 3 w' w0.heap.size (fun k_ => (P0_ k_ ∨ w.heap.size ≤ k_)) v0_ r ∧ Below w0.heap.size w0 w' ∧ Kept w w' (fun k_ => P0_ k_) := by
 unfold slices_Compact_int_int.f at h
 by_cases hm : l0.length ≤ 4611686018427387904
 rotate_left
 ·rw [if_neg hm] at h
  cases h
 rw [if_pos hm] at h
 obtain rfl := Option.some.inj h
 by_cases hz : l0 = []
 ·subst hz
  obtain ⟨A, c, rfl⟩ := Kd.R_slice ho0
  refine (Try.slices_Compact_int_empty A c w).mono ?_
  rintro e w' ⟨rfl, rfl⟩
  exact ⟨_, rfl, Kd.R_mono ho0 (fun _ h_ => Or.inl h_), hB, Kept.refl _ _⟩
 have hlen : 0 < l0.length := List.length_pos_iff.2 hz
 obtain ⟨A, c, rfl⟩ := Kd.R_slice ho0
 obtain ⟨g, cap_, ev_, _⟩ := Kd.R_form ho0 (by omega)
 injection ev_ with ea_ _ ec_
 subst ea_
 obtain ⟨hH, hg0⟩ := row_holds ho0
 have hlc := (Kd.R_reads' ho0).2.1
 refine (Try.slices_Compact_int g 0 c l0 w hH (by omega) hlc).mono ?_
 rintro e w' ⟨rfl, q, rfl⟩
 have hle : (Go.Lib.compact l0).length ≤ l0.length := by
  unfold Go.Lib.compact Go.Lib.compactUpTo
  rw [List.length_map]
  exact Nat.le_trans (List.length_filter_le _ _) (by simp)
 have hs : (Go.Lib.compact l0 ++ List.replicate (l0.length - (Go.Lib.compact l0).length) 0).length = l0.length := by
  rw [List.length_append, List.length_replicate]
  omega
 have h1 := row_put (q := q) ho0 hs hle #[]
 rw [List.take_left' rfl, Go.Sort.grow_empty] at h1
 have hg : P0_ g := ho0.1 g (by simp [Value.ownBlock])
 exact ⟨_, rfl, Kd.R_mono h1.1 (fun _ h_ => Or.inl h_), hB.grown h1.2 hB.size (fun k_ e_ => by injection e_ with e_; subst e_; exact Kd.R_base ho0 _ (by simp [Value.ownBlock])), Kept.of_grown h1.2 (Kept.refl _ _) (fun k_ e_ => by injection e_ with e_; subst e_; exact Or.inl hg)⟩

/-! ### impl_NeighborsIn: function 70 -/
def impl_NeighborsIn.l0 : Nat → Int → List Int → List (S60) → Int → Int → Option (List Int)
  | 0, _, _, _, _, _ => none
  | k + 1, x1, x5, x9, x10, x11 => if x11 < x10 then (if 0 ≤ x11 then (if x11 < (x9.length : Int) then (if ((rd_T60 x9 x11).f0) = x1 then (if x5.length < 17592186044416 then ((some (x5 ++ [(rd_T60 x9 x11).f1] : List Int)).bind fun y424 => (if ((rd_T60 x9 x11).f1) = x1 then (if y424.length < 17592186044416 then (impl_NeighborsIn.l0 k x1 (y424 ++ [(rd_T60 x9 x11).f0]) x9 x10 (wrap64 (x11 + 1))) else (none)) else (impl_NeighborsIn.l0 k x1 y424 x9 x10 (wrap64 (x11 + 1))))) else (none)) else (if ((rd_T60 x9 x11).f1) = x1 then (if x5.length < 17592186044416 then (impl_NeighborsIn.l0 k x1 (x5 ++ [(rd_T60 x9 x11).f0]) x9 x10 (wrap64 (x11 + 1))) else (none)) else (impl_NeighborsIn.l0 k x1 x5 x9 x10 (wrap64 (x11 + 1))))) else (none)) else (none)) else ((slices_Sort_int_int.f x5).bind fun t418 => ((slices_Compact_int_int.f t418).bind fun t419 => (some t419)))
def impl_NeighborsIn.f (k : Nat) (l0 : List (S60)) (a1 : Int) : Option (List Int) := impl_NeighborsIn.l0 k a1 (([] : List Int)) l0 (l0.length : Int) 0
theorem impl_NeighborsIn.mono_l : ∀ k, (∀ y0 y1 y2 y3 y4, LeO (impl_NeighborsIn.l0 k y0 y1 y2 y3 y4) (impl_NeighborsIn.l0 (k + 1) y0 y1 y2 y3 y4))
  | 0 => fun _ _ _ _ _ r h => by simp [impl_NeighborsIn.l0] at h
  | k + 1 => by
    have ih0 := impl_NeighborsIn.mono_l k
    · intro y0 y1 y2 y3 y4
      unfold impl_NeighborsIn.l0
      exact mo
theorem impl_NeighborsIn.mono : ∀ a0 a1 k, LeO (impl_NeighborsIn.f k a0 a1) (impl_NeighborsIn.f (k + 1) a0 a1) := by
  intro a0 a1 k
  have ih0 := impl_NeighborsIn.mono_l k
  unfold impl_NeighborsIn.f
  exact mo
set_option maxHeartbeats 8000000 in
set_option maxRecDepth 100000 in
theorem impl_NeighborsIn.calls (k : Nat) (A0 : Option Addr) (c0 : Nat) (l0 : List (S60)) (a1 : Int) (r : List Int) (w : World) (hr0 : Kd.C k60 w A0 l0.length l0) (hc0 : l0.length ≤ c0) (h : impl_NeighborsIn.f k l0 a1 = some r) :
    Calls Try.prog 70 #[.slice A0 l0.length c0, .int .i64 a1] w fun e w' => ∃ v0_ : Value, e = .returned (v0_) ∧ Kd.R (Kd.int .i64) 3 w' w.heap.size (fun _ => True) v0_ r ∧ Below w.heap.size w w' := by
 have hu60 := Try.underlying60
 have HR0 := Aside0.mk hr0
 have HC0 := Aside0.mk hc0
 clear hr0 hc0
 have HB := Aside0.mk (Below.refl w.heap.size w)
 have H : (impl_NeighborsIn.l0 k a1 (([] : List Int)) l0 (l0.length : Int) 0) = some r := h
 clear h
 obtain ⟨y415, hy415⟩ : ∃ y_ : List Int, y_ = (([] : List Int)) := ⟨_, rfl⟩
 replace H : (impl_NeighborsIn.l0 k a1 y415 l0 (l0.length : Int) 0) = some r := by first | (rw [hy415]; with_reducible exact H) | (have H2_ := (Option.bind_some _ _).symm.trans H; rw [hy415]; with_reducible exact H2_) | (have H2_ := (Option.bind_some _ _).symm.trans H; with_reducible exact H2_) | with_reducible exact H | (rw [hy415]; exact H) | exact H
 have Ny415 := Aside0.mk hy415
 clear hy415
 have H' := Aside0.mk H
 clear H
 go_enter Try.func70, Try.ntmps70
 go_wp2_with (first | ((with_reducible refine gate_dst (N := 8) rfl ?_); refine Kd.R_lit (Kd.int .i64) _ 3 ?hg (N := 8) ?hd (xs := ([] : List Int)) (inner := []) (ok := fun _ => True) (okp := fun _ => True) ?hr ?hp (fun _ hk => hk) trivial (Below.refl _ _) (Nat.le_refl _) (by simp) ?_; (case hd => rfl); (case hg => rfl); (case hr => first | (go_simp; done) | (go_simp; rfl)); (case hp => exact (Reps.none _ _)); intro v416 w3 ho4 hb hg_ hnew_; clear hg_ hnew_; (first | rw [← Ny415.out] at ho4 | (simp only [Int.reduceToNat] at ho4; rw [← Ny415.out] at ho4)); have HO417 := Aside0.mk (Kd.R_lower ho4 (below_size (sb))); replace HB := bs hb; clear hb ho4))
 go_loopg [5, 11] k (fun kq v5 v11 w' => ∃ (x5_1 : List Int) (x11_1 : Int), v11 = .int .i64 x11_1 ∧ Aside0 (impl_NeighborsIn.l0 kq a1 x5_1 l0 (l0.length : Int) x11_1 = some r) ∧ Aside0 (kq ≤ k) ∧ Aside0 (Kd.R (Kd.int .i64) 3 w' w.heap.size (fun _ => True) v5 x5_1) ∧ Aside0 (Below w.heap.size w w'))
 case atStart => exact ⟨(y415), (0), sc, H', kk0, ⟨sr HO417⟩, ⟨sb⟩⟩
 case round =>
  clear H'
  obtain ⟨x5_1, x11_1, rfl, HA, HK1, HO_5, HB⟩ := hrel
  cases gk with
  | zero => exact absurd HA.out (by simp [impl_NeighborsIn.l0])
  | succ k1 =>
   have H := HA.out
   clear HA
   simp only [impl_NeighborsIn.l0] at H
   obtain ⟨c5, H⟩ | ⟨c5, H⟩ := ie_ H
   ·have c5b0 := decide_eq_true c5
    clear c5
    obtain ⟨c6b0, H⟩ := id_ H
    obtain ⟨c7b0, H⟩ := id_ H
    obtain ⟨c8, H⟩ | ⟨c8, H⟩ := ie_ H
    ·have c8b0 : (((rd_T60 l0 x11_1).f0) == a1) = true := beq_iff_eq.mpr c8
     have c8b1 : (((rd_T60 l0 x11_1).f0) != a1) = false := bne_eq_false_iff_eq.mpr c8
     clear c8
     obtain ⟨LMc9, H⟩ := il_ H
     obtain ⟨y424, hy424⟩ : ∃ y_ : List Int, y_ = (x5_1 ++ [(rd_T60 l0 x11_1).f1]) := ⟨_, rfl⟩
     replace H : (if ((rd_T60 l0 x11_1).f1) = a1 then (if y424.length < 17592186044416 then (impl_NeighborsIn.l0 k1 a1 (y424 ++ [(rd_T60 l0 x11_1).f0]) l0 (l0.length : Int) (wrap64 (x11_1 + 1))) else (none)) else (impl_NeighborsIn.l0 k1 a1 y424 l0 (l0.length : Int) (wrap64 (x11_1 + 1)))) = some r := by first | (rw [hy424]; with_reducible exact H) | (have H2_ := (Option.bind_some _ _).symm.trans H; rw [hy424]; with_reducible exact H2_) | (have H2_ := (Option.bind_some _ _).symm.trans H; with_reducible exact H2_) | with_reducible exact H | (rw [hy424]; exact H) | exact H
     have Ny424 := Aside0.mk hy424
     clear hy424
     obtain ⟨c10, H⟩ | ⟨c10, H⟩ := ie_ H
     ·have c10b0 : (((rd_T60 l0 x11_1).f1) == a1) = true := beq_iff_eq.mpr c10
      have c10b1 : (((rd_T60 l0 x11_1).f1) != a1) = false := bne_eq_false_iff_eq.mpr c10
      clear c10
      obtain ⟨LMc11, H⟩ := il_ H
      obtain ⟨y427, hy427⟩ : ∃ y_ : List Int, y_ = (y424 ++ [(rd_T60 l0 x11_1).f0]) := ⟨_, rfl⟩
      replace H : (impl_NeighborsIn.l0 k1 a1 y427 l0 (l0.length : Int) (wrap64 (x11_1 + 1))) = some r := by first | (rw [hy427]; with_reducible exact H) | (have H2_ := (Option.bind_some _ _).symm.trans H; rw [hy427]; with_reducible exact H2_) | (have H2_ := (Option.bind_some _ _).symm.trans H; with_reducible exact H2_) | with_reducible exact H | (rw [hy427]; exact H) | exact H
      have Ny427 := Aside0.mk hy427
      clear hy427
      have H' := Aside0.mk H
      clear H
      obtain ⟨p422, q422, ad422, e422, _, _, hx422_0, hx422_1⟩ := aT_T60 HR0 HB x11_1
      cases e422
      go_wp2_with (first | ((with_reducible refine gate_dst (N := 7) rfl ?_); refine bx 7 #[.int .i64 0, .int .i64 0] 60 ?_; intro gb423 hg w12 hbox hb; replace HO_5 := rb HO_5 hb; have GW423 := bz w hg; have GE423 := bz w hg; replace HB := bs hb; have BK423 := Aside0.mk hbox; clear hb hbox hg; obtain ⟨hcz13_0, hcz13_1, hfz13_0, hfz13_1⟩ := cc2 BK423) | ((with_reducible refine gate_builtin (b := .append) (xs := #[.tmp 19, .tmp 22]) rfl ?_); at_builtin; refine Kd.R_append (Kd.int .i64) (w0 := w) w.heap.size rfl (.tmp 19) (.tmp 22) 57 3 (.int .i64 0) 8 rfl Try.underlying57 info3 rfl (by decide) (by omega) u5 x5_1 ((rd_T60 l0 x11_1).f1) [.int .i64 ((rd_T60 l0 x11_1).f1)] (fun _ => True) (fun _ => False) rfl (by first | (go_simp; done) | (go_simp; rfl)) ?aP (fun _ hk => hk.elim) ?aF ?aO ?aB ?aS ?aL ?_; (case aP => exact rfl); (case aB => exact (sbw)); (case aF => exact (fun _ _ => trivial)); (case aO => exact (by (with_reducible repeat (first | apply Kd.R_alloc | apply Kd.R_drewN | apply Kd.R_drew)); exact Kd.R_mono (Kd.R_far (p := ⟨gb423, 1, none⟩) (Kd.R_far (p := ⟨gb423, 0, none⟩) (Kd.R_types HO_5.out BK423.out (by decide)) (fun _ hk => hk.2) (.int .i64 ((rd_T60 l0 x11_1).f0))) (fun _ hk => hk.2) (.int .i64 ((rd_T60 l0 x11_1).f1))) (fun _ hk => trivial))); (case aS => exact (below_size (sbw))); (case aL => have := LMc9.out; omega); intro v425 w14 ho hb hg hat; rw [← Ny424.out] at ho; replace BK423 := Aside0.mk (blk_grown (g := gb423) (o := .cells #[.int .i64 ((rd_T60 l0 x11_1).f0), .int .i64 ((rd_T60 l0 x11_1).f1)] 60 (0, 0)) (sp BK423) hg (Kd.R_ne HO_5.out BK423.out (by decide))); replace HB := Aside0.mk hb; have HO426 := Aside0.mk ho; clear HO_5; clear ho hb hg hat; obtain ⟨hcz15_0, hcz15_1, hfz15_0, hfz15_1⟩ := cc2 BK423) | ((with_reducible refine gate_builtin (b := .append) (xs := #[.tmp 28, .tmp 31]) rfl ?_); at_builtin; refine Kd.R_append (Kd.int .i64) (w0 := w) w.heap.size rfl (.tmp 28) (.tmp 31) 57 3 (.int .i64 0) 8 rfl Try.underlying57 info3 rfl (by decide) (by omega) v425 y424 ((rd_T60 l0 x11_1).f0) [.int .i64 ((rd_T60 l0 x11_1).f0)] (fun _ => True) (fun _ => False) rfl rfl ?aP (fun _ hk => hk.elim) ?aF ?aO ?aB ?aS ?aL ?_; (case aP => exact rfl); (case aB => exact (sbw)); (case aF => exact (fun _ _ => trivial)); (case aO => exact (sr HO426)); (case aS => exact (below_size (sbw))); (case aL => have := LMc11.out; omega); intro v428 w16 ho hb hg hat; rw [← Ny427.out] at ho; replace BK423 := Aside0.mk (blk_grown (g := gb423) (o := .cells #[.int .i64 ((rd_T60 l0 x11_1).f0), .int .i64 ((rd_T60 l0 x11_1).f1)] 60 (0, 0)) (sk BK423) hg (Kd.R_ne HO426.out BK423.out (by decide))); replace HB := Aside0.mk hb; have HO429 := Aside0.mk ho; clear HO426; clear ho hb hg hat))
      go_roundg k1
      case measure => have := HK1.out; omega
      case rel => exact ⟨(y427), (wrap64 (x11_1 + 1)), sc, H', kk1, ⟨sr HO429⟩, ⟨sbw⟩⟩
     ·have c10b0 : (((rd_T60 l0 x11_1).f1) == a1) = false := beq_eq_false_iff_ne.mpr c10
      have c10b1 : (((rd_T60 l0 x11_1).f1) != a1) = true := bne_iff_ne.mpr c10
      have H' := Aside0.mk H
      clear H
      obtain ⟨p422, q422, ad422, e422, _, _, hx422_0, hx422_1⟩ := aT_T60 HR0 HB x11_1
      cases e422
      go_wp2_with (first | ((with_reducible refine gate_dst (N := 7) rfl ?_); refine bx 7 #[.int .i64 0, .int .i64 0] 60 ?_; intro gb423 hg w17 hbox hb; replace HO_5 := rb HO_5 hb; have GW423 := bz w hg; have GE423 := bz w hg; replace HB := bs hb; have BK423 := Aside0.mk hbox; clear hb hbox hg; obtain ⟨hcz18_0, hcz18_1, hfz18_0, hfz18_1⟩ := cc2 BK423) | ((with_reducible refine gate_builtin (b := .append) (xs := #[.tmp 19, .tmp 22]) rfl ?_); at_builtin; refine Kd.R_append (Kd.int .i64) (w0 := w) w.heap.size rfl (.tmp 19) (.tmp 22) 57 3 (.int .i64 0) 8 rfl Try.underlying57 info3 rfl (by decide) (by omega) u5 x5_1 ((rd_T60 l0 x11_1).f1) [.int .i64 ((rd_T60 l0 x11_1).f1)] (fun _ => True) (fun _ => False) rfl (by first | (go_simp; done) | (go_simp; rfl)) ?aP (fun _ hk => hk.elim) ?aF ?aO ?aB ?aS ?aL ?_; (case aP => exact rfl); (case aB => exact (sbw)); (case aF => exact (fun _ _ => trivial)); (case aO => exact (by (with_reducible repeat (first | apply Kd.R_alloc | apply Kd.R_drewN | apply Kd.R_drew)); exact Kd.R_mono (Kd.R_far (p := ⟨gb423, 1, none⟩) (Kd.R_far (p := ⟨gb423, 0, none⟩) (Kd.R_types HO_5.out BK423.out (by decide)) (fun _ hk => hk.2) (.int .i64 ((rd_T60 l0 x11_1).f0))) (fun _ hk => hk.2) (.int .i64 ((rd_T60 l0 x11_1).f1))) (fun _ hk => trivial))); (case aS => exact (below_size (sbw))); (case aL => have := LMc9.out; omega); intro v425 w19 ho hb hg hat; rw [← Ny424.out] at ho; replace BK423 := Aside0.mk (blk_grown (g := gb423) (o := .cells #[.int .i64 ((rd_T60 l0 x11_1).f0), .int .i64 ((rd_T60 l0 x11_1).f1)] 60 (0, 0)) (sp BK423) hg (Kd.R_ne HO_5.out BK423.out (by decide))); replace HB := Aside0.mk hb; have HO426 := Aside0.mk ho; clear HO_5; clear ho hb hg hat; obtain ⟨hcz20_0, hcz20_1, hfz20_0, hfz20_1⟩ := cc2 BK423))
      go_roundg k1
      case measure => have := HK1.out; omega
      case rel => exact ⟨(y424), (wrap64 (x11_1 + 1)), sc, H', kk1, ⟨sr HO426⟩, ⟨sbw⟩⟩
    ·have c8b0 : (((rd_T60 l0 x11_1).f0) == a1) = false := beq_eq_false_iff_ne.mpr c8
     have c8b1 : (((rd_T60 l0 x11_1).f0) != a1) = true := bne_iff_ne.mpr c8
     obtain ⟨c21, H⟩ | ⟨c21, H⟩ := ie_ H
     ·have c21b0 : (((rd_T60 l0 x11_1).f1) == a1) = true := beq_iff_eq.mpr c21
      have c21b1 : (((rd_T60 l0 x11_1).f1) != a1) = false := bne_eq_false_iff_eq.mpr c21
      clear c21
      obtain ⟨LMc22, H⟩ := il_ H
      obtain ⟨y430, hy430⟩ : ∃ y_ : List Int, y_ = (x5_1 ++ [(rd_T60 l0 x11_1).f0]) := ⟨_, rfl⟩
      replace H : (impl_NeighborsIn.l0 k1 a1 y430 l0 (l0.length : Int) (wrap64 (x11_1 + 1))) = some r := by first | (rw [hy430]; with_reducible exact H) | (have H2_ := (Option.bind_some _ _).symm.trans H; rw [hy430]; with_reducible exact H2_) | (have H2_ := (Option.bind_some _ _).symm.trans H; with_reducible exact H2_) | with_reducible exact H | (rw [hy430]; exact H) | exact H
      have Ny430 := Aside0.mk hy430
      clear hy430
      have H' := Aside0.mk H
      clear H
      obtain ⟨p422, q422, ad422, e422, _, _, hx422_0, hx422_1⟩ := aT_T60 HR0 HB x11_1
      cases e422
      go_wp2_with (first | ((with_reducible refine gate_dst (N := 7) rfl ?_); refine bx 7 #[.int .i64 0, .int .i64 0] 60 ?_; intro gb423 hg w23 hbox hb; replace HO_5 := rb HO_5 hb; have GW423 := bz w hg; have GE423 := bz w hg; replace HB := bs hb; have BK423 := Aside0.mk hbox; clear hb hbox hg; obtain ⟨hcz24_0, hcz24_1, hfz24_0, hfz24_1⟩ := cc2 BK423) | ((with_reducible refine gate_builtin (b := .append) (xs := #[.tmp 28, .tmp 31]) rfl ?_); at_builtin; refine Kd.R_append (Kd.int .i64) (w0 := w) w.heap.size rfl (.tmp 28) (.tmp 31) 57 3 (.int .i64 0) 8 rfl Try.underlying57 info3 rfl (by decide) (by omega) u5 x5_1 ((rd_T60 l0 x11_1).f0) [.int .i64 ((rd_T60 l0 x11_1).f0)] (fun _ => True) (fun _ => False) rfl (by first | (go_simp; done) | (go_simp; rfl)) ?aP (fun _ hk => hk.elim) ?aF ?aO ?aB ?aS ?aL ?_; (case aP => exact rfl); (case aB => exact (sbw)); (case aF => exact (fun _ _ => trivial)); (case aO => exact (by (with_reducible repeat (first | apply Kd.R_alloc | apply Kd.R_drewN | apply Kd.R_drew)); exact Kd.R_mono (Kd.R_far (p := ⟨gb423, 1, none⟩) (Kd.R_far (p := ⟨gb423, 0, none⟩) (Kd.R_types HO_5.out BK423.out (by decide)) (fun _ hk => hk.2) (.int .i64 ((rd_T60 l0 x11_1).f0))) (fun _ hk => hk.2) (.int .i64 ((rd_T60 l0 x11_1).f1))) (fun _ hk => trivial))); (case aS => exact (below_size (sbw))); (case aL => have := LMc22.out; omega); intro v431 w25 ho hb hg hat; rw [← Ny430.out] at ho; replace BK423 := Aside0.mk (blk_grown (g := gb423) (o := .cells #[.int .i64 ((rd_T60 l0 x11_1).f0), .int .i64 ((rd_T60 l0 x11_1).f1)] 60 (0, 0)) (sp BK423) hg (Kd.R_ne HO_5.out BK423.out (by decide))); replace HB := Aside0.mk hb; have HO432 := Aside0.mk ho; clear HO_5; clear ho hb hg hat))
      go_roundg k1
      case measure => have := HK1.out; omega
      case rel => exact ⟨(y430), (wrap64 (x11_1 + 1)), sc, H', kk1, ⟨sr HO432⟩, ⟨sbw⟩⟩
     ·have c21b0 : (((rd_T60 l0 x11_1).f1) == a1) = false := beq_eq_false_iff_ne.mpr c21
      have c21b1 : (((rd_T60 l0 x11_1).f1) != a1) = true := bne_iff_ne.mpr c21
      have H' := Aside0.mk H
      clear H
      obtain ⟨p422, q422, ad422, e422, _, _, hx422_0, hx422_1⟩ := aT_T60 HR0 HB x11_1
      cases e422
      go_wp2_with (first | ((with_reducible refine gate_dst (N := 7) rfl ?_); refine bx 7 #[.int .i64 0, .int .i64 0] 60 ?_; intro gb423 hg w26 hbox hb; replace HO_5 := rb HO_5 hb; have GW423 := bz w hg; have GE423 := bz w hg; replace HB := bs hb; have BK423 := Aside0.mk hbox; clear hb hbox hg; obtain ⟨hcz27_0, hcz27_1, hfz27_0, hfz27_1⟩ := cc2 BK423))
      go_roundg k1
      case measure => have := HK1.out; omega
      case rel => exact ⟨(x5_1), (wrap64 (x11_1 + 1)), sc, H', kk1, ⟨by (with_reducible repeat (first | apply Kd.R_alloc | apply Kd.R_drewN | apply Kd.R_drew)); exact Kd.R_mono (Kd.R_far (p := ⟨gb423, 1, none⟩) (Kd.R_far (p := ⟨gb423, 0, none⟩) (Kd.R_types HO_5.out BK423.out (by decide)) (fun _ hk => hk.2) (.int .i64 ((rd_T60 l0 x11_1).f0))) (fun _ hk => hk.2) (.int .i64 ((rd_T60 l0 x11_1).f1))) (fun _ hk => trivial)⟩, ⟨sbw⟩⟩
   ·have c5b0 := decide_eq_false c5
    clear c5
    obtain ⟨t418, A28, H⟩ := bnd H
    obtain ⟨t419, A29, H⟩ := bnd H
    obtain rfl := Option.some.inj H
    obtain ⟨Ao30, co30, eo30⟩ := Kd.R_slice HO_5.out
    subst eo30
    go_wp2_with (first | ((with_reducible refine gate_callee (f := 73) rfl ?_); refine gL (some 35) Try.func73 #[.slice Ao30 x5_1.length co30] ?_; (with_reducible refine (slices_Sort_int_int.calls (fun k_ => some k_ = (.slice Ao30 x5_1.length co30 : Value).ownBlock) (.slice Ao30 x5_1.length co30) x5_1 t418 w _ ?side1 ?side2 A28.out).mono ?_); (case side1 => repeat (first | (with_reducible first | exact HB.out | apply below_alloc | apply pw_below_drewN | apply below_drew1) | exact HB.out)); (case side2 => exact Kd.R_tight rfl HO_5.out); rintro e w31 ⟨rfl, hy0, hb, hkp⟩; refine ⟨_, rfl, ?_⟩; replace HO_5 := Aside0.mk (Kd.R_reok rfl hy0 (fun k_ e_ => HO_5.out.1 k_ e_)); replace HB := Aside0.mk hb; (try clear hb); (try clear hkp); (try clear hy0)) | ((with_reducible refine gate_callee (f := 74) rfl ?_); refine gL (some 37) Try.func74 #[.slice Ao30 x5_1.length co30] ?_; (with_reducible refine (slices_Compact_int_int.calls (fun k_ => some k_ = (.slice Ao30 x5_1.length co30 : Value).ownBlock) (.slice Ao30 x5_1.length co30) t418 t419 w _ ?side1 ?side2 A29.out).mono ?_); (case side1 => repeat (first | (with_reducible first | exact HB.out | apply below_alloc | apply pw_below_drewN | apply below_drew1) | exact HB.out)); (case side2 => exact Kd.R_tight rfl HO_5.out); rintro e w32 ⟨v420, rfl, ho0, hb, hkp⟩; refine ⟨_, rfl, ?_⟩; have HO421 := Aside0.mk (Kd.R_mono (ok' := fun k_ => True) ho0 (fun k_ hk_ => trivial)); replace HB := Aside0.mk hb; clear HO_5; (try clear hb); (try clear hkp); (try clear ho0)))
    go_ret
    exact ⟨_, se, sr HO421, sb⟩

end Go.Proofs.Ytcjlbgbenjmkgaa.QFnExactBuildProgram
