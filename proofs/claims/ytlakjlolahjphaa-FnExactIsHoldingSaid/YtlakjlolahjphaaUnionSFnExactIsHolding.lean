/- The reference's UnionHasLoop tells whether the tables, as one graph, hold a circle. Conditions: none. -/
import Derived.Test.YtlakjlolahjphaaUnionIFnExactIsHolding
namespace Go.Proofs.Ytlakjlolahjphaa.fnExactIsHolding
open Go.RowKit Go.Proofs.YtlakjlolahjphaaW.PrintWords Go.Proofs.YtlakjlolahjphaaW.PrintMore Go.Proofs.Ytlakjlolahjphaa.QFnExactIsHolding Go.Proofs.Ytlakjlolahjphaa.Open Go.Proofs.Ytlakjlolahjphaa.Kit Go.Proofs.Ytlakjlolahjphaa.Graph
theorem inU (a b c : Int) : spec_l1In.f a b c = some (decide (b ≤ a ∧ a ≤ c)) := by
  unfold spec_l1In.f
  by_cases h : b ≤ a <;> simp [h]
theorem has_ev (l : List Int) (v : Int) (hl : l.length ≤ 1048576) : Ev (fun k => spec_l15Has.f k l v) (decide (v ∈ l)) := by
  have key : ∀ d i : Nat, i + d = l.length → Ev (fun k => spec_l15Has.l0 k l v (i : Int)) (decide (v ∈ l.drop i)) := by
    intro d
    induction d with
    | zero =>
      intro i hi
      refine Ev.step (fun k => by rw [spec_l15Has.l0]) ?_
      repeat (first | (with_reducible refine Ev.ite_pos (by omega) ?_) | (with_reducible refine Ev.ite_neg (by omega) ?_))
      refine Ev.some ?_
      rw [List.drop_of_length_le (by omega)]
      simp
    | succ d ih =>
      intro i hi
      have h1 := ih (i + 1) (by omega)
      refine Ev.step (fun k => by rw [spec_l15Has.l0]) ?_
      repeat (first | (with_reducible refine Ev.ite_pos (by omega) ?_) | (with_reducible refine Ev.ite_neg (by omega) ?_))
      rw [drop_getD (by omega : i < l.length) 0]
      by_cases he : l.getD i 0 = v
      · refine Ev.ite_pos he (Ev.some ?_)
        rw [he]
        simp
      · refine Ev.ite_neg he ?_
        rw [w64n (by omega)]
        have e : decide (v ∈ l.getD i 0 :: l.drop (i + 1)) = decide (v ∈ l.drop (i + 1)) := by
          rw [decide_eq_decide, List.mem_cons]
          exact ⟨fun h => h.elim (fun h => absurd h.symm he) (fun h => h), .inr⟩
        rw [e]
        exact h1
  exact key l.length 0 (by omega)
theorem foldTo_stp_few {l : List (List Int)} {n x : Nat} (i : Nat) : Few n (foldTo (stp n x) [] l i) := foldl_stp_few _ _ (Few.nil n)
theorem steps_ev (l : List (List Int)) (n x : Nat) (hl : l.length ≤ 1048576) (hn : n ≤ 1048576) : Ev (fun k => spec_l18Steps.f k l (n : Int) (x : Int)) (steps l n x) := by
  unfold steps
  rw [← foldTo_all]
  have h0 := foldTo_zero (stp n x) [] l
  show Ev (fun k => spec_l18Steps.l0 k l (n : Int) (x : Int) [] 0) _
  rw [show (fun k => spec_l18Steps.l0 k l (n : Int) (x : Int) [] 0) = (fun k => spec_l18Steps.l0 k l (n : Int) (x : Int) (foldTo (stp n x) [] l 0) ((0 : Nat) : Int)) by rw [h0]; rfl]
  refine Ev.up (n := l.length) (g := fun i k => spec_l18Steps.l0 k l (n : Int) (x : Int) (foldTo (stp n x) [] l i) (i : Int)) ?_ ?_
  · intro i hi ih
    have hf := (foldTo_stp_few (l := l) (n := n) (x := x) i).le
    rw [foldTo_succ (stp n x) [] hi []] at ih
    refine Ev.step (fun k => by rw [spec_l18Steps.l0]) ?_
    repeat (first | (with_reducible refine Ev.ite_pos (by omega) ?_) | (with_reducible refine Ev.ite_neg (by omega) ?_))
    rw [w64n (by omega), w64 (x := (n : Int) - 1) (by omega) (by omega)]
    by_cases hx : x < (l.getD i []).length
    · refine Ev.ite_pos (by show (x : Int) < (((l.getD i []).length : Nat) : Int); omega) ?_
      refine Ev.ite_pos (by omega) ?_
      refine Ev.bind0 (inU ((l.getD i []).getD x 0) 0 ((n : Int) - 1)) ?_
      by_cases hy : 0 ≤ (l.getD i []).getD x 0 ∧ (l.getD i []).getD x 0 < (n : Int)
      · refine Ev.ite_pos (by simp only [decide_eq_true_eq]; omega) ?_
        refine Ev.bind (has_ev (foldTo (stp n x) [] l i) ((l.getD i []).getD x 0) (by omega)) ?_
        by_cases hm : (l.getD i []).getD x 0 ∈ foldTo (stp n x) [] l i
        · refine Ev.ite_pos (by simpa using hm) ?_
          rw [show stp n x (foldTo (stp n x) [] l i) (l.getD i []) = foldTo (stp n x) [] l i from if_neg (fun h => h.2.2 hm)] at ih
          exact ih
        · refine Ev.ite_neg (by simpa using hm) ?_
          rw [show stp n x (foldTo (stp n x) [] l i) (l.getD i []) = foldTo (stp n x) [] l i ++ [(l.getD i []).getD x 0] from if_pos ⟨hx, hy, hm⟩] at ih
          repeat (first | (with_reducible refine Ev.ite_pos (by omega) ?_) | (with_reducible refine Ev.ite_neg (by omega) ?_))
          exact ih
      · refine Ev.ite_neg (by simp only [decide_eq_true_eq]; omega) ?_
        rw [show stp n x (foldTo (stp n x) [] l i) (l.getD i []) = foldTo (stp n x) [] l i from if_neg (fun h => hy h.2.1)] at ih
        exact ih
    · refine Ev.ite_neg (by show ¬ (x : Int) < (((l.getD i []).length : Nat) : Int); omega) ?_
      rw [show stp n x (foldTo (stp n x) [] l i) (l.getD i []) = foldTo (stp n x) [] l i from if_neg (fun h => hx h.1)] at ih
      exact ih
  · refine Ev.step (fun k => by rw [spec_l18Steps.l0]) ?_
    repeat (first | (with_reducible refine Ev.ite_pos (by omega) ?_) | (with_reducible refine Ev.ite_neg (by omega) ?_))
    exact Ev.now _
theorem foldTo_add_few {n : Nat} {seen more : List Int} (h : Few n seen) (hm : ∀ y ∈ more, 0 ≤ y ∧ y < n) (i : Nat) : Few n (foldTo addN seen more i) := addAll_few _ _ h (fun y hy => hm y (List.mem_of_mem_take hy))
theorem l2S_ev {l : List (List Int)} {n i : Nat} {seen more : List Int} {q : Nat} {r : Bool} (hn : n ≤ 1048576) (hs : Few n seen) (hm : Few n more) (hq : q < n)
    (h : Ev (fun k => spec_UnionHasLoop.l1 k l (n : Int) (i : Int) (more.foldl addN seen) ((q + 1 : Nat) : Int)) r) : Ev (fun k => spec_UnionHasLoop.l2 k l (n : Int) (i : Int) seen (q : Int) more 0) r := by
  have h0 := foldTo_zero addN seen more
  have hml := hm.le
  rw [show (fun k => spec_UnionHasLoop.l2 k l (n : Int) (i : Int) seen (q : Int) more 0) = (fun k => spec_UnionHasLoop.l2 k l (n : Int) (i : Int) (foldTo addN seen more 0) (q : Int) more ((0 : Nat) : Int)) by rw [h0]; rfl]
  refine Ev.up (n := more.length) (g := fun j k => spec_UnionHasLoop.l2 k l (n : Int) (i : Int) (foldTo addN seen more j) (q : Int) more (j : Int)) ?_ ?_
  · intro j hj ih
    have hf := (foldTo_add_few hs hm.2 j).le
    rw [foldTo_succ addN seen hj 0] at ih
    refine Ev.step (fun k => by rw [spec_UnionHasLoop.l2]) ?_
    repeat (first | (with_reducible refine Ev.ite_pos (by omega) ?_) | (with_reducible refine Ev.ite_neg (by omega) ?_))
    rw [w64n (by omega)]
    refine Ev.bind (has_ev (foldTo addN seen more j) (more.getD j 0) (by omega)) ?_
    by_cases hy : more.getD j 0 ∈ foldTo addN seen more j
    · refine Ev.ite_pos (by simpa using hy) ?_
      rw [show addN (foldTo addN seen more j) (more.getD j 0) = foldTo addN seen more j from if_pos hy] at ih
      exact ih
    · refine Ev.ite_neg (by simpa using hy) ?_
      rw [show addN (foldTo addN seen more j) (more.getD j 0) = foldTo addN seen more j ++ [more.getD j 0] from if_neg hy] at ih
      repeat (first | (with_reducible refine Ev.ite_pos (by omega) ?_) | (with_reducible refine Ev.ite_neg (by omega) ?_))
      exact ih
  · refine Ev.step (fun k => by rw [spec_UnionHasLoop.l2]) ?_
    repeat (first | (with_reducible refine Ev.ite_pos (by omega) ?_) | (with_reducible refine Ev.ite_neg (by omega) ?_))
    rw [foldTo_all, w64n (by omega)]
    exact h
theorem l1S_ev {l : List (List Int)} {n i : Nat} {r' : Bool} (hl : l.length ≤ 1048576) (hn : n ≤ 1048576) (hi : i < n) (h' : Ev (fun k => spec_UnionHasLoop.l0 k l (n : Int) ((i + 1 : Nat) : Int)) r') : ∀ (d : Nat) (seen : List Int) (q : Nat), q + d = n → Srch l n i seen q →
    ∃ r, Ev (fun k => spec_UnionHasLoop.l1 k l (n : Int) (i : Int) seen (q : Int)) r ∧ (r = true ↔ (∃ m, 0 < m ∧ Walk (EdgeIn l n) m i i) ∨ r' = true) := by
  intro d
  induction d with
  | zero =>
    intro seen q hd hs
    have h1 := hs.few.le
    have h2 := hs.le
    have e : q = seen.length := by omega
    subst e
    refine ⟨r', ?_, ?_⟩
    · refine Ev.step (fun k => by rw [spec_UnionHasLoop.l1]) ?_
      repeat (first | (with_reducible refine Ev.ite_pos (by omega) ?_) | (with_reducible refine Ev.ite_neg (by omega) ?_))
      rw [w64n (by omega)]
      exact h'
    · have := srch_end hs
      exact ⟨.inr, fun h => h.elim (fun h => absurd h this) (fun h => h)⟩
  | succ d ih =>
    intro seen q hd hs
    have h1 := hs.few.le
    by_cases hq : q < seen.length
    · have hmem := getD_mem hq 0
      by_cases he : seen.getD q 0 = i
      · refine ⟨true, ?_, ?_⟩
        · refine Ev.step (fun k => by rw [spec_UnionHasLoop.l1]) ?_
          repeat (first | (with_reducible refine Ev.ite_pos (by omega) ?_) | (with_reducible refine Ev.ite_neg (by omega) ?_))
          exact Ev.ite_pos he (Ev.now _)
        · have hw := hs.from_ _ hmem
          rw [he] at hw
          exact ⟨fun _ => .inl hw, fun _ => rfl⟩
      · have hr := hs.few.2 _ hmem
        obtain ⟨x, hx⟩ := Int.eq_ofNat_of_zero_le hr.1
        obtain ⟨r, hr, hiff⟩ := ih _ (q + 1) (by omega) (srch_step hs hq he hx)
        refine ⟨r, ?_, hiff⟩
        refine Ev.step (fun k => by rw [spec_UnionHasLoop.l1]) ?_
        repeat (first | (with_reducible refine Ev.ite_pos (by omega) ?_) | (with_reducible refine Ev.ite_neg (by omega) ?_))
        refine Ev.ite_neg he ?_
        rw [rd_nat, hx]
        refine Ev.bind (steps_ev l n x hl hn) ?_
        exact l2S_ev hn hs.few (steps_few l n x) (by omega) hr
    · have h2 := hs.le
      have e : q = seen.length := by omega
      subst e
      refine ⟨r', ?_, ?_⟩
      · refine Ev.step (fun k => by rw [spec_UnionHasLoop.l1]) ?_
        repeat (first | (with_reducible refine Ev.ite_pos (by omega) ?_) | (with_reducible refine Ev.ite_neg (by omega) ?_))
        rw [w64n (by omega)]
        exact h'
      · have := srch_end hs
        exact ⟨.inr, fun h => h.elim (fun h => absurd h this) (fun h => h)⟩
theorem l0S_ev {l : List (List Int)} {n : Nat} (hl : l.length ≤ 1048576) (hn : n ≤ 1048576) : ∀ d i : Nat, i + d = n → ∃ r, Ev (fun k => spec_UnionHasLoop.l0 k l (n : Int) (i : Int)) r ∧ (r = true ↔ ∃ x : Nat, i ≤ x ∧ x < n ∧ ∃ m, 0 < m ∧ Walk (EdgeIn l n) m x x) := by
  intro d
  induction d with
  | zero =>
    intro i hi
    refine ⟨false, ?_, ?_⟩
    · refine Ev.step (fun k => by rw [spec_UnionHasLoop.l0]) ?_
      repeat (first | (with_reducible refine Ev.ite_pos (by omega) ?_) | (with_reducible refine Ev.ite_neg (by omega) ?_))
      exact Ev.now _
    · constructor
      · intro h
        cases h
      · rintro ⟨x, h1, h2, _⟩
        omega
  | succ d ih =>
    intro i hi
    obtain ⟨r', h', hiff'⟩ := ih (i + 1) (by omega)
    obtain ⟨r, hr, hiff⟩ := l1S_ev hl hn (by omega : i < n) h' n (steps l n i) 0 (by omega) (srch_start l n i)
    refine ⟨r, ?_, ?_⟩
    · refine Ev.step (fun k => by rw [spec_UnionHasLoop.l0]) ?_
      repeat (first | (with_reducible refine Ev.ite_pos (by omega) ?_) | (with_reducible refine Ev.ite_neg (by omega) ?_))
      refine Ev.bind (steps_ev l n i hl hn) ?_
      exact hr
    · rw [hiff, hiff']
      constructor
      · rintro (h | ⟨x, h1, h2, h3⟩)
        · exact ⟨i, Nat.le_refl _, by omega, h⟩
        · exact ⟨x, by omega, h2, h3⟩
      · rintro ⟨x, h1, h2, h3⟩
        rcases Nat.eq_or_lt_of_le h1 with rfl | h1
        · exact .inl h3
        · exact .inr ⟨x, h1, h2, h3⟩
theorem maxU (a b : Int) : spec_Max.f a b = some (mx a b) := by
  unfold spec_Max.f mx
  by_cases h : a < b
  · rw [if_pos h, if_pos h]
  · rw [if_neg h, if_neg h]
theorem union1 (l : List (List Int)) (hl : l.length ≤ 1048576) (hb : ∀ t ∈ l, t.length ≤ 1048576) : ∃ r, Ev (fun k => spec_UnionHasLoop.f k l) r ∧ (r = true ↔ Cyc (EdgeIn l (msz l).toNat)) := by
  obtain ⟨h1, _, h3, h4⟩ := msz_ge l 0 (by omega)
  have h5 := h4 1048576 (by omega) (fun t ht => by have := hb t ht; omega)
  obtain ⟨n, hn⟩ := Int.eq_ofNat_of_zero_le h1
  have hn' : msz l = (n : Int) := hn
  rw [hn] at h3 h5
  obtain ⟨r, hr, hiff⟩ := l0S_ev hl (by omega : n ≤ 1048576) n 0 (by omega)
  have hsz : Ev (fun k => spec_l18Size.f k l) (n : Int) := by
    rw [← hn, ← foldTo_all (fun m (t : List Int) => mx m (t.length : Int)) 0 l]
    have h0 := foldTo_zero (fun m (t : List Int) => mx m (t.length : Int)) 0 l
    show Ev (fun k => spec_l18Size.l0 k l 0 0) _
    rw [show (fun k => spec_l18Size.l0 k l 0 0) = (fun k => spec_l18Size.l0 k l (foldTo (fun m (t : List Int) => mx m (t.length : Int)) 0 l 0) ((0 : Nat) : Int)) by rw [h0]; rfl]
    refine Ev.up (n := l.length) (g := fun i k => spec_l18Size.l0 k l (foldTo (fun m (t : List Int) => mx m (t.length : Int)) 0 l i) (i : Int)) ?_ ?_
    · intro i hi ih
      rw [foldTo_succ _ 0 hi []] at ih
      refine Ev.step (fun k => by rw [spec_l18Size.l0]) ?_
      repeat (first | (with_reducible refine Ev.ite_pos (by omega) ?_) | (with_reducible refine Ev.ite_neg (by omega) ?_))
      refine Ev.bind0 (maxU _ ((l.getD i []).length : Int)) ?_
      rw [w64n (by omega)]
      exact ih
    · refine Ev.step (fun k => by rw [spec_l18Size.l0]) ?_
      repeat (first | (with_reducible refine Ev.ite_pos (by omega) ?_) | (with_reducible refine Ev.ite_neg (by omega) ?_))
      exact Ev.now _
  refine ⟨r, Ev.bind hsz hr, ?_⟩
  rw [hiff, hn', Int.toNat_natCast]
  constructor
  · rintro ⟨x, _, _, m, hm, hw⟩
    exact ⟨x, m, hm, hw⟩
  · rintro ⟨i, m, hm, hw⟩
    obtain ⟨y, ⟨t, ht, h0, hx, _⟩, _⟩ := on_next hm hw (on_self hm hw)
    obtain ⟨x, rfl⟩ := Int.eq_ofNat_of_zero_le h0
    have := h3 t ht
    exact ⟨x, Nat.zero_le _, by omega, m, hm, hw⟩
end Go.Proofs.Ytlakjlolahjphaa.fnExactIsHolding
