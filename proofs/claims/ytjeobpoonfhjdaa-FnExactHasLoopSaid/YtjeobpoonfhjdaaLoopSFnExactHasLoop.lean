/- The reference's HasLoop tells whether a table holds a circle. Conditions: none. -/
import Derived.Test.YtjeobpoonfhjdaaUnionIFnExactHasLoop
namespace Go.Proofs.Ytjeobpoonfhjdaa.fnExactHasLoop
open Go.RowKit Go.Proofs.YtjeobpoonfhjdaaW.PrintWords Go.Proofs.YtjeobpoonfhjdaaW.PrintMore Go.Proofs.Ytjeobpoonfhjdaa.PFnExactHasLoop Go.Proofs.Ytjeobpoonfhjdaa.Open Go.Proofs.Ytjeobpoonfhjdaa.Kit Go.Proofs.Ytjeobpoonfhjdaa.Graph
theorem inL (a b c : Int) : spec_l1In.f a b c = some (decide (b ≤ a ∧ a ≤ c)) := by
  unfold spec_l1In.f
  by_cases h : b ≤ a <;> simp [h]
theorem loop1_ev {l : List Int} {i : Nat} {r' : Bool} (hl : l.length ≤ 1048576) (hi : i < l.length) (h' : Ev (fun k => spec_HasLoop.l0 k l ((i + 1 : Nat) : Int)) r') : ∀ (d j : Nat) (z : Int), j + d = l.length → Walk (EdgeIn [l] l.length) j i z → 0 ≤ z → z < l.length →
    ∃ r, Ev (fun k => spec_HasLoop.l1 k l (i : Int) (l.getD z.toNat 0) (j : Int)) r ∧ (r = true ↔ (∃ m, j < m ∧ m ≤ l.length ∧ Walk (EdgeIn [l] l.length) m i i) ∨ r' = true) := by
  intro d
  induction d with
  | zero =>
    intro j z hd hw h0 h1
    refine ⟨r', ?_, ?_⟩
    · refine Ev.step (fun k => by rw [spec_HasLoop.l1]) ?_
      repeat (first | (with_reducible refine Ev.ite_pos (by omega) ?_) | (with_reducible refine Ev.ite_neg (by omega) ?_))
      refine Ev.step (fun k => by rw [spec_HasLoop.j2]) ?_
      refine Ev.ite_neg (by simp) ?_
      rw [w64n (by omega)]
      exact h'
    · constructor
      · exact .inr
      · rintro (⟨m, h1, h2, _⟩ | h)
        · omega
        · exact h
  | succ d ih =>
    intro j z hd hw h0 h1
    by_cases hin : 0 ≤ l.getD z.toNat 0 ∧ l.getD z.toNat 0 < l.length
    · have hE : EdgeIn [l] l.length z (l.getD z.toNat 0) := edge_one.2 ⟨h0, h1, rfl, hin⟩
      have hw1 := hw.snoc hE
      by_cases he : l.getD z.toNat 0 = i
      · refine ⟨true, ?_, ?_⟩
        · refine Ev.step (fun k => by rw [spec_HasLoop.l1]) ?_
          repeat (first | (with_reducible refine Ev.ite_pos (by omega) ?_) | (with_reducible refine Ev.ite_neg (by omega) ?_))
          rw [w64 (x := (l.length : Int) - 1) (by omega) (by omega)]
          refine Ev.bind0 (inL _ _ _) ?_
          refine Ev.step (fun k => by rw [spec_HasLoop.j2]) ?_
          refine Ev.ite_pos (by simp only [decide_eq_true_eq]; omega) ?_
          exact Ev.ite_pos he (Ev.now _)
        · rw [he] at hw1
          exact ⟨fun _ => .inl ⟨j + 1, by omega, by omega, hw1⟩, fun _ => rfl⟩
      · obtain ⟨r, hr, hiff⟩ := ih (j + 1) (l.getD z.toNat 0) (by omega) hw1 hin.1 hin.2
        refine ⟨r, ?_, ?_⟩
        · refine Ev.step (fun k => by rw [spec_HasLoop.l1]) ?_
          repeat (first | (with_reducible refine Ev.ite_pos (by omega) ?_) | (with_reducible refine Ev.ite_neg (by omega) ?_))
          rw [w64 (x := (l.length : Int) - 1) (by omega) (by omega)]
          refine Ev.bind0 (inL _ _ _) ?_
          refine Ev.step (fun k => by rw [spec_HasLoop.j2]) ?_
          refine Ev.ite_pos (by simp only [decide_eq_true_eq]; omega) ?_
          refine Ev.ite_neg he ?_
          repeat (first | (with_reducible refine Ev.ite_pos (by omega) ?_) | (with_reducible refine Ev.ite_neg (by omega) ?_))
          rw [w64n (by omega)]
          exact hr
        · rw [hiff]
          constructor
          · rintro (⟨m, h1, h2, h3⟩ | h)
            · exact .inl ⟨m, by omega, h2, h3⟩
            · exact .inr h
          · rintro (⟨m, h1, h2, h3⟩ | h)
            · rcases Nat.eq_or_lt_of_le h1 with e | h1
              · exfalso
                apply he
                rw [← e] at h3
                exact walk_det edge_det hw1 h3
              · exact .inl ⟨m, h1, h2, h3⟩
            · exact .inr h
    · refine ⟨r', ?_, ?_⟩
      · refine Ev.step (fun k => by rw [spec_HasLoop.l1]) ?_
        repeat (first | (with_reducible refine Ev.ite_pos (by omega) ?_) | (with_reducible refine Ev.ite_neg (by omega) ?_))
        rw [w64 (x := (l.length : Int) - 1) (by omega) (by omega)]
        refine Ev.bind0 (inL _ _ _) ?_
        refine Ev.step (fun k => by rw [spec_HasLoop.j2]) ?_
        refine Ev.ite_neg (by simp only [decide_eq_true_eq]; omega) ?_
        rw [w64n (by omega)]
        exact h'
      · constructor
        · exact .inr
        · rintro (⟨m, h1, h2, h3⟩ | h)
          · exfalso
            obtain ⟨q, rfl⟩ : ∃ q, m = j + (q + 1) := ⟨m - (j + 1), by omega⟩
            obtain ⟨y, hy, u, hu, _⟩ := walk_split h3
            rw [walk_det edge_det hy hw, edge_one] at hu
            apply hin
            rw [hu.2.2.1]
            exact hu.2.2.2
          · exact h
theorem loop0_ev {l : List Int} (hl : l.length ≤ 1048576) : ∀ d i : Nat, i + d = l.length → ∃ r, Ev (fun k => spec_HasLoop.l0 k l (i : Int)) r ∧ (r = true ↔ ∃ x : Nat, i ≤ x ∧ x < l.length ∧ ∃ m, 0 < m ∧ m ≤ l.length ∧ Walk (EdgeIn [l] l.length) m x x) := by
  intro d
  induction d with
  | zero =>
    intro i hi
    refine ⟨false, ?_, ?_⟩
    · refine Ev.step (fun k => by rw [spec_HasLoop.l0]) ?_
      repeat (first | (with_reducible refine Ev.ite_pos (by omega) ?_) | (with_reducible refine Ev.ite_neg (by omega) ?_))
      exact Ev.now _
    · constructor
      · intro h
        cases h
      · rintro ⟨x, h1, h2, _⟩
        omega
  | succ d ih =>
    intro i hi
    obtain ⟨r', h', hiff'⟩ := ih (i + 1) (by omega)
    obtain ⟨r, hr, hiff⟩ := loop1_ev hl (by omega : i < l.length) h' l.length 0 (i : Int) (by omega) rfl (by omega) (by omega)
    refine ⟨r, ?_, ?_⟩
    · refine Ev.step (fun k => by rw [spec_HasLoop.l0]) ?_
      repeat (first | (with_reducible refine Ev.ite_pos (by omega) ?_) | (with_reducible refine Ev.ite_neg (by omega) ?_))
      exact hr
    · rw [hiff, hiff']
      constructor
      · rintro (⟨m, h⟩ | ⟨x, h1, h2, h3⟩)
        · exact ⟨i, Nat.le_refl _, by omega, m, h⟩
        · exact ⟨x, by omega, h2, h3⟩
      · rintro ⟨x, h1, h2, h3⟩
        rcases Nat.eq_or_lt_of_le h1 with rfl | h1
        · exact .inl h3
        · exact .inr ⟨x, h1, h2, h3⟩
theorem msz_one (l : List Int) : (msz [l]).toNat = l.length := by
  unfold msz
  simp only [List.foldl_cons, List.foldl_nil, mx_def]
  omega
theorem loop1 (l : List Int) (hl : l.length ≤ 1048576) : ∃ r, Ev (fun k => spec_HasLoop.f k l) r ∧ (r = true ↔ Cyc (EdgeIn [l] l.length)) := by
  obtain ⟨r, hr, hiff⟩ := loop0_ev hl l.length 0 (by omega)
  refine ⟨r, hr, ?_⟩
  rw [hiff]
  constructor
  · rintro ⟨x, _, _, m, hm, _, hw⟩
    exact ⟨x, m, hm, hw⟩
  · rintro ⟨i, m, hm, hw⟩
    obtain ⟨j, q, hq, hqn, hU, hwq⟩ := cyc_of_closed (E := EdgeIn [l] l.length) (n := l.length) (fun x => On (EdgeIn [l] l.length) i x) (fun x hx => by
      obtain ⟨y, hy, _⟩ := on_next hm hw hx
      rw [edge_one] at hy
      exact ⟨hy.1, hy.2.1⟩) (fun x hx => on_next hm hw hx) i (on_self hm hw)
    obtain ⟨y, hy, _⟩ := on_next hm hw hU
    rw [edge_one] at hy
    obtain ⟨x, rfl⟩ := Int.eq_ofNat_of_zero_le hy.1
    exact ⟨x, Nat.zero_le _, by omega, q, hq, hqn, hwq⟩
theorem loop2 (l : List Int) (hl : l.length ≤ 1048576) : ∃ r, Ev (fun k => impl_HasLoop.f k l) r ∧ (r = true ↔ Cyc (EdgeIn [l] l.length)) := by
  obtain ⟨r, hr, hiff⟩ := union2 [l] (by simp) (by simpa using hl)
  rw [msz_one] at hiff
  refine ⟨r, ?_, hiff⟩
  unfold impl_HasLoop.f
  exact Ev.bind hr (Ev.now _)
end Go.Proofs.Ytjeobpoonfhjdaa.fnExactHasLoop
