/- The pieces that lie in a span of ticks, in the program and in the reference. Conditions: none. -/
import Derived.Test.YtlakjlolahjphaaPgBFnExactIsHolding
namespace Go.Proofs.Ytlakjlolahjphaa.fnExactIsHolding
open Go.RowKit Go.Proofs.YtlakjlolahjphaaW.PrintWords Go.Proofs.YtlakjlolahjphaaW.PrintMore Go.Proofs.Ytlakjlolahjphaa.QFnExactIsHolding Go.Proofs.Ytlakjlolahjphaa.Open Go.Proofs.Ytlakjlolahjphaa.Kit
/-- A piece that meets the ticks from u to v. -/
def meets (u v : Int) (x : S106) : Bool := decide ((0 ≤ x.f0.f0 ∧ x.f0.f1 ≤ 1000 ∧ x.f0.f0 < x.f0.f1) ∧ u ≤ v ∧ x.f0.f0 ≤ v ∧ u < x.f0.f1)
def pcs (u v : Int) : List S106 → Nat → List Int
  | [], _ => []
  | x :: xs, i => if meets u v x = true then (i : Int) :: pcs u v xs (i + 1) else pcs u v xs (i + 1)
theorem pcs_len (u v : Int) : ∀ (l : List S106) (i : Nat), (pcs u v l i).length ≤ l.length
  | [], _ => Nat.le_refl _
  | x :: xs, i => by
    unfold pcs
    have := pcs_len u v xs (i + 1)
    split <;> simp only [List.length_cons] <;> omega
theorem isSpan1 (a b : Int) : spec_IsSpan.f a b = some (decide (0 ≤ a ∧ b ≤ 1000 ∧ a < b)) := by
  unfold spec_IsSpan.f
  by_cases h1 : 0 ≤ a <;> by_cases h2 : b ≤ 1000 <;> simp [h1, h2]
theorem isSpan2 (a b : Int) : impl_IsSpan.f a b = some (decide (0 ≤ a ∧ b ≤ 1000 ∧ a < b)) := by
  unfold impl_IsSpan.f
  by_cases h1 : 0 ≤ a <;> by_cases h2 : b ≤ 1000 <;> simp [h1, h2]
theorem pcs1 (p : List S106) (hl : p.length ≤ 1048576) (n a s u v : Int) : Ev (fun k => spec_PiecesIn.f k n a s p u v) (pcs u v p 0) := by
  have key : ∀ (d i : Nat) (acc : List Int), i + d = p.length → acc.length ≤ i → Ev (fun k => spec_PiecesIn.l0 k u v acc (i : Int) n a s p) (acc ++ pcs u v (p.drop i) i) := by
    intro d
    induction d with
    | zero =>
      intro i acc hi ha
      refine Ev.step (fun k => by rw [spec_PiecesIn.l0]) ?_
      repeat (first | (with_reducible refine Ev.ite_pos (by omega) ?_) | (with_reducible refine Ev.ite_neg (by omega) ?_))
      refine Ev.some ?_
      rw [List.drop_of_length_le (by omega), pcs, List.append_nil]
    | succ d ih =>
      intro i acc hi ha
      have h0 := ih (i + 1) acc (by omega) (by omega)
      have h1 := ih (i + 1) (acc ++ [(i : Int)]) (by omega) (by simp; omega)
      rw [List.append_assoc] at h1
      refine Ev.step (fun k => by rw [spec_PiecesIn.l0]) ?_
      repeat (first | (with_reducible refine Ev.ite_pos (by omega) ?_) | (with_reducible refine Ev.ite_neg (by omega) ?_))
      rw [drop_getD (by omega : i < p.length) z106, show rd_T106 p (i : Int) = p.getD i z106 from rfl, w64n (by omega), pcs]
      generalize p.getD i z106 = x
      refine Ev.bind0 (isSpan1 x.f0.f0 x.f0.f1) ?_
      unfold meets
      by_cases c1 : 0 ≤ x.f0.f0 ∧ x.f0.f1 ≤ 1000 ∧ x.f0.f0 < x.f0.f1
      · refine Ev.ite_pos (by simpa using c1) ?_
        by_cases c2 : u ≤ v
        · refine Ev.ite_pos c2 ?_
          by_cases c3 : x.f0.f0 ≤ v
          · refine Ev.ite_pos c3 ?_
            by_cases c4 : u < x.f0.f1
            · refine Ev.ite_pos c4 ?_
              rw [if_pos (decide_eq_true ⟨c1, c2, c3, c4⟩)]
              refine Ev.ite_pos (by omega) ?_
              exact h1
            · refine Ev.ite_neg c4 ?_
              rw [if_neg (fun h => c4 (of_decide_eq_true h).2.2.2)]
              exact h0
          · refine Ev.ite_neg c3 ?_
            rw [if_neg (fun h => c3 (of_decide_eq_true h).2.2.1)]
            exact h0
        · refine Ev.ite_neg c2 ?_
          rw [if_neg (fun h => c2 (of_decide_eq_true h).2.1)]
          exact h0
      · refine Ev.ite_neg (by simpa using c1) ?_
        rw [if_neg (fun h => c1 (of_decide_eq_true h).1)]
        exact h0
  exact key p.length 0 [] (by omega) (by simp)
theorem pcs2 (p : List S106) (hl : p.length ≤ 1048576) (n a s u v : Int) : Ev (fun k => impl_PiecesIn.f k n a s p u v) (pcs u v p 0) := by
  have key : ∀ (d i : Nat) (acc : List Int), i + d = p.length → acc.length ≤ i → Ev (fun k => impl_PiecesIn.l0 k u v acc p (p.length : Int) (i : Int)) (acc ++ pcs u v (p.drop i) i) := by
    intro d
    induction d with
    | zero =>
      intro i acc hi ha
      refine Ev.step (fun k => by rw [impl_PiecesIn.l0]) ?_
      repeat (first | (with_reducible refine Ev.ite_pos (by omega) ?_) | (with_reducible refine Ev.ite_neg (by omega) ?_))
      refine Ev.some ?_
      rw [List.drop_of_length_le (by omega), pcs, List.append_nil]
    | succ d ih =>
      intro i acc hi ha
      have h0 := ih (i + 1) acc (by omega) (by omega)
      have h1 := ih (i + 1) (acc ++ [(i : Int)]) (by omega) (by simp; omega)
      rw [List.append_assoc] at h1
      refine Ev.step (fun k => by rw [impl_PiecesIn.l0]) ?_
      repeat (first | (with_reducible refine Ev.ite_pos (by omega) ?_) | (with_reducible refine Ev.ite_neg (by omega) ?_))
      rw [drop_getD (by omega : i < p.length) z106, show rd_T106 p (i : Int) = p.getD i z106 from rfl, w64n (by omega), pcs]
      generalize p.getD i z106 = x
      refine Ev.bind0 (isSpan2 x.f0.f0 x.f0.f1) ?_
      unfold meets
      by_cases c1 : 0 ≤ x.f0.f0 ∧ x.f0.f1 ≤ 1000 ∧ x.f0.f0 < x.f0.f1
      · refine Ev.ite_pos (by simpa using c1) ?_
        by_cases c2 : u ≤ v
        · refine Ev.ite_pos c2 ?_
          by_cases c3 : x.f0.f0 ≤ v
          · refine Ev.ite_pos c3 ?_
            by_cases c4 : u < x.f0.f1
            · refine Ev.ite_pos c4 ?_
              rw [if_pos (decide_eq_true ⟨c1, c2, c3, c4⟩)]
              refine Ev.ite_pos (by omega) ?_
              exact h1
            · refine Ev.ite_neg c4 ?_
              rw [if_neg (fun h => c4 (of_decide_eq_true h).2.2.2)]
              exact h0
          · refine Ev.ite_neg c3 ?_
            rw [if_neg (fun h => c3 (of_decide_eq_true h).2.2.1)]
            exact h0
        · refine Ev.ite_neg c2 ?_
          rw [if_neg (fun h => c2 (of_decide_eq_true h).2.1)]
          exact h0
      · refine Ev.ite_neg (by simpa using c1) ?_
        rw [if_neg (fun h => c1 (of_decide_eq_true h).1)]
        exact h0
  exact key p.length 0 [] (by omega) (by simp)
end Go.Proofs.Ytlakjlolahjphaa.fnExactIsHolding
