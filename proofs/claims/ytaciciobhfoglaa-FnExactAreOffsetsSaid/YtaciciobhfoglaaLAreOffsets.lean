/- FnExactAreOffsets: the program and the reference agree on whether there are offsets for all nodes. Conditions: none. -/
import Derived.Test.YtaciciobhfoglaaPgBFnExactAreOffsets
namespace Go.Proofs.Ytaciciobhfoglaa.fnExactAreOffsets
open Go.RowKit Go.Proofs.YtaciciobhfoglaaW.PrintWords Go.Proofs.YtaciciobhfoglaaW.PrintMore Go.Proofs.Ytaciciobhfoglaa.QFnExactAreOffsets Go.Proofs.Ytaciciobhfoglaa.Open Go.Proofs.Ytaciciobhfoglaa.Kit
theorem in1 (a b c : Int) : spec_l1In.f a b c = some (decide (b ≤ a ∧ a ≤ c)) := by
  unfold spec_l1In.f
  by_cases h : b ≤ a <;> simp [h]
theorem in2 (a b c : Int) : impl_InRange.f a b c = some (decide (b ≤ a ∧ a ≤ c)) := by
  unfold impl_InRange.f
  by_cases h : b ≤ a <;> simp [h]
/-- An offset within the skew. -/
def okO (s x : Int) : Bool := decide (0 ≤ s ∧ s ≤ 5) && decide (wrap64 (-s) ≤ x ∧ x ≤ s)
theorem off1 (l : List Int) (hl : l.length ≤ 1048576) (n a s : Int) (p : List S134) : Ev (fun k => spec_AreOffsets.f k n a s p l) (l.all (okO s) && ((l.length : Int) == n)) := by
  have key : ∀ d i : Nat, i + d = l.length → Ev (fun k => spec_AreOffsets.l0 k l (i : Int) n a s p) ((l.drop i).all (okO s) && ((l.length : Int) == n)) := by
    intro d
    induction d with
    | zero =>
      intro i hi
      refine Ev.step (fun k => by rw [spec_AreOffsets.l0]) ?_
      repeat (first | (with_reducible refine Ev.ite_pos (by omega) ?_) | (with_reducible refine Ev.ite_neg (by omega) ?_))
      refine Ev.some ?_
      rw [List.drop_of_length_le (by omega)]
      simp
    | succ d ih =>
      intro i hi
      have h1 := ih (i + 1) (by omega)
      refine Ev.step (fun k => by rw [spec_AreOffsets.l0]) ?_
      repeat (first | (with_reducible refine Ev.ite_pos (by omega) ?_) | (with_reducible refine Ev.ite_neg (by omega) ?_))
      rw [drop_getD (by omega : i < l.length) 0, List.all_cons, rd_nat, w64n (by omega)]
      refine Ev.bind0 (in1 s 0 5) ?_
      rw [show okO s (l.getD i 0) = (decide (0 ≤ s ∧ s ≤ 5) && decide (wrap64 (-s) ≤ l.getD i 0 ∧ l.getD i 0 ≤ s)) from rfl]
      by_cases h2 : 0 ≤ s ∧ s ≤ 5
      · refine Ev.ite_pos (by simpa using h2) ?_
        repeat (first | (with_reducible refine Ev.ite_pos (by omega) ?_) | (with_reducible refine Ev.ite_neg (by omega) ?_))
        refine Ev.bind0 (in1 _ _ _) ?_
        by_cases h3 : wrap64 (-s) ≤ l.getD i 0 ∧ l.getD i 0 ≤ s
        · refine Ev.ite_pos (by simpa using h3) ?_
          rw [decide_eq_true h2, decide_eq_true h3, Bool.true_and, Bool.true_and]
          exact h1
        · refine Ev.ite_neg (by simpa using h3) (Ev.some ?_)
          rw [decide_eq_false h3, Bool.and_false, Bool.false_and, Bool.false_and]
      · refine Ev.ite_neg (by simpa using h2) (Ev.some ?_)
        rw [decide_eq_false h2, Bool.false_and, Bool.false_and, Bool.false_and]
  exact key l.length 0 (by omega)
theorem off2 (l : List Int) (hl : l.length ≤ 1048576) (n a s : Int) (p : List S134) : Ev (fun k => impl_AreOffsets.f k n a s p l) (l.all (okO s) && ((l.length : Int) == n)) := by
  unfold impl_AreOffsets.f
  by_cases hn : (l.length : Int) = n
  · refine Ev.ite_pos hn ?_
    rw [show (((l.length : Int) == n) : Bool) = true by simpa using hn, Bool.and_true]
    have key : ∀ d i : Nat, i + d = l.length → Ev (fun k => impl_AreOffsets.l0 k l (l.length : Int) (i : Int) n a s p) ((l.drop i).all (okO s)) := by
      intro d
      induction d with
      | zero =>
        intro i hi
        refine Ev.step (fun k => by rw [impl_AreOffsets.l0]) ?_
        repeat (first | (with_reducible refine Ev.ite_pos (by omega) ?_) | (with_reducible refine Ev.ite_neg (by omega) ?_))
        refine Ev.some ?_
        rw [List.drop_of_length_le (by omega)]
        simp
      | succ d ih =>
        intro i hi
        have h1 := ih (i + 1) (by omega)
        refine Ev.step (fun k => by rw [impl_AreOffsets.l0]) ?_
        repeat (first | (with_reducible refine Ev.ite_pos (by omega) ?_) | (with_reducible refine Ev.ite_neg (by omega) ?_))
        rw [drop_getD (by omega : i < l.length) 0, List.all_cons, rd_nat, w64n (by omega)]
        refine Ev.bind0 (in2 s 0 5) ?_
        rw [show okO s (l.getD i 0) = (decide (0 ≤ s ∧ s ≤ 5) && decide (wrap64 (-s) ≤ l.getD i 0 ∧ l.getD i 0 ≤ s)) from rfl]
        by_cases h2 : 0 ≤ s ∧ s ≤ 5
        · refine Ev.ite_pos (by simpa using h2) ?_
          refine Ev.bind0 (in2 _ _ _) ?_
          by_cases h3 : wrap64 (-s) ≤ l.getD i 0 ∧ l.getD i 0 ≤ s
          · refine Ev.ite_pos (by simpa using h3) ?_
            rw [decide_eq_true h2, decide_eq_true h3, Bool.true_and, Bool.true_and]
            exact h1
          · refine Ev.ite_neg (by simpa using h3) (Ev.some ?_)
            rw [decide_eq_false h3, Bool.and_false, Bool.false_and]
        · refine Ev.ite_neg (by simpa using h2) (Ev.some ?_)
          rw [decide_eq_false h2, Bool.false_and, Bool.false_and]
    exact key l.length 0 (by omega)
  · refine Ev.ite_neg hn (Ev.some ?_)
    rw [show (((l.length : Int) == n) : Bool) = false by simpa using hn, Bool.and_false]
theorem pure : PureFnExactAreOffsets := by
  intro n a s p l _ _ _ hp hl
  have hb : p.length ≤ 140737488351232 ∧ (∀ y ∈ p, b151 y) := ⟨Len.le hp.1 (by omega), fun y hy => bPiece (hp.2 y hy)⟩
  refine Ev.rounds (r := true) ?_
  unfold laws_FnExactAreOffsets.f
  by_cases hc : (l.length : Int) > 1048576
  · exact Ev.ite_pos hc (Ev.now _)
  refine Ev.ite_neg hc ?_
  have hll : l.length ≤ 1048576 := by omega
  refine Ev.bind (sz_Program n a s p 1048576 hb (by omega) (by omega)) ?_
  by_cases hn : ((nPg p : Nat) : Int) ≤ 1048576
  · have hs : szOf 1048576 (p.length + (p.map n151).sum) = 1048576 - ((nPg p : Nat) : Int) := by unfold szOf nPg; rw [if_pos (by exact hn)]
    rw [hs]
    have hq : nPg p ≤ 1048576 := by omega
    have hqi : nPgI (p.map cPiece) ≤ 1048576 := by rw [nPgI_c]; exact hq
    unfold nPg at hq
    unfold nPgI at hqi
    refine Ev.ite_neg (by omega) ?_
    refine Ev.bind (to_Program n a s p hq) ?_
    refine Ev.bind (to_IntS l hll) ?_
    refine Ev.bind (off1 l hll n a s _) ?_
    refine Ev.bind (to_Program n a s p hq) ?_
    refine Ev.bind (to_IntS l hll) ?_
    refine Ev.bind (off2 l hll n a s _) ?_
    refine Ev.ite_neg (by simp) ?_
    refine Ev.bind (to_Program n a s p hq) ?_
    refine Ev.bind (eq_Program n a s _ hqi) ?_
    refine Ev.ite_pos rfl ?_
    refine Ev.bind (to_IntS l hll) ?_
    refine Ev.bind (eq_IntS l (by omega)) ?_
    exact Ev.ite_pos rfl (Ev.now _)
  · have hs : szOf 1048576 (p.length + (p.map n151).sum) = -1 := by unfold szOf; rw [if_neg (by exact hn)]
    rw [hs]
    exact Ev.ite_pos (by omega) (Ev.now _)
end Go.Proofs.Ytaciciobhfoglaa.fnExactAreOffsets
namespace Go.Proofs.Ytaciciobhfoglaa
theorem fnExactAreOffsets_holds : Rows.FnExactAreOffsetsSaid := fnExactAreOffsets.row fnExactAreOffsets.pure
end Go.Proofs.Ytaciciobhfoglaa
