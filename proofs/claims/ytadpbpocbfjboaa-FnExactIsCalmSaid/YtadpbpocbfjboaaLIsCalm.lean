/- FnExactIsCalm: the program and the reference agree on what is calm. Conditions: none. -/
import Derived.Test.YtadpbpocbfjboaaPcsInFnExactIsCalm
namespace Go.Proofs.Ytadpbpocbfjboaa.fnExactIsCalm
open Go.RowKit Go.Proofs.YtadpbpocbfjboaaW.PrintWords Go.Proofs.YtadpbpocbfjboaaW.PrintMore Go.Proofs.Ytadpbpocbfjboaa.QFnExactIsCalm Go.Proofs.Ytadpbpocbfjboaa.Open Go.Proofs.Ytadpbpocbfjboaa.Kit
theorem in1 (a b c : Int) : spec_l1In.f a b c = some (decide (b ≤ a ∧ a ≤ c)) := by
  unfold spec_l1In.f
  by_cases h : b ≤ a <;> simp [h]
theorem in2 (a b c : Int) : impl_InRange.f a b c = some (decide (b ≤ a ∧ a ≤ c)) := by
  unfold impl_InRange.f
  by_cases h : b ≤ a <;> simp [h]
def calm (p : List S69) (s t : Int) : Bool := decide (0 ≤ s ∧ s ≤ 5) && (decide (0 ≤ t ∧ t ≤ 1000) && (((pcs (wrap64 (t - wrap64 (2 * s))) (wrap64 (t + wrap64 (2 * s))) p 0).length : Int) == 1))
theorem calm1 (p : List S69) (hl : p.length ≤ 1048576) (n a s t : Int) : Ev (fun k => spec_IsCalm.f k n a s p t) (calm p s t) := by
  unfold spec_IsCalm.f calm
  refine Ev.bind0 (in1 s 0 5) ?_
  by_cases h1 : 0 ≤ s ∧ s ≤ 5
  · rw [decide_eq_true h1, Bool.true_and]
    refine Ev.ite_pos rfl (Ev.bind0 (in1 t 0 1000) ?_)
    by_cases h2 : 0 ≤ t ∧ t ≤ 1000
    · rw [decide_eq_true h2, Bool.true_and]
      refine Ev.ite_pos rfl ?_
      exact Ev.bind (pcs1 p hl n a s _ _) (Ev.now _)
    · rw [decide_eq_false h2, Bool.false_and]
      exact Ev.ite_neg (by simp) (Ev.now _)
  · rw [decide_eq_false h1, Bool.false_and]
    exact Ev.ite_neg (by simp) (Ev.now _)
theorem calm2 (p : List S69) (hl : p.length ≤ 1048576) (n a s t : Int) : Ev (fun k => impl_IsCalm.f k n a s p t) (calm p s t) := by
  unfold impl_IsCalm.f calm
  have hsk : impl_isSkewed.f n a s p t = some (decide (0 ≤ s ∧ s ≤ 5) && decide (0 ≤ t ∧ t ≤ 1000)) := by
    unfold impl_isSkewed.f
    rw [in2, in2]
    by_cases h1 : 0 ≤ s ∧ s ≤ 5 <;> simp [h1]
  refine Ev.bind0 hsk ?_
  by_cases h1 : 0 ≤ s ∧ s ≤ 5
  · rw [decide_eq_true h1, Bool.true_and, Bool.true_and]
    by_cases h2 : 0 ≤ t ∧ t ≤ 1000
    · rw [decide_eq_true h2, Bool.true_and]
      refine Ev.ite_pos rfl ?_
      exact Ev.bind (pcs2 p hl n a s _ _) (Ev.now _)
    · rw [decide_eq_false h2, Bool.false_and]
      exact Ev.ite_neg (by simp) (Ev.now _)
  · rw [decide_eq_false h1, Bool.false_and, Bool.false_and]
    exact Ev.ite_neg (by simp) (Ev.now _)
theorem pure : PureFnExactIsCalm := by
  intro n a s p t _ _ _ hp _
  have hb : p.length ≤ 140737488351232 ∧ (∀ y ∈ p, b97 y) := ⟨Len.le hp.1 (by omega), fun y hy => bPiece (hp.2 y hy)⟩
  refine Ev.rounds (r := true) ?_
  unfold laws_FnExactIsCalm.f
  refine Ev.bind (sz_Program n a s p 1048576 hb (by omega) (by omega)) ?_
  by_cases hn : ((nPg p : Nat) : Int) ≤ 1048576
  · have hs : szOf 1048576 (p.length + (p.map n97).sum) = 1048576 - ((nPg p : Nat) : Int) := by unfold szOf nPg; rw [if_pos (by exact hn)]
    rw [hs]
    have hq : nPg p ≤ 1048576 := by omega
    have hqi : nPgI (p.map cPiece) ≤ 1048576 := by rw [nPgI_c]; exact hq
    unfold nPg at hq
    unfold nPgI at hqi
    have hm : (p.map cPiece).length ≤ 1048576 := by omega
    refine Ev.ite_neg (by omega) ?_
    refine Ev.bind (to_Program n a s p hq) ?_
    refine Ev.bind (calm1 _ hm n a s t) ?_
    refine Ev.bind (to_Program n a s p hq) ?_
    refine Ev.bind (calm2 _ hm n a s t) ?_
    refine Ev.ite_neg (by simp) ?_
    refine Ev.bind (to_Program n a s p hq) ?_
    refine Ev.bind (eq_Program n a s _ hqi) ?_
    exact Ev.ite_pos rfl (Ev.now _)
  · have hs : szOf 1048576 (p.length + (p.map n97).sum) = -1 := by unfold szOf; rw [if_neg (by exact hn)]
    rw [hs]
    exact Ev.ite_pos (by omega) (Ev.now _)
end Go.Proofs.Ytadpbpocbfjboaa.fnExactIsCalm
namespace Go.Proofs.Ytadpbpocbfjboaa
theorem fnExactIsCalm_holds : Rows.FnExactIsCalmSaid := fnExactIsCalm.row fnExactIsCalm.pure
end Go.Proofs.Ytadpbpocbfjboaa
