/- FnExactMayUse: the program and the reference agree on which link may be used. Conditions: none. -/
import Derived.Test.YtadpbpocbfjboaaLkdFnExactMayUse
namespace Go.Proofs.Ytadpbpocbfjboaa.fnExactMayUse
open Go.RowKit Go.Proofs.YtadpbpocbfjboaaW.PrintWords Go.Proofs.YtadpbpocbfjboaaW.PrintMore Go.Proofs.Ytadpbpocbfjboaa.QFnExactMayUse Go.Proofs.Ytadpbpocbfjboaa.Open Go.Proofs.Ytadpbpocbfjboaa.Kit
/-- Two nodes are linked at d ticks from x on. -/
def allL (p : List S69) (a b : Int) : Nat → Int → Bool
  | 0, _ => true
  | d + 1, x => linked p a b x && allL p a b d (x + 1)
theorem in2 (a b c : Int) : impl_InRange.f a b c = some (decide (b ≤ a ∧ a ≤ c)) := by
  unfold impl_InRange.f
  by_cases h : b ≤ a <;> simp [h]
def mayB (p : List S69) (s a b t : Int) : Bool := (decide (0 ≤ s ∧ s ≤ 5) && decide (0 ≤ t ∧ t ≤ 1000)) && allL p a b (2 * s + 1).toNat (t - s)
theorem may1 (p : List S69) (hp : nPgI p ≤ 1048576) (n f s a b t : Int) : Ev (fun k => spec_MayUse.f k n f s p a b t) (mayB p s a b t) := by
  unfold spec_MayUse.f mayB
  have hz : Ev (fun k => spec_MayUse.j0 k a b t true n f s p) false := by
    refine Ev.step (fun k => by rw [spec_MayUse.j0]) ?_
    exact Ev.ite_pos rfl (Ev.now _)
  refine Ev.bind0 (in1 s 0 5) ?_
  by_cases h1 : 0 ≤ s ∧ s ≤ 5
  · rw [decide_eq_true h1, Bool.true_and]
    refine Ev.ite_pos rfl (Ev.bind0 (in1 t 0 1000) ?_)
    by_cases h2 : 0 ≤ t ∧ t ≤ 1000
    · rw [decide_eq_true h2, Bool.true_and]
      refine Ev.step (fun k => by rw [spec_MayUse.j0]) ?_
      refine Ev.ite_neg (by simp) ?_
      rw [w64 (x := t - s) (by omega) (by omega)]
      have key : ∀ (d : Nat) (x : Int), x + d = t + s + 1 → t - s ≤ x → Ev (fun k => spec_MayUse.l0 k a b t x n f s p) (allL p a b d x) := by
        intro d
        induction d with
        | zero =>
          intro x hx hx2
          refine Ev.step (fun k => by rw [spec_MayUse.l0]) ?_
          rw [w64 (x := t + s) (by omega) (by omega)]
          repeat (first | (with_reducible refine Ev.ite_pos (by omega) ?_) | (with_reducible refine Ev.ite_neg (by omega) ?_))
          exact Ev.now _
        | succ d ih =>
          intro x hx hx2
          have h3 := ih (x + 1) (by omega) (by omega)
          refine Ev.step (fun k => by rw [spec_MayUse.l0]) ?_
          rw [w64 (x := t + s) (by omega) (by omega), w64 (x := x + 1) (by omega) (by omega)]
          repeat (first | (with_reducible refine Ev.ite_pos (by omega) ?_) | (with_reducible refine Ev.ite_neg (by omega) ?_))
          refine Ev.bind (linked1 p hp n f s a b x) ?_
          rw [allL]
          cases hq : linked p a b x with
          | true => exact Ev.ite_pos rfl h3
          | false => exact Ev.ite_neg (by simp) (Ev.now _)
      exact key (2 * s + 1).toNat (t - s) (by omega) (by omega)
    · rw [decide_eq_false h2, Bool.false_and]
      exact hz
  · rw [decide_eq_false h1, Bool.false_and, Bool.false_and]
    exact Ev.ite_neg (by simp) hz
theorem may2 (p : List S69) (hp : nPgI p ≤ 1048576) (n f s a b t : Int) : Ev (fun k => impl_MayUse.f k n f s p a b t) (mayB p s a b t) := by
  unfold impl_MayUse.f mayB
  have hsk : impl_isSkewed.f n f s p t = some (decide (0 ≤ s ∧ s ≤ 5) && decide (0 ≤ t ∧ t ≤ 1000)) := by
    unfold impl_isSkewed.f
    rw [in2, in2]
    by_cases h1 : 0 ≤ s ∧ s ≤ 5 <;> simp [h1]
  refine Ev.bind0 hsk ?_
  by_cases h1 : (0 ≤ s ∧ s ≤ 5) ∧ (0 ≤ t ∧ t ≤ 1000)
  · rw [decide_eq_true h1.1, decide_eq_true h1.2, Bool.true_and, Bool.true_and]
    refine Ev.ite_pos rfl ?_
    rw [w64 (x := t - s) (by omega) (by omega)]
    have key : ∀ (d : Nat) (x : Int), x + d = t + s + 1 → t - s ≤ x → Ev (fun k => impl_MayUse.l0 k a b t x n f s p) (allL p a b d x) := by
      intro d
      induction d with
      | zero =>
        intro x hx hx2
        refine Ev.step (fun k => by rw [impl_MayUse.l0]) ?_
        rw [w64 (x := t + s) (by omega) (by omega)]
        repeat (first | (with_reducible refine Ev.ite_pos (by omega) ?_) | (with_reducible refine Ev.ite_neg (by omega) ?_))
        exact Ev.now _
      | succ d ih =>
        intro x hx hx2
        have h3 := ih (x + 1) (by omega) (by omega)
        refine Ev.step (fun k => by rw [impl_MayUse.l0]) ?_
        rw [w64 (x := t + s) (by omega) (by omega), w64 (x := x + 1) (by omega) (by omega)]
        repeat (first | (with_reducible refine Ev.ite_pos (by omega) ?_) | (with_reducible refine Ev.ite_neg (by omega) ?_))
        refine Ev.bind0 (linked2 p hp n f s a b x) ?_
        rw [allL]
        cases hq : linked p a b x with
        | true => exact Ev.ite_pos rfl h3
        | false => exact Ev.ite_neg (by simp) (Ev.now _)
    exact key (2 * s + 1).toNat (t - s) (by omega) (by omega)
  · have h3 : (decide (0 ≤ s ∧ s ≤ 5) && decide (0 ≤ t ∧ t ≤ 1000)) = false := by
      rw [← Bool.decide_and]
      exact decide_eq_false h1
    rw [h3, Bool.false_and]
    exact Ev.ite_neg (by simp) (Ev.now _)
theorem pure : PureFnExactMayUse := by
  intro n f s p u v w _ _ _ hp _ _ _
  have hb : p.length ≤ 140737488351232 ∧ (∀ y ∈ p, b97 y) := ⟨Len.le hp.1 (by omega), fun y hy => bPiece (hp.2 y hy)⟩
  refine Ev.rounds (r := true) ?_
  unfold laws_FnExactMayUse.f
  refine Ev.bind (sz_Program n f s p 1048576 hb (by omega) (by omega)) ?_
  by_cases hn : ((nPg p : Nat) : Int) ≤ 1048576
  · have hs : szOf 1048576 (p.length + (p.map n97).sum) = 1048576 - ((nPg p : Nat) : Int) := by unfold szOf nPg; rw [if_pos (by exact hn)]
    rw [hs]
    have hq : nPg p ≤ 1048576 := by omega
    have hqi : nPgI (p.map cPiece) ≤ 1048576 := by rw [nPgI_c]; exact hq
    have hqj := hqi
    unfold nPg at hq
    unfold nPgI at hqj
    refine Ev.ite_neg (by omega) ?_
    refine Ev.bind (to_Program n f s p hq) ?_
    refine Ev.bind (may1 _ hqi n f s u v w) ?_
    refine Ev.bind (to_Program n f s p hq) ?_
    refine Ev.bind (may2 _ hqi n f s u v w) ?_
    refine Ev.ite_neg (by simp) ?_
    refine Ev.bind (to_Program n f s p hq) ?_
    refine Ev.bind (eq_Program n f s _ hqj) ?_
    exact Ev.ite_pos rfl (Ev.now _)
  · have hs : szOf 1048576 (p.length + (p.map n97).sum) = -1 := by unfold szOf; rw [if_neg (by exact hn)]
    rw [hs]
    exact Ev.ite_pos (by omega) (Ev.now _)
end Go.Proofs.Ytadpbpocbfjboaa.fnExactMayUse
namespace Go.Proofs.Ytadpbpocbfjboaa
theorem fnExactMayUse_holds : Rows.FnExactMayUseSaid := fnExactMayUse.row fnExactMayUse.pure
end Go.Proofs.Ytadpbpocbfjboaa
