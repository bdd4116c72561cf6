/- FnExactUnionHasLoop: the program and the reference agree on whether tables together have a loop. Conditions: none. -/
import Derived.Test.YtjeobpoonfhjdaaRowFnExactUnionHasLoop
import Derived.Test.YtjeobpoonfhjdaaKFnExactUnionHasLoop
import Derived.Test.YtjeobpoonfhjdaaUnionSFnExactUnionHasLoop
namespace Go.Proofs.Ytjeobpoonfhjdaa.fnExactUnionHasLoop
open Go.RowKit Go.Proofs.YtjeobpoonfhjdaaW.PrintWords Go.Proofs.YtjeobpoonfhjdaaW.PrintMore Go.Proofs.Ytjeobpoonfhjdaa.QFnExactUnionHasLoop Go.Proofs.Ytjeobpoonfhjdaa.Open Go.Proofs.Ytjeobpoonfhjdaa.Kit
theorem pure : PureFnExactUnionHasLoop := by
  intro l hl
  have hl1 := Len.le hl.1 (by omega)
  have hb : ∀ y ∈ l, y.length ≤ 140737488351232 := fun y hy => Len.le (hl.2 y hy).1 (by omega)
  refine Ev.rounds (r := true) ?_
  unfold laws_FnExactUnionHasLoop.f
  refine Ev.bind (sz_IntSS l 1048576 ⟨hl1, hb⟩ (by omega) (by omega)) ?_
  by_cases hn : ((l.length + (l.map List.length).sum : Nat) : Int) ≤ 1048576
  · rw [show szOf 1048576 (l.length + (l.map List.length).sum) = 1048576 - ((l.length + (l.map List.length).sum : Nat) : Int) by unfold szOf; rw [if_pos hn]]
    repeat (first | (with_reducible refine Ev.ite_pos (by omega) ?_) | (with_reducible refine Ev.ite_neg (by omega) ?_))
    obtain ⟨r1, h1, i1⟩ := union1 l (by omega) (fun t ht => by have := le_sum List.length ht; omega)
    obtain ⟨r2, h2, i2⟩ := union2 l (by omega) (fun t ht => by have := le_sum List.length ht; omega)
    have e : r2 = r1 := by rw [Bool.eq_iff_iff, i1, i2]
    refine Ev.bind (to_IntSS l (by omega)) ?_
    refine Ev.bind h1 ?_
    refine Ev.bind (to_IntSS l (by omega)) ?_
    refine Ev.bind h2 ?_
    refine Ev.ite_neg (by simp [e]) ?_
    refine Ev.bind (to_IntSS l (by omega)) ?_
    refine Ev.bind (eq_IntSS l (by omega)) ?_
    exact Ev.ite_pos rfl (Ev.now _)
  · rw [show szOf 1048576 (l.length + (l.map List.length).sum) = -1 by unfold szOf; rw [if_neg hn]]
    repeat (first | (with_reducible refine Ev.ite_pos (by omega) ?_) | (with_reducible refine Ev.ite_neg (by omega) ?_))
    exact Ev.now _
end Go.Proofs.Ytjeobpoonfhjdaa.fnExactUnionHasLoop
namespace Go.Proofs.Ytjeobpoonfhjdaa
theorem fnExactUnionHasLoop_holds : Rows.FnExactUnionHasLoopSaid := fnExactUnionHasLoop.row fnExactUnionHasLoop.pure
end Go.Proofs.Ytjeobpoonfhjdaa
