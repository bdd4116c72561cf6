/- FnExactHasLoop: the program and the reference agree on whether a table has a loop. Conditions: none. -/
import Derived.Test.YtjeobpoonfhjdaaRowFnExactHasLoop
import Derived.Test.YtjeobpoonfhjdaaKFnExactHasLoop
import Derived.Test.YtjeobpoonfhjdaaLoopSFnExactHasLoop
namespace Go.Proofs.Ytjeobpoonfhjdaa.fnExactHasLoop
open Go.RowKit Go.Proofs.Ytjeobpoonfhjdaa.PFnExactHasLoop Go.Proofs.YtjeobpoonfhjdaaW.PrintWords Go.Proofs.YtjeobpoonfhjdaaW.PrintLast Go.Proofs.Ytjeobpoonfhjdaa.Kit
theorem pure : PureFnExactHasLoop := by
  intro l hl
  refine Ev.rounds (r := true) ?_
  unfold laws_FnExactHasLoop.f
  by_cases hn : (l.length : Int) > 1048576
  · exact Ev.ite_pos hn (Ev.now _)
  · refine Ev.ite_neg hn ?_
    obtain ⟨r1, h1, i1⟩ := loop1 l (by omega)
    obtain ⟨r2, h2, i2⟩ := loop2 l (by omega)
    have e : r2 = r1 := by rw [Bool.eq_iff_iff, i1, i2]
    refine Ev.bind (to_IntS l (by omega)) ?_
    refine Ev.bind h1 ?_
    refine Ev.bind (to_IntS l (by omega)) ?_
    refine Ev.bind h2 ?_
    refine Ev.ite_neg (by simp [e]) ?_
    refine Ev.bind (to_IntS l (by omega)) ?_
    refine Ev.bind (eq_IntS l (by omega)) ?_
    exact Ev.ite_pos rfl (Ev.now _)
end Go.Proofs.Ytjeobpoonfhjdaa.fnExactHasLoop
namespace Go.Proofs.Ytjeobpoonfhjdaa
theorem fnExactHasLoop_holds : Rows.FnExactHasLoopSaid := fnExactHasLoop.row fnExactHasLoop.pure
end Go.Proofs.Ytjeobpoonfhjdaa
