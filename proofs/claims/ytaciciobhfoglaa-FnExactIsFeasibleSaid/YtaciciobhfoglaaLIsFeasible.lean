/- FnExactIsFeasible: the program and the reference agree on whether a battery suffices. Conditions: none. -/
import Derived.Test.YtaciciobhfoglaaRowFnExactIsFeasible
import Derived.Test.YtaciciobhfoglaaKFnExactIsFeasible
import Derived.Test.YtaciciobhfoglaaFeasFnExactIsFeasible
namespace Go.Proofs.Ytaciciobhfoglaa.fnExactIsFeasible
open Go.RowKit Go.Proofs.YtaciciobhfoglaaW.PrintWords Go.Proofs.YtaciciobhfoglaaW.PrintMore Go.Proofs.Ytaciciobhfoglaa.QFnExactIsFeasible Go.Proofs.Ytaciciobhfoglaa.Open Go.Proofs.Ytaciciobhfoglaa.Kit
theorem pure : PureFnExactIsFeasible := by
  intro x0 x1 x2 b x4 g l t e _ _ _ _ _ _ hl _ _
  have hl1 := Len.le hl.1 (by omega)
  refine Ev.rounds (r := true) ?_
  unfold laws_FnExactIsFeasible.f laws_toBattery.f
  refine Ev.bind0 (sz_SpanS l 1048576 hl1 (by omega) (by omega)) ?_
  by_cases hn : (l.length : Int) ≤ 1048576
  · rw [show szOf 1048576 l.length = 1048576 - (l.length : Int) by unfold szOf; rw [if_pos hn]]
    repeat (first | (with_reducible refine Ev.ite_pos (by omega) ?_) | (with_reducible refine Ev.ite_neg (by omega) ?_))
    simp only [Option.bind_some]
    have hm : (l.map cSpan).length ≤ 1048576 := by rw [List.length_map]; omega
    refine Ev.bind (to_SpanS l (by omega)) ?_
    refine Ev.bind (feas1 _ hm x0 x1 x2 b x4 g t e) ?_
    refine Ev.bind (to_SpanS l (by omega)) ?_
    refine Ev.bind (feas2 _ hm x0 x1 x2 b x4 g t e) ?_
    refine Ev.ite_neg (by simp) ?_
    refine Ev.bind (to_SpanS l (by omega)) ?_
    refine Ev.bind (eq_SpanS _ hm) ?_
    exact Ev.ite_pos rfl (Ev.now _)
  · rw [show szOf 1048576 l.length = -1 by unfold szOf; rw [if_neg hn]]
    repeat (first | (with_reducible refine Ev.ite_pos (by omega) ?_) | (with_reducible refine Ev.ite_neg (by omega) ?_))
    exact Ev.now _
end Go.Proofs.Ytaciciobhfoglaa.fnExactIsFeasible
namespace Go.Proofs.Ytaciciobhfoglaa
theorem fnExactIsFeasible_holds : Rows.FnExactIsFeasibleSaid := fnExactIsFeasible.row fnExactIsFeasible.pure
end Go.Proofs.Ytaciciobhfoglaa
