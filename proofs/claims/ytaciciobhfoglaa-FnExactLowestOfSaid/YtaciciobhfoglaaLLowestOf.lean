/- FnExactLowestOf: the program and the reference tell the same lowest level. Conditions: none. -/
import Derived.Test.YtaciciobhfoglaaRowFnExactLowestOf
import Derived.Test.YtaciciobhfoglaaKFnExactLowestOf
import Derived.Test.YtaciciobhfoglaaLowFnExactLowestOf
namespace Go.Proofs.Ytaciciobhfoglaa.fnExactLowestOf
open Go.RowKit Go.Proofs.YtaciciobhfoglaaW.PrintWords Go.Proofs.YtaciciobhfoglaaW.PrintMore Go.Proofs.Ytaciciobhfoglaa.QFnExactLowestOf Go.Proofs.Ytaciciobhfoglaa.Open Go.Proofs.Ytaciciobhfoglaa.Kit
theorem pure : PureFnExactLowestOf := by
  intro v c r b s g l t ns _ _ _ _ _ _ hl ht hns
  have hl1 := Len.le hl.1 (by omega)
  have hw : wrap64 t = t := by
    unfold I64 at ht
    exact w64 (by omega) (by omega)
  refine Ev.rounds (r := true) ?_
  unfold laws_FnExactLowestOf.f
  by_cases hc : (ns.length : Int) > 1048576
  · exact Ev.ite_pos hc (Ev.now _)
  refine Ev.ite_neg hc ?_
  refine Ev.bind0 (sz_SpanS l 1048576 hl1 (by omega) (by omega)) ?_
  by_cases hn : (l.length : Int) ≤ 1048576
  · rw [show szOf 1048576 l.length = 1048576 - (l.length : Int) by unfold szOf; rw [if_pos hn]]
    refine Ev.ite_neg (by omega) ?_
    have hm : (l.map cSpan).length ≤ 1048576 := by rw [List.length_map]; omega
    have hnl : ns.length ≤ 1048576 := by omega
    refine Ev.bind0 (to_Battery v c r b s g) ?_
    refine Ev.bind (to_SpanS l (by omega)) ?_
    refine Ev.bind (to_IntS ns hnl) ?_
    refine Ev.bind (low1 hm ns hnl t v c r b s g hw) ?_
    refine Ev.bind (to_SpanS l (by omega)) ?_
    refine Ev.bind (to_IntS ns hnl) ?_
    refine Ev.bind0 (to_Battery v c r b s g) ?_
    refine Ev.bind (low2 hm ns hnl t v c r b s g) ?_
    refine Ev.ite_pos rfl ?_
    refine Ev.bind (to_SpanS l (by omega)) ?_
    refine Ev.bind (eq_SpanS _ hm) ?_
    refine Ev.ite_pos rfl ?_
    refine Ev.bind (to_IntS ns hnl) ?_
    refine Ev.bind (eq_IntS ns (by omega)) ?_
    exact Ev.ite_pos rfl (Ev.now _)
  · rw [show szOf 1048576 l.length = -1 by unfold szOf; rw [if_neg hn]]
    exact Ev.ite_pos (by omega) (Ev.now _)
end Go.Proofs.Ytaciciobhfoglaa.fnExactLowestOf
namespace Go.Proofs.Ytaciciobhfoglaa
theorem fnExactLowestOf_holds : Rows.FnExactLowestOfSaid := fnExactLowestOf.row fnExactLowestOf.pure
end Go.Proofs.Ytaciciobhfoglaa
