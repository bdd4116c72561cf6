/- FnExactForecastOf: the program and the reference forecast the same levels. Conditions: none. -/
import Derived.Test.YtaciciobhfoglaaRowFnExactForecastOf
import Derived.Test.YtaciciobhfoglaaKFnExactForecastOf
import Derived.Test.YtaciciobhfoglaaCourseFnExactForecastOf
namespace Go.Proofs.Ytaciciobhfoglaa.fnExactForecastOf
open Go.RowKit Go.Proofs.YtaciciobhfoglaaW.PrintWords Go.Proofs.YtaciciobhfoglaaW.PrintMore Go.Proofs.Ytaciciobhfoglaa.QFnExactForecastOf Go.Proofs.Ytaciciobhfoglaa.Open Go.Proofs.Ytaciciobhfoglaa.Kit
theorem pure : PureFnExactForecastOf := by
  intro v c r b s g l t ns _ _ _ _ _ _ hl ht hns
  have hl1 := Len.le hl.1 (by omega)
  have hw : wrap64 t = t := by
    unfold I64 at ht
    exact w64 (by omega) (by omega)
  refine Ev.rounds (r := true) ?_
  unfold laws_FnExactForecastOf.f
  by_cases hc : (ns.length : Int) > 1048576
  · exact Ev.ite_pos hc (Ev.now _)
  refine Ev.ite_neg hc ?_
  refine Ev.bind0 (sz_SpanS l 1048576 hl1 (by omega) (by omega)) ?_
  by_cases hn : (l.length : Int) ≤ 1048576
  · rw [show szOf 1048576 l.length = 1048576 - (l.length : Int) by unfold szOf; rw [if_pos hn]]
    repeat (first | (with_reducible refine Ev.ite_pos (by omega) ?_) | (with_reducible refine Ev.ite_neg (by omega) ?_))
    have hm : (l.map cSpan).length ≤ 1048576 := by rw [List.length_map]; omega
    have hnl : ns.length ≤ 1048576 := by omega
    have hml : ((l.map cSpan).length : Int) = (l.length : Int) := by rw [List.length_map]
    have hcl : (v :: course (l.map cSpan) c r b s g t v ns).length = ns.length + 1 := by rw [List.length_cons, course_len]
    refine Ev.bind0 (to_Battery v c r b s g) ?_
    refine Ev.bind (to_SpanS l (by omega)) ?_
    refine Ev.bind (to_IntS ns hnl) ?_
    refine Ev.bind (fc1 hm ns hnl t v c r b s g hw) ?_
    refine Ev.bind (to_SpanS l (by omega)) ?_
    refine Ev.bind (to_IntS ns hnl) ?_
    refine Ev.bind0 (to_Battery v c r b s g) ?_
    refine Ev.bind (fc2 hm ns hnl t v c r b s g) ?_
    refine Ev.bind (eq_IntS _ (by omega)) ?_
    refine Ev.ite_pos rfl ?_
    refine Ev.bind (to_SpanS l (by omega)) ?_
    refine Ev.bind (eq_SpanS _ hm) ?_
    refine Ev.ite_pos rfl ?_
    refine Ev.bind (to_IntS ns hnl) ?_
    refine Ev.bind (eq_IntS ns (by omega)) ?_
    refine Ev.ite_pos rfl ?_
    refine Ev.bind (mark_SpanS _ 1 (by omega) (by omega) (by omega)) ?_
    refine Ev.bind (mark_IntS ns (1 + 2 * ((l.map cSpan).length : Int)) (by omega) (by omega) (by omega)) ?_
    refine Ev.ite_neg (by simp only []; omega) ?_
    refine Ev.bind (eq_IntS _ (by omega)) ?_
    refine Ev.step (fun k => by rw [laws_FnExactForecastOf.j0]) ?_
    refine Ev.ite_neg (by simp) ?_
    have hh := held_IntS (v :: course (l.map cSpan) c r b s g t v ns).length 1 (by omega) (by omega) (by omega)
    refine Ev.bind (mark_IntS _ 1 (by omega) (by omega) (by omega)) ?_
    refine Ev.bind hh ?_
    refine Ev.ite_neg (by omega) ?_
    refine Ev.ite_pos rfl ?_
    refine Ev.bind0 (to_Battery v c r b s g) ?_
    refine Ev.bind (to_SpanS l (by omega)) ?_
    refine Ev.bind (to_IntS ns hnl) ?_
    refine Ev.bind (fc2 hm ns hnl t v c r b s g) ?_
    refine Ev.bind (eq_IntS _ (by omega)) ?_
    refine Ev.ite_pos rfl ?_
    refine Ev.bind hh ?_
    refine Ev.ite_neg (by omega) ?_
    exact Ev.ite_pos rfl (Ev.now _)
  · rw [show szOf 1048576 l.length = -1 by unfold szOf; rw [if_neg hn]]
    repeat (first | (with_reducible refine Ev.ite_pos (by omega) ?_) | (with_reducible refine Ev.ite_neg (by omega) ?_))
    exact Ev.now _
end Go.Proofs.Ytaciciobhfoglaa.fnExactForecastOf
namespace Go.Proofs.Ytaciciobhfoglaa
theorem fnExactForecastOf_holds : Rows.FnExactForecastOfSaid := fnExactForecastOf.row fnExactForecastOf.pure
end Go.Proofs.Ytaciciobhfoglaa
