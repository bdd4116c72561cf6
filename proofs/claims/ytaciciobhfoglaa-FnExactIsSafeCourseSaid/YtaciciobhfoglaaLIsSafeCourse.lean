/- FnExactIsSafeCourse: the program and the reference agree on safe courses. Conditions: none. -/
import Derived.Test.YtaciciobhfoglaaRowFnExactIsSafeCourse
import Derived.Test.YtaciciobhfoglaaKFnExactIsSafeCourse
import Derived.Test.YtaciciobhfoglaaLowFnExactIsSafeCourse
namespace Go.Proofs.Ytaciciobhfoglaa.fnExactIsSafeCourse
open Go.RowKit Go.Proofs.YtaciciobhfoglaaW.PrintWords Go.Proofs.YtaciciobhfoglaaW.PrintMore Go.Proofs.Ytaciciobhfoglaa.QFnExactIsSafeCourse Go.Proofs.Ytaciciobhfoglaa.Open Go.Proofs.Ytaciciobhfoglaa.Kit
def safeC (l : List S100) (c r b s g t v : Int) (ns : List Int) : Bool := decide (Bat v c r b s g) && decide (low l c r b s g t v ns ≥ r)
theorem sc1 {l : List S100} (hl : l.length ≤ 1048576) (ns : List Int) (hns : ns.length ≤ 1048576) (t v c r b s g : Int) (ht : wrap64 t = t) : Ev (fun k => spec_IsSafeCourse.f k v c r b s g l t ns) (safeC l c r b s g t v ns) := by
  unfold spec_IsSafeCourse.f safeC
  refine Ev.bind0 (bat1 v c r b s g) ?_
  by_cases hB : Bat v c r b s g
  · rw [decide_eq_true hB, Bool.true_and]
    refine Ev.ite_pos rfl ?_
    exact Ev.bind (low1 hl ns hns t v c r b s g ht) (Ev.now _)
  · rw [decide_eq_false hB, Bool.false_and]
    exact Ev.ite_neg (by simp) (Ev.now _)
theorem sc2 {l : List S100} (hl : l.length ≤ 1048576) (ns : List Int) (hns : ns.length ≤ 1048576) (t v c r b s g : Int) : Ev (fun k => impl_IsSafeCourse.f k v c r b s g l t ns) (safeC l c r b s g t v ns) := by
  unfold impl_IsSafeCourse.f safeC
  refine Ev.bind0 (bat2 v c r b s g) ?_
  by_cases hB : Bat v c r b s g
  · rw [decide_eq_true hB, Bool.true_and]
    refine Ev.ite_pos rfl ?_
    exact Ev.bind (low2 hl ns hns t v c r b s g) (Ev.now _)
  · rw [decide_eq_false hB, Bool.false_and]
    exact Ev.ite_neg (by simp) (Ev.now _)
theorem pure : PureFnExactIsSafeCourse := by
  intro v c r b s g l t ns _ _ _ _ _ _ hl ht hns
  have hl1 := Len.le hl.1 (by omega)
  have hw : wrap64 t = t := by
    unfold I64 at ht
    exact w64 (by omega) (by omega)
  refine Ev.rounds (r := true) ?_
  unfold laws_FnExactIsSafeCourse.f
  by_cases hc : (ns.length : Int) > 1048576
  · exact Ev.ite_pos hc (Ev.now _)
  refine Ev.ite_neg hc ?_
  refine Ev.bind0 (sz_SpanS l 1048576 hl1 (by omega) (by omega)) ?_
  by_cases hn : (l.length : Int) ≤ 1048576
  · rw [show szOf 1048576 l.length = 1048576 - (l.length : Int) by unfold szOf; rw [if_pos hn]]
    refine Ev.ite_neg (by omega) ?_
    have hm : (l.map cSpan).length ≤ 1048576 := by rw [List.length_map]; omega
    have hnl : ns.length ≤ 1048576 := by omega
    refine Ev.bind0 (to_Battery v c r b s g) ?_
    refine Ev.bind (to_SpanS l (by omega)) ?_
    refine Ev.bind (to_IntS ns hnl) ?_
    refine Ev.bind (sc1 hm ns hnl t v c r b s g hw) ?_
    refine Ev.bind (to_SpanS l (by omega)) ?_
    refine Ev.bind (to_IntS ns hnl) ?_
    refine Ev.bind0 (to_Battery v c r b s g) ?_
    refine Ev.bind (sc2 hm ns hnl t v c r b s g) ?_
    refine Ev.ite_neg (by simp) ?_
    refine Ev.bind (to_SpanS l (by omega)) ?_
    refine Ev.bind (eq_SpanS _ hm) ?_
    refine Ev.ite_pos rfl ?_
    refine Ev.bind (to_IntS ns hnl) ?_
    refine Ev.bind (eq_IntS ns (by omega)) ?_
    exact Ev.ite_pos rfl (Ev.now _)
  · rw [show szOf 1048576 l.length = -1 by unfold szOf; rw [if_neg hn]]
    exact Ev.ite_pos (by omega) (Ev.now _)
end Go.Proofs.Ytaciciobhfoglaa.fnExactIsSafeCourse
namespace Go.Proofs.Ytaciciobhfoglaa
theorem fnExactIsSafeCourse_holds : Rows.FnExactIsSafeCourseSaid := fnExactIsSafeCourse.row fnExactIsSafeCourse.pure
end Go.Proofs.Ytaciciobhfoglaa
