/- FnExactSafeSends: the program and the reference send the same. Conditions: none. -/
import Derived.Test.YtaciciobhfoglaaVFnExactSafeSendsRowFnExactSafeSends
import Derived.Test.YtaciciobhfoglaaVFnExactSafeSendsKFnExactSafeSends
import Derived.Test.YtaciciobhfoglaaVFnExactSafeSendsSafeFnExactSafeSends
namespace Go.Proofs.Ytaciciobhfoglaa.fnExactSafeSends
open Go.RowKit Go.Proofs.YtaciciobhfoglaaW.PrintWords Go.Proofs.YtaciciobhfoglaaW.PrintMore Go.Proofs.Ytaciciobhfoglaa.QFnExactSafeSends Go.Proofs.Ytaciciobhfoglaa.Open Go.Proofs.Ytaciciobhfoglaa.Kit
theorem pure : PureFnExactSafeSends := by
  intro v c r b s g l t e w _ _ _ _ _ _ hl _ _ _
  have hl1 := Len.le hl.1 (by omega)
  refine Ev.rounds (r := true) ?_
  unfold laws_FnExactSafeSends.f
  refine Ev.bind0 (sz_SpanS l 1048576 hl1 (by omega) (by omega)) ?_
  by_cases hn : (l.length : Int) ≤ 1048576
  · rw [show szOf 1048576 l.length = 1048576 - (l.length : Int) by unfold szOf; rw [if_pos hn]]
    repeat (first | (with_reducible refine Ev.ite_pos (by omega) ?_) | (with_reducible refine Ev.ite_neg (by omega) ?_))
    have hm : (l.map cSpan).length ≤ 1048576 := by rw [List.length_map]; omega
    have hml : ((l.map cSpan).length : Int) = (l.length : Int) := by rw [List.length_map]
    have hcl := safe_len (l.map cSpan) v c r b s g t e w
    refine Ev.bind0 (to_Battery v c r b s g) ?_
    refine Ev.bind (to_SpanS l (by omega)) ?_
    refine Ev.bind (safe1 _ hm v c r b s g t e w) ?_
    refine Ev.bind (to_SpanS l (by omega)) ?_
    refine Ev.bind0 (to_Battery v c r b s g) ?_
    refine Ev.bind (safe2 _ hm v c r b s g t e w) ?_
    refine Ev.bind (eq_IntS _ (by omega)) ?_
    refine Ev.ite_pos rfl ?_
    refine Ev.bind (to_SpanS l (by omega)) ?_
    refine Ev.bind (eq_SpanS _ hm) ?_
    refine Ev.ite_pos rfl ?_
    refine Ev.bind (mark_SpanS _ 1 (by omega) (by omega) (by omega)) ?_
    refine Ev.ite_neg (by simp only []; omega) ?_
    refine Ev.bind (eq_IntS _ (by omega)) ?_
    refine Ev.step (fun k => by rw [laws_FnExactSafeSends.j0]) ?_
    refine Ev.ite_neg (by simp) ?_
    have hh := held_IntS (safe (l.map cSpan) v c r b s g t e w).length 1 (by omega) (by omega) (by omega)
    refine Ev.bind (mark_IntS _ 1 (by omega) (by omega) (by omega)) ?_
    refine Ev.bind hh ?_
    refine Ev.ite_neg (by omega) ?_
    refine Ev.ite_pos rfl ?_
    refine Ev.bind0 (to_Battery v c r b s g) ?_
    refine Ev.bind (to_SpanS l (by omega)) ?_
    refine Ev.bind (safe2 _ hm v c r b s g t e w) ?_
    refine Ev.bind (eq_IntS _ (by omega)) ?_
    refine Ev.ite_pos rfl ?_
    refine Ev.bind hh ?_
    refine Ev.ite_neg (by omega) ?_
    exact Ev.ite_pos rfl (Ev.now _)
  · rw [show szOf 1048576 l.length = -1 by unfold szOf; rw [if_neg hn]]
    repeat (first | (with_reducible refine Ev.ite_pos (by omega) ?_) | (with_reducible refine Ev.ite_neg (by omega) ?_))
    exact Ev.now _
end Go.Proofs.Ytaciciobhfoglaa.fnExactSafeSends
namespace Go.Proofs.Ytaciciobhfoglaa
theorem fnExactSafeSends_holds : Rows.FnExactSafeSendsSaid := fnExactSafeSends.row fnExactSafeSends.pure
end Go.Proofs.Ytaciciobhfoglaa
