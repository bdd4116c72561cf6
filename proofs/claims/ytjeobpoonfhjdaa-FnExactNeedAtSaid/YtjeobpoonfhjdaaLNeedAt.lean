/- FnExactNeedAt: the program and the reference agree on what is needed. Conditions: none. -/
import Derived.Test.YtjeobpoonfhjdaaRowFnExactNeedAt
import Derived.Test.YtjeobpoonfhjdaaKFnExactNeedAt
import Derived.Test.YtjeobpoonfhjdaaNeedsFnExactNeedAt
namespace Go.Proofs.Ytjeobpoonfhjdaa.fnExactNeedAt
open Go.RowKit Go.Proofs.YtjeobpoonfhjdaaW.PrintWords Go.Proofs.YtjeobpoonfhjdaaW.PrintMore Go.Proofs.Ytjeobpoonfhjdaa.QFnExactNeedAt Go.Proofs.Ytjeobpoonfhjdaa.Open Go.Proofs.Ytjeobpoonfhjdaa.Kit
theorem need2 (l : List S93) (hl : l.length ≤ 1048576) (x0 x1 x2 x4 b g t e : Int) : Ev (fun k => impl_NeedAt.f k x0 x1 x2 b x4 g l t e) (needAt l b g t e) := by
  unfold impl_NeedAt.f
  refine Ev.bind (needs2 l hl x0 x1 x2 x4 b g t e) ?_
  have h := needsOf_get (l := l) (b := b) (g := g) (t := t) (e := e)
  refine Ev.ite_pos (by omega) (Ev.some h.2)
theorem pure : PureFnExactNeedAt := by
  intro x0 x1 x2 b x4 g l t e _ _ _ _ _ _ hl _ _
  have hl1 := Len.le hl.1 (by omega)
  refine Ev.rounds (r := true) ?_
  unfold laws_FnExactNeedAt.f laws_toBattery.f
  refine Ev.bind0 (sz_SpanS l 1048576 hl1 (by omega) (by omega)) ?_
  by_cases hn : (l.length : Int) ≤ 1048576
  · rw [show szOf 1048576 l.length = 1048576 - (l.length : Int) by unfold szOf; rw [if_pos hn]]
    repeat (first | (with_reducible refine Ev.ite_pos (by omega) ?_) | (with_reducible refine Ev.ite_neg (by omega) ?_))
    simp only [Option.bind_some]
    have hm : (l.map cSpan).length ≤ 1048576 := by rw [List.length_map]; omega
    refine Ev.bind (to_SpanS l (by omega)) ?_
    refine Ev.bind (need1 _ hm x0 x1 x2 x4 b g t e) ?_
    refine Ev.bind (to_SpanS l (by omega)) ?_
    refine Ev.bind (need2 _ hm x0 x1 x2 x4 b g t e) ?_
    refine Ev.ite_pos rfl ?_
    refine Ev.bind (to_SpanS l (by omega)) ?_
    refine Ev.bind (eq_SpanS _ hm) ?_
    exact Ev.ite_pos rfl (Ev.now _)
  · rw [show szOf 1048576 l.length = -1 by unfold szOf; rw [if_neg hn]]
    repeat (first | (with_reducible refine Ev.ite_pos (by omega) ?_) | (with_reducible refine Ev.ite_neg (by omega) ?_))
    exact Ev.now _
end Go.Proofs.Ytjeobpoonfhjdaa.fnExactNeedAt
namespace Go.Proofs.Ytjeobpoonfhjdaa
theorem fnExactNeedAt_holds : Rows.FnExactNeedAtSaid := fnExactNeedAt.row fnExactNeedAt.pure
end Go.Proofs.Ytjeobpoonfhjdaa
