/- FnExactCountClass: the program and the reference count the same packets. Conditions: none. -/
import Derived.Test.YtjeobpoonfhjdaaRowFnExactCountClass
import Derived.Test.YtjeobpoonfhjdaaKFnExactCountClass
namespace Go.Proofs.Ytjeobpoonfhjdaa.fnExactCountClass
open Go.RowKit Go.Proofs.YtjeobpoonfhjdaaW.PrintWords Go.Proofs.YtjeobpoonfhjdaaW.PrintMore Go.Proofs.Ytjeobpoonfhjdaa.PFnExactCountClass Go.Proofs.Ytjeobpoonfhjdaa.Open Go.Proofs.Ytjeobpoonfhjdaa.Kit
def st (c : Int) (n : Int) (x : S31) : Int := if x.f5 = c then wrap64 (n + 1) else n
theorem cnt1 (l : List S31) (c : Int) (hl : l.length ≤ 1048576) : Ev (fun k => spec_CountClass.f k l c) (l.foldl (st c) 0) := by
  rw [← foldTo_all]
  have h0 := foldTo_zero (st c) 0 l
  show Ev (fun k => spec_CountClass.l0 k c 0 0 l) _
  rw [show (fun k => spec_CountClass.l0 k c 0 0 l) = (fun k => spec_CountClass.l0 k c (foldTo (st c) 0 l 0) ((0 : Nat) : Int) l) by rw [h0]; rfl]
  refine Ev.up (n := l.length) (g := fun i k => spec_CountClass.l0 k c (foldTo (st c) 0 l i) (i : Int) l) ?_ ?_
  · intro i hi ih
    rw [foldTo_succ (st c) 0 hi z31] at ih
    refine Ev.step (fun k => by rw [spec_CountClass.l0]) ?_
    repeat (first | (with_reducible refine Ev.ite_pos (by omega) ?_) | (with_reducible refine Ev.ite_neg (by omega) ?_))
    rw [w64n (by omega)]
    unfold st at ih ⊢
    by_cases h : (l.getD i z31).f5 = c
    · rw [if_pos h] at ih
      exact Ev.ite_pos h ih
    · rw [if_neg h] at ih
      exact Ev.ite_neg h ih
  · refine Ev.step (fun k => by rw [spec_CountClass.l0]) ?_
    repeat (first | (with_reducible refine Ev.ite_pos (by omega) ?_) | (with_reducible refine Ev.ite_neg (by omega) ?_))
    exact Ev.now _
theorem cnt2 (l : List S31) (c : Int) (hl : l.length ≤ 1048576) : Ev (fun k => impl_CountClass.f k l c) (l.foldl (st c) 0) := by
  rw [← foldTo_all]
  have h0 := foldTo_zero (st c) 0 l
  show Ev (fun k => impl_CountClass.l0 k c 0 l (l.length : Int) 0) _
  rw [show (fun k => impl_CountClass.l0 k c 0 l (l.length : Int) 0) = (fun k => impl_CountClass.l0 k c (foldTo (st c) 0 l 0) l (l.length : Int) ((0 : Nat) : Int)) by rw [h0]; rfl]
  refine Ev.up (n := l.length) (g := fun i k => impl_CountClass.l0 k c (foldTo (st c) 0 l i) l (l.length : Int) (i : Int)) ?_ ?_
  · intro i hi ih
    rw [foldTo_succ (st c) 0 hi z31] at ih
    refine Ev.step (fun k => by rw [impl_CountClass.l0]) ?_
    repeat (first | (with_reducible refine Ev.ite_pos (by omega) ?_) | (with_reducible refine Ev.ite_neg (by omega) ?_))
    rw [w64n (by omega)]
    unfold st at ih ⊢
    by_cases h : (l.getD i z31).f5 = c
    · rw [if_pos h] at ih
      exact Ev.ite_pos h ih
    · rw [if_neg h] at ih
      exact Ev.ite_neg h ih
  · refine Ev.step (fun k => by rw [impl_CountClass.l0]) ?_
    repeat (first | (with_reducible refine Ev.ite_pos (by omega) ?_) | (with_reducible refine Ev.ite_neg (by omega) ?_))
    exact Ev.now _
theorem pure : PureFnExactCountClass := by
  intro l c hl _
  have hl1 := Len.le hl.1 (by omega)
  refine Ev.rounds (r := true) ?_
  unfold laws_FnExactCountClass.f
  refine Ev.bind0 (sz_Queue l 1048576 hl1 (by omega) (by omega)) ?_
  by_cases hn : (l.length : Int) ≤ 1048576
  · have e : szOf 1048576 l.length = 1048576 - (l.length : Int) := by unfold szOf; rw [if_pos hn]
    rw [e]
    repeat (first | (with_reducible refine Ev.ite_pos (by omega) ?_) | (with_reducible refine Ev.ite_neg (by omega) ?_))
    have hm : (l.map cPacket).length ≤ 1048576 := by rw [List.length_map]; omega
    refine Ev.bind (to_Queue l (by omega)) ?_
    refine Ev.bind (cnt1 _ c hm) ?_
    refine Ev.bind (to_Queue l (by omega)) ?_
    refine Ev.bind (cnt2 _ c hm) ?_
    refine Ev.ite_pos rfl ?_
    refine Ev.bind (to_Queue l (by omega)) ?_
    refine Ev.bind (eq_Queue _ hm) ?_
    exact Ev.ite_pos rfl (Ev.now _)
  · have e : szOf 1048576 l.length = -1 := by unfold szOf; rw [if_neg hn]
    rw [e]
    repeat (first | (with_reducible refine Ev.ite_pos (by omega) ?_) | (with_reducible refine Ev.ite_neg (by omega) ?_))
    exact Ev.now _
end Go.Proofs.Ytjeobpoonfhjdaa.fnExactCountClass
namespace Go.Proofs.Ytjeobpoonfhjdaa
theorem fnExactCountClass_holds : Rows.FnExactCountClassSaid := fnExactCountClass.row fnExactCountClass.pure
end Go.Proofs.Ytjeobpoonfhjdaa
