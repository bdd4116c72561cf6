/- FnExactFindPacket: the program and the reference find the same packet. Conditions: none. -/
import Derived.Test.YtjeobpoonfhjdaaRowFnExactFindPacket
import Derived.Test.YtjeobpoonfhjdaaKFnExactFindPacket
namespace Go.Proofs.Ytjeobpoonfhjdaa.fnExactFindPacket
open Go.RowKit Go.Proofs.YtjeobpoonfhjdaaW.PrintWords Go.Proofs.YtjeobpoonfhjdaaW.PrintMore Go.Proofs.Ytjeobpoonfhjdaa.QFnExactFindPacket Go.Proofs.Ytjeobpoonfhjdaa.Open Go.Proofs.Ytjeobpoonfhjdaa.Kit
theorem find1 (l : List S31) (hl : l.length ≤ 1048576) (id : Int) : Ev (fun k => spec_FindPacket.f k l id) (impl_FindPacket.go id l 0) := by
  have key : ∀ d i : Nat, i + d = l.length → Ev (fun k => spec_FindPacket.l0 k id (i : Int) l) (impl_FindPacket.go id (l.drop i) i) := by
    intro d
    induction d with
    | zero =>
      intro i hi
      refine Ev.step (fun k => by rw [spec_FindPacket.l0]) ?_
      repeat (first | (with_reducible refine Ev.ite_pos (by omega) ?_) | (with_reducible refine Ev.ite_neg (by omega) ?_))
      refine Ev.some ?_
      rw [List.drop_of_length_le (by omega), impl_FindPacket.go]
    | succ d ih =>
      intro i hi
      have h1 := ih (i + 1) (by omega)
      refine Ev.step (fun k => by rw [spec_FindPacket.l0]) ?_
      repeat (first | (with_reducible refine Ev.ite_pos (by omega) ?_) | (with_reducible refine Ev.ite_neg (by omega) ?_))
      rw [drop_getD (by omega : i < l.length) z31, show rd_T31 l (i : Int) = l.getD i z31 from rfl, w64n (by omega), impl_FindPacket.go]
      generalize l.getD i z31 = x
      by_cases hx : x.f0 = id
      · rw [if_pos (by unfold impl_FindPacket.hit; simpa using hx)]
        exact Ev.ite_pos hx (Ev.now _)
      · rw [if_neg (by unfold impl_FindPacket.hit; simpa using hx)]
        exact Ev.ite_neg hx h1
  exact key l.length 0 (by omega)
theorem find2 (l : List S31) (hl : l.length ≤ 1048576) (id : Int) : impl_FindPacket.f l id = some (impl_FindPacket.go id l 0) := by
  unfold impl_FindPacket.f
  rw [if_pos (by omega)]
theorem pure : PureFnExactFindPacket := by
  intro l id hl _
  have hl1 := Len.le hl.1 (by omega)
  refine Ev.rounds (r := true) ?_
  unfold laws_FnExactFindPacket.f
  refine Ev.bind0 (sz_Queue l 1048576 hl1 (by omega) (by omega)) ?_
  by_cases hn : (l.length : Int) ≤ 1048576
  · rw [show szOf 1048576 l.length = 1048576 - (l.length : Int) by unfold szOf; rw [if_pos hn]]
    repeat (first | (with_reducible refine Ev.ite_pos (by omega) ?_) | (with_reducible refine Ev.ite_neg (by omega) ?_))
    have hm : (l.map cPacket).length ≤ 1048576 := by rw [List.length_map]; omega
    refine Ev.bind (to_Queue l (by omega)) ?_
    refine Ev.bind (find1 _ hm id) ?_
    refine Ev.bind (to_Queue l (by omega)) ?_
    refine Ev.bind0 (find2 _ hm id) ?_
    refine Ev.ite_pos rfl ?_
    refine Ev.bind (to_Queue l (by omega)) ?_
    refine Ev.bind (eq_Queue _ hm) ?_
    exact Ev.ite_pos rfl (Ev.now _)
  · rw [show szOf 1048576 l.length = -1 by unfold szOf; rw [if_neg hn]]
    repeat (first | (with_reducible refine Ev.ite_pos (by omega) ?_) | (with_reducible refine Ev.ite_neg (by omega) ?_))
    exact Ev.now _
end Go.Proofs.Ytjeobpoonfhjdaa.fnExactFindPacket
namespace Go.Proofs.Ytjeobpoonfhjdaa
theorem fnExactFindPacket_holds : Rows.FnExactFindPacketSaid := fnExactFindPacket.row fnExactFindPacket.pure
end Go.Proofs.Ytjeobpoonfhjdaa
