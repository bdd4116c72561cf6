/- The helpers of the law FnExactFindPacket: sizes, conversions, equality with itself. Conditions: none. -/
import Derived.Test.YtjeobpoonfhjdaaQFnExactFindPacketx
import Derived.Test.YtjeobpoonfhjdaaEv
namespace Go.Proofs.Ytjeobpoonfhjdaa.fnExactFindPacket
open Go.RowKit Go.Proofs.YtjeobpoonfhjdaaW.PrintWords Go.Proofs.YtjeobpoonfhjdaaW.PrintLast Go.Proofs.YtjeobpoonfhjdaaW.PrintMore Go.Proofs.Ytjeobpoonfhjdaa.QFnExactFindPacket Go.Proofs.Ytjeobpoonfhjdaa.Open Go.Proofs.Ytjeobpoonfhjdaa.Kit
def cPacket (x : S29) : S31 := ⟨x.f0, x.f1, x.f2, x.f3, x.f4, x.f5⟩
theorem sz_PacketS (l : List S29) (left : Int) (hb : l.length ≤ 140737488351232) (h0 : 0 ≤ left) (h1 : left ≤ 1048576) : laws_szPacketS.f l left = some (szOf left l.length) := by
  unfold laws_szPacketS.f szOf
  rw [w64 (by omega) (by omega)]
  by_cases h : (l.length : Int) ≤ left
  · rw [if_neg (by omega), if_pos h]
  · rw [if_pos (by omega), if_neg h]
theorem sz_Queue (a0 : (List S29)) (left : Int) (hba0 : a0.length ≤ 140737488351232) (h0 : 0 ≤ left) (h1 : left ≤ 1048576) : laws_szQueue.f a0 left = some (szOf left (a0.length)) := by
  unfold laws_szQueue.f
  rw [(sz_PacketS a0 left hba0 (by omega) (by omega)), Option.bind_some]
  by_cases hc0 : ((a0.length : Nat) : Int) ≤ left
  · have e0 : szOf left (a0.length) = left - ((a0.length : Nat) : Int) := by
      unfold szOf
      rw [if_pos (by omega)]
    rw [e0]
    rw [if_neg (by omega)]
  · have e0 : szOf left (a0.length) = -1 := by
      unfold szOf
      rw [if_neg (by omega)]
    rw [e0]
    rw [if_pos (by omega)]
theorem to_Packet (x : S29) : laws_toPacket.f (x.f0) (x.f1) (x.f2) (x.f3) (x.f4) (x.f5) = some (x.f0, x.f1, x.f2, x.f3, x.f4, x.f5) := by
  unfold laws_toPacket.f
  rfl
theorem to_PacketS (l : List S29) (hn : l.length ≤ 1048576) : Ev (fun k => laws_toPacketS.f k l) (l.map cPacket) := by
  unfold laws_toPacketS.f
  repeat (first | (with_reducible refine Ev.ite_pos (by omega) ?_) | (with_reducible refine Ev.ite_neg (by omega) ?_))
  rw [Int.toNat_natCast, ← fillTo_zero cPacket z31 l]
  refine Ev.up (n := l.length) (g := fun i k => laws_toPacketS.l0 k l (fillTo cPacket z31 l i) (i : Int)) ?_ ?_
  · intro i hi ih
    have hlen := fillTo_length cPacket z31 l (Nat.le_of_lt hi)
    rw [← fillTo_set cPacket z31 l hi z29] at ih
    refine Ev.step (fun k => by rw [laws_toPacketS.l0]) ?_
    repeat (first | (with_reducible refine Ev.ite_pos (by omega) ?_) | (with_reducible refine Ev.ite_neg (by omega) ?_))
    refine Ev.bind0 (to_Packet (l.getD i z29)) ?_
    repeat (first | (with_reducible refine Ev.ite_pos (by omega) ?_) | (with_reducible refine Ev.ite_neg (by omega) ?_))
    rw [Int.toNat_natCast, w64n (by omega)]
    exact ih
  · refine Ev.step (fun k => by rw [laws_toPacketS.l0]) ?_
    repeat (first | (with_reducible refine Ev.ite_pos (by omega) ?_) | (with_reducible refine Ev.ite_neg (by omega) ?_))
    refine Ev.some ?_
    rw [fillTo_all]
theorem to_Queue (a0 : (List S29)) (hn : a0.length ≤ 1048576) : Ev (fun k => laws_toQueue.f k a0) ((a0.map cPacket)) := by
  unfold laws_toQueue.f
  refine Ev.bind (to_PacketS (a0) (by omega)) ?_
  exact Ev.now _
theorem eq_Packet (x : S31) : laws_eqPacket.f (x.f0) (x.f1) (x.f2) (x.f3) (x.f4) (x.f5) (x.f0) (x.f1) (x.f2) (x.f3) (x.f4) (x.f5) = some true := by
  unfold laws_eqPacket.f
  simp
theorem eq_PacketS (l : List S31) (hn : l.length ≤ 1048576) : Ev (fun k => laws_eqPacketS.f k l l) true := by
  unfold laws_eqPacketS.f
  refine Ev.ite_pos rfl ?_
  refine Ev.up (n := l.length) (g := fun i k => laws_eqPacketS.l0 k l l (i : Int)) ?_ ?_
  · intro i hi ih
    refine Ev.step (fun k => by rw [laws_eqPacketS.l0]) ?_
    repeat (first | (with_reducible refine Ev.ite_pos (by omega) ?_) | (with_reducible refine Ev.ite_neg (by omega) ?_))
    refine Ev.bind0 (eq_Packet (l.getD i z31)) ?_
    refine Ev.ite_pos rfl ?_
    rw [w64n (by omega)]
    exact ih
  · refine Ev.step (fun k => by rw [laws_eqPacketS.l0]) ?_
    repeat (first | (with_reducible refine Ev.ite_pos (by omega) ?_) | (with_reducible refine Ev.ite_neg (by omega) ?_))
    exact Ev.now _
theorem eq_Queue (a0 : (List S31)) (hn : a0.length ≤ 1048576) : Ev (fun k => laws_eqQueue.f k a0 a0) true := by
  unfold laws_eqQueue.f
  refine Ev.bind (eq_PacketS a0 (by omega)) ?_
  refine Ev.ite_pos rfl ?_
  exact Ev.now _
end Go.Proofs.Ytjeobpoonfhjdaa.fnExactFindPacket
