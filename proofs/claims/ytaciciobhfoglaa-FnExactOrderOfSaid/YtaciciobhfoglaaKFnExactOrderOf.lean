/- The helpers of the law FnExactOrderOf: sizes, conversions, equality with itself. Conditions: none. -/
import Derived.Test.YtaciciobhfoglaaQFnExactOrderOfx
import Derived.Test.YtaciciobhfoglaaEv
namespace Go.Proofs.Ytaciciobhfoglaa.fnExactOrderOf
open Go.RowKit Go.Proofs.YtaciciobhfoglaaW.PrintWords Go.Proofs.YtaciciobhfoglaaW.PrintLast Go.Proofs.YtaciciobhfoglaaW.PrintMore Go.Proofs.Ytaciciobhfoglaa.QFnExactOrderOf Go.Proofs.Ytaciciobhfoglaa.Open Go.Proofs.Ytaciciobhfoglaa.Kit
def cPacket (x : S140) : S49 := ⟨x.f0, x.f1, x.f2, x.f3, x.f4, x.f5⟩
theorem sz_PacketS (l : List S140) (left : Int) (hb : l.length ≤ 140737488351232) (h0 : 0 ≤ left) (h1 : left ≤ 1048576) : laws_szPacketS.f l left = some (szOf left l.length) := by
  unfold laws_szPacketS.f szOf
  rw [w64 (by omega) (by omega)]
  by_cases h : (l.length : Int) ≤ left
  · rw [if_neg (by omega), if_pos h]
  · rw [if_pos (by omega), if_neg h]
theorem sz_Queue (a0 : (List S140)) (left : Int) (hba0 : a0.length ≤ 140737488351232) (h0 : 0 ≤ left) (h1 : left ≤ 1048576) : laws_szQueue.f a0 left = some (szOf left (a0.length)) := by
  unfold laws_szQueue.f
  rw [(sz_PacketS a0 left hba0 (by omega) (by omega)), Option.bind_some]
  by_cases hc0 : ((a0.length : Nat) : Int) ≤ left
  · have e0 : szOf left (a0.length) = left - ((a0.length : Nat) : Int) := by
      unfold szOf
      rw [if_pos (by omega)]
    rw [e0]
    rw [if_neg (by omega)]
  · have e0 : szOf left (a0.length) = -1 := by
      unfold szOf
      rw [if_neg (by omega)]
    rw [e0]
    rw [if_pos (by omega)]
theorem to_Packet (x : S140) : laws_toPacket.f (x.f0) (x.f1) (x.f2) (x.f3) (x.f4) (x.f5) = some (x.f0, x.f1, x.f2, x.f3, x.f4, x.f5) := by
  unfold laws_toPacket.f
  rfl
theorem to_PacketS (l : List S140) (hn : l.length ≤ 1048576) : Ev (fun k => laws_toPacketS.f k l) (l.map cPacket) := by
  unfold laws_toPacketS.f
  repeat (first | (with_reducible refine Ev.ite_pos (by omega) ?_) | (with_reducible refine Ev.ite_neg (by omega) ?_))
  rw [Int.toNat_natCast, ← fillTo_zero cPacket z49 l]
  refine Ev.up (n := l.length) (g := fun i k => laws_toPacketS.l0 k l (fillTo cPacket z49 l i) (i : Int)) ?_ ?_
  · intro i hi ih
    have hlen := fillTo_length cPacket z49 l (Nat.le_of_lt hi)
    rw [← fillTo_set cPacket z49 l hi z140] at ih
    refine Ev.step (fun k => by rw [laws_toPacketS.l0]) ?_
    repeat (first | (with_reducible refine Ev.ite_pos (by omega) ?_) | (with_reducible refine Ev.ite_neg (by omega) ?_))
    refine Ev.bind0 (to_Packet (l.getD i z140)) ?_
    repeat (first | (with_reducible refine Ev.ite_pos (by omega) ?_) | (with_reducible refine Ev.ite_neg (by omega) ?_))
    rw [Int.toNat_natCast, w64n (by omega)]
    exact ih
  · refine Ev.step (fun k => by rw [laws_toPacketS.l0]) ?_
    repeat (first | (with_reducible refine Ev.ite_pos (by omega) ?_) | (with_reducible refine Ev.ite_neg (by omega) ?_))
    refine Ev.some ?_
    rw [fillTo_all]
theorem to_Queue (a0 : (List S140)) (hn : a0.length ≤ 1048576) : Ev (fun k => laws_toQueue.f k a0) ((a0.map cPacket)) := by
  unfold laws_toQueue.f
  refine Ev.bind (to_PacketS (a0) (by omega)) ?_
  exact Ev.now _
theorem eq_IntS (l : List Int) (hn : l.length ≤ 2097152) : Ev (fun k => laws_eqIntS.f k l l) true := by
  unfold laws_eqIntS.f
  refine Ev.ite_pos rfl ?_
  refine Ev.up (n := l.length) (g := fun i k => laws_eqIntS.l0 k l l (i : Int)) ?_ ?_
  · intro i hi ih
    refine Ev.step (fun k => by rw [laws_eqIntS.l0]) ?_
    repeat (first | (with_reducible refine Ev.ite_pos (by omega) ?_) | (with_reducible refine Ev.ite_neg (by omega) ?_))
    rw [w64n (by omega)]
    exact ih
  · refine Ev.step (fun k => by rw [laws_eqIntS.l0]) ?_
    repeat (first | (with_reducible refine Ev.ite_pos (by omega) ?_) | (with_reducible refine Ev.ite_neg (by omega) ?_))
    exact Ev.now _
theorem eq_Packet (x : S49) : laws_eqPacket.f (x.f0) (x.f1) (x.f2) (x.f3) (x.f4) (x.f5) (x.f0) (x.f1) (x.f2) (x.f3) (x.f4) (x.f5) = some true := by
  unfold laws_eqPacket.f
  simp
theorem eq_PacketS (l : List S49) (hn : l.length ≤ 1048576) : Ev (fun k => laws_eqPacketS.f k l l) true := by
  unfold laws_eqPacketS.f
  refine Ev.ite_pos rfl ?_
  refine Ev.up (n := l.length) (g := fun i k => laws_eqPacketS.l0 k l l (i : Int)) ?_ ?_
  · intro i hi ih
    refine Ev.step (fun k => by rw [laws_eqPacketS.l0]) ?_
    repeat (first | (with_reducible refine Ev.ite_pos (by omega) ?_) | (with_reducible refine Ev.ite_neg (by omega) ?_))
    refine Ev.bind0 (eq_Packet (l.getD i z49)) ?_
    refine Ev.ite_pos rfl ?_
    rw [w64n (by omega)]
    exact ih
  · refine Ev.step (fun k => by rw [laws_eqPacketS.l0]) ?_
    repeat (first | (with_reducible refine Ev.ite_pos (by omega) ?_) | (with_reducible refine Ev.ite_neg (by omega) ?_))
    exact Ev.now _
theorem eq_Queue (a0 : (List S49)) (hn : a0.length ≤ 1048576) : Ev (fun k => laws_eqQueue.f k a0 a0) true := by
  unfold laws_eqQueue.f
  refine Ev.bind (eq_PacketS a0 (by omega)) ?_
  refine Ev.ite_pos rfl ?_
  exact Ev.now _
def cntInt (a : Int) (n : Nat) : List Int := (List.range n).map fun j : Nat => a + (j : Int)
theorem mark_IntS (l : List Int) (a : Int) (h0 : 0 ≤ a) (h1 : a ≤ 1000000000) (hl : l.length ≤ 2097152) : Ev (fun k => laws_markIntS.f k l a) (a + (l.length : Int), cntInt a l.length) := by
  have e1 : cntInt a 0 ++ l.drop 0 = l := by simp [cntInt]
  have e2 : a + ((0 : Nat) : Int) = a := by omega
  show Ev (fun k => laws_markIntS.l0 k l a 0) _
  rw [show (fun k => laws_markIntS.l0 k l a 0) = (fun k => laws_markIntS.l0 k (cntInt a 0 ++ l.drop 0) (a + ((0 : Nat) : Int)) ((0 : Nat) : Int)) by rw [e1, e2]; rfl]
  refine Ev.up (n := l.length) (g := fun i k => laws_markIntS.l0 k (cntInt a i ++ l.drop i) (a + (i : Int)) (i : Int)) ?_ ?_
  · intro i hi ih
    have hlen : (cntInt a i).length = i := by simp [cntInt]
    have hlen2 : (cntInt a i ++ l.drop i).length = l.length := by rw [List.length_append, hlen, List.length_drop]; omega
    refine Ev.step (fun k => by rw [laws_markIntS.l0]) ?_
    repeat (first | (with_reducible refine Ev.ite_pos (by omega) ?_) | (with_reducible refine Ev.ite_neg (by omega) ?_))
    rw [drop_getD hi 0]
    have w0 : wrap64 (a + (i : Int) + 1) = a + (i : Int) + 1 := w64 (by omega) (by omega)
    simp only [Int.toNat_natCast, set_mid _ _ _ _ hlen, w0, w64n (by omega : i ≤ 140737488351232)]
    have e3 : cntInt a (i + 1) ++ l.drop (i + 1) = cntInt a i ++ (a + (i : Int)) :: l.drop (i + 1) := by
      simp [cntInt, List.range_succ]
    have e4 : a + ((i + 1 : Nat) : Int) = a + (i : Int) + 1 := by omega
    rw [e3, e4] at ih
    exact ih
  · have hlen2 : (cntInt a l.length ++ l.drop l.length).length = l.length := by simp [cntInt]
    refine Ev.step (fun k => by rw [laws_markIntS.l0]) ?_
    repeat (first | (with_reducible refine Ev.ite_pos (by omega) ?_) | (with_reducible refine Ev.ite_neg (by omega) ?_))
    refine Ev.some ?_
    simp
theorem held_IntS (n : Nat) (a : Int) (h0 : 0 ≤ a) (h1 : a ≤ 1000000000) (hl : n ≤ 2097152) : Ev (fun k => laws_heldIntS.f k (cntInt a n) a) (a + (n : Int)) := by
  have hlen : (cntInt a n).length = n := by simp [cntInt]
  have e2 : a + ((0 : Nat) : Int) = a := by omega
  show Ev (fun k => laws_heldIntS.l0 k (cntInt a n) a 0) _
  rw [show (fun k => laws_heldIntS.l0 k (cntInt a n) a 0) = (fun k => laws_heldIntS.l0 k (cntInt a n) (a + ((0 : Nat) : Int)) ((0 : Nat) : Int)) by rw [e2]; rfl]
  refine Ev.up (n := n) (g := fun i k => laws_heldIntS.l0 k (cntInt a n) (a + (i : Int)) (i : Int)) ?_ ?_
  · intro i hi ih
    have hg : rd (cntInt a n) (i : Int) = a + (i : Int) := map_range_getD _ hi _
    refine Ev.step (fun k => by rw [laws_heldIntS.l0]) ?_
    repeat (first | (with_reducible refine Ev.ite_pos (by omega) ?_) | (with_reducible refine Ev.ite_neg (by omega) ?_))
    have w0 : wrap64 (a + (i : Int) + 1) = a + (i : Int) + 1 := w64 (by omega) (by omega)
    simp only [w0, w64n (by omega : i ≤ 140737488351232)]
    have e4 : a + ((i + 1 : Nat) : Int) = a + (i : Int) + 1 := by omega
    rw [e4] at ih
    exact ih
  · refine Ev.step (fun k => by rw [laws_heldIntS.l0]) ?_
    repeat (first | (with_reducible refine Ev.ite_pos (by omega) ?_) | (with_reducible refine Ev.ite_neg (by omega) ?_))
    exact Ev.now _
def mkPacket (b : Int) : S49 := ⟨b, b + 1, b + 1 + 1, b + 1 + 1 + 1, b + 1 + 1 + 1 + 1, b + 1 + 1 + 1 + 1 + 1⟩
def cntPacket (a : Int) (n : Nat) : List S49 := (List.range n).map fun j : Nat => mkPacket (a + 6 * (j : Int))
theorem mark_PacketS (l : List S49) (a : Int) (h0 : 0 ≤ a) (h1 : a ≤ 1000000000) (hl : l.length ≤ 2097152) : Ev (fun k => laws_markPacketS.f k l a) (a + 6 * (l.length : Int), cntPacket a l.length) := by
  have e1 : cntPacket a 0 ++ l.drop 0 = l := by simp [cntPacket]
  have e2 : a + 6 * ((0 : Nat) : Int) = a := by omega
  show Ev (fun k => laws_markPacketS.l0 k l a 0) _
  rw [show (fun k => laws_markPacketS.l0 k l a 0) = (fun k => laws_markPacketS.l0 k (cntPacket a 0 ++ l.drop 0) (a + 6 * ((0 : Nat) : Int)) ((0 : Nat) : Int)) by rw [e1, e2]; rfl]
  refine Ev.up (n := l.length) (g := fun i k => laws_markPacketS.l0 k (cntPacket a i ++ l.drop i) (a + 6 * (i : Int)) (i : Int)) ?_ ?_
  · intro i hi ih
    have hlen : (cntPacket a i).length = i := by simp [cntPacket]
    have hlen2 : (cntPacket a i ++ l.drop i).length = l.length := by rw [List.length_append, hlen, List.length_drop]; omega
    refine Ev.step (fun k => by rw [laws_markPacketS.l0]) ?_
    repeat (first | (with_reducible refine Ev.ite_pos (by omega) ?_) | (with_reducible refine Ev.ite_neg (by omega) ?_))
    rw [drop_getD hi z49]
    have w0 : wrap64 (a + 6 * (i : Int) + 1) = a + 6 * (i : Int) + 1 := w64 (by omega) (by omega)
    have w1 : wrap64 (a + 6 * (i : Int) + 1 + 1) = a + 6 * (i : Int) + 1 + 1 := w64 (by omega) (by omega)
    have w2 : wrap64 (a + 6 * (i : Int) + 1 + 1 + 1) = a + 6 * (i : Int) + 1 + 1 + 1 := w64 (by omega) (by omega)
    have w3 : wrap64 (a + 6 * (i : Int) + 1 + 1 + 1 + 1) = a + 6 * (i : Int) + 1 + 1 + 1 + 1 := w64 (by omega) (by omega)
    have w4 : wrap64 (a + 6 * (i : Int) + 1 + 1 + 1 + 1 + 1) = a + 6 * (i : Int) + 1 + 1 + 1 + 1 + 1 := w64 (by omega) (by omega)
    have w5 : wrap64 (a + 6 * (i : Int) + 1 + 1 + 1 + 1 + 1 + 1) = a + 6 * (i : Int) + 1 + 1 + 1 + 1 + 1 + 1 := w64 (by omega) (by omega)
    simp only [rd_T49, getD_mid _ _ _ _ hlen, Option.bind_some, Int.toNat_natCast, set_mid _ _ _ _ hlen, w0, w1, w2, w3, w4, w5, w64n (by omega : i ≤ 140737488351232)]
    have e3 : cntPacket a (i + 1) ++ l.drop (i + 1) = cntPacket a i ++ mkPacket (a + 6 * (i : Int)) :: l.drop (i + 1) := by
      simp [cntPacket, List.range_succ]
    have e4 : a + 6 * ((i + 1 : Nat) : Int) = a + 6 * (i : Int) + 1 + 1 + 1 + 1 + 1 + 1 := by omega
    rw [e3, e4] at ih
    exact ih
  · have hlen2 : (cntPacket a l.length ++ l.drop l.length).length = l.length := by simp [cntPacket]
    refine Ev.step (fun k => by rw [laws_markPacketS.l0]) ?_
    repeat (first | (with_reducible refine Ev.ite_pos (by omega) ?_) | (with_reducible refine Ev.ite_neg (by omega) ?_))
    refine Ev.some ?_
    simp
end Go.Proofs.Ytaciciobhfoglaa.fnExactOrderOf
