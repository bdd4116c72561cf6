/- A packet taken out of a queue, in the program and in the reference. Conditions: none. -/
import Derived.Test.YticepodaobpdlaaVFnQueuesEv
import Derived.Test.YticepodaobpdlaaVFnQueuesQFnQueuesx
namespace Go.Proofs.Yticepodaobpdlaa.fnQueues
open Go.RowKit Go.Proofs.YticepodaobpdlaaW.PrintWords Go.Proofs.YticepodaobpdlaaW.PrintMore Go.Proofs.Yticepodaobpdlaa.QFnQueues Go.Proofs.Yticepodaobpdlaa.Open Go.Proofs.Yticepodaobpdlaa.Kit
theorem ixT (i n : Int) : impl_isIndex.f i n = some (decide (0 ≤ i ∧ i < n)) := by
  unfold impl_isIndex.f
  by_cases h : 0 ≤ i <;> simp [h]
/-- Whether a queue has a place. -/
def okI (l : List S28) (i : Int) : Prop := 0 ≤ i ∧ i < (l.length : Int)
instance (l : List S28) (i : Int) : Decidable (okI l i) := by unfold okI; infer_instance
/-- What is left of the queue, what was taken, and whether. -/
def tkL (l : List S28) (i : Int) : List S28 := if okI l i then l.eraseIdx i.toNat else l
def tkP (l : List S28) (i : Int) : S28 := if okI l i then rd_T28 l i else ⟨0, 0, 0, 0, 0, 0⟩
theorem tkL_len (l : List S28) (i : Int) : (tkL l i).length ≤ l.length := by
  unfold tkL
  split
  · exact List.length_eraseIdx_le l i.toNat
  · exact Nat.le_refl _
theorem take2 (l : List S28) (hl : l.length ≤ 1048576) (i : Int) : impl_TakePacket.f l i = some (tkL l i, (tkP l i).f0, (tkP l i).f1, (tkP l i).f2, (tkP l i).f3, (tkP l i).f4, (tkP l i).f5, decide (okI l i)) := by
  have hc : impl_cloneQueue.f l = some l := by
    unfold impl_cloneQueue.f impl_Packet_26.f
    rw [if_pos (by omega), Option.bind_some]
  unfold impl_TakePacket.f
  rw [hc, Option.bind_some, ixT, Option.bind_some]
  by_cases h : okI l i
  · have h' := h
    unfold okI at h'
    have e1 : tkL l i = l.eraseIdx i.toNat := if_pos h
    have e2 : tkP l i = rd_T28 l i := if_pos h
    unfold impl_Packet_22.f
    rw [if_pos (decide_eq_true h'), w64 (x := i + 1) (by omega) (by omega), if_pos ⟨h'.1, h'.2, rfl⟩, Option.bind_some, if_pos h'.1, if_pos h'.2, e1, e2, decide_eq_true h]
  · have e1 : tkL l i = l := if_neg h
    have e2 : tkP l i = ⟨0, 0, 0, 0, 0, 0⟩ := if_neg h
    have h2 : ¬ (0 ≤ i ∧ i < (l.length : Int)) := h
    rw [if_neg (by simpa using h2), e1, e2, decide_eq_false h]
end Go.Proofs.Yticepodaobpdlaa.fnQueues
