/- FnExactIsPacket: the program's and the reference's tests of a packet agree. Conditions: none. -/
import Derived.Test.YtjeobpoonfhjdaaRowFnExactIsPacket
import Derived.Test.YtjeobpoonfhjdaaEv
namespace Go.Proofs.Ytjeobpoonfhjdaa.fnExactIsPacket
open Go.RowKit Go.Proofs.YtjeobpoonfhjdaaW.PrintWords Go.Proofs.Ytjeobpoonfhjdaa.PFnExactIsPacket Go.Proofs.Ytjeobpoonfhjdaa.Open Go.Proofs.Ytjeobpoonfhjdaa.Kit
theorem in1 (a b c : Int) : spec_l1In.f a b c = some (decide (b ≤ a ∧ a ≤ c)) := by
  unfold spec_l1In.f
  by_cases h : b ≤ a <;> simp [h]
theorem in2 (a b c : Int) : impl_InRange.f a b c = some (decide (b ≤ a ∧ a ≤ c)) := by
  unfold impl_InRange.f
  by_cases h : b ≤ a <;> simp [h]
theorem ix (a n : Int) : impl_isIndex.f a n = some (decide (0 ≤ a ∧ a < n)) := by
  unfold impl_isIndex.f
  by_cases h : 0 ≤ a <;> simp [h]
theorem pure : PureFnExactIsPacket := by
  intro a b c d e f n _ _ _ _ _ _ _
  unfold laws_FnExactIsPacket.f laws_toPacket.f spec_IsPacket.f impl_IsPacket.f
  simp only [in1, in2, ix, Option.bind_some]
  by_cases h1 : 0 ≤ a ∧ a ≤ 9999 <;> by_cases h2 : 0 ≤ b ∧ b ≤ 9999 <;> by_cases h3 : 0 ≤ c ∧ c ≤ 9999 <;> by_cases h4 : 0 ≤ d <;> by_cases h5 : d < n <;> by_cases h6 : 0 ≤ e <;> by_cases h7 : e < n <;> by_cases h8 : d = e <;> by_cases h9 : 0 ≤ f ∧ f ≤ 1 <;> simp [h1, h2, h3, h4, h5, h6, h7, h8, h9]
end Go.Proofs.Ytjeobpoonfhjdaa.fnExactIsPacket
namespace Go.Proofs.Ytjeobpoonfhjdaa
theorem fnExactIsPacket_holds : Rows.FnExactIsPacketSaid := fnExactIsPacket.row fnExactIsPacket.pure
end Go.Proofs.Ytjeobpoonfhjdaa
