/- FnExactIsBattery: the program's and the reference's tests of a battery agree. Conditions: none. -/
import Derived.Test.YtjeobpoonfhjdaaRowFnExactIsBattery
import Derived.Test.YtjeobpoonfhjdaaEv
namespace Go.Proofs.Ytjeobpoonfhjdaa.fnExactIsBattery
open Go.RowKit Go.Proofs.YtjeobpoonfhjdaaW.PrintWords Go.Proofs.Ytjeobpoonfhjdaa.PFnExactIsBattery Go.Proofs.Ytjeobpoonfhjdaa.Open Go.Proofs.Ytjeobpoonfhjdaa.Kit
theorem in1 (a b c : Int) : spec_l1In.f a b c = some (decide (b ≤ a ∧ a ≤ c)) := by
  unfold spec_l1In.f
  by_cases h : b ≤ a <;> simp [h]
theorem in2 (a b c : Int) : impl_InRange.f a b c = some (decide (b ≤ a ∧ a ≤ c)) := by
  unfold impl_InRange.f
  by_cases h : b ≤ a <;> simp [h]
theorem pure : PureFnExactIsBattery := by
  intro a b c d e f _ _ _ _ _ _
  unfold laws_FnExactIsBattery.f laws_toBattery.f spec_IsBattery.f impl_IsBattery.f spec_l22Rates.f
  simp only [in1, in2, Option.bind_some]
  by_cases h1 : 0 ≤ d ∧ d ≤ 100 <;> by_cases h2 : 0 ≤ f ∧ f ≤ 100 <;> by_cases h3 : 0 ≤ e ∧ e ≤ 100 <;> by_cases h4 : 0 ≤ b ∧ b ≤ 10000 <;> by_cases h5 : 0 ≤ c ∧ c ≤ b <;> simp [h1, h2, h3, h4, h5]
end Go.Proofs.Ytjeobpoonfhjdaa.fnExactIsBattery
namespace Go.Proofs.Ytjeobpoonfhjdaa
theorem fnExactIsBattery_holds : Rows.FnExactIsBatterySaid := fnExactIsBattery.row fnExactIsBattery.pure
end Go.Proofs.Ytjeobpoonfhjdaa
