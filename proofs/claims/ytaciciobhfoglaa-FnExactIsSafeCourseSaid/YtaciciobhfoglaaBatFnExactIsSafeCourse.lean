/- Tests of a battery, in the program and in the reference, as one plain Bool. Conditions: none. -/
import Derived.Test.YtaciciobhfoglaaEv
import Derived.Test.YtaciciobhfoglaaQFnExactIsSafeCoursex
namespace Go.Proofs.Ytaciciobhfoglaa.fnExactIsSafeCourse
open Go.RowKit Go.Proofs.YtaciciobhfoglaaW.PrintWords Go.Proofs.YtaciciobhfoglaaW.PrintLast Go.Proofs.YtaciciobhfoglaaW.PrintMore Go.Proofs.Ytaciciobhfoglaa.QFnExactIsSafeCourse Go.Proofs.Ytaciciobhfoglaa.Open Go.Proofs.Ytaciciobhfoglaa.Kit
theorem in1 (a b c : Int) : spec_l1In.f a b c = some (decide (b ≤ a ∧ a ≤ c)) := by
  unfold spec_l1In.f
  by_cases h : b ≤ a <;> simp [h]
theorem in2 (a b c : Int) : impl_InRange.f a b c = some (decide (b ≤ a ∧ a ≤ c)) := by
  unfold impl_InRange.f
  by_cases h : b ≤ a <;> simp [h]
/-- A battery in its ranges. -/
def Bat (l c r b s g : Int) : Prop := (0 ≤ b ∧ b ≤ 100) ∧ (0 ≤ s ∧ s ≤ 100) ∧ (0 ≤ g ∧ g ≤ 100) ∧ (0 ≤ c ∧ c ≤ 10000) ∧ (0 ≤ r ∧ r ≤ c) ∧ (r ≤ l ∧ l ≤ c)
instance (l c r b s g : Int) : Decidable (Bat l c r b s g) := by unfold Bat; infer_instance
theorem bat1 (l c r b s g : Int) : spec_IsBattery.f l c r b s g = some (decide (Bat l c r b s g)) := by
  unfold spec_IsBattery.f spec_l22Rates.f
  simp only [in1, Option.bind_some]
  by_cases h1 : 0 ≤ b ∧ b ≤ 100 <;> by_cases h2 : 0 ≤ g ∧ g ≤ 100 <;> by_cases h3 : 0 ≤ s ∧ s ≤ 100 <;> by_cases h4 : 0 ≤ c ∧ c ≤ 10000 <;> by_cases h5 : 0 ≤ r ∧ r ≤ c <;> simp [Bat, h1, h2, h3, h4, h5]
theorem bat2 (l c r b s g : Int) : impl_IsBattery.f l c r b s g = some (decide (Bat l c r b s g)) := by
  unfold impl_IsBattery.f
  simp only [in2, Option.bind_some]
  by_cases h1 : 0 ≤ b ∧ b ≤ 100 <;> by_cases h2 : 0 ≤ g ∧ g ≤ 100 <;> by_cases h3 : 0 ≤ s ∧ s ≤ 100 <;> by_cases h4 : 0 ≤ c ∧ c ≤ 10000 <;> by_cases h5 : 0 ≤ r ∧ r ≤ c <;> simp [Bat, h1, h2, h3, h4, h5]
end Go.Proofs.Ytaciciobhfoglaa.fnExactIsSafeCourse
