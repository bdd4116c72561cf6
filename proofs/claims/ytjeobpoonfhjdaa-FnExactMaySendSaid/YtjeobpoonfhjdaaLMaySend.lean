/- FnExactMaySend: the program and the reference agree on who may send. Conditions: none. -/
import Derived.Test.YtjeobpoonfhjdaaRowFnExactMaySend
import Derived.Test.YtjeobpoonfhjdaaBatFnExactMaySend
namespace Go.Proofs.Ytjeobpoonfhjdaa.fnExactMaySend
open Go.RowKit Go.Proofs.YtjeobpoonfhjdaaW.PrintWords Go.Proofs.Ytjeobpoonfhjdaa.PFnExactMaySend Go.Proofs.Ytjeobpoonfhjdaa.Open Go.Proofs.Ytjeobpoonfhjdaa.Kit
theorem pure : PureFnExactMaySend := by
  intro a b c d e f n _ _ _ _ _ _ _
  unfold laws_FnExactMaySend.f laws_toBattery.f spec_MaySend.f impl_MaySend.f
  simp only [in1, in2, bat1, bat2, Option.bind_some]
  by_cases h1 : Bat a b c d e f <;> by_cases h2 : 0 ≤ n ∧ n ≤ 10000 <;> simp [h1, h2]
end Go.Proofs.Ytjeobpoonfhjdaa.fnExactMaySend
namespace Go.Proofs.Ytjeobpoonfhjdaa
theorem fnExactMaySend_holds : Rows.FnExactMaySendSaid := fnExactMaySend.row fnExactMaySend.pure
end Go.Proofs.Ytjeobpoonfhjdaa
