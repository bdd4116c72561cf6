/- FnExactSendsLeft: the program and the reference count the same sends. Conditions: none. -/
import Derived.Test.YtjeobpoonfhjdaaRowFnExactSendsLeft
import Derived.Test.YtjeobpoonfhjdaaBatFnExactSendsLeft
namespace Go.Proofs.Ytjeobpoonfhjdaa.fnExactSendsLeft
open Go.RowKit Go.Proofs.YtjeobpoonfhjdaaW.PrintWords Go.Proofs.Ytjeobpoonfhjdaa.PFnExactSendsLeft Go.Proofs.Ytjeobpoonfhjdaa.Open Go.Proofs.Ytjeobpoonfhjdaa.Kit
theorem may (l c r b s g n : Int) : impl_MaySend.f l c r b s g n = spec_MaySend.f l c r b s g n := by
  unfold spec_MaySend.f impl_MaySend.f
  simp only [in1, in2, bat1, bat2, Option.bind_some]
theorem may_some (l c r b s g n : Int) : ∃ t, spec_MaySend.f l c r b s g n = some t := by
  unfold spec_MaySend.f
  simp only [in1, bat1, Option.bind_some]
  by_cases h1 : Bat l c r b s g <;> by_cases h2 : 0 ≤ n ∧ n ≤ 10000 <;> simp [h1, h2]
theorem same : ∀ (k : Nat) (n x l c r b s g : Int), impl_SendsLeft.l0 k n x l c r b s g = spec_SendsLeft.l0 k n x l c r b s g
  | 0, _, _, _, _, _, _, _, _ => rfl
  | k + 1, n, x, l, c, r, b, s, g => by
    simp only [impl_SendsLeft.l0, spec_SendsLeft.l0, may, same k]
theorem ends (n c r b s g : Int) : ∀ (d : Nat) (x l : Int), 0 ≤ x → 100 - x = d → ∃ q, Ev (fun k => spec_SendsLeft.l0 k n x l c r b s g) q := by
  intro d
  induction d with
  | zero =>
    intro x l h0 hd
    refine ⟨x, ?_⟩
    refine Ev.step (fun k => by rw [spec_SendsLeft.l0]) ?_
    repeat (first | refine Ev.ite_pos (by omega) ?_ | refine Ev.ite_neg (by omega) ?_)
    exact Ev.now _
  | succ d ih =>
    intro x l h0 hd
    obtain ⟨t, ht⟩ := may_some l c r b s g n
    have hw : wrap64 (x + 1) = x + 1 := w64 (by omega) (by omega)
    cases t with
    | false =>
      refine ⟨x, ?_⟩
      refine Ev.step (fun k => by rw [spec_SendsLeft.l0]) ?_
      repeat (first | refine Ev.ite_pos (by omega) ?_ | refine Ev.ite_neg (by omega) ?_)
      refine Ev.bind0 ht (Ev.ite_neg (by simp) (Ev.now _))
    | true =>
      obtain ⟨q, hq⟩ := ih (x + 1) (wrap64 (l - s)) (by omega) (by omega)
      refine ⟨q, ?_⟩
      refine Ev.step (fun k => by rw [spec_SendsLeft.l0]) ?_
      repeat (first | refine Ev.ite_pos (by omega) ?_ | refine Ev.ite_neg (by omega) ?_)
      refine Ev.bind0 ht ?_
      refine Ev.ite_pos rfl ?_
      rw [hw]
      exact hq
theorem pure : PureFnExactSendsLeft := by
  intro a b c d e f n _ _ _ _ _ _ _
  obtain ⟨q, hq⟩ := ends n b c d e f 100 0 a (by omega) (by omega)
  refine Ev.rounds (r := true) ?_
  unfold laws_FnExactSendsLeft.f laws_toBattery.f
  simp only [Option.bind_some]
  have h1 : Ev (fun k => spec_SendsLeft.f k a b c d e f n) q := hq
  have h2 : Ev (fun k => impl_SendsLeft.f k a b c d e f n) q := Ev.congr (fun k => same k n 0 a b c d e f) hq
  exact Ev.bind h1 (Ev.bind h2 (Ev.ite_pos rfl (Ev.now _)))
end Go.Proofs.Ytjeobpoonfhjdaa.fnExactSendsLeft
namespace Go.Proofs.Ytjeobpoonfhjdaa
theorem fnExactSendsLeft_holds : Rows.FnExactSendsLeftSaid := fnExactSendsLeft.row fnExactSendsLeft.pure
end Go.Proofs.Ytjeobpoonfhjdaa
