/- How often a battery may send, in the program and in the reference. Conditions: none. -/
import Derived.Test.YtaciciobhfoglaaVFnExactSafeSendsBatFnExactSafeSends
namespace Go.Proofs.Ytaciciobhfoglaa.fnExactSafeSends
open Go.RowKit Go.Proofs.YtaciciobhfoglaaW.PrintWords Go.Proofs.YtaciciobhfoglaaW.PrintMore Go.Proofs.Ytaciciobhfoglaa.QFnExactSafeSends Go.Proofs.Ytaciciobhfoglaa.Open Go.Proofs.Ytaciciobhfoglaa.Kit
theorem may (l c r b s g n : Int) : impl_MaySend.f l c r b s g n = spec_MaySend.f l c r b s g n := by
  unfold spec_MaySend.f impl_MaySend.f
  simp only [in1, in2, bat1, bat2, Option.bind_some]
theorem may_some (l c r b s g n : Int) : ∃ t, spec_MaySend.f l c r b s g n = some t := by
  unfold spec_MaySend.f
  simp only [in1, bat1, Option.bind_some]
  by_cases h1 : Bat l c r b s g <;> by_cases h2 : 0 ≤ n ∧ n ≤ 10000 <;> simp [h1, h2]
theorem sends_same : ∀ (k : Nat) (n x l c r b s g : Int), impl_SendsLeft.l0 k n x l c r b s g = spec_SendsLeft.l0 k n x l c r b s g
  | 0, _, _, _, _, _, _, _, _ => rfl
  | k + 1, n, x, l, c, r, b, s, g => by
    simp only [impl_SendsLeft.l0, spec_SendsLeft.l0, may, sends_same k]
theorem sends_end (n c r b s g : Int) : ∀ (d : Nat) (x l : Int), 0 ≤ x → 100 - x = d → ∃ q, Ev (fun k => spec_SendsLeft.l0 k n x l c r b s g) q := by
  intro d
  induction d with
  | zero =>
    intro x l h0 hd
    refine ⟨x, ?_⟩
    refine Ev.step (fun k => by rw [spec_SendsLeft.l0]) ?_
    repeat (first | (with_reducible refine Ev.ite_pos (by omega) ?_) | (with_reducible refine Ev.ite_neg (by omega) ?_))
    exact Ev.now _
  | succ d ih =>
    intro x l h0 hd
    obtain ⟨t, ht⟩ := may_some l c r b s g n
    have hw : wrap64 (x + 1) = x + 1 := w64 (by omega) (by omega)
    cases t with
    | false =>
      refine ⟨x, ?_⟩
      refine Ev.step (fun k => by rw [spec_SendsLeft.l0]) ?_
      repeat (first | (with_reducible refine Ev.ite_pos (by omega) ?_) | (with_reducible refine Ev.ite_neg (by omega) ?_))
      refine Ev.bind0 ht (Ev.ite_neg (by simp) (Ev.now _))
    | true =>
      obtain ⟨q, hq⟩ := ih (x + 1) (wrap64 (l - s)) (by omega) (by omega)
      refine ⟨q, ?_⟩
      refine Ev.step (fun k => by rw [spec_SendsLeft.l0]) ?_
      repeat (first | (with_reducible refine Ev.ite_pos (by omega) ?_) | (with_reducible refine Ev.ite_neg (by omega) ?_))
      refine Ev.bind0 ht ?_
      refine Ev.ite_pos rfl ?_
      rw [hw]
      exact hq
noncomputable def sendsL (v c r b s g n : Int) : Int := Classical.choose (sends_end n c r b s g 100 0 v (by omega) (by omega))
theorem sends1 (v c r b s g n : Int) : Ev (fun k => spec_SendsLeft.f k v c r b s g n) (sendsL v c r b s g n) := Classical.choose_spec (sends_end n c r b s g 100 0 v (by omega) (by omega))
theorem sends2 (v c r b s g n : Int) : Ev (fun k => impl_SendsLeft.f k v c r b s g n) (sendsL v c r b s g n) := Ev.congr (fun k => sends_same k n 0 v c r b s g) (sends1 v c r b s g n)
end Go.Proofs.Ytaciciobhfoglaa.fnExactSafeSends
