/- Whether a tick is in a span, in the reference. Conditions: none. -/
import Derived.Test.YtaciciobhfoglaaQFnExactIsSafeCoursex
import Derived.Test.YtaciciobhfoglaaEv
namespace Go.Proofs.Ytaciciobhfoglaa.fnExactIsSafeCourse
open Go.RowKit Go.Proofs.YtaciciobhfoglaaW.PrintWords Go.Proofs.YtaciciobhfoglaaW.PrintMore Go.Proofs.Ytaciciobhfoglaa.QFnExactIsSafeCourse Go.Proofs.Ytaciciobhfoglaa.Open Go.Proofs.Ytaciciobhfoglaa.Kit
/-- A tick is in a valid span. -/
def inS (s : S100) (t : Int) : Bool := decide (0 ≤ s.f0 ∧ s.f1 ≤ 1000 ∧ s.f0 < s.f1 ∧ s.f0 ≤ t ∧ t < s.f1)
def inSp (l : List S100) (t : Int) : Bool := l.any fun s => inS s t
theorem inSpan1 (s : S100) (t : Int) : spec_InSpan.f s.f0 s.f1 t = some (inS s t) := by
  unfold spec_InSpan.f spec_IsSpan.f inS
  by_cases h1 : 0 ≤ s.f0 <;> by_cases h2 : s.f1 ≤ 1000 <;> by_cases h3 : s.f0 < s.f1 <;> by_cases h4 : s.f0 ≤ t <;> simp [h1, h2, h3, h4]
theorem inSpans1 (l : List S100) (t : Int) (hl : l.length ≤ 1048576) : Ev (fun k => spec_InSpans.f k l t) (inSp l t) := by
  have key : ∀ d i : Nat, i + d = l.length → Ev (fun k => spec_InSpans.l0 k l t (i : Int)) (inSp (l.drop i) t) := by
    intro d
    induction d with
    | zero =>
      intro i hi
      refine Ev.step (fun k => by rw [spec_InSpans.l0]) ?_
      repeat (first | (with_reducible refine Ev.ite_pos (by omega) ?_) | (with_reducible refine Ev.ite_neg (by omega) ?_))
      refine Ev.some ?_
      rw [List.drop_of_length_le (by omega)]
      rfl
    | succ d ih =>
      intro i hi
      have h1 := ih (i + 1) (by omega)
      refine Ev.step (fun k => by rw [spec_InSpans.l0]) ?_
      repeat (first | (with_reducible refine Ev.ite_pos (by omega) ?_) | (with_reducible refine Ev.ite_neg (by omega) ?_))
      rw [drop_getD (by omega : i < l.length) z100]
      refine Ev.bind0 (inSpan1 (l.getD i z100) t) ?_
      cases he : inS (l.getD i z100) t with
      | true =>
        refine Ev.ite_pos rfl (Ev.some ?_)
        unfold inSp
        rw [List.any_cons, he]
        rfl
      | false =>
        refine Ev.ite_neg (by simp) ?_
        rw [w64n (by omega)]
        have e : inSp (l.getD i z100 :: l.drop (i + 1)) t = inSp (l.drop (i + 1)) t := by
          unfold inSp
          rw [List.any_cons, he]
          rfl
        rw [e]
        exact h1
  exact key l.length 0 (by omega)
end Go.Proofs.Ytaciciobhfoglaa.fnExactIsSafeCourse
