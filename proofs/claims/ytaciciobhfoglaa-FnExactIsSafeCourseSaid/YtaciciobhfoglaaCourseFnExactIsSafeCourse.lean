/- The forecast of a battery, in the program and in the reference. Conditions: none. -/
import Derived.Test.YtaciciobhfoglaaInSp2FnExactIsSafeCourse
import Derived.Test.YtaciciobhfoglaaTickFnExactIsSafeCourse
namespace Go.Proofs.Ytaciciobhfoglaa.fnExactIsSafeCourse
open Go.RowKit Go.Proofs.YtaciciobhfoglaaW.PrintWords Go.Proofs.YtaciciobhfoglaaW.PrintMore Go.Proofs.Ytaciciobhfoglaa.QFnExactIsSafeCourse Go.Proofs.Ytaciciobhfoglaa.Open Go.Proofs.Ytaciciobhfoglaa.Kit
/-- The levels behind the ticks from t on. -/
def course (l : List S100) (c r b s g : Int) : Int → Int → List Int → List Int
  | _, _, [] => []
  | t, v, n :: ns => tickL v c r b s g (inSp l (wrap64 t)) n :: course l c r b s g (t + 1) (tickL v c r b s g (inSp l (wrap64 t)) n) ns
theorem course_len (l : List S100) (c r b s g : Int) : ∀ (ns : List Int) (t v : Int), (course l c r b s g t v ns).length = ns.length
  | [], _, _ => rfl
  | n :: ns, t, v => by
    simp only [course, List.length_cons, course_len l c r b s g ns]
theorem wrap_succ (t : Int) : wrap64 (wrap64 t + 1) = wrap64 (t + 1) := by
  unfold wrap64
  omega
theorem fc1 {l : List S100} (hl : l.length ≤ 1048576) (ns : List Int) (hns : ns.length ≤ 1048576) (t v c r b s g : Int) (ht : wrap64 t = t) : Ev (fun k => spec_ForecastOf.f k v c r b s g l t ns) (v :: course l c r b s g t v ns) := by
  have key : ∀ (d i : Nat) (v : Int) (acc : List Int), i + d = ns.length → acc.length = i + 1 → Ev (fun k => spec_ForecastOf.l0 k l ns acc (wrap64 (t + (i : Int))) (i : Int) v c r b s g) (acc ++ course l c r b s g (t + (i : Int)) v (ns.drop i)) := by
    intro d
    induction d with
    | zero =>
      intro i v acc hi ha
      refine Ev.step (fun k => by rw [spec_ForecastOf.l0]) ?_
      repeat (first | (with_reducible refine Ev.ite_pos (by omega) ?_) | (with_reducible refine Ev.ite_neg (by omega) ?_))
      refine Ev.some ?_
      rw [List.drop_of_length_le (by omega), course, List.append_nil]
    | succ d ih =>
      intro i v acc hi ha
      refine Ev.step (fun k => by rw [spec_ForecastOf.l0]) ?_
      repeat (first | (with_reducible refine Ev.ite_pos (by omega) ?_) | (with_reducible refine Ev.ite_neg (by omega) ?_))
      rw [drop_getD (by omega : i < ns.length) 0]
      refine Ev.bind (inSpans1 l _ hl) ?_
      repeat (first | (with_reducible refine Ev.ite_pos (by omega) ?_) | (with_reducible refine Ev.ite_neg (by omega) ?_))
      refine Ev.bind (tick1L v c r b s g _ _) ?_
      repeat (first | (with_reducible refine Ev.ite_pos (by omega) ?_) | (with_reducible refine Ev.ite_neg (by omega) ?_))
      simp only []
      rw [wrap_succ, w64n (by omega), rd_nat]
      have h1 := ih (i + 1) (tickL v c r b s g (inSp l (wrap64 (t + (i : Int)))) (ns.getD i 0)) (acc ++ [tickL v c r b s g (inSp l (wrap64 (t + (i : Int)))) (ns.getD i 0)]) (by omega) (by simp; omega)
      rw [List.append_assoc, show t + ((i + 1 : Nat) : Int) = t + (i : Int) + 1 by omega] at h1
      exact h1
  have h := key ns.length 0 v [v] (by omega) rfl
  rw [show t + ((0 : Nat) : Int) = t by omega, ht] at h
  exact h
theorem fc2 {l : List S100} (hl : l.length ≤ 1048576) (ns : List Int) (hns : ns.length ≤ 1048576) (t v c r b s g : Int) : Ev (fun k => impl_ForecastOf.f k v c r b s g l t ns) (v :: course l c r b s g t v ns) := by
  have key : ∀ (d i : Nat) (v : Int) (acc : List Int), i + d = ns.length → acc.length = i + 1 → Ev (fun k => impl_ForecastOf.l0 k l t acc ns (ns.length : Int) (i : Int) v c r b s g) (acc ++ course l c r b s g (t + (i : Int)) v (ns.drop i)) := by
    intro d
    induction d with
    | zero =>
      intro i v acc hi ha
      refine Ev.step (fun k => by rw [impl_ForecastOf.l0]) ?_
      repeat (first | (with_reducible refine Ev.ite_pos (by omega) ?_) | (with_reducible refine Ev.ite_neg (by omega) ?_))
      refine Ev.some ?_
      rw [List.drop_of_length_le (by omega), course, List.append_nil]
    | succ d ih =>
      intro i v acc hi ha
      refine Ev.step (fun k => by rw [impl_ForecastOf.l0]) ?_
      repeat (first | (with_reducible refine Ev.ite_pos (by omega) ?_) | (with_reducible refine Ev.ite_neg (by omega) ?_))
      rw [drop_getD (by omega : i < ns.length) 0]
      refine Ev.bind (inSpans2 l _ hl) ?_
      refine Ev.bind0 (tick2L v c r b s g _ _) ?_
      repeat (first | (with_reducible refine Ev.ite_pos (by omega) ?_) | (with_reducible refine Ev.ite_neg (by omega) ?_))
      simp only []
      rw [w64n (by omega), rd_nat]
      have h1 := ih (i + 1) (tickL v c r b s g (inSp l (wrap64 (t + (i : Int)))) (ns.getD i 0)) (acc ++ [tickL v c r b s g (inSp l (wrap64 (t + (i : Int)))) (ns.getD i 0)]) (by omega) (by simp; omega)
      rw [List.append_assoc, show t + ((i + 1 : Nat) : Int) = t + (i : Int) + 1 by omega] at h1
      exact h1
  have h := key ns.length 0 v [v] (by omega) rfl
  rw [show t + ((0 : Nat) : Int) = t by omega] at h
  exact h
end Go.Proofs.Ytaciciobhfoglaa.fnExactIsSafeCourse
