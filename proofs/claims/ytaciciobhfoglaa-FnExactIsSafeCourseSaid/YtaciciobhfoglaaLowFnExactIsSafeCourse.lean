/- The lowest level of a forecast, in the program and in the reference. Conditions: none. -/
import Derived.Test.YtaciciobhfoglaaCourseFnExactIsSafeCourse
namespace Go.Proofs.Ytaciciobhfoglaa.fnExactIsSafeCourse
open Go.RowKit Go.Proofs.YtaciciobhfoglaaW.PrintWords Go.Proofs.YtaciciobhfoglaaW.PrintMore Go.Proofs.Ytaciciobhfoglaa.QFnExactIsSafeCourse Go.Proofs.Ytaciciobhfoglaa.Open Go.Proofs.Ytaciciobhfoglaa.Kit
def low (l : List S100) (c r b s g t v : Int) (ns : List Int) : Int := (course l c r b s g t v ns).foldl mn v
theorem lows1 (L : List Int) (hL : L.length ≤ 1048577) : ∀ (d i : Nat) (m : Int), i + d = L.length → Ev (fun k => spec_LowestOf.l0 k L m (i : Int)) ((L.drop i).foldl mn m) := by
  intro d
  induction d with
  | zero =>
    intro i m hi
    refine Ev.step (fun k => by rw [spec_LowestOf.l0]) ?_
    repeat (first | (with_reducible refine Ev.ite_pos (by omega) ?_) | (with_reducible refine Ev.ite_neg (by omega) ?_))
    refine Ev.some ?_
    rw [List.drop_of_length_le (by omega)]
    rfl
  | succ d ih =>
    intro i m hi
    have h1 := ih (i + 1) (mn m (L.getD i 0)) (by omega)
    refine Ev.step (fun k => by rw [spec_LowestOf.l0]) ?_
    repeat (first | (with_reducible refine Ev.ite_pos (by omega) ?_) | (with_reducible refine Ev.ite_neg (by omega) ?_))
    rw [drop_getD (by omega : i < L.length) 0, List.foldl_cons, rd_nat, w64n (by omega)]
    refine Ev.bind0 (minT m _) ?_
    rw [← mn_def]
    exact h1
theorem low1 {l : List S100} (hl : l.length ≤ 1048576) (ns : List Int) (hns : ns.length ≤ 1048576) (t v c r b s g : Int) (ht : wrap64 t = t) : Ev (fun k => spec_LowestOf.f k v c r b s g l t ns) (low l c r b s g t v ns) := by
  unfold spec_LowestOf.f low
  have hcl : (v :: course l c r b s g t v ns).length = ns.length + 1 := by rw [List.length_cons, course_len]
  refine Ev.bind (fc1 hl ns hns t v c r b s g ht) ?_
  refine Ev.ite_pos (by omega) ?_
  exact lows1 (v :: course l c r b s g t v ns) (by omega) ns.length 1 v (by omega)
theorem low2 {l : List S100} (hl : l.length ≤ 1048576) (ns : List Int) (hns : ns.length ≤ 1048576) (t v c r b s g : Int) : Ev (fun k => impl_LowestOf.f k v c r b s g l t ns) (low l c r b s g t v ns) := by
  unfold impl_LowestOf.f low
  have hcl : (v :: course l c r b s g t v ns).length = ns.length + 1 := by rw [List.length_cons, course_len]
  refine Ev.bind (fc2 hl ns hns t v c r b s g) ?_
  have hm : slices_Min_int_int.f (v :: course l c r b s g t v ns) = some ((course l c r b s g t v ns).foldl mn v) := by
    unfold slices_Min_int_int.f
    rw [if_pos (by omega), if_pos (by omega)]
    rfl
  exact Ev.bind0 hm (Ev.now _)
end Go.Proofs.Ytaciciobhfoglaa.fnExactIsSafeCourse
