/- Whether a battery suffices, in the program and in the reference. Conditions: none. -/
import Derived.Test.YtaciciobhfoglaaVFnExactSafeSendsNeedsFnExactSafeSends
import Derived.Test.YtaciciobhfoglaaVFnExactSafeSendsBatFnExactSafeSends
namespace Go.Proofs.Ytaciciobhfoglaa.fnExactSafeSends
open Go.RowKit Go.Proofs.YtaciciobhfoglaaW.PrintWords Go.Proofs.YtaciciobhfoglaaW.PrintMore Go.Proofs.Ytaciciobhfoglaa.QFnExactSafeSends Go.Proofs.Ytaciciobhfoglaa.Open Go.Proofs.Ytaciciobhfoglaa.Kit
/-- No need is above the capacity. -/
def fits (c r : Int) (f : Nat → Int) (n : Nat) : Bool := (List.range n).all fun j : Nat => decide (¬ c < r + f (n - j))
theorem fits_iff {c r : Int} {f : Nat → Int} {n : Nat} : fits c r f n = true ↔ ∀ j, j < n → ¬ c < r + f (n - j) := by
  unfold fits
  simp only [List.all_eq_true, List.mem_range, decide_eq_true_eq]
def feas (l : List S100) (lv c r b s g t e : Int) : Bool :=
  decide (Bat lv c r b s g ∧ 0 ≤ t ∧ e ≤ 1000) && (fits c r (nd l b g e) (e - t).toNat && decide (lv ≥ r + needAt l b g t e))
theorem needAt_in {l : List S100} {b g t e : Int} (hb : 0 ≤ b ∧ b ≤ 100) (hg : 0 ≤ g ∧ g ≤ 100) (ht : 0 ≤ t) (he : e ≤ 1000) : needAt l b g t e = nd l b g e (e - t).toNat := by
  unfold needAt
  by_cases h : t < e
  · rw [if_pos ⟨hb, hg, ht, he, h⟩]
  · rw [if_neg (by omega), show (e - t).toNat = 0 by omega]
    rfl
theorem feas1_l0 {l : List S100} (hl : l.length ≤ 1048576) {lv c r b s g t e : Int} (hB : Bat lv c r b s g) (ht : 0 ≤ t) (he : e ≤ 1000) : ∀ (d i : Nat), i + d = (e - t).toNat → (∀ j, j < i → ¬ c < r + nd l b g e ((e - t).toNat - j)) →
    Ev (fun k => spec_IsFeasible.l0 k l t e (t + (i : Int)) lv c r b s g) (fits c r (nd l b g e) (e - t).toNat && decide (lv ≥ r + needAt l b g t e)) := by
  have hB' := hB
  unfold Bat at hB'
  have hb : 0 ≤ b ∧ b ≤ 100 := by omega
  have hg : 0 ≤ g ∧ g ≤ 100 := by omega
  intro d
  induction d with
  | zero =>
    intro i hi hok
    have hbd := nd_bd (l := l) (e := e) hb hg (e - t).toNat
    have hN := needAt_in (l := l) hb hg ht he
    refine Ev.step (fun k => by rw [spec_IsFeasible.l0]) ?_
    refine Ev.ite_neg (by omega) ?_
    refine Ev.bind (need1 l hl lv c r s b g t e) (Ev.some ?_)
    rw [hN, w64 (by omega) (by omega), (fits_iff (n := (e - t).toNat)).2 (fun j hj => hok j (by omega)), Bool.true_and]
  | succ d ih =>
    intro i hi hok
    have hbd := nd_bd (l := l) (e := e) hb hg ((e - t).toNat - i)
    have hN := needAt_in (l := l) (t := t + (i : Int)) (e := e) hb hg (by omega) he
    rw [show (e - (t + (i : Int))).toNat = (e - t).toNat - i by omega] at hN
    refine Ev.step (fun k => by rw [spec_IsFeasible.l0]) ?_
    refine Ev.ite_pos (by omega) ?_
    refine Ev.bind (need1 l hl lv c r s b g (t + (i : Int)) e) ?_
    rw [hN, w64 (x := r + nd l b g e ((e - t).toNat - i)) (by omega) (by omega), w64 (x := t + (i : Int) + 1) (by omega) (by omega)]
    by_cases hc : c < r + nd l b g e ((e - t).toNat - i)
    · refine Ev.ite_pos hc (Ev.some ?_)
      cases hf : fits c r (nd l b g e) (e - t).toNat with
      | true => exact absurd hc (fits_iff.1 hf i (by omega))
      | false => rfl
    · refine Ev.ite_neg hc ?_
      have h1 := ih (i + 1) (by omega) (fun j hj => by
        rcases Nat.lt_succ_iff_lt_or_eq.1 hj with hj | rfl
        · exact hok j hj
        · exact hc)
      rw [show t + (i : Int) + 1 = t + ((i + 1 : Nat) : Int) by omega]
      exact h1
theorem feas1 (l : List S100) (hl : l.length ≤ 1048576) (lv c r b s g t e : Int) : Ev (fun k => spec_IsFeasible.f k lv c r b s g l t e) (feas l lv c r b s g t e) := by
  unfold spec_IsFeasible.f
  have hz : Ev (fun k => spec_IsFeasible.j0 k l t e true lv c r b s g) false := by
    refine Ev.step (fun k => by rw [spec_IsFeasible.j0]) ?_
    exact Ev.ite_pos rfl (Ev.now _)
  refine Ev.bind0 (bat1 lv c r b s g) ?_
  unfold feas
  by_cases hB : Bat lv c r b s g
  · refine Ev.ite_pos (by simpa using hB) ?_
    by_cases h2 : t < 0
    · rw [decide_eq_false (by omega : ¬ (Bat lv c r b s g ∧ 0 ≤ t ∧ e ≤ 1000)), Bool.false_and]
      exact Ev.ite_pos h2 hz
    · refine Ev.ite_neg h2 ?_
      by_cases h3 : e > 1000
      · rw [decide_eq_false (by omega : ¬ (Bat lv c r b s g ∧ 0 ≤ t ∧ e ≤ 1000)), Bool.false_and, decide_eq_true h3]
        exact hz
      · rw [decide_eq_true (show Bat lv c r b s g ∧ 0 ≤ t ∧ e ≤ 1000 from ⟨hB, by omega, by omega⟩), Bool.true_and, decide_eq_false h3]
        refine Ev.step (fun k => by rw [spec_IsFeasible.j0]) ?_
        refine Ev.ite_neg (by simp) ?_
        have h := feas1_l0 (t := t) (e := e) hl hB (by omega) (by omega) (e - t).toNat 0 (by omega) (fun j hj => by omega)
        rw [show t + ((0 : Nat) : Int) = t by omega] at h
        exact h
  · rw [decide_eq_false (show ¬ (Bat lv c r b s g ∧ 0 ≤ t ∧ e ≤ 1000) from fun h => hB h.1), Bool.false_and]
    exact Ev.ite_neg (by simpa using hB) hz
theorem feas2_l0 {l : List S100} {lv c r b s g t e : Int} (hB : Bat lv c r b s g) (ht : 0 ≤ t) (he : e ≤ 1000) : Ev (fun k => impl_IsFeasible.l0 k (needsOf l b g t e) (needsOf l b g t e) ((needsOf l b g t e).length : Int) 0 lv c r b s g) (fits c r (nd l b g e) (e - t).toNat && decide (lv ≥ r + needAt l b g t e)) := by
  have hB' := hB
  unfold Bat at hB'
  have hb : 0 ≤ b ∧ b ≤ 100 := by omega
  have hg : 0 ≤ g ∧ g ≤ 100 := by omega
  have hlen : (needsOf l b g t e).length = (e - t).toNat + 1 := by
    unfold needsOf
    by_cases h : t < e
    · rw [if_pos ⟨hb, hg, ht, he, h⟩]
      simp [ndl]
    · rw [if_neg (by omega), show (e - t).toNat = 0 by omega]
      rfl
  have hget : ∀ j, j ≤ (e - t).toNat → (needsOf l b g t e).getD j 0 = nd l b g e ((e - t).toNat - j) := by
    intro j hj
    unfold needsOf
    by_cases h : t < e
    · rw [if_pos ⟨hb, hg, ht, he, h⟩]
      unfold ndl
      rw [map_range_getD _ (by omega), if_neg (by omega)]
    · rw [if_neg (by omega), show (e - t).toNat = 0 by omega]
      obtain rfl : j = 0 := by omega
      rfl
  have key : ∀ (d i : Nat), i + d = (e - t).toNat + 1 → (∀ j, j < i → ¬ c < r + nd l b g e ((e - t).toNat - j)) → Ev (fun k => impl_IsFeasible.l0 k (needsOf l b g t e) (needsOf l b g t e) ((needsOf l b g t e).length : Int) (i : Int) lv c r b s g) (fits c r (nd l b g e) (e - t).toNat && decide (lv ≥ r + needAt l b g t e)) := by
    intro d
    induction d with
    | zero =>
      intro i hi hok
      have hbd := nd_bd (l := l) (e := e) hb hg (e - t).toNat
      have hN := needAt_in (l := l) hb hg ht he
      refine Ev.step (fun k => by rw [impl_IsFeasible.l0]) ?_
      repeat (first | (with_reducible refine Ev.ite_pos (by omega) ?_) | (with_reducible refine Ev.ite_neg (by omega) ?_))
      refine Ev.some ?_
      have h0 := hget 0 (by omega)
      rw [show rd (needsOf l b g t e) 0 = (needsOf l b g t e).getD 0 0 from rfl, h0, Nat.sub_zero, hN, w64 (by omega) (by omega), (fits_iff (n := (e - t).toNat)).2 (fun j hj => hok j (by omega)), Bool.true_and]
    | succ d ih =>
      intro i hi hok
      have hbd := nd_bd (l := l) (e := e) hb hg ((e - t).toNat - i)
      refine Ev.step (fun k => by rw [impl_IsFeasible.l0]) ?_
      repeat (first | (with_reducible refine Ev.ite_pos (by omega) ?_) | (with_reducible refine Ev.ite_neg (by omega) ?_))
      rw [rd_nat, hget i (by omega), w64 (x := r + nd l b g e ((e - t).toNat - i)) (by omega) (by omega), w64n (by omega)]
      by_cases hc : c < r + nd l b g e ((e - t).toNat - i)
      · refine Ev.ite_pos hc (Ev.some ?_)
        have hin : i < (e - t).toNat := by
          refine Classical.byContradiction fun hn => ?_
          rw [show (e - t).toNat - i = 0 by omega] at hc
          simp only [nd] at hc
          omega
        cases hf : fits c r (nd l b g e) (e - t).toNat with
        | true => exact absurd hc (fits_iff.1 hf i hin)
        | false => rfl
      · refine Ev.ite_neg hc ?_
        exact ih (i + 1) (by omega) (fun j hj => by
          rcases Nat.lt_succ_iff_lt_or_eq.1 hj with hj | rfl
          · exact hok j hj
          · exact hc)
  exact key ((e - t).toNat + 1) 0 (by omega) (fun j hj => by omega)
theorem feas2 (l : List S100) (hl : l.length ≤ 1048576) (lv c r b s g t e : Int) : Ev (fun k => impl_IsFeasible.f k lv c r b s g l t e) (feas l lv c r b s g t e) := by
  unfold impl_IsFeasible.f
  have hz : Ev (fun k => impl_IsFeasible.j0 k l t e true lv c r b s g) false := by
    refine Ev.step (fun k => by rw [impl_IsFeasible.j0]) ?_
    exact Ev.ite_pos rfl (Ev.now _)
  refine Ev.bind0 (bat2 lv c r b s g) ?_
  unfold feas
  by_cases hB : Bat lv c r b s g
  · refine Ev.ite_pos (by simpa using hB) ?_
    by_cases h2 : t < 0
    · rw [decide_eq_false (by omega : ¬ (Bat lv c r b s g ∧ 0 ≤ t ∧ e ≤ 1000)), Bool.false_and]
      exact Ev.ite_pos h2 hz
    · refine Ev.ite_neg h2 ?_
      by_cases h3 : e > 1000
      · rw [decide_eq_false (by omega : ¬ (Bat lv c r b s g ∧ 0 ≤ t ∧ e ≤ 1000)), Bool.false_and, decide_eq_true h3]
        exact hz
      · rw [decide_eq_true (show Bat lv c r b s g ∧ 0 ≤ t ∧ e ≤ 1000 from ⟨hB, by omega, by omega⟩), Bool.true_and, decide_eq_false h3]
        refine Ev.step (fun k => by rw [impl_IsFeasible.j0]) ?_
        refine Ev.ite_neg (by simp) ?_
        refine Ev.bind (needs2 l hl lv c r s b g t e) ?_
        exact feas2_l0 hB (by omega) (by omega)
  · rw [decide_eq_false (show ¬ (Bat lv c r b s g ∧ 0 ≤ t ∧ e ≤ 1000) from fun h => hB h.1), Bool.false_and]
    exact Ev.ite_neg (by simpa using hB) hz
end Go.Proofs.Ytaciciobhfoglaa.fnExactSafeSends
