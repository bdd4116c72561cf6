/- Whether a piece has a link, in the program and in the reference. Conditions: none. -/
import Derived.Test.YtadpbpocbfjboaaPgBFnExactMayUse
namespace Go.Proofs.Ytadpbpocbfjboaa.fnExactMayUse
open Go.RowKit Go.Proofs.YtadpbpocbfjboaaW.PrintWords Go.Proofs.YtadpbpocbfjboaaW.PrintMore Go.Proofs.Ytadpbpocbfjboaa.QFnExactMayUse Go.Proofs.Ytadpbpocbfjboaa.Open Go.Proofs.Ytadpbpocbfjboaa.Kit
theorem in1 (a b c : Int) : spec_l1In.f a b c = some (decide (b ≤ a ∧ a ≤ c)) := by
  unfold spec_l1In.f
  by_cases h : b ≤ a <;> simp [h]
theorem isIx (i n : Int) : impl_isIndex.f i n = some (decide (0 ≤ i ∧ i < n)) := by
  unfold impl_isIndex.f
  by_cases h : 0 ≤ i <;> simp [h]
def linkB (p : List S69) (k a b : Int) : Bool := decide (0 ≤ k ∧ k < (p.length : Int)) && decide (impl_HasLink.go a b (rd_T69 p k).f1 0 ≥ 0)
theorem links1 (l : List S71) (hl : l.length ≤ 1048576) (a b : Int) : Ev (fun k => spec_HasLink.l0 k a b l 0) (decide (impl_HasLink.go a b l 0 ≥ 0)) := by
  have key : ∀ d i : Nat, i + d = l.length → Ev (fun k => spec_HasLink.l0 k a b l (i : Int)) (decide (impl_HasLink.go a b (l.drop i) i ≥ 0)) := by
    intro d
    induction d with
    | zero =>
      intro i hi
      refine Ev.step (fun k => by rw [spec_HasLink.l0]) ?_
      repeat (first | (with_reducible refine Ev.ite_pos (by omega) ?_) | (with_reducible refine Ev.ite_neg (by omega) ?_))
      refine Ev.some ?_
      rw [List.drop_of_length_le (by omega), impl_HasLink.go]
      rfl
    | succ d ih =>
      intro i hi
      have h1 := ih (i + 1) (by omega)
      refine Ev.step (fun k => by rw [spec_HasLink.l0]) ?_
      repeat (first | (with_reducible refine Ev.ite_pos (by omega) ?_) | (with_reducible refine Ev.ite_neg (by omega) ?_))
      rw [drop_getD (by omega : i < l.length) z71, show rd_T71 l (i : Int) = l.getD i z71 from rfl, w64n (by omega), impl_HasLink.go]
      generalize l.getD i z71 = x
      unfold impl_HasLink.hit
      cases c1 : (x.f0 == a && x.f1 == b) with
      | true =>
        refine Ev.ite_pos rfl (Ev.some ?_)
        rw [if_pos (by rfl), decide_eq_true (by omega)]
      | false =>
        refine Ev.ite_neg (by simp) ?_
        cases c2 : (x.f0 == b && x.f1 == a) with
        | true =>
          refine Ev.ite_pos rfl (Ev.some ?_)
          rw [if_pos (by rfl), decide_eq_true (by omega)]
        | false =>
          refine Ev.ite_neg (by simp) ?_
          rw [if_neg (by decide)]
          exact h1
  exact key l.length 0 (by omega)
theorem link_in {p : List S69} (hp : nPgI p ≤ 1048576) {k : Int} (h : 0 ≤ k ∧ k < (p.length : Int)) : (rd_T69 p k).f1.length ≤ 1048576 := by
  have hm := le_sum n69 (getD_mem (show k.toNat < p.length by omega) z69)
  unfold nPgI at hp
  unfold n69 at hm hp
  show (p.getD k.toNat z69).f1.length ≤ 1048576
  omega
theorem link1 (p : List S69) (hp : nPgI p ≤ 1048576) (n a0 s k a b : Int) : Ev (fun r => spec_HasLink.f r n a0 s p k a b) (linkB p k a b) := by
  have hl : p.length ≤ 1048576 := by unfold nPgI at hp; omega
  unfold spec_HasLink.f linkB
  refine Ev.bind0 (in1 k 0 _) ?_
  rw [w64 (x := (p.length : Int) - 1) (by omega) (by omega)]
  by_cases h : 0 ≤ k ∧ k < (p.length : Int)
  · rw [decide_eq_true h, Bool.true_and, decide_eq_true (show 0 ≤ k ∧ k ≤ (p.length : Int) - 1 by omega)]
    refine Ev.ite_pos rfl (Ev.ite_pos h.1 (Ev.ite_pos h.2 ?_))
    exact links1 _ (link_in hp h) a b
  · rw [decide_eq_false h, Bool.false_and, decide_eq_false (show ¬ (0 ≤ k ∧ k ≤ (p.length : Int) - 1) by omega)]
    exact Ev.ite_neg (by simp) (Ev.now _)
theorem link2 (p : List S69) (hp : nPgI p ≤ 1048576) (n a0 s k a b : Int) : impl_HasLink.f n a0 s p k a b = some (linkB p k a b) := by
  unfold impl_HasLink.f linkB
  rw [isIx, Option.bind_some]
  by_cases h : 0 ≤ k ∧ k < (p.length : Int)
  · have := link_in hp h
    rw [decide_eq_true h, Bool.true_and, if_pos rfl, if_pos h.1, if_pos h.2, if_pos (by omega)]
  · rw [decide_eq_false h, Bool.false_and, if_neg (by simp)]
end Go.Proofs.Ytadpbpocbfjboaa.fnExactMayUse
