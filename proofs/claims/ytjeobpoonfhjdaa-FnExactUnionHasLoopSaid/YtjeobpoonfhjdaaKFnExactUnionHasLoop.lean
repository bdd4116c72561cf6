/- The helpers of the law FnExactUnionHasLoop: sizes, conversions, equality with itself. Conditions: none. -/
import Derived.Test.YtjeobpoonfhjdaaQFnExactUnionHasLoopx
import Derived.Test.YtjeobpoonfhjdaaEv
namespace Go.Proofs.Ytjeobpoonfhjdaa.fnExactUnionHasLoop
open Go.RowKit Go.Proofs.YtjeobpoonfhjdaaW.PrintWords Go.Proofs.YtjeobpoonfhjdaaW.PrintLast Go.Proofs.YtjeobpoonfhjdaaW.PrintMore Go.Proofs.Ytjeobpoonfhjdaa.QFnExactUnionHasLoop Go.Proofs.Ytjeobpoonfhjdaa.Open Go.Proofs.Ytjeobpoonfhjdaa.Kit
theorem sz_IntS (l : List Int) (left : Int) (hb : l.length ≤ 140737488351232) (h0 : 0 ≤ left) (h1 : left ≤ 1048576) : laws_szIntS.f l left = some (szOf left l.length) := by
  unfold laws_szIntS.f szOf
  rw [w64 (by omega) (by omega)]
  by_cases h : (l.length : Int) ≤ left
  · rw [if_neg (by omega), if_pos h]
  · rw [if_pos (by omega), if_neg h]
theorem sz_IntSS (l : List (List Int)) (left : Int) (hb : l.length ≤ 140737488351232 ∧ (∀ y ∈ l, y.length ≤ 140737488351232)) (h0 : 0 ≤ left) (h1 : left ≤ 1048576) : Ev (fun k => laws_szIntSS.f k l left) (szOf left (l.length + (l.map List.length).sum)) := by
  obtain ⟨hl, hb⟩ := hb
  unfold laws_szIntSS.f
  rw [w64 (by omega) (by omega)]
  by_cases hn : left - (l.length : Int) < 0
  · refine Ev.ite_pos hn (Ev.some ?_)
    unfold szOf
    rw [if_neg (by omega)]
  · refine Ev.ite_neg hn ?_
    have hs0 : sumTo List.length l 0 = 0 := by simp [sumTo]
    have e0 : left - (l.length : Int) = left - (l.length : Int) - (sumTo List.length l 0 : Nat) := by rw [hs0]; omega
    rw [e0]
    refine Ev.upIf (n := l.length) (fun i => (l.length : Int) + (sumTo List.length l i : Nat) ≤ left) (g := fun i k => laws_szIntSS.l0 k l (left - (l.length : Int) - (sumTo List.length l i : Nat)) (i : Int)) ?_ ?_ (by rw [hs0]; omega)
    · intro i hi hp ih
      have hm := hb _ (getD_mem hi [])
      have hS := sumTo_succ List.length hi []
      have hA := sumTo_le List.length l (i + 1)
      refine Ev.step (fun k => by rw [laws_szIntSS.l0]) ?_
      repeat (first | (with_reducible refine Ev.ite_pos (by omega) ?_) | (with_reducible refine Ev.ite_neg (by omega) ?_))
      refine Ev.bind0 (sz_IntS (l.getD i []) _ hm (by omega) (by omega)) ?_
      by_cases hc : (l.length : Int) + (sumTo List.length l (i + 1) : Nat) ≤ left
      · have e1 : szOf (left - (l.length : Int) - (sumTo List.length l i : Nat)) (List.length (l.getD i [])) = left - (l.length : Int) - (sumTo List.length l (i + 1) : Nat) := by
          unfold szOf
          rw [if_pos (by omega)]
          omega
        rw [e1, w64n (by omega)]
        exact Ev.ite_neg (by omega) (ih hc)
      · have e1 : szOf (left - (l.length : Int) - (sumTo List.length l i : Nat)) (List.length (l.getD i [])) = -1 := by
          unfold szOf
          rw [if_neg (by omega)]
        rw [e1]
        refine Ev.ite_pos (by omega) (Ev.some ?_)
        unfold szOf
        rw [if_neg]
        have : sumTo List.length l l.length = (l.map List.length).sum := sumTo_all _ _
        have hA2 := sumTo_le List.length l (i + 1)
        omega
    · intro hp
      refine Ev.step (fun k => by rw [laws_szIntSS.l0]) ?_
      repeat (first | (with_reducible refine Ev.ite_pos (by omega) ?_) | (with_reducible refine Ev.ite_neg (by omega) ?_))
      refine Ev.some ?_
      rw [sumTo_all] at hp ⊢
      unfold szOf
      rw [if_pos (by omega)]
      omega
theorem to_IntS (l : List Int) (hn : l.length ≤ 1048576) : Ev (fun k => laws_toIntS.f k l) l := by
  unfold laws_toIntS.f
  repeat (first | (with_reducible refine Ev.ite_pos (by omega) ?_) | (with_reducible refine Ev.ite_neg (by omega) ?_))
  rw [Int.toNat_natCast, ← fillTo_zero (fun x => x) 0 l]
  refine Ev.up (n := l.length) (g := fun i k => laws_toIntS.l0 k l (fillTo (fun x => x) 0 l i) (i : Int)) ?_ ?_
  · intro i hi ih
    have hlen := fillTo_length (fun x => x) 0 l (Nat.le_of_lt hi)
    rw [← fillTo_set (fun x => x) 0 l hi 0] at ih
    refine Ev.step (fun k => by rw [laws_toIntS.l0]) ?_
    repeat (first | (with_reducible refine Ev.ite_pos (by omega) ?_) | (with_reducible refine Ev.ite_neg (by omega) ?_))
    rw [Int.toNat_natCast, w64n (by omega)]
    exact ih
  · refine Ev.step (fun k => by rw [laws_toIntS.l0]) ?_
    repeat (first | (with_reducible refine Ev.ite_pos (by omega) ?_) | (with_reducible refine Ev.ite_neg (by omega) ?_))
    refine Ev.some ?_
    rw [fillTo_all]
    simp
theorem to_IntSS (l : List (List Int)) (hn : (l.length + (l.map List.length).sum) ≤ 1048576) : Ev (fun k => laws_toIntSS.f k l) l := by
  unfold laws_toIntSS.f
  repeat (first | (with_reducible refine Ev.ite_pos (by omega) ?_) | (with_reducible refine Ev.ite_neg (by omega) ?_))
  rw [Int.toNat_natCast, ← fillTo_zero (fun x => x) [] l]
  refine Ev.up (n := l.length) (g := fun i k => laws_toIntSS.l0 k l (fillTo (fun x => x) [] l i) (i : Int)) ?_ ?_
  · intro i hi ih
    have hlen := fillTo_length (fun x => x) [] l (Nat.le_of_lt hi)
    rw [← fillTo_set (fun x => x) [] l hi []] at ih
    refine Ev.step (fun k => by rw [laws_toIntSS.l0]) ?_
    repeat (first | (with_reducible refine Ev.ite_pos (by omega) ?_) | (with_reducible refine Ev.ite_neg (by omega) ?_))
    have hm := le_sum List.length (getD_mem hi [])
    refine Ev.bind (to_IntS (l.getD i []) (by omega)) ?_
    repeat (first | (with_reducible refine Ev.ite_pos (by omega) ?_) | (with_reducible refine Ev.ite_neg (by omega) ?_))
    rw [Int.toNat_natCast, w64n (by omega)]
    exact ih
  · refine Ev.step (fun k => by rw [laws_toIntSS.l0]) ?_
    repeat (first | (with_reducible refine Ev.ite_pos (by omega) ?_) | (with_reducible refine Ev.ite_neg (by omega) ?_))
    refine Ev.some ?_
    rw [fillTo_all]
    simp
theorem eq_IntS (l : List Int) (hn : l.length ≤ 1048576) : Ev (fun k => laws_eqIntS.f k l l) true := by
  unfold laws_eqIntS.f
  refine Ev.ite_pos rfl ?_
  refine Ev.up (n := l.length) (g := fun i k => laws_eqIntS.l0 k l l (i : Int)) ?_ ?_
  · intro i hi ih
    refine Ev.step (fun k => by rw [laws_eqIntS.l0]) ?_
    repeat (first | (with_reducible refine Ev.ite_pos (by omega) ?_) | (with_reducible refine Ev.ite_neg (by omega) ?_))
    rw [w64n (by omega)]
    exact ih
  · refine Ev.step (fun k => by rw [laws_eqIntS.l0]) ?_
    repeat (first | (with_reducible refine Ev.ite_pos (by omega) ?_) | (with_reducible refine Ev.ite_neg (by omega) ?_))
    exact Ev.now _
theorem eq_IntSS (l : List (List Int)) (hn : (l.length + (l.map List.length).sum) ≤ 1048576) : Ev (fun k => laws_eqIntSS.f k l l) true := by
  unfold laws_eqIntSS.f
  refine Ev.ite_pos rfl ?_
  refine Ev.up (n := l.length) (g := fun i k => laws_eqIntSS.l0 k l l (i : Int)) ?_ ?_
  · intro i hi ih
    refine Ev.step (fun k => by rw [laws_eqIntSS.l0]) ?_
    repeat (first | (with_reducible refine Ev.ite_pos (by omega) ?_) | (with_reducible refine Ev.ite_neg (by omega) ?_))
    have hm := le_sum List.length (getD_mem hi [])
    refine Ev.bind (eq_IntS (l.getD i []) (by omega)) ?_
    refine Ev.ite_pos rfl ?_
    rw [w64n (by omega)]
    exact ih
  · refine Ev.step (fun k => by rw [laws_eqIntSS.l0]) ?_
    repeat (first | (with_reducible refine Ev.ite_pos (by omega) ?_) | (with_reducible refine Ev.ite_neg (by omega) ?_))
    exact Ev.now _
end Go.Proofs.Ytjeobpoonfhjdaa.fnExactUnionHasLoop
