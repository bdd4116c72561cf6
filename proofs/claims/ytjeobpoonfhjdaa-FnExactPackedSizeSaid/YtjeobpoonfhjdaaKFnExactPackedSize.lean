/- The helpers of the law FnExactPackedSize: sizes, conversions, equality with itself. Conditions: none. -/
import Derived.Test.YtjeobpoonfhjdaaQFnExactPackedSizex
import Derived.Test.YtjeobpoonfhjdaaEv
namespace Go.Proofs.Ytjeobpoonfhjdaa.fnExactPackedSize
open Go.RowKit Go.Proofs.YtjeobpoonfhjdaaW.PrintWords Go.Proofs.YtjeobpoonfhjdaaW.PrintLast Go.Proofs.YtjeobpoonfhjdaaW.PrintMore Go.Proofs.Ytjeobpoonfhjdaa.QFnExactPackedSize Go.Proofs.Ytjeobpoonfhjdaa.Open Go.Proofs.Ytjeobpoonfhjdaa.Kit
def n106 (x : S106) : Nat := x.f1.length + x.f2.length
def b106 (x : S106) : Prop := x.f1.length ≤ 140737488351232 ∧ x.f2.length ≤ 140737488351232
def cTable (x : S106) : S108 := ⟨x.f0, x.f1, x.f2⟩
def n108 (x : S108) : Nat := x.f1.length + x.f2.length
theorem n_cTable (x : S106) : n108 (cTable x) = n106 x := by
  simp [cTable, n106, n108]
theorem sz_IntS (l : List Int) (left : Int) (hb : l.length ≤ 140737488351232) (h0 : 0 ≤ left) (h1 : left ≤ 1048576) : laws_szIntS.f l left = some (szOf left l.length) := by
  unfold laws_szIntS.f szOf
  rw [w64 (by omega) (by omega)]
  by_cases h : (l.length : Int) ≤ left
  · rw [if_neg (by omega), if_pos h]
  · rw [if_pos (by omega), if_neg h]
theorem sz_Table (x : S106) (left : Int) (hb : b106 x) (h0 : 0 ≤ left) (h1 : left ≤ 1048576) : laws_szTable.f (x.f0) (x.f1) (x.f2) left = some (szOf left (n106 x)) := by
  obtain ⟨hba1, hba2⟩ := hb
  unfold laws_szTable.f n106
  rw [(sz_IntS x.f1 left hba1 (by omega) (by omega)), Option.bind_some]
  by_cases hc0 : ((x.f1.length : Nat) : Int) ≤ left
  · have e0 : szOf left (x.f1.length) = left - ((x.f1.length : Nat) : Int) := by
      unfold szOf
      rw [if_pos (by omega)]
    rw [e0]
    rw [if_neg (by omega)]
    rw [(sz_IntS x.f2 _ hba2 (by omega) (by omega)), Option.bind_some]
    by_cases hc1 : ((x.f1.length + x.f2.length : Nat) : Int) ≤ left
    · have e1 : szOf (left - ((x.f1.length : Nat) : Int)) (x.f2.length) = left - ((x.f1.length + x.f2.length : Nat) : Int) := by
        unfold szOf
        rw [if_pos (by omega)]
        omega
      rw [e1]
      rw [if_neg (by omega)]
      unfold szOf
      rw [if_pos (by omega)]
    · have e1 : szOf (left - ((x.f1.length : Nat) : Int)) (x.f2.length) = -1 := by
        unfold szOf
        rw [if_neg (by omega)]
      rw [e1]
      rw [if_pos (by omega)]
      unfold szOf
      rw [if_neg (by omega)]
  · have e0 : szOf left (x.f1.length) = -1 := by
      unfold szOf
      rw [if_neg (by omega)]
    rw [e0]
    rw [if_pos (by omega)]
    unfold szOf
    rw [if_neg (by omega)]
theorem sz_TableS (l : List S106) (left : Int) (hb : l.length ≤ 140737488351232 ∧ (∀ y ∈ l, b106 y)) (h0 : 0 ≤ left) (h1 : left ≤ 1048576) : Ev (fun k => laws_szTableS.f k l left) (szOf left (l.length + (l.map n106).sum)) := by
  obtain ⟨hl, hb⟩ := hb
  unfold laws_szTableS.f
  rw [w64 (by omega) (by omega)]
  by_cases hn : left - (l.length : Int) < 0
  · refine Ev.ite_pos hn (Ev.some ?_)
    unfold szOf
    rw [if_neg (by omega)]
  · refine Ev.ite_neg hn ?_
    have hs0 : sumTo n106 l 0 = 0 := by simp [sumTo]
    have e0 : left - (l.length : Int) = left - (l.length : Int) - (sumTo n106 l 0 : Nat) := by rw [hs0]; omega
    rw [e0]
    refine Ev.upIf (n := l.length) (fun i => (l.length : Int) + (sumTo n106 l i : Nat) ≤ left) (g := fun i k => laws_szTableS.l0 k l (left - (l.length : Int) - (sumTo n106 l i : Nat)) (i : Int)) ?_ ?_ (by rw [hs0]; omega)
    · intro i hi hp ih
      have hm := hb _ (getD_mem hi z106)
      have hS := sumTo_succ n106 hi z106
      have hA := sumTo_le n106 l (i + 1)
      refine Ev.step (fun k => by rw [laws_szTableS.l0]) ?_
      repeat (first | (with_reducible refine Ev.ite_pos (by omega) ?_) | (with_reducible refine Ev.ite_neg (by omega) ?_))
      refine Ev.bind0 (sz_Table (l.getD i z106) _ hm (by omega) (by omega)) ?_
      by_cases hc : (l.length : Int) + (sumTo n106 l (i + 1) : Nat) ≤ left
      · have e1 : szOf (left - (l.length : Int) - (sumTo n106 l i : Nat)) (n106 (l.getD i z106)) = left - (l.length : Int) - (sumTo n106 l (i + 1) : Nat) := by
          unfold szOf
          rw [if_pos (by omega)]
          omega
        rw [e1, w64n (by omega)]
        exact Ev.ite_neg (by omega) (ih hc)
      · have e1 : szOf (left - (l.length : Int) - (sumTo n106 l i : Nat)) (n106 (l.getD i z106)) = -1 := by
          unfold szOf
          rw [if_neg (by omega)]
        rw [e1]
        refine Ev.ite_pos (by omega) (Ev.some ?_)
        unfold szOf
        rw [if_neg]
        have : sumTo n106 l l.length = (l.map n106).sum := sumTo_all _ _
        have hA2 := sumTo_le n106 l (i + 1)
        omega
    · intro hp
      refine Ev.step (fun k => by rw [laws_szTableS.l0]) ?_
      repeat (first | (with_reducible refine Ev.ite_pos (by omega) ?_) | (with_reducible refine Ev.ite_neg (by omega) ?_))
      refine Ev.some ?_
      rw [sumTo_all] at hp ⊢
      unfold szOf
      rw [if_pos (by omega)]
      omega
theorem to_IntS (l : List Int) (hn : l.length ≤ 1048576) : Ev (fun k => laws_toIntS.f k l) l := by
  unfold laws_toIntS.f
  repeat (first | (with_reducible refine Ev.ite_pos (by omega) ?_) | (with_reducible refine Ev.ite_neg (by omega) ?_))
  rw [Int.toNat_natCast, ← fillTo_zero (fun x => x) 0 l]
  refine Ev.up (n := l.length) (g := fun i k => laws_toIntS.l0 k l (fillTo (fun x => x) 0 l i) (i : Int)) ?_ ?_
  · intro i hi ih
    have hlen := fillTo_length (fun x => x) 0 l (Nat.le_of_lt hi)
    rw [← fillTo_set (fun x => x) 0 l hi 0] at ih
    refine Ev.step (fun k => by rw [laws_toIntS.l0]) ?_
    repeat (first | (with_reducible refine Ev.ite_pos (by omega) ?_) | (with_reducible refine Ev.ite_neg (by omega) ?_))
    rw [Int.toNat_natCast, w64n (by omega)]
    exact ih
  · refine Ev.step (fun k => by rw [laws_toIntS.l0]) ?_
    repeat (first | (with_reducible refine Ev.ite_pos (by omega) ?_) | (with_reducible refine Ev.ite_neg (by omega) ?_))
    refine Ev.some ?_
    rw [fillTo_all]
    simp
theorem to_Table (x : S106) (hn : n106 x ≤ 1048576) : Ev (fun k => laws_toTable.f k (x.f0) (x.f1) (x.f2)) (x.f0, x.f1, x.f2) := by
  unfold n106 at hn
  unfold laws_toTable.f
  refine Ev.bind (to_IntS (x.f1) (by omega)) ?_
  refine Ev.bind (to_IntS (x.f2) (by omega)) ?_
  exact Ev.now _
theorem to_TableS (l : List S106) (hn : (l.length + (l.map n106).sum) ≤ 1048576) : Ev (fun k => laws_toTableS.f k l) (l.map cTable) := by
  unfold laws_toTableS.f
  repeat (first | (with_reducible refine Ev.ite_pos (by omega) ?_) | (with_reducible refine Ev.ite_neg (by omega) ?_))
  rw [Int.toNat_natCast, ← fillTo_zero cTable z108 l]
  refine Ev.up (n := l.length) (g := fun i k => laws_toTableS.l0 k l (fillTo cTable z108 l i) (i : Int)) ?_ ?_
  · intro i hi ih
    have hlen := fillTo_length cTable z108 l (Nat.le_of_lt hi)
    rw [← fillTo_set cTable z108 l hi z106] at ih
    refine Ev.step (fun k => by rw [laws_toTableS.l0]) ?_
    repeat (first | (with_reducible refine Ev.ite_pos (by omega) ?_) | (with_reducible refine Ev.ite_neg (by omega) ?_))
    have hm := le_sum n106 (getD_mem hi z106)
    refine Ev.bind (to_Table (l.getD i z106) (by omega)) ?_
    repeat (first | (with_reducible refine Ev.ite_pos (by omega) ?_) | (with_reducible refine Ev.ite_neg (by omega) ?_))
    rw [Int.toNat_natCast, w64n (by omega)]
    exact ih
  · refine Ev.step (fun k => by rw [laws_toTableS.l0]) ?_
    repeat (first | (with_reducible refine Ev.ite_pos (by omega) ?_) | (with_reducible refine Ev.ite_neg (by omega) ?_))
    refine Ev.some ?_
    rw [fillTo_all]
theorem eq_IntS (l : List Int) (hn : l.length ≤ 1048576) : Ev (fun k => laws_eqIntS.f k l l) true := by
  unfold laws_eqIntS.f
  refine Ev.ite_pos rfl ?_
  refine Ev.up (n := l.length) (g := fun i k => laws_eqIntS.l0 k l l (i : Int)) ?_ ?_
  · intro i hi ih
    refine Ev.step (fun k => by rw [laws_eqIntS.l0]) ?_
    repeat (first | (with_reducible refine Ev.ite_pos (by omega) ?_) | (with_reducible refine Ev.ite_neg (by omega) ?_))
    rw [w64n (by omega)]
    exact ih
  · refine Ev.step (fun k => by rw [laws_eqIntS.l0]) ?_
    repeat (first | (with_reducible refine Ev.ite_pos (by omega) ?_) | (with_reducible refine Ev.ite_neg (by omega) ?_))
    exact Ev.now _
theorem eq_Table (x : S108) (hn : n108 x ≤ 1048576) : Ev (fun k => laws_eqTable.f k (x.f0) (x.f1) (x.f2) (x.f0) (x.f1) (x.f2)) true := by
  unfold n108 at hn
  unfold laws_eqTable.f
  refine Ev.ite_pos rfl ?_
  refine Ev.bind (eq_IntS (x.f1) (by omega)) ?_
  refine Ev.ite_pos rfl ?_
  refine Ev.bind (eq_IntS (x.f2) (by omega)) ?_
  refine Ev.ite_pos rfl ?_
  exact Ev.now _
theorem eq_TableS (l : List S108) (hn : (l.length + (l.map n108).sum) ≤ 1048576) : Ev (fun k => laws_eqTableS.f k l l) true := by
  unfold laws_eqTableS.f
  refine Ev.ite_pos rfl ?_
  refine Ev.up (n := l.length) (g := fun i k => laws_eqTableS.l0 k l l (i : Int)) ?_ ?_
  · intro i hi ih
    refine Ev.step (fun k => by rw [laws_eqTableS.l0]) ?_
    repeat (first | (with_reducible refine Ev.ite_pos (by omega) ?_) | (with_reducible refine Ev.ite_neg (by omega) ?_))
    have hm := le_sum n108 (getD_mem hi z108)
    refine Ev.bind (eq_Table (l.getD i z108) (by omega)) ?_
    refine Ev.ite_pos rfl ?_
    rw [w64n (by omega)]
    exact ih
  · refine Ev.step (fun k => by rw [laws_eqTableS.l0]) ?_
    repeat (first | (with_reducible refine Ev.ite_pos (by omega) ?_) | (with_reducible refine Ev.ite_neg (by omega) ?_))
    exact Ev.now _
end Go.Proofs.Ytjeobpoonfhjdaa.fnExactPackedSize
