/- FnExactOrderOf: the program and the reference send in the same order. Conditions: none. -/
import Derived.Test.YtaciciobhfoglaaRowFnExactOrderOf
import Derived.Test.YtaciciobhfoglaaKFnExactOrderOf
namespace Go.Proofs.Ytaciciobhfoglaa.fnExactOrderOf
open Go.RowKit Go.Proofs.YtaciciobhfoglaaW.PrintWords Go.Proofs.YtaciciobhfoglaaW.PrintMore Go.Proofs.Ytaciciobhfoglaa.QFnExactOrderOf Go.Proofs.Ytaciciobhfoglaa.Open Go.Proofs.Ytaciciobhfoglaa.Kit
/-- The indices of the packets of the first class (or of the others) from i on. -/
def ixs (b : Bool) : List S49 → Nat → List Int
  | [], _ => []
  | x :: xs, i => if decide (x.f5 = 1) = b then (i : Int) :: ixs b xs (i + 1) else ixs b xs (i + 1)
theorem ixs_len (b : Bool) : ∀ (l : List S49) (i : Nat), (ixs b l i).length ≤ l.length
  | [], _ => Nat.le_refl _
  | x :: xs, i => by
    unfold ixs
    have := ixs_len b xs (i + 1)
    split <;> simp only [List.length_cons] <;> omega
theorem ixs_two : ∀ (l : List S49) (i : Nat), (ixs true l i).length + (ixs false l i).length = l.length
  | [], _ => rfl
  | x :: xs, i => by
    have h := ixs_two xs (i + 1)
    unfold ixs
    by_cases hx : x.f5 = 1
    · simp only [hx, decide_true, if_true, List.length_cons, Bool.true_eq_false, if_false]
      omega
    · simp only [hx, decide_false, Bool.false_eq_true, if_false, List.length_cons, if_true]
      omega
def orderL (l : List S49) : List Int := ixs true l 0 ++ ixs false l 0
theorem orderL_len (l : List S49) : (orderL l).length = l.length := by
  unfold orderL
  rw [List.length_append, ixs_two]
theorem ord1 (l : List S49) (hl : l.length ≤ 1048576) : Ev (fun k => spec_OrderOf.f k l) (orderL l) := by
  have key1 : ∀ (d i : Nat) (acc : List Int), i + d = l.length → acc.length ≤ l.length + i → Ev (fun k => spec_OrderOf.l1 k acc (i : Int) l) (acc ++ ixs false (l.drop i) i) := by
    intro d
    induction d with
    | zero =>
      intro i acc hi ha
      refine Ev.step (fun k => by rw [spec_OrderOf.l1]) ?_
      repeat (first | (with_reducible refine Ev.ite_pos (by omega) ?_) | (with_reducible refine Ev.ite_neg (by omega) ?_))
      refine Ev.some ?_
      rw [List.drop_of_length_le (by omega), ixs, List.append_nil]
    | succ d ih =>
      intro i acc hi ha
      refine Ev.step (fun k => by rw [spec_OrderOf.l1]) ?_
      repeat (first | (with_reducible refine Ev.ite_pos (by omega) ?_) | (with_reducible refine Ev.ite_neg (by omega) ?_))
      rw [drop_getD (by omega : i < l.length) z49, show rd_T49 l (i : Int) = l.getD i z49 from rfl, w64n (by omega), ixs]
      by_cases hx : (l.getD i z49).f5 = 1
      · rw [if_neg (by rw [decide_eq_true hx]; decide)]
        refine Ev.ite_pos hx ?_
        exact ih (i + 1) acc (by omega) (by omega)
      · rw [if_pos (decide_eq_false hx)]
        refine Ev.ite_neg hx ?_
        repeat (first | (with_reducible refine Ev.ite_pos (by omega) ?_) | (with_reducible refine Ev.ite_neg (by omega) ?_))
        have h1 := ih (i + 1) (acc ++ [(i : Int)]) (by omega) (by simp; omega)
        rw [List.append_assoc] at h1
        exact h1
  have key0 : ∀ (d i : Nat) (acc : List Int), i + d = l.length → acc.length ≤ i → Ev (fun k => spec_OrderOf.l0 k acc (i : Int) l) (acc ++ (ixs true (l.drop i) i ++ ixs false l 0)) := by
    intro d
    induction d with
    | zero =>
      intro i acc hi ha
      refine Ev.step (fun k => by rw [spec_OrderOf.l0]) ?_
      repeat (first | (with_reducible refine Ev.ite_pos (by omega) ?_) | (with_reducible refine Ev.ite_neg (by omega) ?_))
      rw [List.drop_of_length_le (by omega), ixs, List.nil_append]
      exact key1 l.length 0 acc (by omega) (by omega)
    | succ d ih =>
      intro i acc hi ha
      refine Ev.step (fun k => by rw [spec_OrderOf.l0]) ?_
      repeat (first | (with_reducible refine Ev.ite_pos (by omega) ?_) | (with_reducible refine Ev.ite_neg (by omega) ?_))
      rw [drop_getD (by omega : i < l.length) z49, show rd_T49 l (i : Int) = l.getD i z49 from rfl, w64n (by omega)]
      rw [ixs]
      by_cases hx : (l.getD i z49).f5 = 1
      · rw [if_pos (decide_eq_true hx)]
        refine Ev.ite_pos hx ?_
        repeat (first | (with_reducible refine Ev.ite_pos (by omega) ?_) | (with_reducible refine Ev.ite_neg (by omega) ?_))
        have h1 := ih (i + 1) (acc ++ [(i : Int)]) (by omega) (by simp; omega)
        rw [List.append_assoc] at h1
        exact h1
      · rw [if_neg (by rw [decide_eq_false hx]; decide)]
        refine Ev.ite_neg hx ?_
        exact ih (i + 1) acc (by omega) (by omega)
  exact key0 l.length 0 [] (by omega) (by simp)
theorem ord2 (l : List S49) (hl : l.length ≤ 1048576) : Ev (fun k => impl_OrderOf.f k l) (orderL l) := by
  have key : ∀ (d i : Nat) (u v : List Int), i + d = l.length → u.length ≤ i → v.length ≤ i → Ev (fun k => impl_OrderOf.l0 k u v l (l.length : Int) (i : Int)) ((u ++ ixs true (l.drop i) i) ++ (v ++ ixs false (l.drop i) i)) := by
    intro d
    induction d with
    | zero =>
      intro i u v hi hu hv
      refine Ev.step (fun k => by rw [impl_OrderOf.l0]) ?_
      repeat (first | (with_reducible refine Ev.ite_pos (by omega) ?_) | (with_reducible refine Ev.ite_neg (by omega) ?_))
      refine Ev.some ?_
      rw [List.drop_of_length_le (by omega)]
      simp [ixs]
    | succ d ih =>
      intro i u v hi hu hv
      refine Ev.step (fun k => by rw [impl_OrderOf.l0]) ?_
      repeat (first | (with_reducible refine Ev.ite_pos (by omega) ?_) | (with_reducible refine Ev.ite_neg (by omega) ?_))
      rw [drop_getD (by omega : i < l.length) z49, show rd_T49 l (i : Int) = l.getD i z49 from rfl, w64n (by omega)]
      rw [ixs, ixs]
      by_cases hx : (l.getD i z49).f5 = 1
      · rw [if_pos (decide_eq_true hx), if_neg (by rw [decide_eq_true hx]; decide)]
        refine Ev.ite_pos hx ?_
        repeat (first | (with_reducible refine Ev.ite_pos (by omega) ?_) | (with_reducible refine Ev.ite_neg (by omega) ?_))
        have h1 := ih (i + 1) (u ++ [(i : Int)]) v (by omega) (by simp; omega) (by omega)
        rw [List.append_assoc u] at h1
        exact h1
      · rw [if_neg (by rw [decide_eq_false hx]; decide), if_pos (decide_eq_false hx)]
        refine Ev.ite_neg hx ?_
        repeat (first | (with_reducible refine Ev.ite_pos (by omega) ?_) | (with_reducible refine Ev.ite_neg (by omega) ?_))
        have h1 := ih (i + 1) u (v ++ [(i : Int)]) (by omega) (by omega) (by simp; omega)
        rw [List.append_assoc v] at h1
        exact h1
  exact key l.length 0 [] [] (by omega) (by simp) (by simp)
theorem mark_Queue (l : List S49) (a : Int) (h0 : 0 ≤ a) (h1 : a ≤ 1000000000) (hl : l.length ≤ 2097152) : Ev (fun k => laws_markQueue.f k l a) (a + 6 * (l.length : Int), cntPacket a l.length) := by
  unfold laws_markQueue.f
  exact Ev.bind (mark_PacketS l a h0 h1 hl) (Ev.now _)
theorem pure : PureFnExactOrderOf := by
  intro l hl
  have hl1 := Len.le hl.1 (by omega)
  refine Ev.rounds (r := true) ?_
  unfold laws_FnExactOrderOf.f
  refine Ev.bind0 (sz_Queue l 1048576 hl1 (by omega) (by omega)) ?_
  by_cases hn : (l.length : Int) ≤ 1048576
  · rw [show szOf 1048576 l.length = 1048576 - (l.length : Int) by unfold szOf; rw [if_pos hn]]
    repeat (first | (with_reducible refine Ev.ite_pos (by omega) ?_) | (with_reducible refine Ev.ite_neg (by omega) ?_))
    have hm : (l.map cPacket).length ≤ 1048576 := by rw [List.length_map]; omega
    have hml : ((l.map cPacket).length : Int) = (l.length : Int) := by rw [List.length_map]
    have hol := orderL_len (l.map cPacket)
    refine Ev.bind (to_Queue l (by omega)) ?_
    refine Ev.bind (ord1 _ hm) ?_
    refine Ev.bind (to_Queue l (by omega)) ?_
    refine Ev.bind (ord2 _ hm) ?_
    refine Ev.bind (eq_IntS _ (by omega)) ?_
    refine Ev.ite_pos rfl ?_
    refine Ev.bind (to_Queue l (by omega)) ?_
    refine Ev.bind (eq_Queue _ hm) ?_
    refine Ev.ite_pos rfl ?_
    refine Ev.bind (mark_Queue _ 1 (by omega) (by omega) (by omega)) ?_
    refine Ev.ite_neg (by simp only []; omega) ?_
    refine Ev.bind (eq_IntS _ (by omega)) ?_
    refine Ev.step (fun k => by rw [laws_FnExactOrderOf.j0]) ?_
    refine Ev.ite_neg (by simp) ?_
    have hh := held_IntS (orderL (l.map cPacket)).length 1 (by omega) (by omega) (by omega)
    refine Ev.bind (mark_IntS _ 1 (by omega) (by omega) (by omega)) ?_
    refine Ev.bind hh ?_
    refine Ev.ite_neg (by omega) ?_
    refine Ev.ite_pos rfl ?_
    refine Ev.bind (to_Queue l (by omega)) ?_
    refine Ev.bind (ord2 _ hm) ?_
    refine Ev.bind (eq_IntS _ (by omega)) ?_
    refine Ev.ite_pos rfl ?_
    refine Ev.bind hh ?_
    refine Ev.ite_neg (by omega) ?_
    exact Ev.ite_pos rfl (Ev.now _)
  · rw [show szOf 1048576 l.length = -1 by unfold szOf; rw [if_neg hn]]
    repeat (first | (with_reducible refine Ev.ite_pos (by omega) ?_) | (with_reducible refine Ev.ite_neg (by omega) ?_))
    exact Ev.now _
end Go.Proofs.Ytaciciobhfoglaa.fnExactOrderOf
namespace Go.Proofs.Ytaciciobhfoglaa
theorem fnExactOrderOf_holds : Rows.FnExactOrderOfSaid := fnExactOrderOf.row fnExactOrderOf.pure
end Go.Proofs.Ytaciciobhfoglaa
