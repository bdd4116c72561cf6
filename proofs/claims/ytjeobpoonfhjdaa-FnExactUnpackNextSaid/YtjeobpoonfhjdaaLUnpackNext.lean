/- FnExactUnpackNext: the program and the reference unpack the same, into memory of its own. Conditions: none. -/
import Derived.Test.YtjeobpoonfhjdaaRowFnExactUnpackNext
import Derived.Test.YtjeobpoonfhjdaaKFnExactUnpackNext
namespace Go.Proofs.Ytjeobpoonfhjdaa.fnExactUnpackNext
open Go.RowKit Go.Proofs.YtjeobpoonfhjdaaW.PrintWords Go.Proofs.YtjeobpoonfhjdaaW.PrintMore Go.Proofs.Ytjeobpoonfhjdaa.PFnExactUnpackNext Go.Proofs.Ytjeobpoonfhjdaa.Open Go.Proofs.Ytjeobpoonfhjdaa.Kit
theorem inX1 (a b c : Int) : spec_l1In.f a b c = some (decide (b ≤ a ∧ a ≤ c)) := by
  unfold spec_l1In.f
  by_cases h : b ≤ a <;> simp [h]
theorem inX2 (a b c : Int) : impl_InRange.f a b c = some (decide (b ≤ a ∧ a ≤ c)) := by
  unfold impl_InRange.f
  by_cases h : b ≤ a <;> simp [h]
/-- Unpacked: -1 elements (none) where a count is out of its range; n: how many there are already. -/
def good : Nat → List S100 → Bool
  | _, [] => true
  | n, x :: xs => decide (1 ≤ x.f0 ∧ x.f0 ≤ 100 - (n : Int)) && good (n + x.f0.toNat) xs
def all (l : List S100) : List Int := l.flatMap fun x => List.replicate x.f0.toNat x.f1
def unp (l : List S100) : List Int := if good 0 l = true then all l else []
theorem good_len : ∀ (l : List S100) (n : Nat), good n l = true → n ≤ 100 → n + (all l).length ≤ 100
  | [], n, _, h => by simpa [all] using h
  | x :: xs, n, h, hn => by
    simp only [good, Bool.and_eq_true, decide_eq_true_eq] at h
    have h2 := good_len xs _ h.2 (by omega)
    simp only [all, List.flatMap_cons, List.length_append, List.length_replicate] at h2 ⊢
    omega
/-- The counts' test of the reference. -/
theorem counts_ev (l : List S100) (hl : l.length ≤ 1048576) : Ev (fun k => spec_l16Counts.f k l) (good 0 l) := by
  have key : ∀ (d i n : Nat), i + d = l.length → n ≤ 200 → Ev (fun k => spec_l16Counts.l0 k l (n : Int) (i : Int)) (if n ≤ 100 then good n (l.drop i) else false) := by
    intro d
    induction d with
    | zero =>
      intro i n hi hn
      refine Ev.step (fun k => by rw [spec_l16Counts.l0]) ?_
      repeat (first | (with_reducible refine Ev.ite_pos (by omega) ?_) | (with_reducible refine Ev.ite_neg (by omega) ?_))
      refine Ev.some ?_
      rw [List.drop_of_length_le (by omega)]
      by_cases h : n ≤ 100
      · rw [if_pos h]
        simp [good]
        omega
      · rw [if_neg h]
        simp
        omega
    | succ d ih =>
      intro i n hi hn
      refine Ev.step (fun k => by rw [spec_l16Counts.l0]) ?_
      repeat (first | (with_reducible refine Ev.ite_pos (by omega) ?_) | (with_reducible refine Ev.ite_neg (by omega) ?_))
      rw [drop_getD (by omega : i < l.length) z100]
      refine Ev.bind0 (inX1 _ _ _) ?_
      by_cases hc : 1 ≤ (l.getD i z100).f0 ∧ (l.getD i z100).f0 ≤ 100
      · refine Ev.ite_pos (by simp only [decide_eq_true_eq]; exact hc) ?_
        obtain ⟨q, hq⟩ := Int.eq_ofNat_of_zero_le (show 0 ≤ (l.getD i z100).f0 by omega)
        by_cases h : n ≤ 100
        · refine Ev.ite_neg (by omega) ?_
          have h1 := ih (i + 1) (n + q) (by omega) (by omega)
          rw [w64n (by omega), if_pos h]
          rw [show rd_T100 l (i : Int) = l.getD i z100 from rfl, hq, w64 (by omega) (by omega), show (n : Int) + (q : Int) = ((n + q : Nat) : Int) by omega]
          have e : (if n + q ≤ 100 then good (n + q) (l.drop (i + 1)) else false) = good n (l.getD i z100 :: l.drop (i + 1)) := by
            simp only [good, hq, Int.toNat_natCast]
            by_cases h2 : n + q ≤ 100
            · rw [if_pos h2, decide_eq_true (by omega), Bool.true_and]
            · rw [if_neg h2, decide_eq_false (by omega), Bool.false_and]
          rw [← e]
          exact h1
        · refine Ev.ite_pos (by omega) (Ev.some ?_)
          rw [if_neg h]
      · refine Ev.ite_neg (by simp only [decide_eq_true_eq]; exact hc) (Ev.some ?_)
        by_cases h : n ≤ 100
        · rw [if_pos h]
          simp only [good]
          rw [decide_eq_false (by omega), Bool.false_and]
        · rw [if_neg h]
  have h := key l.length 0 0 (by omega) (by omega)
  rw [if_pos (by omega)] at h
  exact h
theorem build1_l1 {l : List S100} {i : Nat} {r : List Int} (hi : i < l.length) (hi2 : l.length ≤ 1048576) {q : Nat} (hq : (l.getD i z100).f0 = q) (acc : List Int) (hacc : acc.length + q ≤ 100)
    (h : Ev (fun k => spec_UnpackNext.l0 k l (acc ++ List.replicate q (l.getD i z100).f1) ((i + 1 : Nat) : Int)) r) : Ev (fun k => spec_UnpackNext.l1 k l acc (i : Int) 0) r := by
  have h0 : acc = acc ++ List.replicate 0 (l.getD i z100).f1 := by simp
  rw [show (fun k => spec_UnpackNext.l1 k l acc (i : Int) 0) = (fun k => spec_UnpackNext.l1 k l (acc ++ List.replicate 0 (l.getD i z100).f1) (i : Int) ((0 : Nat) : Int)) by rw [← h0]; rfl]
  refine Ev.up (n := q) (g := fun j k => spec_UnpackNext.l1 k l (acc ++ List.replicate j (l.getD i z100).f1) (i : Int) (j : Int)) ?_ ?_
  · intro j hj ih
    have hlen : (acc ++ List.replicate j (l.getD i z100).f1).length = acc.length + j := by simp
    refine Ev.step (fun k => by rw [spec_UnpackNext.l1]) ?_
    repeat (first | (with_reducible refine Ev.ite_pos (by omega) ?_) | (with_reducible refine Ev.ite_neg (by omega) ?_))
    refine Ev.ite_pos (by show (j : Int) < (l.getD i z100).f0; omega) ?_
    repeat (first | (with_reducible refine Ev.ite_pos (by omega) ?_) | (with_reducible refine Ev.ite_neg (by omega) ?_))
    rw [w64n (by omega)]
    rw [List.replicate_succ', ← List.append_assoc] at ih
    exact ih
  · refine Ev.step (fun k => by rw [spec_UnpackNext.l1]) ?_
    repeat (first | (with_reducible refine Ev.ite_pos (by omega) ?_) | (with_reducible refine Ev.ite_neg (by omega) ?_))
    refine Ev.ite_neg (by show ¬ (q : Int) < (l.getD i z100).f0; omega) ?_
    rw [w64n (by omega)]
    exact h
theorem build1 (l : List S100) (hl : l.length ≤ 1048576) : ∀ (d i : Nat) (acc : List Int), i + d = l.length → acc.length ≤ 100 → good acc.length (l.drop i) = true → Ev (fun k => spec_UnpackNext.l0 k l acc (i : Int)) (acc ++ all (l.drop i)) := by
  intro d
  induction d with
  | zero =>
    intro i acc hi _ _
    refine Ev.step (fun k => by rw [spec_UnpackNext.l0]) ?_
    repeat (first | (with_reducible refine Ev.ite_pos (by omega) ?_) | (with_reducible refine Ev.ite_neg (by omega) ?_))
    refine Ev.some ?_
    rw [List.drop_of_length_le (by omega)]
    simp [all]
  | succ d ih =>
    intro i acc hi hacc hg
    have hil : i < l.length := by omega
    rw [drop_getD hil z100] at hg ⊢
    simp only [good, Bool.and_eq_true, decide_eq_true_eq] at hg
    obtain ⟨q, hq⟩ := Int.eq_ofNat_of_zero_le (show 0 ≤ (l.getD i z100).f0 by omega)
    rw [hq, Int.toNat_natCast] at hg
    have h1 := ih (i + 1) (acc ++ List.replicate q (l.getD i z100).f1) (by omega) (by simp; omega) (by simpa using hg.2)
    have e : acc ++ List.replicate q (l.getD i z100).f1 ++ all (l.drop (i + 1)) = acc ++ all (l.getD i z100 :: l.drop (i + 1)) := by
      simp only [all, List.flatMap_cons, hq, Int.toNat_natCast, List.append_assoc]
    rw [e] at h1
    refine Ev.step (fun k => by rw [spec_UnpackNext.l0]) ?_
    repeat (first | (with_reducible refine Ev.ite_pos (by omega) ?_) | (with_reducible refine Ev.ite_neg (by omega) ?_))
    exact build1_l1 hil hl hq acc (by omega) h1
theorem unpack1 (l : List S100) (hl : l.length ≤ 1048576) : Ev (fun k => spec_UnpackNext.f k l) (unp l) := by
  unfold spec_UnpackNext.f
  simp only [Option.bind_some]
  refine Ev.bind (counts_ev l hl) ?_
  unfold unp
  by_cases h : good 0 l = true
  · rw [if_pos h]
    refine Ev.ite_pos h ?_
    exact build1 l hl l.length 0 [] (by omega) (by simp) h
  · rw [if_neg h]
    exact Ev.ite_neg h (Ev.now _)
theorem build2_l1 {l : List S100} {i : Nat} {r : List Int} (hi : i < l.length) (hi2 : l.length ≤ 1048576) {q : Nat} {v : Int} (acc : List Int) (hacc : acc.length + q ≤ 100)
    (h : Ev (fun k => impl_UnpackNext.l0 k (acc ++ List.replicate q v) l (l.length : Int) ((i + 1 : Nat) : Int)) r) : Ev (fun k => impl_UnpackNext.l1 k acc l (l.length : Int) (i : Int) (q : Int) 0 (q : Int) v) r := by
  have h0 : acc = acc ++ List.replicate 0 v := by simp
  rw [show (fun k => impl_UnpackNext.l1 k acc l (l.length : Int) (i : Int) (q : Int) 0 (q : Int) v) = (fun k => impl_UnpackNext.l1 k (acc ++ List.replicate 0 v) l (l.length : Int) (i : Int) (q : Int) ((0 : Nat) : Int) (q : Int) v) by rw [← h0]; rfl]
  refine Ev.up (n := q) (g := fun j k => impl_UnpackNext.l1 k (acc ++ List.replicate j v) l (l.length : Int) (i : Int) (q : Int) (j : Int) (q : Int) v) ?_ ?_
  · intro j hj ih
    have hlen : (acc ++ List.replicate j v).length = acc.length + j := by simp
    refine Ev.step (fun k => by rw [impl_UnpackNext.l1]) ?_
    repeat (first | (with_reducible refine Ev.ite_pos (by omega) ?_) | (with_reducible refine Ev.ite_neg (by omega) ?_))
    rw [w64n (by omega)]
    rw [List.replicate_succ', ← List.append_assoc] at ih
    exact ih
  · refine Ev.step (fun k => by rw [impl_UnpackNext.l1]) ?_
    repeat (first | (with_reducible refine Ev.ite_pos (by omega) ?_) | (with_reducible refine Ev.ite_neg (by omega) ?_))
    rw [w64n (by omega)]
    exact h
theorem build2 (l : List S100) (hl : l.length ≤ 1048576) : ∀ (d i : Nat) (acc : List Int), i + d = l.length → acc.length ≤ 100 → Ev (fun k => impl_UnpackNext.l0 k acc l (l.length : Int) (i : Int)) (if good acc.length (l.drop i) = true then acc ++ all (l.drop i) else []) := by
  intro d
  induction d with
  | zero =>
    intro i acc hi _
    refine Ev.step (fun k => by rw [impl_UnpackNext.l0]) ?_
    repeat (first | (with_reducible refine Ev.ite_pos (by omega) ?_) | (with_reducible refine Ev.ite_neg (by omega) ?_))
    refine Ev.some ?_
    rw [List.drop_of_length_le (by omega)]
    simp [all, good]
  | succ d ih =>
    intro i acc hi hacc
    have hil : i < l.length := by omega
    rw [drop_getD hil z100]
    refine Ev.step (fun k => by rw [impl_UnpackNext.l0]) ?_
    repeat (first | (with_reducible refine Ev.ite_pos (by omega) ?_) | (with_reducible refine Ev.ite_neg (by omega) ?_))
    refine Ev.bind0 (inX2 _ _ _) ?_
    rw [w64 (x := 100 - (acc.length : Int)) (by omega) (by omega)]
    by_cases hc : 1 ≤ (l.getD i z100).f0 ∧ (l.getD i z100).f0 ≤ 100 - (acc.length : Int)
    · refine Ev.ite_pos (by simp only [decide_eq_true_eq]; exact hc) ?_
      obtain ⟨q, hq⟩ := Int.eq_ofNat_of_zero_le (show 0 ≤ (l.getD i z100).f0 by omega)
      have h1 := ih (i + 1) (acc ++ List.replicate q (l.getD i z100).f1) (by omega) (by simp; omega)
      have e : (if good (acc ++ List.replicate q (l.getD i z100).f1).length (l.drop (i + 1)) = true then acc ++ List.replicate q (l.getD i z100).f1 ++ all (l.drop (i + 1)) else []) = if good acc.length (l.getD i z100 :: l.drop (i + 1)) = true then acc ++ all (l.getD i z100 :: l.drop (i + 1)) else [] := by
        have hcq := hc
        rw [hq] at hcq
        simp only [good, hq, decide_eq_true hcq, Bool.true_and, Int.toNat_natCast, List.length_append, List.length_replicate, all, List.flatMap_cons, List.append_assoc]
      rw [e] at h1
      rw [show rd_T100 l (i : Int) = l.getD i z100 from rfl, hq]
      exact build2_l1 hil hl acc (by omega) h1
    · refine Ev.ite_neg (by simp only [decide_eq_true_eq]; exact hc) (Ev.some ?_)
      rw [if_neg]
      simp only [good]
      rw [decide_eq_false hc, Bool.false_and]
      simp
theorem unpack2 (l : List S100) (hl : l.length ≤ 1048576) : Ev (fun k => impl_UnpackNext.f k l) (unp l) := by
  have h := build2 l hl l.length 0 [] (by omega) (by simp)
  exact h
theorem unp_len (l : List S100) : (unp l).length ≤ 100 := by
  unfold unp
  by_cases h : good 0 l = true
  · rw [if_pos h]
    have := good_len l 0 h (by omega)
    omega
  · rw [if_neg h]
    simp
theorem pure : PureFnExactUnpackNext := by
  intro l hl
  have hl1 := Len.le hl.1 (by omega)
  refine Ev.rounds (r := true) ?_
  unfold laws_FnExactUnpackNext.f
  refine Ev.bind0 (sz_RunS l 1048576 hl1 (by omega) (by omega)) ?_
  by_cases hn : (l.length : Int) ≤ 1048576
  · rw [show szOf 1048576 l.length = 1048576 - (l.length : Int) by unfold szOf; rw [if_pos hn]]
    repeat (first | (with_reducible refine Ev.ite_pos (by omega) ?_) | (with_reducible refine Ev.ite_neg (by omega) ?_))
    have hm : (l.map cRun).length ≤ 1048576 := by rw [List.length_map]; omega
    have hu := unp_len (l.map cRun)
    have hml : ((l.map cRun).length : Int) = (l.length : Int) := by rw [List.length_map]
    refine Ev.bind (to_RunS l (by omega)) ?_
    refine Ev.bind (unpack1 _ hm) ?_
    refine Ev.bind (to_RunS l (by omega)) ?_
    refine Ev.bind (unpack2 _ hm) ?_
    refine Ev.bind (eq_IntS _ (by omega)) ?_
    refine Ev.ite_pos rfl ?_
    refine Ev.bind (to_RunS l (by omega)) ?_
    refine Ev.bind (eq_RunS _ hm) ?_
    refine Ev.ite_pos rfl ?_
    refine Ev.bind (mark_RunS _ 1 (by omega) (by omega) (by omega)) ?_
    refine Ev.ite_neg (by simp only []; omega) ?_
    refine Ev.bind (eq_IntS _ (by omega)) ?_
    refine Ev.step (fun k => by rw [laws_FnExactUnpackNext.j0]) ?_
    refine Ev.ite_neg (by simp) ?_
    have hh := held_IntS (unp (l.map cRun)).length 1 (by omega) (by omega) (by omega)
    refine Ev.bind (mark_IntS _ 1 (by omega) (by omega) (by omega)) ?_
    refine Ev.bind hh ?_
    refine Ev.ite_neg (by omega) ?_
    refine Ev.ite_pos rfl ?_
    refine Ev.bind (to_RunS l (by omega)) ?_
    refine Ev.bind (unpack2 _ hm) ?_
    refine Ev.bind (eq_IntS _ (by omega)) ?_
    refine Ev.ite_pos rfl ?_
    refine Ev.bind hh ?_
    refine Ev.ite_neg (by omega) ?_
    exact Ev.ite_pos rfl (Ev.now _)
  · rw [show szOf 1048576 l.length = -1 by unfold szOf; rw [if_neg hn]]
    repeat (first | (with_reducible refine Ev.ite_pos (by omega) ?_) | (with_reducible refine Ev.ite_neg (by omega) ?_))
    exact Ev.now _
end Go.Proofs.Ytjeobpoonfhjdaa.fnExactUnpackNext
namespace Go.Proofs.Ytjeobpoonfhjdaa
theorem fnExactUnpackNext_holds : Rows.FnExactUnpackNextSaid := fnExactUnpackNext.row fnExactUnpackNext.pure
end Go.Proofs.Ytjeobpoonfhjdaa
