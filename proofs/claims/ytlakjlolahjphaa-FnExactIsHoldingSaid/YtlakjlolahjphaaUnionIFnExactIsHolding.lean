/- The program's UnionHasLoop tells whether the tables, as one graph, hold a circle. Conditions: none. -/
import Derived.Test.YtlakjlolahjphaaQFnExactIsHoldingx
import Derived.Test.YtlakjlolahjphaaGraph
namespace Go.Proofs.Ytlakjlolahjphaa.fnExactIsHolding
open Go.RowKit Go.Proofs.YtlakjlolahjphaaW.PrintWords Go.Proofs.YtlakjlolahjphaaW.PrintMore Go.Proofs.Ytlakjlolahjphaa.QFnExactIsHolding Go.Proofs.Ytlakjlolahjphaa.Open Go.Proofs.Ytlakjlolahjphaa.Kit Go.Proofs.Ytlakjlolahjphaa.Graph
theorem ixU (a n : Int) : impl_isIndex.f a n = some (decide (0 ≤ a ∧ a < n)) := by
  unfold impl_isIndex.f
  by_cases h : 0 ≤ a <;> simp [h]
/-- The number of nodes: the length of the longest table. -/
def msz (l : List (List Int)) : Int := l.foldl (fun m t => mx m (t.length : Int)) 0
theorem msz_ge (l : List (List Int)) (b : Int) (hb : 0 ≤ b) : 0 ≤ l.foldl (fun m t => mx m (t.length : Int)) b ∧ b ≤ l.foldl (fun m t => mx m (t.length : Int)) b ∧ (∀ t ∈ l, (t.length : Int) ≤ l.foldl (fun m t => mx m (t.length : Int)) b) ∧ ∀ B : Int, b ≤ B → (∀ t ∈ l, (t.length : Int) ≤ B) → l.foldl (fun m t => mx m (t.length : Int)) b ≤ B := by
  induction l generalizing b with
  | nil => exact ⟨hb, Int.le_refl _, by simp, fun B h _ => h⟩
  | cons t ts ih =>
    have hm : b ≤ mx b (t.length : Int) ∧ (t.length : Int) ≤ mx b (t.length : Int) ∧ ∀ B : Int, b ≤ B → (t.length : Int) ≤ B → mx b (t.length : Int) ≤ B := by
      rw [mx_def]
      exact ⟨by omega, by omega, fun B _ _ => by omega⟩
    obtain ⟨h1, h2, h3, h4⟩ := ih (mx b (t.length : Int)) (by omega)
    rw [List.foldl_cons]
    refine ⟨h1, by omega, fun u hu => ?_, fun B hB hu => h4 B (hm.2.2 B hB (hu t List.mem_cons_self)) (fun u hu' => hu u (List.mem_cons_of_mem _ hu'))⟩
    rcases List.mem_cons.1 hu with rfl | hu
    · omega
    · exact h3 u hu
theorem rdOf_nat (g : List Bool) (x : Nat) : rdOf false g (x : Int) = g.getD x false := rfl
/-- The inmost loop: does a node lead on? -/
theorem l3_ev {l : List (List Int)} {n : Nat} {g : List Bool} {ch : Bool} {x : Nat} {r : Bool} (hx : x < n) (hn : n ≤ 1048576) (hg : g.length = n) (hl : l.length ≤ 1048576) (hgx : g.getD x false = false)
    (h : Ev (fun k => impl_UnionHasLoop.l2 k l (n : Int) (ps1 l n (g, ch) x).1 (ps1 l n (g, ch) x).2 (n : Int) ((x + 1 : Nat) : Int)) r) :
    Ev (fun k => impl_UnionHasLoop.l3 k l (n : Int) g ch (x : Int) false (n : Int) (x : Int) l (l.length : Int) 0) r := by
  have h0 := foldTo_zero (ld n g x) false l
  rw [show (fun k => impl_UnionHasLoop.l3 k l (n : Int) g ch (x : Int) false (n : Int) (x : Int) l (l.length : Int) 0) = (fun k => impl_UnionHasLoop.l3 k l (n : Int) g ch (x : Int) (foldTo (ld n g x) false l 0) (n : Int) (x : Int) l (l.length : Int) ((0 : Nat) : Int)) by rw [h0]; rfl]
  refine Ev.up (n := l.length) (g := fun j k => impl_UnionHasLoop.l3 k l (n : Int) g ch (x : Int) (foldTo (ld n g x) false l j) (n : Int) (x : Int) l (l.length : Int) (j : Int)) ?_ ?_
  · intro j hj ih
    rw [foldTo_succ (ld n g x) false hj []] at ih
    refine Ev.step (fun k => by rw [impl_UnionHasLoop.l3]) ?_
    repeat (first | (with_reducible refine Ev.ite_pos (by omega) ?_) | (with_reducible refine Ev.ite_neg (by omega) ?_))
    rw [w64n (by omega)]
    cases hacc : foldTo (ld n g x) false l j with
    | true =>
      rw [hacc] at ih
      exact Ev.ite_pos rfl (by simpa [ld] using ih)
    | false =>
      rw [hacc] at ih
      refine Ev.ite_neg (by simp) ?_
      by_cases hxl : x < (l.getD j []).length
      · refine Ev.ite_pos (by show (x : Int) < (((l.getD j []).length : Nat) : Int); omega) ?_
        refine Ev.ite_pos (by omega) ?_
        refine Ev.bind0 (ixU ((l.getD j []).getD x 0) (n : Int)) ?_
        by_cases hy : 0 ≤ (l.getD j []).getD x 0 ∧ (l.getD j []).getD x 0 < (n : Int)
        · refine Ev.ite_pos (by simp only [decide_eq_true_eq]; exact hy) ?_
          refine Ev.ite_pos hy.1 ?_
          refine Ev.ite_pos (by show (l.getD j []).getD x 0 < (g.length : Int); omega) ?_
          have e : ld n g x false (l.getD j []) = !(rdOf false g ((l.getD j []).getD x 0)) := by
            unfold ld
            rw [Bool.false_or, decide_eq_true hxl, decide_eq_true hy]
            rfl
          rw [e] at ih
          exact ih
        · refine Ev.ite_neg (by simp only [decide_eq_true_eq]; exact hy) ?_
          have e : ld n g x false (l.getD j []) = false := by
            unfold ld
            rw [decide_eq_false hy]
            simp
          rw [e] at ih
          exact ih
      · refine Ev.ite_neg (by show ¬ (x : Int) < (((l.getD j []).length : Nat) : Int); omega) ?_
        have e : ld n g x false (l.getD j []) = false := by
          unfold ld
          rw [decide_eq_false hxl]
          simp
        rw [e] at ih
        exact ih
  · refine Ev.step (fun k => by rw [impl_UnionHasLoop.l3]) ?_
    repeat (first | (with_reducible refine Ev.ite_pos (by omega) ?_) | (with_reducible refine Ev.ite_neg (by omega) ?_))
    rw [foldTo_all]
    have hps : ps1 l n (g, ch) x = if leads l n g x = true then (g, ch) else (g.set x true, true) := by
      unfold ps1
      rw [if_neg (by simpa using hgx)]
    have e : l.foldl (ld n g x) false = leads l n g x := rfl
    rw [e]
    by_cases hL : leads l n g x = true
    · refine Ev.ite_pos hL ?_
      rw [hps, if_pos hL] at h
      rw [w64n (by omega)]
      exact h
    · refine Ev.ite_neg hL ?_
      rw [hps, if_neg hL] at h
      repeat (first | (with_reducible refine Ev.ite_pos (by omega) ?_) | (with_reducible refine Ev.ite_neg (by omega) ?_))
      rw [Int.toNat_natCast, w64n (by omega)]
      exact h
/-- A pass. -/
theorem l2_ev {l : List (List Int)} {n : Nat} {g : List Bool} {r : Bool} (hn : n ≤ 1048576) (hg : g.length = n) (hl : l.length ≤ 1048576)
    (h : Ev (fun k => impl_UnionHasLoop.l1 k l (n : Int) (foldTo (ps1 l n) (g, false) (List.range n) n).1 (foldTo (ps1 l n) (g, false) (List.range n) n).2) r) :
    Ev (fun k => impl_UnionHasLoop.l2 k l (n : Int) g false (n : Int) 0) r := by
  have h0 := foldTo_zero (ps1 l n) (g, false) (List.range n)
  rw [show (fun k => impl_UnionHasLoop.l2 k l (n : Int) g false (n : Int) 0) = (fun k => impl_UnionHasLoop.l2 k l (n : Int) (foldTo (ps1 l n) (g, false) (List.range n) 0).1 (foldTo (ps1 l n) (g, false) (List.range n) 0).2 (n : Int) ((0 : Nat) : Int)) by rw [h0]; rfl]
  refine Ev.up (n := n) (g := fun i k => impl_UnionHasLoop.l2 k l (n : Int) (foldTo (ps1 l n) (g, false) (List.range n) i).1 (foldTo (ps1 l n) (g, false) (List.range n) i).2 (n : Int) (i : Int)) ?_ ?_
  · intro i hi ih
    have hlen := (pass_ok (l := l) hg i (by omega)).len
    have e : (List.range n).getD i 0 = i := by
      rw [getD_at (by rw [List.length_range]; omega)]
      simp
    rw [foldTo_succ (ps1 l n) (g, false) (by rw [List.length_range]; omega) 0, e] at ih
    refine Ev.step (fun k => by rw [impl_UnionHasLoop.l2]) ?_
    repeat (first | (with_reducible refine Ev.ite_pos (by omega) ?_) | (with_reducible refine Ev.ite_neg (by omega) ?_))
    by_cases hg1 : (foldTo (ps1 l n) (g, false) (List.range n) i).1.getD i false = true
    · refine Ev.ite_pos hg1 ?_
      rw [w64n (by omega)]
      rw [ps1_gone hg1] at ih
      exact ih
    · refine Ev.ite_neg hg1 ?_
      exact l3_ev hi hn hlen hl (by simpa using hg1) ih
  · refine Ev.step (fun k => by rw [impl_UnionHasLoop.l2]) ?_
    repeat (first | (with_reducible refine Ev.ite_pos (by omega) ?_) | (with_reducible refine Ev.ite_neg (by omega) ?_))
    exact h
theorem l4_ev {n : Nat} {g : List Bool} (hn : n ≤ 1048576) (hg : g.length = n) : ∃ r, Ev (fun k => impl_UnionHasLoop.l4 k g (n : Int) 0) r ∧ (r = true ↔ ∃ x, x < n ∧ g.getD x false = false) := by
  have key : ∀ d i : Nat, i + d = n → ∃ r, Ev (fun k => impl_UnionHasLoop.l4 k g (n : Int) (i : Int)) r ∧ (r = true ↔ ∃ x, i ≤ x ∧ x < n ∧ g.getD x false = false) := by
    intro d
    induction d with
    | zero =>
      intro i hi
      refine ⟨false, ?_, by simp; intro x h1 h2; omega⟩
      refine Ev.step (fun k => by rw [impl_UnionHasLoop.l4]) ?_
      repeat (first | (with_reducible refine Ev.ite_pos (by omega) ?_) | (with_reducible refine Ev.ite_neg (by omega) ?_))
      exact Ev.now _
    | succ d ih =>
      intro i hi
      by_cases hb : g.getD i false = true
      · obtain ⟨r, hr, hiff⟩ := ih (i + 1) (by omega)
        refine ⟨r, ?_, ?_⟩
        · refine Ev.step (fun k => by rw [impl_UnionHasLoop.l4]) ?_
          repeat (first | (with_reducible refine Ev.ite_pos (by omega) ?_) | (with_reducible refine Ev.ite_neg (by omega) ?_))
          refine Ev.ite_pos hb ?_
          rw [w64n (by omega)]
          exact hr
        · rw [hiff]
          constructor
          · rintro ⟨x, h1, h2, h3⟩
            exact ⟨x, by omega, h2, h3⟩
          · rintro ⟨x, h1, h2, h3⟩
            refine ⟨x, ?_, h2, h3⟩
            rcases Nat.eq_or_lt_of_le h1 with rfl | h1
            · rw [hb] at h3
              cases h3
            · exact h1
      · refine ⟨true, ?_, ?_⟩
        · refine Ev.step (fun k => by rw [impl_UnionHasLoop.l4]) ?_
          repeat (first | (with_reducible refine Ev.ite_pos (by omega) ?_) | (with_reducible refine Ev.ite_neg (by omega) ?_))
          exact Ev.ite_neg hb (Ev.now _)
        · exact ⟨fun _ => ⟨i, Nat.le_refl _, by omega, by simpa using hb⟩, fun _ => rfl⟩
  obtain ⟨r, hr, hiff⟩ := key n 0 (by omega)
  refine ⟨r, hr, ?_⟩
  rw [hiff]
  exact ⟨fun ⟨x, _, h⟩ => ⟨x, h⟩, fun ⟨x, h⟩ => ⟨x, Nat.zero_le _, h⟩⟩
/-- Passes till nothing changes. -/
theorem l1_ev {l : List (List Int)} {n : Nat} (hn : n ≤ 1048576) (hl : l.length ≤ 1048576) (hlt : ∀ t ∈ l, t.length ≤ n) : ∀ (c : Nat) (g : List Bool), g.count false ≤ c → g.length = n → Keeps l n g →
    ∃ r, Ev (fun k => impl_UnionHasLoop.l1 k l (n : Int) g true) r ∧ (r = true ↔ Cyc (EdgeIn l n)) := by
  intro c
  induction c with
  | zero =>
    intro g hc hg hk
    have hp := pass_ok (l := l) hg n (Nat.le_refl _)
    cases hs : (foldTo (ps1 l n) (g, false) (List.range n) n).2 with
    | true =>
      have := hp.less hs
      omega
    | false =>
      obtain ⟨r, hr, hiff⟩ := l4_ev hn hp.len
      refine ⟨r, ?_, ?_⟩
      · refine Ev.step (fun k => by rw [impl_UnionHasLoop.l1]) ?_
        refine Ev.ite_pos rfl ?_
        refine l2_ev hn hg hl ?_
        rw [hs]
        refine Ev.step (fun k => by rw [impl_UnionHasLoop.l1]) ?_
        exact Ev.ite_neg (by simp) hr
      · rw [hiff, (hp.same hs).1]
        exact left_iff hlt hk (hp.same hs).2
  | succ c ih =>
    intro g hc hg hk
    have hp := pass_ok (l := l) hg n (Nat.le_refl _)
    cases hs : (foldTo (ps1 l n) (g, false) (List.range n) n).2 with
    | true =>
      have := hp.less hs
      obtain ⟨r, hr, hiff⟩ := ih _ (by omega) hp.len (hp.keeps hk)
      refine ⟨r, ?_, hiff⟩
      refine Ev.step (fun k => by rw [impl_UnionHasLoop.l1]) ?_
      refine Ev.ite_pos rfl ?_
      refine l2_ev hn hg hl ?_
      rw [hs]
      exact hr
    | false =>
      obtain ⟨r, hr, hiff⟩ := l4_ev hn hp.len
      refine ⟨r, ?_, ?_⟩
      · refine Ev.step (fun k => by rw [impl_UnionHasLoop.l1]) ?_
        refine Ev.ite_pos rfl ?_
        refine l2_ev hn hg hl ?_
        rw [hs]
        refine Ev.step (fun k => by rw [impl_UnionHasLoop.l1]) ?_
        exact Ev.ite_neg (by simp) hr
      · rw [hiff, (hp.same hs).1]
        exact left_iff hlt hk (hp.same hs).2
theorem union2 (l : List (List Int)) (hl : l.length ≤ 1048576) (hb : ∀ t ∈ l, t.length ≤ 1048576) : ∃ r, Ev (fun k => impl_UnionHasLoop.f k l) r ∧ (r = true ↔ Cyc (EdgeIn l (msz l).toNat)) := by
  obtain ⟨h1, _, h3, h4⟩ := msz_ge l 0 (by omega)
  have h5 := h4 1048576 (by omega) (fun t ht => by have := hb t ht; omega)
  obtain ⟨n, hn⟩ := Int.eq_ofNat_of_zero_le h1
  have hn' : msz l = (n : Int) := hn
  rw [hn] at h3 h5
  obtain ⟨r, hr, hiff⟩ := l1_ev (l := l) (n := n) (by omega) hl (fun t ht => by have := h3 t ht; omega) _ (List.replicate n false) (Nat.le_refl _) (List.length_replicate ..) (fun _ _ _ _ x _ => by
    by_cases hx : x < n <;> simp [List.getD, hx])
  refine ⟨r, ?_, by rw [hn']; exact hiff⟩
  have h0 := foldTo_zero (fun m (t : List Int) => mx m (t.length : Int)) 0 l
  show Ev (fun k => impl_UnionHasLoop.l0 k l 0 l (l.length : Int) 0) r
  rw [show (fun k => impl_UnionHasLoop.l0 k l 0 l (l.length : Int) 0) = (fun k => impl_UnionHasLoop.l0 k l (foldTo (fun m (t : List Int) => mx m (t.length : Int)) 0 l 0) l (l.length : Int) ((0 : Nat) : Int)) by rw [h0]; rfl]
  refine Ev.up (n := l.length) (g := fun i k => impl_UnionHasLoop.l0 k l (foldTo (fun m (t : List Int) => mx m (t.length : Int)) 0 l i) l (l.length : Int) (i : Int)) ?_ ?_
  · intro i hi ih
    rw [foldTo_succ _ 0 hi []] at ih
    refine Ev.step (fun k => by rw [impl_UnionHasLoop.l0]) ?_
    repeat (first | (with_reducible refine Ev.ite_pos (by omega) ?_) | (with_reducible refine Ev.ite_neg (by omega) ?_))
    rw [w64n (by omega)]
    exact ih
  · refine Ev.step (fun k => by rw [impl_UnionHasLoop.l0]) ?_
    repeat (first | (with_reducible refine Ev.ite_pos (by omega) ?_) | (with_reducible refine Ev.ite_neg (by omega) ?_))
    rw [foldTo_all]
    rw [show l.foldl (fun m (t : List Int) => mx m (t.length : Int)) 0 = (n : Int) from hn]
    repeat (first | (with_reducible refine Ev.ite_pos (by omega) ?_) | (with_reducible refine Ev.ite_neg (by omega) ?_))
    rw [Int.toNat_natCast]
    exact hr
end Go.Proofs.Ytlakjlolahjphaa.fnExactIsHolding
