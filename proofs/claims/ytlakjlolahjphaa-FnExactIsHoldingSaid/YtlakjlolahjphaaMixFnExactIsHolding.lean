/- Whether a mixture of tables is safe, in the program and in the reference. Conditions: none. -/
import Derived.Test.YtlakjlolahjphaaTblFnExactIsHolding
import Derived.Test.YtlakjlolahjphaaUnionIFnExactIsHolding
import Derived.Test.YtlakjlolahjphaaUnionSFnExactIsHolding
namespace Go.Proofs.Ytlakjlolahjphaa.fnExactIsHolding
open Go.RowKit Go.Proofs.YtlakjlolahjphaaW.PrintWords Go.Proofs.YtlakjlolahjphaaW.PrintMore Go.Proofs.Ytlakjlolahjphaa.QFnExactIsHolding Go.Proofs.Ytlakjlolahjphaa.Open Go.Proofs.Ytlakjlolahjphaa.Kit Go.Proofs.Ytlakjlolahjphaa.Graph
/-- The rows of the tables of some pieces: all (an empty one where there is none), and those that are there. -/
def rowsA (p : List S106) (d : Int) (ks : List Int) : List (List Int) := ks.map fun k => (tableIn p k d).2.2.1
def rowsT (p : List S106) (d : Int) (ks : List Int) : List (List Int) := (ks.filter fun k => decide (okT p k d)).map fun k => (tableIn p k d).2.2.1
theorem rows_same (p : List S106) (d : Int) (ks : List Int) (t : List Int) (ht : 0 < t.length) : t ∈ rowsA p d ks ↔ t ∈ rowsT p d ks := by
  unfold rowsA rowsT
  simp only [List.mem_map, List.mem_filter, decide_eq_true_eq]
  constructor
  · rintro ⟨k, hk, rfl⟩
    refine ⟨k, ⟨hk, ?_⟩, rfl⟩
    refine Classical.byContradiction fun hn => ?_
    unfold tableIn at ht
    rw [if_neg hn] at ht
    exact absurd ht (by simp)
  · rintro ⟨k, hk, rfl⟩
    exact ⟨k, hk.1, rfl⟩
theorem msz_le {l l' : List (List Int)} (h : ∀ t : List Int, 0 < t.length → t ∈ l → t ∈ l') : msz l ≤ msz l' := by
  have h1 := msz_ge l 0 (by omega)
  have h2 := msz_ge l' 0 (by omega)
  unfold msz
  refine h1.2.2.2 _ h2.1 (fun t ht => ?_)
  by_cases h0 : 0 < t.length
  · exact h2.2.2.1 t (h t h0 ht)
  · have := h2.1
    omega
theorem cyc_same {l l' : List (List Int)} (h : ∀ t : List Int, 0 < t.length → (t ∈ l ↔ t ∈ l')) : Cyc (EdgeIn l (msz l).toNat) ↔ Cyc (EdgeIn l' (msz l').toNat) := by
  have hm : msz l = msz l' := Int.le_antisymm (msz_le fun t h0 => (h t h0).1) (msz_le fun t h0 => (h t h0).2)
  have he : EdgeIn l (msz l).toNat = EdgeIn l' (msz l').toNat := by
    rw [hm]
    funext x y
    unfold EdgeIn
    apply propext
    constructor
    · rintro ⟨t, ht, a, b, c⟩
      exact ⟨t, (h t (by omega)).1 ht, a, b, c⟩
    · rintro ⟨t, ht, a, b, c⟩
      exact ⟨t, (h t (by omega)).2 ht, a, b, c⟩
  rw [he]
theorem row_len {p : List S106} (hp : nPgI p ≤ 1048576) (k d : Int) : (tableIn p k d).2.2.1.length ≤ 1048576 := by
  unfold tableIn
  by_cases h : okT p k d
  · rw [if_pos h]
    exact (tab_len hp h).2.2
  · rw [if_neg h]
    simp
/-- Both tell the same: whether the rows, as one graph, hold no circle. -/
theorem mix (p : List S106) (hp : nPgI p ≤ 1048576) (n a s d u v : Int) : ∃ r, Ev (fun k => spec_IsSafeMix.f k n a s p d u v) r ∧ Ev (fun k => impl_IsSafeMix.f k n a s p d u v) r := by
  have hl : p.length ≤ 1048576 := by unfold nPgI at hp; omega
  have hks := pcs_len u v p 0
  obtain ⟨ks, hk⟩ : ∃ ks, pcs u v p 0 = ks := ⟨_, rfl⟩
  rw [hk] at hks
  have hfl : (ks.filter fun k => decide (okT p k d)).length ≤ ks.length := List.length_filter_le _ _
  obtain ⟨r1, e1, i1⟩ := union1 (rowsT p d ks) (by unfold rowsT; rw [List.length_map]; omega) (by
    intro t ht
    unfold rowsT at ht
    obtain ⟨k, _, rfl⟩ := List.mem_map.1 ht
    exact row_len hp k d)
  obtain ⟨r2, e2, i2⟩ := union2 (rowsA p d ks) (by unfold rowsA; rw [List.length_map]; omega) (by
    intro t ht
    unfold rowsA at ht
    obtain ⟨k, _, rfl⟩ := List.mem_map.1 ht
    exact row_len hp k d)
  have hr : r1 = r2 := by
    have := (i1.trans (cyc_same (rows_same p d ks)).symm).trans i2.symm
    cases r1 <;> cases r2 <;> simp_all
  subst hr
  refine ⟨!r1, ?_, ?_⟩
  · unfold spec_IsSafeMix.f
    refine Ev.bind (pcs1 p hl n a s u v) ?_
    rw [hk]
    have key : ∀ (c i : Nat) (acc : List (List Int)), i + c = ks.length → acc.length ≤ i → acc ++ rowsT p d (ks.drop i) = rowsT p d ks → Ev (fun k => spec_IsSafeMix.l0 k d acc ks (i : Int) n a s p) (!r1) := by
      intro c
      induction c with
      | zero =>
        intro i acc hi ha hacc
        refine Ev.step (fun k => by rw [spec_IsSafeMix.l0]) ?_
        repeat (first | (with_reducible refine Ev.ite_pos (by omega) ?_) | (with_reducible refine Ev.ite_neg (by omega) ?_))
        rw [List.drop_of_length_le (by omega), show rowsT p d [] = [] from rfl, List.append_nil] at hacc
        rw [hacc]
        exact Ev.bind e1 (Ev.now _)
      | succ c ih =>
        intro i acc hi ha hacc
        refine Ev.step (fun k => by rw [spec_IsSafeMix.l0]) ?_
        repeat (first | (with_reducible refine Ev.ite_pos (by omega) ?_) | (with_reducible refine Ev.ite_neg (by omega) ?_))
        rw [drop_getD (by omega : i < ks.length) 0] at hacc
        rw [rd_nat, w64n (by omega)]
        refine Ev.bind0 (table1 p hp n a s (ks.getD i 0) d) ?_
        by_cases hok : okT p (ks.getD i 0) d
        · have ht : (tableIn p (ks.getD i 0) d).2.2.2 = true := by unfold tableIn; rw [if_pos hok]
          refine Ev.ite_pos ht ?_
          repeat (first | (with_reducible refine Ev.ite_pos (by omega) ?_) | (with_reducible refine Ev.ite_neg (by omega) ?_))
          refine ih (i + 1) _ (by omega) (by simp; omega) ?_
          rw [← hacc, List.append_assoc]
          congr 1
          unfold rowsT
          rw [List.filter_cons_of_pos (by simpa using hok)]
          rfl
        · have ht : (tableIn p (ks.getD i 0) d).2.2.2 = false := by unfold tableIn; rw [if_neg hok]
          refine Ev.ite_neg (by rw [ht]; simp) ?_
          refine ih (i + 1) _ (by omega) (by omega) ?_
          rw [← hacc]
          congr 1
          unfold rowsT
          rw [List.filter_cons_of_neg (by simpa using hok)]
    exact key ks.length 0 [] (by omega) (by simp) (by simp)
  · unfold impl_IsSafeMix.f
    refine Ev.bind (pcs2 p hl n a s u v) ?_
    rw [hk]
    have key : ∀ (c i : Nat) (acc : List (List Int)), i + c = ks.length → acc.length ≤ i → acc ++ rowsA p d (ks.drop i) = rowsA p d ks → Ev (fun k => impl_IsSafeMix.l0 k d acc ks (ks.length : Int) (i : Int) n a s p) (!r1) := by
      intro c
      induction c with
      | zero =>
        intro i acc hi ha hacc
        refine Ev.step (fun k => by rw [impl_IsSafeMix.l0]) ?_
        repeat (first | (with_reducible refine Ev.ite_pos (by omega) ?_) | (with_reducible refine Ev.ite_neg (by omega) ?_))
        rw [List.drop_of_length_le (by omega), show rowsA p d [] = [] from rfl, List.append_nil] at hacc
        rw [hacc]
        exact Ev.bind e2 (Ev.now _)
      | succ c ih =>
        intro i acc hi ha hacc
        refine Ev.step (fun k => by rw [impl_IsSafeMix.l0]) ?_
        repeat (first | (with_reducible refine Ev.ite_pos (by omega) ?_) | (with_reducible refine Ev.ite_neg (by omega) ?_))
        rw [drop_getD (by omega : i < ks.length) 0] at hacc
        rw [rd_nat, w64n (by omega)]
        refine Ev.bind0 (table2 p hp n a s (ks.getD i 0) d) ?_
        repeat (first | (with_reducible refine Ev.ite_pos (by omega) ?_) | (with_reducible refine Ev.ite_neg (by omega) ?_))
        refine ih (i + 1) _ (by omega) (by simp; omega) ?_
        rw [← hacc, List.append_assoc]
        rfl
    exact key ks.length 0 [] (by omega) (by simp) (by simp)
noncomputable def mixB (p : List S106) (hp : nPgI p ≤ 1048576) (n a s d u v : Int) : Bool := Classical.choose (mix p hp n a s d u v)
theorem mix1 (p : List S106) (hp : nPgI p ≤ 1048576) (n a s d u v : Int) : Ev (fun k => spec_IsSafeMix.f k n a s p d u v) (mixB p hp n a s d u v) := (Classical.choose_spec (mix p hp n a s d u v)).1
theorem mix2 (p : List S106) (hp : nPgI p ≤ 1048576) (n a s d u v : Int) : Ev (fun k => impl_IsSafeMix.f k n a s p d u v) (mixB p hp n a s d u v) := (Classical.choose_spec (mix p hp n a s d u v)).2
end Go.Proofs.Ytlakjlolahjphaa.fnExactIsHolding
