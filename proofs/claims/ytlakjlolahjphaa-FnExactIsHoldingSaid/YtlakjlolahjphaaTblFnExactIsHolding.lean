/- The table of a piece, in the program and in the reference. Conditions: none. -/
import Derived.Test.YtlakjlolahjphaaPcsInFnExactIsHolding
namespace Go.Proofs.Ytlakjlolahjphaa.fnExactIsHolding
open Go.RowKit Go.Proofs.YtlakjlolahjphaaW.PrintWords Go.Proofs.YtlakjlolahjphaaW.PrintMore Go.Proofs.Ytlakjlolahjphaa.QFnExactIsHolding Go.Proofs.Ytlakjlolahjphaa.Open Go.Proofs.Ytlakjlolahjphaa.Kit
theorem in1 (a b c : Int) : spec_l1In.f a b c = some (decide (b ≤ a ∧ a ≤ c)) := by
  unfold spec_l1In.f
  by_cases h : b ≤ a <;> simp [h]
theorem isIx (i n : Int) : impl_isIndex.f i n = some (decide (0 ≤ i ∧ i < n)) := by
  unfold impl_isIndex.f
  by_cases h : 0 ≤ i <;> simp [h]
/-- Whether a piece is there, and has a table for a destination. -/
def okT (p : List S106) (k d : Int) : Prop := (0 ≤ k ∧ k < (p.length : Int)) ∧ (0 ≤ d ∧ d < ((rd_T106 p k).f2.length : Int))
instance (p : List S106) (k d : Int) : Decidable (okT p k d) := by unfold okT; infer_instance
def tab (p : List S106) (k d : Int) : S65 := rd_T65 (rd_T106 p k).f2 d
def tableIn (p : List S106) (k d : Int) : Int × List Int × List Int × Bool := if okT p k d then ((tab p k d).f0, (tab p k d).f1, (tab p k d).f2, true) else (0, [], [], false)
theorem tab_len {p : List S106} (hp : nPgI p ≤ 1048576) {k d : Int} (h : okT p k d) : (rd_T106 p k).f2.length ≤ 1048576 ∧ (tab p k d).f1.length ≤ 1048576 ∧ (tab p k d).f2.length ≤ 1048576 := by
  unfold okT at h
  have hm := le_sum n106 (getD_mem (show k.toNat < p.length by omega) z106)
  have hm2 := le_sum n65 (getD_mem (show d.toNat < (rd_T106 p k).f2.length by omega) z65)
  unfold nPgI at hp
  have e : rd_T106 p k = p.getD k.toNat z106 := rfl
  rw [← e] at hm
  have e2 : tab p k d = (rd_T106 p k).f2.getD d.toNat z65 := rfl
  rw [← e2] at hm2
  have h0 : n106 (rd_T106 p k) = (rd_T106 p k).f1.length + ((rd_T106 p k).f2.length + ((rd_T106 p k).f2.map n65).sum) := rfl
  have h3 : n65 (tab p k d) = (tab p k d).f1.length + (tab p k d).f2.length := rfl
  have h4 : (rd_T106 p k).f2.length ≤ p.length + (p.map n106).sum := by omega
  have h5 : ((rd_T106 p k).f2.map n65).sum ≤ p.length + (p.map n106).sum := by omega
  omega
theorem table1 (p : List S106) (hp : nPgI p ≤ 1048576) (n a s k d : Int) : spec_TableIn.f n a s p k d = some (tableIn p k d) := by
  have hl : p.length ≤ 1048576 := by unfold nPgI at hp; omega
  unfold spec_TableIn.f tableIn
  rw [in1, Option.bind_some, w64 (x := (p.length : Int) - 1) (by omega) (by omega)]
  by_cases h1 : 0 ≤ k ∧ k < (p.length : Int)
  · rw [if_pos (decide_eq_true (show 0 ≤ k ∧ k ≤ (p.length : Int) - 1 by omega)), if_pos h1.1, if_pos h1.2]
    have hf : (rd_T106 p k).f2.length ≤ 1048576 := by
      have hm := le_sum n106 (getD_mem (show k.toNat < p.length by omega) z106)
      unfold nPgI at hp
      have e : rd_T106 p k = p.getD k.toNat z106 := rfl
      rw [← e] at hm
      have h0 : n106 (rd_T106 p k) = (rd_T106 p k).f1.length + ((rd_T106 p k).f2.length + ((rd_T106 p k).f2.map n65).sum) := rfl
      have h4 : (rd_T106 p k).f2.length ≤ p.length + (p.map n106).sum := by omega
      omega
    rw [in1, Option.bind_some, w64 (x := ((rd_T106 p k).f2.length : Int) - 1) (by omega) (by omega)]
    by_cases h2 : 0 ≤ d ∧ d < ((rd_T106 p k).f2.length : Int)
    · have hok : okT p k d := ⟨h1, h2⟩
      have htl := tab_len hp hok
      rw [if_pos (decide_eq_true (show 0 ≤ d ∧ d ≤ ((rd_T106 p k).f2.length : Int) - 1 by omega)), if_pos h2.1, if_pos h2.2, if_pos hok]
      unfold spec_l15Copy.f
      have e2 : rd_T65 (rd_T106 p k).f2 d = tab p k d := rfl
      rw [e2, Option.bind_some, if_pos (by simp only [List.length_nil]; omega), Option.bind_some, if_pos (by simp only [List.length_nil]; omega)]
      rfl
    · rw [if_neg (by simp; omega), if_neg (fun h : okT p k d => h2 h.2)]
  · rw [if_neg (by simp; omega), if_neg (fun h : okT p k d => h1 h.1)]
theorem table2 (p : List S106) (hp : nPgI p ≤ 1048576) (n a s k d : Int) : impl_TableIn.f n a s p k d = some (tableIn p k d) := by
  unfold impl_TableIn.f tableIn
  rw [isIx, Option.bind_some]
  by_cases h1 : 0 ≤ k ∧ k < (p.length : Int)
  · rw [if_pos (decide_eq_true h1), if_pos h1.1, if_pos h1.2, isIx, Option.bind_some]
    by_cases h2 : 0 ≤ d ∧ d < ((rd_T106 p k).f2.length : Int)
    · have hok : okT p k d := ⟨h1, h2⟩
      have htl := tab_len hp hok
      rw [if_pos (decide_eq_true h2), if_pos h2.1, if_pos h2.2, if_pos hok]
      have e2 : rd_T65 (rd_T106 p k).f2 d = tab p k d := rfl
      unfold impl_cloneTable.f slices_Clone_int_int.f
      rw [e2, if_pos (by omega), Option.bind_some, if_pos (by omega), Option.bind_some]
      rfl
    · rw [if_neg (by simpa using h2), if_neg (fun h : okT p k d => h2 h.2)]
  · rw [if_neg (by simpa using h1), if_neg (fun h : okT p k d => h1 h.1)]
end Go.Proofs.Ytlakjlolahjphaa.fnExactIsHolding
