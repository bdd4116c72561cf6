/- The helpers of the law FnExactIsHolding: sizes, conversions, equality with itself. Conditions: none. -/
import Derived.Test.YtlakjlolahjphaaQFnExactIsHoldingx
import Derived.Test.YtlakjlolahjphaaEv
namespace Go.Proofs.Ytlakjlolahjphaa.fnExactIsHolding
open Go.RowKit Go.Proofs.YtlakjlolahjphaaW.PrintWords Go.Proofs.YtlakjlolahjphaaW.PrintLast Go.Proofs.YtlakjlolahjphaaW.PrintMore Go.Proofs.Ytlakjlolahjphaa.QFnExactIsHolding Go.Proofs.Ytlakjlolahjphaa.Open Go.Proofs.Ytlakjlolahjphaa.Kit
def cSpan (x : S135) : S91 := ⟨x.f0, x.f1⟩
def cLink (x : S180) : S128 := ⟨x.f0, x.f1⟩
def n178 (x : S178) : Nat := x.f1.length + x.f2.length
def b178 (x : S178) : Prop := x.f1.length ≤ 140737488351232 ∧ x.f2.length ≤ 140737488351232
def cTable (x : S178) : S65 := ⟨x.f0, x.f1, x.f2⟩
def n139 (x : S139) : Nat := x.f1.length + (x.f2.length + (x.f2.map n178).sum)
def b139 (x : S139) : Prop := x.f1.length ≤ 140737488351232 ∧ x.f2.length ≤ 140737488351232 ∧ (∀ y ∈ x.f2, b178 y)
def cPiece (x : S139) : S106 := ⟨(cSpan x.f0), (x.f1.map cLink), (x.f2.map cTable)⟩
def n65 (x : S65) : Nat := x.f1.length + x.f2.length
def n106 (x : S106) : Nat := x.f1.length + (x.f2.length + (x.f2.map n65).sum)
theorem n_cTable (x : S178) : n65 (cTable x) = n178 x := by
  simp [cTable, n178, n65]
theorem n_cPiece (x : S139) : n106 (cPiece x) = n139 x := by
  simp [cPiece, n106, n139, Function.comp_def, n_cTable]
theorem sz_LinkS (l : List S180) (left : Int) (hb : l.length ≤ 140737488351232) (h0 : 0 ≤ left) (h1 : left ≤ 1048576) : laws_szLinkS.f l left = some (szOf left l.length) := by
  unfold laws_szLinkS.f szOf
  rw [w64 (by omega) (by omega)]
  by_cases h : (l.length : Int) ≤ left
  · rw [if_neg (by omega), if_pos h]
  · rw [if_pos (by omega), if_neg h]
theorem sz_IntS (l : List Int) (left : Int) (hb : l.length ≤ 140737488351232) (h0 : 0 ≤ left) (h1 : left ≤ 1048576) : laws_szIntS.f l left = some (szOf left l.length) := by
  unfold laws_szIntS.f szOf
  rw [w64 (by omega) (by omega)]
  by_cases h : (l.length : Int) ≤ left
  · rw [if_neg (by omega), if_pos h]
  · rw [if_pos (by omega), if_neg h]
theorem sz_Table (x : S178) (left : Int) (hb : b178 x) (h0 : 0 ≤ left) (h1 : left ≤ 1048576) : laws_szTable.f (x.f0) (x.f1) (x.f2) left = some (szOf left (n178 x)) := by
  obtain ⟨hba1, hba2⟩ := hb
  unfold laws_szTable.f n178
  rw [(sz_IntS x.f1 left hba1 (by omega) (by omega)), Option.bind_some]
  by_cases hc0 : ((x.f1.length : Nat) : Int) ≤ left
  · have e0 : szOf left (x.f1.length) = left - ((x.f1.length : Nat) : Int) := by
      unfold szOf
      rw [if_pos (by omega)]
    rw [e0]
    rw [if_neg (by omega)]
    rw [(sz_IntS x.f2 _ hba2 (by omega) (by omega)), Option.bind_some]
    by_cases hc1 : ((x.f1.length + x.f2.length : Nat) : Int) ≤ left
    · have e1 : szOf (left - ((x.f1.length : Nat) : Int)) (x.f2.length) = left - ((x.f1.length + x.f2.length : Nat) : Int) := by
        unfold szOf
        rw [if_pos (by omega)]
        omega
      rw [e1]
      rw [if_neg (by omega)]
      unfold szOf
      rw [if_pos (by omega)]
    · have e1 : szOf (left - ((x.f1.length : Nat) : Int)) (x.f2.length) = -1 := by
        unfold szOf
        rw [if_neg (by omega)]
      rw [e1]
      rw [if_pos (by omega)]
      unfold szOf
      rw [if_neg (by omega)]
  · have e0 : szOf left (x.f1.length) = -1 := by
      unfold szOf
      rw [if_neg (by omega)]
    rw [e0]
    rw [if_pos (by omega)]
    unfold szOf
    rw [if_neg (by omega)]
theorem sz_TableS (l : List S178) (left : Int) (hb : l.length ≤ 140737488351232 ∧ (∀ y ∈ l, b178 y)) (h0 : 0 ≤ left) (h1 : left ≤ 1048576) : Ev (fun k => laws_szTableS.f k l left) (szOf left (l.length + (l.map n178).sum)) := by
  obtain ⟨hl, hb⟩ := hb
  unfold laws_szTableS.f
  rw [w64 (by omega) (by omega)]
  by_cases hn : left - (l.length : Int) < 0
  · refine Ev.ite_pos hn (Ev.some ?_)
    unfold szOf
    rw [if_neg (by omega)]
  · refine Ev.ite_neg hn ?_
    have hs0 : sumTo n178 l 0 = 0 := by simp [sumTo]
    have e0 : left - (l.length : Int) = left - (l.length : Int) - (sumTo n178 l 0 : Nat) := by rw [hs0]; omega
    rw [e0]
    refine Ev.upIf (n := l.length) (fun i => (l.length : Int) + (sumTo n178 l i : Nat) ≤ left) (g := fun i k => laws_szTableS.l0 k l (left - (l.length : Int) - (sumTo n178 l i : Nat)) (i : Int)) ?_ ?_ (by rw [hs0]; omega)
    · intro i hi hp ih
      have hm := hb _ (getD_mem hi z178)
      have hS := sumTo_succ n178 hi z178
      have hA := sumTo_le n178 l (i + 1)
      refine Ev.step (fun k => by rw [laws_szTableS.l0]) ?_
      repeat (first | (with_reducible refine Ev.ite_pos (by omega) ?_) | (with_reducible refine Ev.ite_neg (by omega) ?_))
      refine Ev.bind0 (sz_Table (l.getD i z178) _ hm (by omega) (by omega)) ?_
      by_cases hc : (l.length : Int) + (sumTo n178 l (i + 1) : Nat) ≤ left
      · have e1 : szOf (left - (l.length : Int) - (sumTo n178 l i : Nat)) (n178 (l.getD i z178)) = left - (l.length : Int) - (sumTo n178 l (i + 1) : Nat) := by
          unfold szOf
          rw [if_pos (by omega)]
          omega
        rw [e1, w64n (by omega)]
        exact Ev.ite_neg (by omega) (ih hc)
      · have e1 : szOf (left - (l.length : Int) - (sumTo n178 l i : Nat)) (n178 (l.getD i z178)) = -1 := by
          unfold szOf
          rw [if_neg (by omega)]
        rw [e1]
        refine Ev.ite_pos (by omega) (Ev.some ?_)
        unfold szOf
        rw [if_neg]
        have : sumTo n178 l l.length = (l.map n178).sum := sumTo_all _ _
        have hA2 := sumTo_le n178 l (i + 1)
        omega
    · intro hp
      refine Ev.step (fun k => by rw [laws_szTableS.l0]) ?_
      repeat (first | (with_reducible refine Ev.ite_pos (by omega) ?_) | (with_reducible refine Ev.ite_neg (by omega) ?_))
      refine Ev.some ?_
      rw [sumTo_all] at hp ⊢
      unfold szOf
      rw [if_pos (by omega)]
      omega
theorem sz_Piece (x : S139) (left : Int) (hb : b139 x) (h0 : 0 ≤ left) (h1 : left ≤ 1048576) : Ev (fun k => laws_szPiece.f k (x.f0.f0) (x.f0.f1) (x.f1) (x.f2) left) (szOf left (n139 x)) := by
  unfold b139 at hb
  unfold laws_szPiece.f n139
  refine Ev.bind0 (sz_LinkS x.f1 left (by first | exact hb.1 | exact hb.2 | exact ⟨hb.1, hb.2.1⟩ | exact ⟨hb.2.2.1, hb.2.2.2⟩ | exact hb.2.2 | exact ⟨hb.2.1, hb.2.2⟩) (by omega) (by omega)) ?_
  by_cases hc0 : ((x.f1.length : Nat) : Int) ≤ left
  · have e0 : szOf left (x.f1.length) = left - ((x.f1.length : Nat) : Int) := by
      unfold szOf
      rw [if_pos (by omega)]
    rw [e0]
    refine Ev.ite_neg (by omega) ?_
    refine Ev.bind (sz_TableS x.f2 _ (by first | exact hb.1 | exact hb.2 | exact ⟨hb.1, hb.2.1⟩ | exact ⟨hb.2.2.1, hb.2.2.2⟩ | exact hb.2.2 | exact ⟨hb.2.1, hb.2.2⟩) (by omega) (by omega)) ?_
    by_cases hc1 : ((x.f1.length + (x.f2.length + (x.f2.map n178).sum) : Nat) : Int) ≤ left
    · have e1 : szOf (left - ((x.f1.length : Nat) : Int)) ((x.f2.length + (x.f2.map n178).sum)) = left - ((x.f1.length + (x.f2.length + (x.f2.map n178).sum) : Nat) : Int) := by
        unfold szOf
        rw [if_pos (by omega)]
        omega
      rw [e1]
      refine Ev.ite_neg (by omega) ?_
      refine Ev.some ?_
      unfold szOf
      rw [if_pos (by omega)]
    · have e1 : szOf (left - ((x.f1.length : Nat) : Int)) ((x.f2.length + (x.f2.map n178).sum)) = -1 := by
        unfold szOf
        rw [if_neg (by omega)]
      rw [e1]
      refine Ev.ite_pos (by omega) (Ev.some ?_)
      unfold szOf
      rw [if_neg (by omega)]
  · have e0 : szOf left (x.f1.length) = -1 := by
      unfold szOf
      rw [if_neg (by omega)]
    rw [e0]
    refine Ev.ite_pos (by omega) (Ev.some ?_)
    unfold szOf
    rw [if_neg (by omega)]
theorem sz_PieceS (l : List S139) (left : Int) (hb : l.length ≤ 140737488351232 ∧ (∀ y ∈ l, b139 y)) (h0 : 0 ≤ left) (h1 : left ≤ 1048576) : Ev (fun k => laws_szPieceS.f k l left) (szOf left (l.length + (l.map n139).sum)) := by
  obtain ⟨hl, hb⟩ := hb
  unfold laws_szPieceS.f
  rw [w64 (by omega) (by omega)]
  by_cases hn : left - (l.length : Int) < 0
  · refine Ev.ite_pos hn (Ev.some ?_)
    unfold szOf
    rw [if_neg (by omega)]
  · refine Ev.ite_neg hn ?_
    have hs0 : sumTo n139 l 0 = 0 := by simp [sumTo]
    have e0 : left - (l.length : Int) = left - (l.length : Int) - (sumTo n139 l 0 : Nat) := by rw [hs0]; omega
    rw [e0]
    refine Ev.upIf (n := l.length) (fun i => (l.length : Int) + (sumTo n139 l i : Nat) ≤ left) (g := fun i k => laws_szPieceS.l0 k l (left - (l.length : Int) - (sumTo n139 l i : Nat)) (i : Int)) ?_ ?_ (by rw [hs0]; omega)
    · intro i hi hp ih
      have hm := hb _ (getD_mem hi z139)
      have hS := sumTo_succ n139 hi z139
      have hA := sumTo_le n139 l (i + 1)
      refine Ev.step (fun k => by rw [laws_szPieceS.l0]) ?_
      repeat (first | (with_reducible refine Ev.ite_pos (by omega) ?_) | (with_reducible refine Ev.ite_neg (by omega) ?_))
      refine Ev.bind (sz_Piece (l.getD i z139) _ hm (by omega) (by omega)) ?_
      by_cases hc : (l.length : Int) + (sumTo n139 l (i + 1) : Nat) ≤ left
      · have e1 : szOf (left - (l.length : Int) - (sumTo n139 l i : Nat)) (n139 (l.getD i z139)) = left - (l.length : Int) - (sumTo n139 l (i + 1) : Nat) := by
          unfold szOf
          rw [if_pos (by omega)]
          omega
        rw [e1, w64n (by omega)]
        exact Ev.ite_neg (by omega) (ih hc)
      · have e1 : szOf (left - (l.length : Int) - (sumTo n139 l i : Nat)) (n139 (l.getD i z139)) = -1 := by
          unfold szOf
          rw [if_neg (by omega)]
        rw [e1]
        refine Ev.ite_pos (by omega) (Ev.some ?_)
        unfold szOf
        rw [if_neg]
        have : sumTo n139 l l.length = (l.map n139).sum := sumTo_all _ _
        have hA2 := sumTo_le n139 l (i + 1)
        omega
    · intro hp
      refine Ev.step (fun k => by rw [laws_szPieceS.l0]) ?_
      repeat (first | (with_reducible refine Ev.ite_pos (by omega) ?_) | (with_reducible refine Ev.ite_neg (by omega) ?_))
      refine Ev.some ?_
      rw [sumTo_all] at hp ⊢
      unfold szOf
      rw [if_pos (by omega)]
      omega
theorem sz_Program (a0 : Int) (a1 : Int) (a2 : Int) (a3 : (List S139)) (left : Int) (hba3 : a3.length ≤ 140737488351232 ∧ (∀ y ∈ a3, b139 y)) (h0 : 0 ≤ left) (h1 : left ≤ 1048576) : Ev (fun k => laws_szProgram.f k a0 a1 a2 a3 left) (szOf left ((a3.length + (a3.map n139).sum))) := by
  unfold laws_szProgram.f
  refine Ev.bind (sz_PieceS a3 left hba3 (by omega) (by omega)) ?_
  by_cases hc0 : (((a3.length + (a3.map n139).sum) : Nat) : Int) ≤ left
  · have e0 : szOf left ((a3.length + (a3.map n139).sum)) = left - (((a3.length + (a3.map n139).sum) : Nat) : Int) := by
      unfold szOf
      rw [if_pos (by omega)]
    rw [e0]
    exact Ev.ite_neg (by omega) (Ev.now _)
  · have e0 : szOf left ((a3.length + (a3.map n139).sum)) = -1 := by
      unfold szOf
      rw [if_neg (by omega)]
    rw [e0]
    exact Ev.ite_pos (by omega) (Ev.now _)
theorem to_Link (x : S180) : laws_toLink.f (x.f0) (x.f1) = some (x.f0, x.f1) := by
  unfold laws_toLink.f
  rfl
theorem to_LinkS (l : List S180) (hn : l.length ≤ 1048576) : Ev (fun k => laws_toLinkS.f k l) (l.map cLink) := by
  unfold laws_toLinkS.f
  repeat (first | (with_reducible refine Ev.ite_pos (by omega) ?_) | (with_reducible refine Ev.ite_neg (by omega) ?_))
  rw [Int.toNat_natCast, ← fillTo_zero cLink z128 l]
  refine Ev.up (n := l.length) (g := fun i k => laws_toLinkS.l0 k l (fillTo cLink z128 l i) (i : Int)) ?_ ?_
  · intro i hi ih
    have hlen := fillTo_length cLink z128 l (Nat.le_of_lt hi)
    rw [← fillTo_set cLink z128 l hi z180] at ih
    refine Ev.step (fun k => by rw [laws_toLinkS.l0]) ?_
    repeat (first | (with_reducible refine Ev.ite_pos (by omega) ?_) | (with_reducible refine Ev.ite_neg (by omega) ?_))
    refine Ev.bind0 (to_Link (l.getD i z180)) ?_
    repeat (first | (with_reducible refine Ev.ite_pos (by omega) ?_) | (with_reducible refine Ev.ite_neg (by omega) ?_))
    rw [Int.toNat_natCast, w64n (by omega)]
    exact ih
  · refine Ev.step (fun k => by rw [laws_toLinkS.l0]) ?_
    repeat (first | (with_reducible refine Ev.ite_pos (by omega) ?_) | (with_reducible refine Ev.ite_neg (by omega) ?_))
    refine Ev.some ?_
    rw [fillTo_all]
theorem to_IntS (l : List Int) (hn : l.length ≤ 1048576) : Ev (fun k => laws_toIntS.f k l) l := by
  unfold laws_toIntS.f
  repeat (first | (with_reducible refine Ev.ite_pos (by omega) ?_) | (with_reducible refine Ev.ite_neg (by omega) ?_))
  rw [Int.toNat_natCast, ← fillTo_zero (fun x => x) 0 l]
  refine Ev.up (n := l.length) (g := fun i k => laws_toIntS.l0 k l (fillTo (fun x => x) 0 l i) (i : Int)) ?_ ?_
  · intro i hi ih
    have hlen := fillTo_length (fun x => x) 0 l (Nat.le_of_lt hi)
    rw [← fillTo_set (fun x => x) 0 l hi 0] at ih
    refine Ev.step (fun k => by rw [laws_toIntS.l0]) ?_
    repeat (first | (with_reducible refine Ev.ite_pos (by omega) ?_) | (with_reducible refine Ev.ite_neg (by omega) ?_))
    rw [Int.toNat_natCast, w64n (by omega)]
    exact ih
  · refine Ev.step (fun k => by rw [laws_toIntS.l0]) ?_
    repeat (first | (with_reducible refine Ev.ite_pos (by omega) ?_) | (with_reducible refine Ev.ite_neg (by omega) ?_))
    refine Ev.some ?_
    rw [fillTo_all]
    simp
theorem to_Table (x : S178) (hn : n178 x ≤ 1048576) : Ev (fun k => laws_toTable.f k (x.f0) (x.f1) (x.f2)) (x.f0, x.f1, x.f2) := by
  unfold n178 at hn
  unfold laws_toTable.f
  refine Ev.bind (to_IntS (x.f1) (by omega)) ?_
  refine Ev.bind (to_IntS (x.f2) (by omega)) ?_
  exact Ev.now _
theorem to_TableS (l : List S178) (hn : (l.length + (l.map n178).sum) ≤ 1048576) : Ev (fun k => laws_toTableS.f k l) (l.map cTable) := by
  unfold laws_toTableS.f
  repeat (first | (with_reducible refine Ev.ite_pos (by omega) ?_) | (with_reducible refine Ev.ite_neg (by omega) ?_))
  rw [Int.toNat_natCast, ← fillTo_zero cTable z65 l]
  refine Ev.up (n := l.length) (g := fun i k => laws_toTableS.l0 k l (fillTo cTable z65 l i) (i : Int)) ?_ ?_
  · intro i hi ih
    have hlen := fillTo_length cTable z65 l (Nat.le_of_lt hi)
    rw [← fillTo_set cTable z65 l hi z178] at ih
    refine Ev.step (fun k => by rw [laws_toTableS.l0]) ?_
    repeat (first | (with_reducible refine Ev.ite_pos (by omega) ?_) | (with_reducible refine Ev.ite_neg (by omega) ?_))
    have hm := le_sum n178 (getD_mem hi z178)
    refine Ev.bind (to_Table (l.getD i z178) (by omega)) ?_
    repeat (first | (with_reducible refine Ev.ite_pos (by omega) ?_) | (with_reducible refine Ev.ite_neg (by omega) ?_))
    rw [Int.toNat_natCast, w64n (by omega)]
    exact ih
  · refine Ev.step (fun k => by rw [laws_toTableS.l0]) ?_
    repeat (first | (with_reducible refine Ev.ite_pos (by omega) ?_) | (with_reducible refine Ev.ite_neg (by omega) ?_))
    refine Ev.some ?_
    rw [fillTo_all]
theorem to_Span (x : S135) : laws_toSpan.f (x.f0) (x.f1) = some (x.f0, x.f1) := by
  unfold laws_toSpan.f
  rfl
theorem to_Piece (x : S139) (hn : n139 x ≤ 1048576) : Ev (fun k => laws_toPiece.f k (x.f0.f0) (x.f0.f1) (x.f1) (x.f2)) (x.f0.f0, x.f0.f1, (x.f1.map cLink), (x.f2.map cTable)) := by
  unfold n139 at hn
  unfold laws_toPiece.f
  refine Ev.bind0 (to_Span (x.f0)) ?_
  refine Ev.bind (to_LinkS (x.f1) (by omega)) ?_
  refine Ev.bind (to_TableS (x.f2) (by omega)) ?_
  exact Ev.now _
theorem to_PieceS (l : List S139) (hn : (l.length + (l.map n139).sum) ≤ 1048576) : Ev (fun k => laws_toPieceS.f k l) (l.map cPiece) := by
  unfold laws_toPieceS.f
  repeat (first | (with_reducible refine Ev.ite_pos (by omega) ?_) | (with_reducible refine Ev.ite_neg (by omega) ?_))
  rw [Int.toNat_natCast, ← fillTo_zero cPiece z106 l]
  refine Ev.up (n := l.length) (g := fun i k => laws_toPieceS.l0 k l (fillTo cPiece z106 l i) (i : Int)) ?_ ?_
  · intro i hi ih
    have hlen := fillTo_length cPiece z106 l (Nat.le_of_lt hi)
    rw [← fillTo_set cPiece z106 l hi z139] at ih
    refine Ev.step (fun k => by rw [laws_toPieceS.l0]) ?_
    repeat (first | (with_reducible refine Ev.ite_pos (by omega) ?_) | (with_reducible refine Ev.ite_neg (by omega) ?_))
    have hm := le_sum n139 (getD_mem hi z139)
    refine Ev.bind (to_Piece (l.getD i z139) (by omega)) ?_
    repeat (first | (with_reducible refine Ev.ite_pos (by omega) ?_) | (with_reducible refine Ev.ite_neg (by omega) ?_))
    rw [Int.toNat_natCast, w64n (by omega)]
    exact ih
  · refine Ev.step (fun k => by rw [laws_toPieceS.l0]) ?_
    repeat (first | (with_reducible refine Ev.ite_pos (by omega) ?_) | (with_reducible refine Ev.ite_neg (by omega) ?_))
    refine Ev.some ?_
    rw [fillTo_all]
theorem to_Program (a0 : Int) (a1 : Int) (a2 : Int) (a3 : (List S139)) (hn : (a3.length + (a3.map n139).sum) ≤ 1048576) : Ev (fun k => laws_toProgram.f k a0 a1 a2 a3) (a0, a1, a2, (a3.map cPiece)) := by
  unfold laws_toProgram.f
  refine Ev.bind (to_PieceS (a3) (by omega)) ?_
  exact Ev.now _
theorem eq_Span (x : S91) : laws_eqSpan.f (x.f0) (x.f1) (x.f0) (x.f1) = some true := by
  unfold laws_eqSpan.f
  simp
theorem eq_Link (x : S128) : laws_eqLink.f (x.f0) (x.f1) (x.f0) (x.f1) = some true := by
  unfold laws_eqLink.f
  simp
theorem eq_LinkS (l : List S128) (hn : l.length ≤ 1048576) : Ev (fun k => laws_eqLinkS.f k l l) true := by
  unfold laws_eqLinkS.f
  refine Ev.ite_pos rfl ?_
  refine Ev.up (n := l.length) (g := fun i k => laws_eqLinkS.l0 k l l (i : Int)) ?_ ?_
  · intro i hi ih
    refine Ev.step (fun k => by rw [laws_eqLinkS.l0]) ?_
    repeat (first | (with_reducible refine Ev.ite_pos (by omega) ?_) | (with_reducible refine Ev.ite_neg (by omega) ?_))
    refine Ev.bind0 (eq_Link (l.getD i z128)) ?_
    refine Ev.ite_pos rfl ?_
    rw [w64n (by omega)]
    exact ih
  · refine Ev.step (fun k => by rw [laws_eqLinkS.l0]) ?_
    repeat (first | (with_reducible refine Ev.ite_pos (by omega) ?_) | (with_reducible refine Ev.ite_neg (by omega) ?_))
    exact Ev.now _
theorem eq_IntS (l : List Int) (hn : l.length ≤ 2097152) : Ev (fun k => laws_eqIntS.f k l l) true := by
  unfold laws_eqIntS.f
  refine Ev.ite_pos rfl ?_
  refine Ev.up (n := l.length) (g := fun i k => laws_eqIntS.l0 k l l (i : Int)) ?_ ?_
  · intro i hi ih
    refine Ev.step (fun k => by rw [laws_eqIntS.l0]) ?_
    repeat (first | (with_reducible refine Ev.ite_pos (by omega) ?_) | (with_reducible refine Ev.ite_neg (by omega) ?_))
    rw [w64n (by omega)]
    exact ih
  · refine Ev.step (fun k => by rw [laws_eqIntS.l0]) ?_
    repeat (first | (with_reducible refine Ev.ite_pos (by omega) ?_) | (with_reducible refine Ev.ite_neg (by omega) ?_))
    exact Ev.now _
theorem eq_Table (x : S65) (hn : n65 x ≤ 1048576) : Ev (fun k => laws_eqTable.f k (x.f0) (x.f1) (x.f2) (x.f0) (x.f1) (x.f2)) true := by
  unfold n65 at hn
  unfold laws_eqTable.f
  refine Ev.ite_pos rfl ?_
  refine Ev.bind (eq_IntS (x.f1) (by omega)) ?_
  refine Ev.ite_pos rfl ?_
  refine Ev.bind (eq_IntS (x.f2) (by omega)) ?_
  refine Ev.ite_pos rfl ?_
  exact Ev.now _
theorem eq_TableS (l : List S65) (hn : (l.length + (l.map n65).sum) ≤ 1048576) : Ev (fun k => laws_eqTableS.f k l l) true := by
  unfold laws_eqTableS.f
  refine Ev.ite_pos rfl ?_
  refine Ev.up (n := l.length) (g := fun i k => laws_eqTableS.l0 k l l (i : Int)) ?_ ?_
  · intro i hi ih
    refine Ev.step (fun k => by rw [laws_eqTableS.l0]) ?_
    repeat (first | (with_reducible refine Ev.ite_pos (by omega) ?_) | (with_reducible refine Ev.ite_neg (by omega) ?_))
    have hm := le_sum n65 (getD_mem hi z65)
    refine Ev.bind (eq_Table (l.getD i z65) (by omega)) ?_
    refine Ev.ite_pos rfl ?_
    rw [w64n (by omega)]
    exact ih
  · refine Ev.step (fun k => by rw [laws_eqTableS.l0]) ?_
    repeat (first | (with_reducible refine Ev.ite_pos (by omega) ?_) | (with_reducible refine Ev.ite_neg (by omega) ?_))
    exact Ev.now _
theorem eq_Piece (x : S106) (hn : n106 x ≤ 1048576) : Ev (fun k => laws_eqPiece.f k (x.f0.f0) (x.f0.f1) (x.f1) (x.f2) (x.f0.f0) (x.f0.f1) (x.f1) (x.f2)) true := by
  unfold n106 at hn
  unfold laws_eqPiece.f
  refine Ev.bind0 (eq_Span (x.f0)) ?_
  refine Ev.ite_pos rfl ?_
  refine Ev.bind (eq_LinkS (x.f1) (by omega)) ?_
  refine Ev.ite_pos rfl ?_
  refine Ev.bind (eq_TableS (x.f2) (by omega)) ?_
  refine Ev.ite_pos rfl ?_
  exact Ev.now _
theorem eq_PieceS (l : List S106) (hn : (l.length + (l.map n106).sum) ≤ 1048576) : Ev (fun k => laws_eqPieceS.f k l l) true := by
  unfold laws_eqPieceS.f
  refine Ev.ite_pos rfl ?_
  refine Ev.up (n := l.length) (g := fun i k => laws_eqPieceS.l0 k l l (i : Int)) ?_ ?_
  · intro i hi ih
    refine Ev.step (fun k => by rw [laws_eqPieceS.l0]) ?_
    repeat (first | (with_reducible refine Ev.ite_pos (by omega) ?_) | (with_reducible refine Ev.ite_neg (by omega) ?_))
    have hm := le_sum n106 (getD_mem hi z106)
    refine Ev.bind (eq_Piece (l.getD i z106) (by omega)) ?_
    refine Ev.ite_pos rfl ?_
    rw [w64n (by omega)]
    exact ih
  · refine Ev.step (fun k => by rw [laws_eqPieceS.l0]) ?_
    repeat (first | (with_reducible refine Ev.ite_pos (by omega) ?_) | (with_reducible refine Ev.ite_neg (by omega) ?_))
    exact Ev.now _
theorem eq_Program (a0 : Int) (a1 : Int) (a2 : Int) (a3 : (List S106)) (hn : (a3.length + (a3.map n106).sum) ≤ 1048576) : Ev (fun k => laws_eqProgram.f k a0 a1 a2 a3 a0 a1 a2 a3) true := by
  unfold laws_eqProgram.f
  refine Ev.ite_pos rfl ?_
  refine Ev.ite_pos rfl ?_
  refine Ev.ite_pos rfl ?_
  refine Ev.bind (eq_PieceS a3 (by omega)) ?_
  refine Ev.ite_pos rfl ?_
  exact Ev.now _
end Go.Proofs.Ytlakjlolahjphaa.fnExactIsHolding
