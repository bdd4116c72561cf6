/- The helpers of the law FnExactPieceAt: sizes, conversions, equality with itself. Conditions: none. -/
import Derived.Test.YtaciciobhfoglaaQFnExactPieceAtx
import Derived.Test.YtaciciobhfoglaaEv
namespace Go.Proofs.Ytaciciobhfoglaa.fnExactPieceAt
open Go.RowKit Go.Proofs.YtaciciobhfoglaaW.PrintWords Go.Proofs.YtaciciobhfoglaaW.PrintLast Go.Proofs.YtaciciobhfoglaaW.PrintMore Go.Proofs.Ytaciciobhfoglaa.QFnExactPieceAt Go.Proofs.Ytaciciobhfoglaa.Open Go.Proofs.Ytaciciobhfoglaa.Kit
def cSpan (x : S102) : S100 := ⟨x.f0, x.f1⟩
def cLink (x : S167) : S165 := ⟨x.f0, x.f1⟩
def n163 (x : S163) : Nat := x.f1.length + x.f2.length
def b163 (x : S163) : Prop := x.f1.length ≤ 140737488351232 ∧ x.f2.length ≤ 140737488351232
def cTable (x : S163) : S168 := ⟨x.f0, x.f1, x.f2⟩
def n151 (x : S151) : Nat := x.f1.length + (x.f2.length + (x.f2.map n163).sum)
def b151 (x : S151) : Prop := x.f1.length ≤ 140737488351232 ∧ x.f2.length ≤ 140737488351232 ∧ (∀ y ∈ x.f2, b163 y)
def cPiece (x : S151) : S134 := ⟨(cSpan x.f0), (x.f1.map cLink), (x.f2.map cTable)⟩
def n168 (x : S168) : Nat := x.f1.length + x.f2.length
def n134 (x : S134) : Nat := x.f1.length + (x.f2.length + (x.f2.map n168).sum)
theorem n_cTable (x : S163) : n168 (cTable x) = n163 x := by
  simp [cTable, n163, n168]
theorem n_cPiece (x : S151) : n134 (cPiece x) = n151 x := by
  simp [cPiece, n134, n151, Function.comp_def, n_cTable]
theorem sz_IntS (l : List Int) (left : Int) (hb : l.length ≤ 140737488351232) (h0 : 0 ≤ left) (h1 : left ≤ 1048576) : laws_szIntS.f l left = some (szOf left l.length) := by
  unfold laws_szIntS.f szOf
  rw [w64 (by omega) (by omega)]
  by_cases h : (l.length : Int) ≤ left
  · rw [if_neg (by omega), if_pos h]
  · rw [if_pos (by omega), if_neg h]
theorem sz_LinkS (l : List S167) (left : Int) (hb : l.length ≤ 140737488351232) (h0 : 0 ≤ left) (h1 : left ≤ 1048576) : laws_szLinkS.f l left = some (szOf left l.length) := by
  unfold laws_szLinkS.f szOf
  rw [w64 (by omega) (by omega)]
  by_cases h : (l.length : Int) ≤ left
  · rw [if_neg (by omega), if_pos h]
  · rw [if_pos (by omega), if_neg h]
theorem sz_Table (x : S163) (left : Int) (hb : b163 x) (h0 : 0 ≤ left) (h1 : left ≤ 1048576) : laws_szTable.f (x.f0) (x.f1) (x.f2) left = some (szOf left (n163 x)) := by
  obtain ⟨hba1, hba2⟩ := hb
  unfold laws_szTable.f n163
  rw [(sz_IntS x.f1 left hba1 (by omega) (by omega)), Option.bind_some]
  by_cases hc0 : ((x.f1.length : Nat) : Int) ≤ left
  · have e0 : szOf left (x.f1.length) = left - ((x.f1.length : Nat) : Int) := by
      unfold szOf
      rw [if_pos (by omega)]
    rw [e0]
    rw [if_neg (by omega)]
    rw [(sz_IntS x.f2 _ hba2 (by omega) (by omega)), Option.bind_some]
    by_cases hc1 : ((x.f1.length + x.f2.length : Nat) : Int) ≤ left
    · have e1 : szOf (left - ((x.f1.length : Nat) : Int)) (x.f2.length) = left - ((x.f1.length + x.f2.length : Nat) : Int) := by
        unfold szOf
        rw [if_pos (by omega)]
        omega
      rw [e1]
      rw [if_neg (by omega)]
      unfold szOf
      rw [if_pos (by omega)]
    · have e1 : szOf (left - ((x.f1.length : Nat) : Int)) (x.f2.length) = -1 := by
        unfold szOf
        rw [if_neg (by omega)]
      rw [e1]
      rw [if_pos (by omega)]
      unfold szOf
      rw [if_neg (by omega)]
  · have e0 : szOf left (x.f1.length) = -1 := by
      unfold szOf
      rw [if_neg (by omega)]
    rw [e0]
    rw [if_pos (by omega)]
    unfold szOf
    rw [if_neg (by omega)]
theorem sz_TableS (l : List S163) (left : Int) (hb : l.length ≤ 140737488351232 ∧ (∀ y ∈ l, b163 y)) (h0 : 0 ≤ left) (h1 : left ≤ 1048576) : Ev (fun k => laws_szTableS.f k l left) (szOf left (l.length + (l.map n163).sum)) := by
  obtain ⟨hl, hb⟩ := hb
  unfold laws_szTableS.f
  rw [w64 (by omega) (by omega)]
  by_cases hn : left - (l.length : Int) < 0
  · refine Ev.ite_pos hn (Ev.some ?_)
    unfold szOf
    rw [if_neg (by omega)]
  · refine Ev.ite_neg hn ?_
    have hs0 : sumTo n163 l 0 = 0 := by simp [sumTo]
    have e0 : left - (l.length : Int) = left - (l.length : Int) - (sumTo n163 l 0 : Nat) := by rw [hs0]; omega
    rw [e0]
    refine Ev.upIf (n := l.length) (fun i => (l.length : Int) + (sumTo n163 l i : Nat) ≤ left) (g := fun i k => laws_szTableS.l0 k l (left - (l.length : Int) - (sumTo n163 l i : Nat)) (i : Int)) ?_ ?_ (by rw [hs0]; omega)
    · intro i hi hp ih
      have hm := hb _ (getD_mem hi z163)
      have hS := sumTo_succ n163 hi z163
      have hA := sumTo_le n163 l (i + 1)
      refine Ev.step (fun k => by rw [laws_szTableS.l0]) ?_
      repeat (first | (with_reducible refine Ev.ite_pos (by omega) ?_) | (with_reducible refine Ev.ite_neg (by omega) ?_))
      refine Ev.bind0 (sz_Table (l.getD i z163) _ hm (by omega) (by omega)) ?_
      by_cases hc : (l.length : Int) + (sumTo n163 l (i + 1) : Nat) ≤ left
      · have e1 : szOf (left - (l.length : Int) - (sumTo n163 l i : Nat)) (n163 (l.getD i z163)) = left - (l.length : Int) - (sumTo n163 l (i + 1) : Nat) := by
          unfold szOf
          rw [if_pos (by omega)]
          omega
        rw [e1, w64n (by omega)]
        exact Ev.ite_neg (by omega) (ih hc)
      · have e1 : szOf (left - (l.length : Int) - (sumTo n163 l i : Nat)) (n163 (l.getD i z163)) = -1 := by
          unfold szOf
          rw [if_neg (by omega)]
        rw [e1]
        refine Ev.ite_pos (by omega) (Ev.some ?_)
        unfold szOf
        rw [if_neg]
        have : sumTo n163 l l.length = (l.map n163).sum := sumTo_all _ _
        have hA2 := sumTo_le n163 l (i + 1)
        omega
    · intro hp
      refine Ev.step (fun k => by rw [laws_szTableS.l0]) ?_
      repeat (first | (with_reducible refine Ev.ite_pos (by omega) ?_) | (with_reducible refine Ev.ite_neg (by omega) ?_))
      refine Ev.some ?_
      rw [sumTo_all] at hp ⊢
      unfold szOf
      rw [if_pos (by omega)]
      omega
theorem sz_Piece (x : S151) (left : Int) (hb : b151 x) (h0 : 0 ≤ left) (h1 : left ≤ 1048576) : Ev (fun k => laws_szPiece.f k (x.f0.f0) (x.f0.f1) (x.f1) (x.f2) left) (szOf left (n151 x)) := by
  unfold b151 at hb
  unfold laws_szPiece.f n151
  refine Ev.bind0 (sz_LinkS x.f1 left (by first | exact hb.1 | exact hb.2 | exact ⟨hb.1, hb.2.1⟩ | exact ⟨hb.2.2.1, hb.2.2.2⟩ | exact hb.2.2 | exact ⟨hb.2.1, hb.2.2⟩) (by omega) (by omega)) ?_
  by_cases hc0 : ((x.f1.length : Nat) : Int) ≤ left
  · have e0 : szOf left (x.f1.length) = left - ((x.f1.length : Nat) : Int) := by
      unfold szOf
      rw [if_pos (by omega)]
    rw [e0]
    refine Ev.ite_neg (by omega) ?_
    refine Ev.bind (sz_TableS x.f2 _ (by first | exact hb.1 | exact hb.2 | exact ⟨hb.1, hb.2.1⟩ | exact ⟨hb.2.2.1, hb.2.2.2⟩ | exact hb.2.2 | exact ⟨hb.2.1, hb.2.2⟩) (by omega) (by omega)) ?_
    by_cases hc1 : ((x.f1.length + (x.f2.length + (x.f2.map n163).sum) : Nat) : Int) ≤ left
    · have e1 : szOf (left - ((x.f1.length : Nat) : Int)) ((x.f2.length + (x.f2.map n163).sum)) = left - ((x.f1.length + (x.f2.length + (x.f2.map n163).sum) : Nat) : Int) := by
        unfold szOf
        rw [if_pos (by omega)]
        omega
      rw [e1]
      refine Ev.ite_neg (by omega) ?_
      refine Ev.some ?_
      unfold szOf
      rw [if_pos (by omega)]
    · have e1 : szOf (left - ((x.f1.length : Nat) : Int)) ((x.f2.length + (x.f2.map n163).sum)) = -1 := by
        unfold szOf
        rw [if_neg (by omega)]
      rw [e1]
      refine Ev.ite_pos (by omega) (Ev.some ?_)
      unfold szOf
      rw [if_neg (by omega)]
  · have e0 : szOf left (x.f1.length) = -1 := by
      unfold szOf
      rw [if_neg (by omega)]
    rw [e0]
    refine Ev.ite_pos (by omega) (Ev.some ?_)
    unfold szOf
    rw [if_neg (by omega)]
theorem sz_PieceS (l : List S151) (left : Int) (hb : l.length ≤ 140737488351232 ∧ (∀ y ∈ l, b151 y)) (h0 : 0 ≤ left) (h1 : left ≤ 1048576) : Ev (fun k => laws_szPieceS.f k l left) (szOf left (l.length + (l.map n151).sum)) := by
  obtain ⟨hl, hb⟩ := hb
  unfold laws_szPieceS.f
  rw [w64 (by omega) (by omega)]
  by_cases hn : left - (l.length : Int) < 0
  · refine Ev.ite_pos hn (Ev.some ?_)
    unfold szOf
    rw [if_neg (by omega)]
  · refine Ev.ite_neg hn ?_
    have hs0 : sumTo n151 l 0 = 0 := by simp [sumTo]
    have e0 : left - (l.length : Int) = left - (l.length : Int) - (sumTo n151 l 0 : Nat) := by rw [hs0]; omega
    rw [e0]
    refine Ev.upIf (n := l.length) (fun i => (l.length : Int) + (sumTo n151 l i : Nat) ≤ left) (g := fun i k => laws_szPieceS.l0 k l (left - (l.length : Int) - (sumTo n151 l i : Nat)) (i : Int)) ?_ ?_ (by rw [hs0]; omega)
    · intro i hi hp ih
      have hm := hb _ (getD_mem hi z151)
      have hS := sumTo_succ n151 hi z151
      have hA := sumTo_le n151 l (i + 1)
      refine Ev.step (fun k => by rw [laws_szPieceS.l0]) ?_
      repeat (first | (with_reducible refine Ev.ite_pos (by omega) ?_) | (with_reducible refine Ev.ite_neg (by omega) ?_))
      refine Ev.bind (sz_Piece (l.getD i z151) _ hm (by omega) (by omega)) ?_
      by_cases hc : (l.length : Int) + (sumTo n151 l (i + 1) : Nat) ≤ left
      · have e1 : szOf (left - (l.length : Int) - (sumTo n151 l i : Nat)) (n151 (l.getD i z151)) = left - (l.length : Int) - (sumTo n151 l (i + 1) : Nat) := by
          unfold szOf
          rw [if_pos (by omega)]
          omega
        rw [e1, w64n (by omega)]
        exact Ev.ite_neg (by omega) (ih hc)
      · have e1 : szOf (left - (l.length : Int) - (sumTo n151 l i : Nat)) (n151 (l.getD i z151)) = -1 := by
          unfold szOf
          rw [if_neg (by omega)]
        rw [e1]
        refine Ev.ite_pos (by omega) (Ev.some ?_)
        unfold szOf
        rw [if_neg]
        have : sumTo n151 l l.length = (l.map n151).sum := sumTo_all _ _
        have hA2 := sumTo_le n151 l (i + 1)
        omega
    · intro hp
      refine Ev.step (fun k => by rw [laws_szPieceS.l0]) ?_
      repeat (first | (with_reducible refine Ev.ite_pos (by omega) ?_) | (with_reducible refine Ev.ite_neg (by omega) ?_))
      refine Ev.some ?_
      rw [sumTo_all] at hp ⊢
      unfold szOf
      rw [if_pos (by omega)]
      omega
theorem sz_Program (a0 : Int) (a1 : Int) (a2 : Int) (a3 : (List S151)) (left : Int) (hba3 : a3.length ≤ 140737488351232 ∧ (∀ y ∈ a3, b151 y)) (h0 : 0 ≤ left) (h1 : left ≤ 1048576) : Ev (fun k => laws_szProgram.f k a0 a1 a2 a3 left) (szOf left ((a3.length + (a3.map n151).sum))) := by
  unfold laws_szProgram.f
  refine Ev.bind (sz_PieceS a3 left hba3 (by omega) (by omega)) ?_
  by_cases hc0 : (((a3.length + (a3.map n151).sum) : Nat) : Int) ≤ left
  · have e0 : szOf left ((a3.length + (a3.map n151).sum)) = left - (((a3.length + (a3.map n151).sum) : Nat) : Int) := by
      unfold szOf
      rw [if_pos (by omega)]
    rw [e0]
    exact Ev.ite_neg (by omega) (Ev.now _)
  · have e0 : szOf left ((a3.length + (a3.map n151).sum)) = -1 := by
      unfold szOf
      rw [if_neg (by omega)]
    rw [e0]
    exact Ev.ite_pos (by omega) (Ev.now _)
theorem to_IntS (l : List Int) (hn : l.length ≤ 1048576) : Ev (fun k => laws_toIntS.f k l) l := by
  unfold laws_toIntS.f
  repeat (first | (with_reducible refine Ev.ite_pos (by omega) ?_) | (with_reducible refine Ev.ite_neg (by omega) ?_))
  rw [Int.toNat_natCast, ← fillTo_zero (fun x => x) 0 l]
  refine Ev.up (n := l.length) (g := fun i k => laws_toIntS.l0 k l (fillTo (fun x => x) 0 l i) (i : Int)) ?_ ?_
  · intro i hi ih
    have hlen := fillTo_length (fun x => x) 0 l (Nat.le_of_lt hi)
    rw [← fillTo_set (fun x => x) 0 l hi 0] at ih
    refine Ev.step (fun k => by rw [laws_toIntS.l0]) ?_
    repeat (first | (with_reducible refine Ev.ite_pos (by omega) ?_) | (with_reducible refine Ev.ite_neg (by omega) ?_))
    rw [Int.toNat_natCast, w64n (by omega)]
    exact ih
  · refine Ev.step (fun k => by rw [laws_toIntS.l0]) ?_
    repeat (first | (with_reducible refine Ev.ite_pos (by omega) ?_) | (with_reducible refine Ev.ite_neg (by omega) ?_))
    refine Ev.some ?_
    rw [fillTo_all]
    simp
theorem to_Link (x : S167) : laws_toLink.f (x.f0) (x.f1) = some (x.f0, x.f1) := by
  unfold laws_toLink.f
  rfl
theorem to_LinkS (l : List S167) (hn : l.length ≤ 1048576) : Ev (fun k => laws_toLinkS.f k l) (l.map cLink) := by
  unfold laws_toLinkS.f
  repeat (first | (with_reducible refine Ev.ite_pos (by omega) ?_) | (with_reducible refine Ev.ite_neg (by omega) ?_))
  rw [Int.toNat_natCast, ← fillTo_zero cLink z165 l]
  refine Ev.up (n := l.length) (g := fun i k => laws_toLinkS.l0 k l (fillTo cLink z165 l i) (i : Int)) ?_ ?_
  · intro i hi ih
    have hlen := fillTo_length cLink z165 l (Nat.le_of_lt hi)
    rw [← fillTo_set cLink z165 l hi z167] at ih
    refine Ev.step (fun k => by rw [laws_toLinkS.l0]) ?_
    repeat (first | (with_reducible refine Ev.ite_pos (by omega) ?_) | (with_reducible refine Ev.ite_neg (by omega) ?_))
    refine Ev.bind0 (to_Link (l.getD i z167)) ?_
    repeat (first | (with_reducible refine Ev.ite_pos (by omega) ?_) | (with_reducible refine Ev.ite_neg (by omega) ?_))
    rw [Int.toNat_natCast, w64n (by omega)]
    exact ih
  · refine Ev.step (fun k => by rw [laws_toLinkS.l0]) ?_
    repeat (first | (with_reducible refine Ev.ite_pos (by omega) ?_) | (with_reducible refine Ev.ite_neg (by omega) ?_))
    refine Ev.some ?_
    rw [fillTo_all]
theorem to_Table (x : S163) (hn : n163 x ≤ 1048576) : Ev (fun k => laws_toTable.f k (x.f0) (x.f1) (x.f2)) (x.f0, x.f1, x.f2) := by
  unfold n163 at hn
  unfold laws_toTable.f
  refine Ev.bind (to_IntS (x.f1) (by omega)) ?_
  refine Ev.bind (to_IntS (x.f2) (by omega)) ?_
  exact Ev.now _
theorem to_TableS (l : List S163) (hn : (l.length + (l.map n163).sum) ≤ 1048576) : Ev (fun k => laws_toTableS.f k l) (l.map cTable) := by
  unfold laws_toTableS.f
  repeat (first | (with_reducible refine Ev.ite_pos (by omega) ?_) | (with_reducible refine Ev.ite_neg (by omega) ?_))
  rw [Int.toNat_natCast, ← fillTo_zero cTable z168 l]
  refine Ev.up (n := l.length) (g := fun i k => laws_toTableS.l0 k l (fillTo cTable z168 l i) (i : Int)) ?_ ?_
  · intro i hi ih
    have hlen := fillTo_length cTable z168 l (Nat.le_of_lt hi)
    rw [← fillTo_set cTable z168 l hi z163] at ih
    refine Ev.step (fun k => by rw [laws_toTableS.l0]) ?_
    repeat (first | (with_reducible refine Ev.ite_pos (by omega) ?_) | (with_reducible refine Ev.ite_neg (by omega) ?_))
    have hm := le_sum n163 (getD_mem hi z163)
    refine Ev.bind (to_Table (l.getD i z163) (by omega)) ?_
    repeat (first | (with_reducible refine Ev.ite_pos (by omega) ?_) | (with_reducible refine Ev.ite_neg (by omega) ?_))
    rw [Int.toNat_natCast, w64n (by omega)]
    exact ih
  · refine Ev.step (fun k => by rw [laws_toTableS.l0]) ?_
    repeat (first | (with_reducible refine Ev.ite_pos (by omega) ?_) | (with_reducible refine Ev.ite_neg (by omega) ?_))
    refine Ev.some ?_
    rw [fillTo_all]
theorem to_Span (x : S102) : laws_toSpan.f (x.f0) (x.f1) = some (x.f0, x.f1) := by
  unfold laws_toSpan.f
  rfl
theorem to_Piece (x : S151) (hn : n151 x ≤ 1048576) : Ev (fun k => laws_toPiece.f k (x.f0.f0) (x.f0.f1) (x.f1) (x.f2)) (x.f0.f0, x.f0.f1, (x.f1.map cLink), (x.f2.map cTable)) := by
  unfold n151 at hn
  unfold laws_toPiece.f
  refine Ev.bind0 (to_Span (x.f0)) ?_
  refine Ev.bind (to_LinkS (x.f1) (by omega)) ?_
  refine Ev.bind (to_TableS (x.f2) (by omega)) ?_
  exact Ev.now _
theorem to_PieceS (l : List S151) (hn : (l.length + (l.map n151).sum) ≤ 1048576) : Ev (fun k => laws_toPieceS.f k l) (l.map cPiece) := by
  unfold laws_toPieceS.f
  repeat (first | (with_reducible refine Ev.ite_pos (by omega) ?_) | (with_reducible refine Ev.ite_neg (by omega) ?_))
  rw [Int.toNat_natCast, ← fillTo_zero cPiece z134 l]
  refine Ev.up (n := l.length) (g := fun i k => laws_toPieceS.l0 k l (fillTo cPiece z134 l i) (i : Int)) ?_ ?_
  · intro i hi ih
    have hlen := fillTo_length cPiece z134 l (Nat.le_of_lt hi)
    rw [← fillTo_set cPiece z134 l hi z151] at ih
    refine Ev.step (fun k => by rw [laws_toPieceS.l0]) ?_
    repeat (first | (with_reducible refine Ev.ite_pos (by omega) ?_) | (with_reducible refine Ev.ite_neg (by omega) ?_))
    have hm := le_sum n151 (getD_mem hi z151)
    refine Ev.bind (to_Piece (l.getD i z151) (by omega)) ?_
    repeat (first | (with_reducible refine Ev.ite_pos (by omega) ?_) | (with_reducible refine Ev.ite_neg (by omega) ?_))
    rw [Int.toNat_natCast, w64n (by omega)]
    exact ih
  · refine Ev.step (fun k => by rw [laws_toPieceS.l0]) ?_
    repeat (first | (with_reducible refine Ev.ite_pos (by omega) ?_) | (with_reducible refine Ev.ite_neg (by omega) ?_))
    refine Ev.some ?_
    rw [fillTo_all]
theorem to_Program (a0 : Int) (a1 : Int) (a2 : Int) (a3 : (List S151)) (hn : (a3.length + (a3.map n151).sum) ≤ 1048576) : Ev (fun k => laws_toProgram.f k a0 a1 a2 a3) (a0, a1, a2, (a3.map cPiece)) := by
  unfold laws_toProgram.f
  refine Ev.bind (to_PieceS (a3) (by omega)) ?_
  exact Ev.now _
theorem eq_IntS (l : List Int) (hn : l.length ≤ 2097152) : Ev (fun k => laws_eqIntS.f k l l) true := by
  unfold laws_eqIntS.f
  refine Ev.ite_pos rfl ?_
  refine Ev.up (n := l.length) (g := fun i k => laws_eqIntS.l0 k l l (i : Int)) ?_ ?_
  · intro i hi ih
    refine Ev.step (fun k => by rw [laws_eqIntS.l0]) ?_
    repeat (first | (with_reducible refine Ev.ite_pos (by omega) ?_) | (with_reducible refine Ev.ite_neg (by omega) ?_))
    rw [w64n (by omega)]
    exact ih
  · refine Ev.step (fun k => by rw [laws_eqIntS.l0]) ?_
    repeat (first | (with_reducible refine Ev.ite_pos (by omega) ?_) | (with_reducible refine Ev.ite_neg (by omega) ?_))
    exact Ev.now _
theorem eq_Span (x : S100) : laws_eqSpan.f (x.f0) (x.f1) (x.f0) (x.f1) = some true := by
  unfold laws_eqSpan.f
  simp
theorem eq_Link (x : S165) : laws_eqLink.f (x.f0) (x.f1) (x.f0) (x.f1) = some true := by
  unfold laws_eqLink.f
  simp
theorem eq_LinkS (l : List S165) (hn : l.length ≤ 1048576) : Ev (fun k => laws_eqLinkS.f k l l) true := by
  unfold laws_eqLinkS.f
  refine Ev.ite_pos rfl ?_
  refine Ev.up (n := l.length) (g := fun i k => laws_eqLinkS.l0 k l l (i : Int)) ?_ ?_
  · intro i hi ih
    refine Ev.step (fun k => by rw [laws_eqLinkS.l0]) ?_
    repeat (first | (with_reducible refine Ev.ite_pos (by omega) ?_) | (with_reducible refine Ev.ite_neg (by omega) ?_))
    refine Ev.bind0 (eq_Link (l.getD i z165)) ?_
    refine Ev.ite_pos rfl ?_
    rw [w64n (by omega)]
    exact ih
  · refine Ev.step (fun k => by rw [laws_eqLinkS.l0]) ?_
    repeat (first | (with_reducible refine Ev.ite_pos (by omega) ?_) | (with_reducible refine Ev.ite_neg (by omega) ?_))
    exact Ev.now _
theorem eq_Table (x : S168) (hn : n168 x ≤ 1048576) : Ev (fun k => laws_eqTable.f k (x.f0) (x.f1) (x.f2) (x.f0) (x.f1) (x.f2)) true := by
  unfold n168 at hn
  unfold laws_eqTable.f
  refine Ev.ite_pos rfl ?_
  refine Ev.bind (eq_IntS (x.f1) (by omega)) ?_
  refine Ev.ite_pos rfl ?_
  refine Ev.bind (eq_IntS (x.f2) (by omega)) ?_
  refine Ev.ite_pos rfl ?_
  exact Ev.now _
theorem eq_TableS (l : List S168) (hn : (l.length + (l.map n168).sum) ≤ 1048576) : Ev (fun k => laws_eqTableS.f k l l) true := by
  unfold laws_eqTableS.f
  refine Ev.ite_pos rfl ?_
  refine Ev.up (n := l.length) (g := fun i k => laws_eqTableS.l0 k l l (i : Int)) ?_ ?_
  · intro i hi ih
    refine Ev.step (fun k => by rw [laws_eqTableS.l0]) ?_
    repeat (first | (with_reducible refine Ev.ite_pos (by omega) ?_) | (with_reducible refine Ev.ite_neg (by omega) ?_))
    have hm := le_sum n168 (getD_mem hi z168)
    refine Ev.bind (eq_Table (l.getD i z168) (by omega)) ?_
    refine Ev.ite_pos rfl ?_
    rw [w64n (by omega)]
    exact ih
  · refine Ev.step (fun k => by rw [laws_eqTableS.l0]) ?_
    repeat (first | (with_reducible refine Ev.ite_pos (by omega) ?_) | (with_reducible refine Ev.ite_neg (by omega) ?_))
    exact Ev.now _
theorem eq_Piece (x : S134) (hn : n134 x ≤ 1048576) : Ev (fun k => laws_eqPiece.f k (x.f0.f0) (x.f0.f1) (x.f1) (x.f2) (x.f0.f0) (x.f0.f1) (x.f1) (x.f2)) true := by
  unfold n134 at hn
  unfold laws_eqPiece.f
  refine Ev.bind0 (eq_Span (x.f0)) ?_
  refine Ev.ite_pos rfl ?_
  refine Ev.bind (eq_LinkS (x.f1) (by omega)) ?_
  refine Ev.ite_pos rfl ?_
  refine Ev.bind (eq_TableS (x.f2) (by omega)) ?_
  refine Ev.ite_pos rfl ?_
  exact Ev.now _
theorem eq_PieceS (l : List S134) (hn : (l.length + (l.map n134).sum) ≤ 1048576) : Ev (fun k => laws_eqPieceS.f k l l) true := by
  unfold laws_eqPieceS.f
  refine Ev.ite_pos rfl ?_
  refine Ev.up (n := l.length) (g := fun i k => laws_eqPieceS.l0 k l l (i : Int)) ?_ ?_
  · intro i hi ih
    refine Ev.step (fun k => by rw [laws_eqPieceS.l0]) ?_
    repeat (first | (with_reducible refine Ev.ite_pos (by omega) ?_) | (with_reducible refine Ev.ite_neg (by omega) ?_))
    have hm := le_sum n134 (getD_mem hi z134)
    refine Ev.bind (eq_Piece (l.getD i z134) (by omega)) ?_
    refine Ev.ite_pos rfl ?_
    rw [w64n (by omega)]
    exact ih
  · refine Ev.step (fun k => by rw [laws_eqPieceS.l0]) ?_
    repeat (first | (with_reducible refine Ev.ite_pos (by omega) ?_) | (with_reducible refine Ev.ite_neg (by omega) ?_))
    exact Ev.now _
theorem eq_Program (a0 : Int) (a1 : Int) (a2 : Int) (a3 : (List S134)) (hn : (a3.length + (a3.map n134).sum) ≤ 1048576) : Ev (fun k => laws_eqProgram.f k a0 a1 a2 a3 a0 a1 a2 a3) true := by
  unfold laws_eqProgram.f
  refine Ev.ite_pos rfl ?_
  refine Ev.ite_pos rfl ?_
  refine Ev.ite_pos rfl ?_
  refine Ev.bind (eq_PieceS a3 (by omega)) ?_
  refine Ev.ite_pos rfl ?_
  exact Ev.now _
end Go.Proofs.Ytaciciobhfoglaa.fnExactPieceAt
