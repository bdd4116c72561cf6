/- Bounds on programs that a law is handed. Conditions: none. -/
import Derived.Test.YtlakjlolahjphaaRowFnExactIsHolding
import Derived.Test.YtlakjlolahjphaaKFnExactIsHolding
namespace Go.Proofs.Ytlakjlolahjphaa.fnExactIsHolding
open Go.RowKit Go.Proofs.YtlakjlolahjphaaW.PrintWords Go.Proofs.YtlakjlolahjphaaW.PrintMore Go.Proofs.Ytlakjlolahjphaa.QFnExactIsHolding Go.Proofs.Ytlakjlolahjphaa.Open Go.Proofs.Ytlakjlolahjphaa.Kit
theorem bTable {x : S178} (h : g178 x) : b178 x := ⟨Len.le h.2.1.1 (by omega), Len.le h.2.2.1 (by omega)⟩
theorem bPiece {x : S139} (h : g139 x) : b139 x := ⟨Len.le h.2.1.1 (by omega), Len.le h.2.2.1 (by omega), fun y hy => bTable (h.2.2.2 y hy)⟩
/-- How many elements a program has in all. -/
def nPg (l : List S139) : Nat := l.length + (l.map n139).sum
def nPgI (l : List S106) : Nat := l.length + (l.map n106).sum
theorem nPgI_c (l : List S139) : nPgI (l.map cPiece) = nPg l := by
  unfold nPgI nPg
  rw [List.length_map, List.map_map]
  congr 2
  exact List.map_congr_left fun x _ => n_cPiece x
end Go.Proofs.Ytlakjlolahjphaa.fnExactIsHolding
