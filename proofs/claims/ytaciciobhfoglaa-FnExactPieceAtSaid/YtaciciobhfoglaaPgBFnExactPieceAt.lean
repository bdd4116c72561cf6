/- Bounds on programs that a law is handed. Conditions: none. -/
import Derived.Test.YtaciciobhfoglaaRowFnExactPieceAt
import Derived.Test.YtaciciobhfoglaaKFnExactPieceAt
namespace Go.Proofs.Ytaciciobhfoglaa.fnExactPieceAt
open Go.RowKit Go.Proofs.YtaciciobhfoglaaW.PrintWords Go.Proofs.YtaciciobhfoglaaW.PrintMore Go.Proofs.Ytaciciobhfoglaa.QFnExactPieceAt Go.Proofs.Ytaciciobhfoglaa.Open Go.Proofs.Ytaciciobhfoglaa.Kit
theorem bTable {x : S163} (h : g163 x) : b163 x := ⟨Len.le h.2.1.1 (by omega), Len.le h.2.2.1 (by omega)⟩
theorem bPiece {x : S151} (h : g151 x) : b151 x := ⟨Len.le h.2.1.1 (by omega), Len.le h.2.2.1 (by omega), fun y hy => bTable (h.2.2.2 y hy)⟩
/-- How many elements a program has in all. -/
def nPg (l : List S151) : Nat := l.length + (l.map n151).sum
def nPgI (l : List S134) : Nat := l.length + (l.map n134).sum
theorem nPgI_c (l : List S151) : nPgI (l.map cPiece) = nPg l := by
  unfold nPgI nPg
  rw [List.length_map, List.map_map]
  congr 2
  exact List.map_congr_left fun x _ => n_cPiece x
end Go.Proofs.Ytaciciobhfoglaa.fnExactPieceAt
