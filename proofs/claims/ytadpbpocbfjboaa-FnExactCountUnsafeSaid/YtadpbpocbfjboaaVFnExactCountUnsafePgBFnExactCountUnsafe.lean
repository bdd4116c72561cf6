/- Bounds on programs that a law is handed. Conditions: none. -/
import Derived.Test.YtadpbpocbfjboaaVFnExactCountUnsafeRowFnExactCountUnsafe
import Derived.Test.YtadpbpocbfjboaaVFnExactCountUnsafeKFnExactCountUnsafe
namespace Go.Proofs.Ytadpbpocbfjboaa.fnExactCountUnsafe
open Go.RowKit Go.Proofs.YtadpbpocbfjboaaW.PrintWords Go.Proofs.YtadpbpocbfjboaaW.PrintMore Go.Proofs.Ytadpbpocbfjboaa.QFnExactCountUnsafe Go.Proofs.Ytadpbpocbfjboaa.Open Go.Proofs.Ytadpbpocbfjboaa.Kit
theorem bTable {x : S135} (h : g135 x) : b135 x := ⟨Len.le h.2.1.1 (by omega), Len.le h.2.2.1 (by omega)⟩
theorem bPiece {x : S97} (h : g97 x) : b97 x := ⟨Len.le h.2.1.1 (by omega), Len.le h.2.2.1 (by omega), fun y hy => bTable (h.2.2.2 y hy)⟩
/-- How many elements a program has in all. -/
def nPg (l : List S97) : Nat := l.length + (l.map n97).sum
def nPgI (l : List S69) : Nat := l.length + (l.map n69).sum
theorem nPgI_c (l : List S97) : nPgI (l.map cPiece) = nPg l := by
  unfold nPgI nPg
  rw [List.length_map, List.map_map]
  congr 2
  exact List.map_congr_left fun x _ => n_cPiece x
end Go.Proofs.Ytadpbpocbfjboaa.fnExactCountUnsafe
