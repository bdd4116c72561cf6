/- Whether two nodes are linked at a tick, in the program and in the reference. Conditions: none. -/
import Derived.Test.YtadpbpocbfjboaaLnkFnExactMayUse
import Derived.Test.YtadpbpocbfjboaaPceFnExactMayUse
namespace Go.Proofs.Ytadpbpocbfjboaa.fnExactMayUse
open Go.RowKit Go.Proofs.YtadpbpocbfjboaaW.PrintWords Go.Proofs.YtadpbpocbfjboaaW.PrintMore Go.Proofs.Ytadpbpocbfjboaa.QFnExactMayUse Go.Proofs.Ytadpbpocbfjboaa.Open Go.Proofs.Ytadpbpocbfjboaa.Kit
def linked (p : List S69) (a b t : Int) : Bool := linkB p (impl_PieceAt.go t p 0) a b
theorem linked1 (p : List S69) (hp : nPgI p ≤ 1048576) (n a0 s a b t : Int) : Ev (fun r => spec_IsLinked.f r n a0 s p a b t) (linked p a b t) := by
  have hl : p.length ≤ 1048576 := by unfold nPgI at hp; omega
  unfold spec_IsLinked.f
  refine Ev.bind (piece1 p hl n a0 s t) ?_
  refine Ev.bind (link1 p hp n a0 s _ a b) ?_
  exact Ev.now _
theorem linked2 (p : List S69) (hp : nPgI p ≤ 1048576) (n a0 s a b t : Int) : impl_IsLinked.f n a0 s p a b t = some (linked p a b t) := by
  have hl : p.length ≤ 1048576 := by unfold nPgI at hp; omega
  unfold impl_IsLinked.f
  rw [piece2 p hl n a0 s t, Option.bind_some, link2 p hp n a0 s, Option.bind_some]
  rfl
end Go.Proofs.Ytadpbpocbfjboaa.fnExactMayUse
