/- Whether a node holds what it would send, in the program and in the reference. Conditions: none. -/
import Derived.Test.YtlakjlolahjphaaHopFnExactIsHolding
namespace Go.Proofs.Ytlakjlolahjphaa.fnExactIsHolding
open Go.RowKit Go.Proofs.YtlakjlolahjphaaW.PrintWords Go.Proofs.YtlakjlolahjphaaW.PrintMore Go.Proofs.Ytlakjlolahjphaa.QFnExactIsHolding Go.Proofs.Ytlakjlolahjphaa.Open Go.Proofs.Ytlakjlolahjphaa.Kit
noncomputable def holdB (p : List S106) (hp : nPgI p ≤ 1048576) (n a s node d t : Int) : Bool := if hop p hp n a s node d t = -1 then decide ((nx p (impl_PieceAt.go t p 0) d node).1 ≥ 0) else false
theorem hold1 (p : List S106) (hp : nPgI p ≤ 1048576) (n a s node d t : Int) : Ev (fun k => spec_IsHolding.f k n a s p node d t) (holdB p hp n a s node d t) := by
  unfold spec_IsHolding.f holdB
  refine Ev.bind (hop1 p hp n a s node d t) ?_
  by_cases h : hop p hp n a s node d t = -1
  · rw [if_pos h]
    exact Ev.ite_pos h (Ev.bind (next1 p hp n a s node d t) (Ev.now _))
  · rw [if_neg h]
    exact Ev.ite_neg h (Ev.now _)
theorem hold2 (p : List S106) (hp : nPgI p ≤ 1048576) (n a s node d t : Int) : Ev (fun k => impl_IsHolding.f k n a s p node d t) (holdB p hp n a s node d t) := by
  have hl : p.length ≤ 1048576 := by unfold nPgI at hp; omega
  unfold impl_IsHolding.f holdB
  refine Ev.bind0 (piece2 p hl n a s t) (Ev.bind0 (next2 p hp n a s _ d node) ?_)
  refine Ev.bind (hop2 p hp n a s node d t) ?_
  by_cases h : hop p hp n a s node d t = -1
  · refine Ev.ite_pos h (Ev.some ?_)
    rw [if_pos h]
  · refine Ev.ite_neg h (Ev.some ?_)
    rw [if_neg h]
end Go.Proofs.Ytlakjlolahjphaa.fnExactIsHolding
