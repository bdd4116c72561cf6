/- FnExactIsHolding: the program and the reference agree on who holds. Conditions: none. -/
import Derived.Test.YtlakjlolahjphaaHoldFnExactIsHolding
namespace Go.Proofs.Ytlakjlolahjphaa.fnExactIsHolding
open Go.RowKit Go.Proofs.YtlakjlolahjphaaW.PrintWords Go.Proofs.YtlakjlolahjphaaW.PrintMore Go.Proofs.Ytlakjlolahjphaa.QFnExactIsHolding Go.Proofs.Ytlakjlolahjphaa.Open Go.Proofs.Ytlakjlolahjphaa.Kit
theorem pure : PureFnExactIsHolding := by
  intro n f s p u v w _ _ _ hp _ _ _
  have hb : p.length ≤ 140737488351232 ∧ (∀ y ∈ p, b139 y) := ⟨Len.le hp.1 (by omega), fun y hy => bPiece (hp.2 y hy)⟩
  refine Ev.rounds (r := true) ?_
  unfold laws_FnExactIsHolding.f
  refine Ev.bind (sz_Program n f s p 1048576 hb (by omega) (by omega)) ?_
  by_cases hn : ((nPg p : Nat) : Int) ≤ 1048576
  · have hs : szOf 1048576 (p.length + (p.map n139).sum) = 1048576 - ((nPg p : Nat) : Int) := by unfold szOf nPg; rw [if_pos (by exact hn)]
    rw [hs]
    have hq : nPg p ≤ 1048576 := by omega
    have hqi : nPgI (p.map cPiece) ≤ 1048576 := by rw [nPgI_c]; exact hq
    have hqj := hqi
    unfold nPg at hq
    unfold nPgI at hqj
    refine Ev.ite_neg (by omega) ?_
    refine Ev.bind (to_Program n f s p hq) ?_
    refine Ev.bind (hold1 _ hqi n f s u v w) ?_
    refine Ev.bind (to_Program n f s p hq) ?_
    refine Ev.bind (hold2 _ hqi n f s u v w) ?_
    refine Ev.ite_neg (by simp) ?_
    refine Ev.bind (to_Program n f s p hq) ?_
    refine Ev.bind (eq_Program n f s _ hqj) ?_
    exact Ev.ite_pos rfl (Ev.now _)
  · have hs : szOf 1048576 (p.length + (p.map n139).sum) = -1 := by unfold szOf; rw [if_neg (by exact hn)]
    rw [hs]
    exact Ev.ite_pos (by omega) (Ev.now _)
end Go.Proofs.Ytlakjlolahjphaa.fnExactIsHolding
namespace Go.Proofs.Ytlakjlolahjphaa
theorem fnExactIsHolding_holds : Rows.FnExactIsHoldingSaid := fnExactIsHolding.row fnExactIsHolding.pure
end Go.Proofs.Ytlakjlolahjphaa
