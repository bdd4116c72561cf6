/- FnExactProgramSize: the program and the reference tell the same size of a program of tables. Conditions: none. -/
import Derived.Test.YtadpbpocbfjboaaPgBFnExactProgramSize
import Derived.Test.YtadpbpocbfjboaaPackFnExactProgramSize
namespace Go.Proofs.Ytadpbpocbfjboaa.fnExactProgramSize
open Go.RowKit Go.Proofs.YtadpbpocbfjboaaW.PrintWords Go.Proofs.YtadpbpocbfjboaaW.PrintMore Go.Proofs.Ytadpbpocbfjboaa.QFnExactProgramSize Go.Proofs.Ytadpbpocbfjboaa.Open Go.Proofs.Ytadpbpocbfjboaa.Kit
def qs (n : Int) (x : S69) : Int := wrap64 (n + x.f2.foldl ps 0)
theorem prog1 (p : List S69) (hp : nPgI p ≤ 1048576) (n a s : Int) : Ev (fun k => spec_ProgramSize.f k n a s p) (p.foldl qs 0) := by
  unfold nPgI at hp
  rw [← foldTo_all]
  have h0 := foldTo_zero qs 0 p
  show Ev (fun k => spec_ProgramSize.l0 k 0 0 n a s p) _
  rw [show (fun k => spec_ProgramSize.l0 k 0 0 n a s p) = (fun k => spec_ProgramSize.l0 k (foldTo qs 0 p 0) ((0 : Nat) : Int) n a s p) by rw [h0]; rfl]
  refine Ev.up (n := p.length) (g := fun i k => spec_ProgramSize.l0 k (foldTo qs 0 p i) (i : Int) n a s p) ?_ ?_
  · intro i hi ih
    rw [foldTo_succ qs 0 hi z69] at ih
    have hm := le_sum n69 (getD_mem hi z69)
    unfold n69 at hm
    refine Ev.step (fun k => by rw [spec_ProgramSize.l0]) ?_
    repeat (first | (with_reducible refine Ev.ite_pos (by omega) ?_) | (with_reducible refine Ev.ite_neg (by omega) ?_))
    refine Ev.bind (size1 (p.getD i z69).f2 (by unfold n69 at hp; omega)) ?_
    rw [w64n (by omega)]
    exact ih
  · refine Ev.step (fun k => by rw [spec_ProgramSize.l0]) ?_
    repeat (first | (with_reducible refine Ev.ite_pos (by omega) ?_) | (with_reducible refine Ev.ite_neg (by omega) ?_))
    exact Ev.now _
theorem prog2 (p : List S69) (hp : nPgI p ≤ 1048576) (n a s : Int) : Ev (fun k => impl_ProgramSize.f k n a s p) (p.foldl qs 0) := by
  unfold nPgI at hp
  rw [← foldTo_all]
  have h0 := foldTo_zero qs 0 p
  show Ev (fun k => impl_ProgramSize.l0 k 0 p (p.length : Int) 0) _
  rw [show (fun k => impl_ProgramSize.l0 k 0 p (p.length : Int) 0) = (fun k => impl_ProgramSize.l0 k (foldTo qs 0 p 0) p (p.length : Int) ((0 : Nat) : Int)) by rw [h0]; rfl]
  refine Ev.up (n := p.length) (g := fun i k => impl_ProgramSize.l0 k (foldTo qs 0 p i) p (p.length : Int) (i : Int)) ?_ ?_
  · intro i hi ih
    rw [foldTo_succ qs 0 hi z69] at ih
    have hm := le_sum n69 (getD_mem hi z69)
    unfold n69 at hm
    refine Ev.step (fun k => by rw [impl_ProgramSize.l0]) ?_
    repeat (first | (with_reducible refine Ev.ite_pos (by omega) ?_) | (with_reducible refine Ev.ite_neg (by omega) ?_))
    refine Ev.bind (size2 (p.getD i z69).f2 (by unfold n69 at hp; omega)) ?_
    rw [w64n (by omega)]
    exact ih
  · refine Ev.step (fun k => by rw [impl_ProgramSize.l0]) ?_
    repeat (first | (with_reducible refine Ev.ite_pos (by omega) ?_) | (with_reducible refine Ev.ite_neg (by omega) ?_))
    exact Ev.now _
theorem pure : PureFnExactProgramSize := by
  intro n a s p _ _ _ hp
  have hb : p.length ≤ 140737488351232 ∧ (∀ y ∈ p, b97 y) := ⟨Len.le hp.1 (by omega), fun y hy => bPiece (hp.2 y hy)⟩
  refine Ev.rounds (r := true) ?_
  unfold laws_FnExactProgramSize.f
  refine Ev.bind (sz_Program n a s p 1048576 hb (by omega) (by omega)) ?_
  by_cases hn : ((nPg p : Nat) : Int) ≤ 1048576
  · have hs : szOf 1048576 (p.length + (p.map n97).sum) = 1048576 - ((nPg p : Nat) : Int) := by unfold szOf nPg; rw [if_pos (by exact hn)]
    rw [hs]
    have hq : nPg p ≤ 1048576 := by omega
    have hqi : nPgI (p.map cPiece) ≤ 1048576 := by rw [nPgI_c]; exact hq
    have hqj := hqi
    unfold nPg at hq
    unfold nPgI at hqj
    refine Ev.ite_neg (by omega) ?_
    refine Ev.bind (to_Program n a s p hq) ?_
    refine Ev.bind (prog1 _ hqi n a s) ?_
    refine Ev.bind (to_Program n a s p hq) ?_
    refine Ev.bind (prog2 _ hqi n a s) ?_
    refine Ev.ite_pos rfl ?_
    refine Ev.bind (to_Program n a s p hq) ?_
    refine Ev.bind (eq_Program n a s _ hqj) ?_
    exact Ev.ite_pos rfl (Ev.now _)
  · have hs : szOf 1048576 (p.length + (p.map n97).sum) = -1 := by unfold szOf; rw [if_neg (by exact hn)]
    rw [hs]
    exact Ev.ite_pos (by omega) (Ev.now _)
end Go.Proofs.Ytadpbpocbfjboaa.fnExactProgramSize
namespace Go.Proofs.Ytadpbpocbfjboaa
theorem fnExactProgramSize_holds : Rows.FnExactProgramSizeSaid := fnExactProgramSize.row fnExactProgramSize.pure
end Go.Proofs.Ytadpbpocbfjboaa
