/- FnExactPieceAt: the program and the reference find the same piece. Conditions: none. -/
import Derived.Test.YtaciciobhfoglaaPgBFnExactPieceAt
namespace Go.Proofs.Ytaciciobhfoglaa.fnExactPieceAt
open Go.RowKit Go.Proofs.YtaciciobhfoglaaW.PrintWords Go.Proofs.YtaciciobhfoglaaW.PrintMore Go.Proofs.Ytaciciobhfoglaa.QFnExactPieceAt Go.Proofs.Ytaciciobhfoglaa.Open Go.Proofs.Ytaciciobhfoglaa.Kit
theorem same_In (a b t : Int) : spec_InSpan.f a b t = impl_InSpan.f a b t := by
  unfold spec_InSpan.f impl_InSpan.f spec_IsSpan.f impl_IsSpan.f
  rfl
theorem piece1 (p : List S134) (hl : p.length ≤ 1048576) (n a s t : Int) : Ev (fun k => spec_PieceAt.f k n a s p t) (impl_PieceAt.go t p 0) := by
  have key : ∀ d i : Nat, i + d = p.length → Ev (fun k => spec_PieceAt.l0 k t (i : Int) n a s p) (impl_PieceAt.go t (p.drop i) i) := by
    intro d
    induction d with
    | zero =>
      intro i hi
      refine Ev.step (fun k => by rw [spec_PieceAt.l0]) ?_
      repeat (first | (with_reducible refine Ev.ite_pos (by omega) ?_) | (with_reducible refine Ev.ite_neg (by omega) ?_))
      refine Ev.some ?_
      rw [List.drop_of_length_le (by omega), impl_PieceAt.go]
    | succ d ih =>
      intro i hi
      have h1 := ih (i + 1) (by omega)
      refine Ev.step (fun k => by rw [spec_PieceAt.l0]) ?_
      repeat (first | (with_reducible refine Ev.ite_pos (by omega) ?_) | (with_reducible refine Ev.ite_neg (by omega) ?_))
      rw [drop_getD (by omega : i < p.length) z134, show rd_T134 p (i : Int) = p.getD i z134 from rfl, w64n (by omega), same_In, impl_PieceAt.go]
      obtain ⟨q, hq⟩ := impl_PieceAt.tot (p.getD i z134).f0.f0 (p.getD i z134).f0.f1 t
      refine Ev.bind0 hq ?_
      cases q with
      | true =>
        rw [if_pos (by unfold impl_PieceAt.hit; rw [hq]; rfl)]
        exact Ev.ite_pos rfl (Ev.now _)
      | false =>
        rw [if_neg (by unfold impl_PieceAt.hit; rw [hq]; decide)]
        exact Ev.ite_neg (by simp) h1
  exact key p.length 0 (by omega)
theorem piece2 (p : List S134) (hl : p.length ≤ 1048576) (n a s t : Int) : impl_PieceAt.f n a s p t = some (impl_PieceAt.go t p 0) := by
  unfold impl_PieceAt.f
  rw [if_pos (by omega)]
theorem pure : PureFnExactPieceAt := by
  intro n a s p t _ _ _ hp _
  have hb : p.length ≤ 140737488351232 ∧ (∀ y ∈ p, b151 y) := ⟨Len.le hp.1 (by omega), fun y hy => bPiece (hp.2 y hy)⟩
  refine Ev.rounds (r := true) ?_
  unfold laws_FnExactPieceAt.f
  refine Ev.bind (sz_Program n a s p 1048576 hb (by omega) (by omega)) ?_
  by_cases hn : ((nPg p : Nat) : Int) ≤ 1048576
  · have hs : szOf 1048576 (p.length + (p.map n151).sum) = 1048576 - ((nPg p : Nat) : Int) := by unfold szOf nPg; rw [if_pos (by exact hn)]
    rw [hs]
    have hq : nPg p ≤ 1048576 := by omega
    have hqi : nPgI (p.map cPiece) ≤ 1048576 := by rw [nPgI_c]; exact hq
    unfold nPg at hq
    unfold nPgI at hqi
    have hm : (p.map cPiece).length ≤ 1048576 := by omega
    refine Ev.ite_neg (by omega) ?_
    refine Ev.bind (to_Program n a s p hq) ?_
    refine Ev.bind (piece1 _ hm n a s t) ?_
    refine Ev.bind (to_Program n a s p hq) ?_
    refine Ev.bind0 (piece2 _ hm n a s t) ?_
    refine Ev.ite_pos rfl ?_
    refine Ev.bind (to_Program n a s p hq) ?_
    refine Ev.bind (eq_Program n a s _ hqi) ?_
    exact Ev.ite_pos rfl (Ev.now _)
  · have hs : szOf 1048576 (p.length + (p.map n151).sum) = -1 := by unfold szOf; rw [if_neg (by exact hn)]
    rw [hs]
    exact Ev.ite_pos (by omega) (Ev.now _)
end Go.Proofs.Ytaciciobhfoglaa.fnExactPieceAt
namespace Go.Proofs.Ytaciciobhfoglaa
theorem fnExactPieceAt_holds : Rows.FnExactPieceAtSaid := fnExactPieceAt.row fnExactPieceAt.pure
end Go.Proofs.Ytaciciobhfoglaa
