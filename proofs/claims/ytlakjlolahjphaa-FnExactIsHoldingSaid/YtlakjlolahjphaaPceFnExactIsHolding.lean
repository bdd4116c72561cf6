/- The piece of a tick, in the program and in the reference. Conditions: none. -/
import Derived.Test.YtlakjlolahjphaaPgBFnExactIsHolding
namespace Go.Proofs.Ytlakjlolahjphaa.fnExactIsHolding
open Go.RowKit Go.Proofs.YtlakjlolahjphaaW.PrintWords Go.Proofs.YtlakjlolahjphaaW.PrintMore Go.Proofs.Ytlakjlolahjphaa.QFnExactIsHolding Go.Proofs.Ytlakjlolahjphaa.Open Go.Proofs.Ytlakjlolahjphaa.Kit
theorem same_In (a b t : Int) : spec_InSpan.f a b t = impl_InSpan.f a b t := by
  unfold spec_InSpan.f impl_InSpan.f spec_IsSpan.f impl_IsSpan.f
  rfl
theorem piece1 (p : List S106) (hl : p.length ≤ 1048576) (n a s t : Int) : Ev (fun k => spec_PieceAt.f k n a s p t) (impl_PieceAt.go t p 0) := by
  have key : ∀ d i : Nat, i + d = p.length → Ev (fun k => spec_PieceAt.l0 k t (i : Int) n a s p) (impl_PieceAt.go t (p.drop i) i) := by
    intro d
    induction d with
    | zero =>
      intro i hi
      refine Ev.step (fun k => by rw [spec_PieceAt.l0]) ?_
      repeat (first | (with_reducible refine Ev.ite_pos (by omega) ?_) | (with_reducible refine Ev.ite_neg (by omega) ?_))
      refine Ev.some ?_
      rw [List.drop_of_length_le (by omega), impl_PieceAt.go]
    | succ d ih =>
      intro i hi
      have h1 := ih (i + 1) (by omega)
      refine Ev.step (fun k => by rw [spec_PieceAt.l0]) ?_
      repeat (first | (with_reducible refine Ev.ite_pos (by omega) ?_) | (with_reducible refine Ev.ite_neg (by omega) ?_))
      rw [drop_getD (by omega : i < p.length) z106, show rd_T106 p (i : Int) = p.getD i z106 from rfl, w64n (by omega), same_In, impl_PieceAt.go]
      obtain ⟨q, hq⟩ := impl_PieceAt.tot (p.getD i z106).f0.f0 (p.getD i z106).f0.f1 t
      refine Ev.bind0 hq ?_
      cases q with
      | true =>
        rw [if_pos (by unfold impl_PieceAt.hit; rw [hq]; rfl)]
        exact Ev.ite_pos rfl (Ev.now _)
      | false =>
        rw [if_neg (by unfold impl_PieceAt.hit; rw [hq]; decide)]
        exact Ev.ite_neg (by simp) h1
  exact key p.length 0 (by omega)
theorem piece2 (p : List S106) (hl : p.length ≤ 1048576) (n a s t : Int) : impl_PieceAt.f n a s p t = some (impl_PieceAt.go t p 0) := by
  unfold impl_PieceAt.f
  rw [if_pos (by omega)]
end Go.Proofs.Ytlakjlolahjphaa.fnExactIsHolding
