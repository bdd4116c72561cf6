/- The next node at a tick, in the program and in the reference. Conditions: none. -/
import Derived.Test.YtlakjlolahjphaaMixFnExactIsHolding
import Derived.Test.YtlakjlolahjphaaPceFnExactIsHolding
namespace Go.Proofs.Ytlakjlolahjphaa.fnExactIsHolding
open Go.RowKit Go.Proofs.YtlakjlolahjphaaW.PrintWords Go.Proofs.YtlakjlolahjphaaW.PrintMore Go.Proofs.Ytlakjlolahjphaa.QFnExactIsHolding Go.Proofs.Ytlakjlolahjphaa.Open Go.Proofs.Ytlakjlolahjphaa.Kit
theorem in2 (a b c : Int) : impl_InRange.f a b c = some (decide (b ≤ a ∧ a ≤ c)) := by
  unfold impl_InRange.f
  by_cases h : b ≤ a <;> simp [h]
/-- The element of a node in the table of a piece, and whether there is one. -/
def nx (p : List S106) (k d node : Int) : Int × Bool := if okT p k d ∧ 0 ≤ node ∧ node < ((tab p k d).f2.length : Int) then (rd (tab p k d).f2 node, true) else (-1, false)
theorem next1 (p : List S106) (hp : nPgI p ≤ 1048576) (n a s node d t : Int) : Ev (fun k => spec_l19Next.f k n a s p node d t) (nx p (impl_PieceAt.go t p 0) d node).1 := by
  have hl : p.length ≤ 1048576 := by unfold nPgI at hp; omega
  unfold spec_l19Next.f
  refine Ev.bind (piece1 p hl n a s t) ?_
  generalize impl_PieceAt.go t p 0 = k
  refine Ev.bind0 (table1 p hp n a s k d) (Ev.eq ?_)
  unfold nx
  by_cases hok : okT p k d
  · have htl := (tab_len hp hok).2.2
    have e : tableIn p k d = ((tab p k d).f0, (tab p k d).f1, (tab p k d).f2, true) := if_pos hok
    rw [e]
    show (if true = true then (spec_l1In.f node 0 (wrap64 (((tab p k d).f2.length : Int) - 1))).bind (fun t => if t = true then (if 0 ≤ node then (if node < ((tab p k d).f2.length : Int) then some (rd (tab p k d).f2 node) else none) else none) else some (-1)) else some (-1)) = _
    rw [if_pos rfl, in1, Option.bind_some, w64 (x := ((tab p k d).f2.length : Int) - 1) (by omega) (by omega)]
    by_cases h : 0 ≤ node ∧ node < ((tab p k d).f2.length : Int)
    · rw [if_pos (decide_eq_true (show 0 ≤ node ∧ node ≤ ((tab p k d).f2.length : Int) - 1 by omega)), if_pos h.1, if_pos h.2, if_pos ⟨hok, h⟩]
    · rw [if_neg (by rw [decide_eq_false (show ¬ (0 ≤ node ∧ node ≤ ((tab p k d).f2.length : Int) - 1) by omega)]; decide), if_neg (fun h2 => h h2.2)]
  · have e : tableIn p k d = (0, [], [], false) := if_neg hok
    rw [e]
    show (if false = true then _ else some (-1)) = _
    rw [if_neg (by decide), if_neg (fun h2 => hok h2.1)]
theorem next2 (p : List S106) (hp : nPgI p ≤ 1048576) (n a s k d node : Int) : impl_nextIn.f n a s p k d node = some (nx p k d node) := by
  unfold impl_nextIn.f
  rw [table2 p hp n a s k d, Option.bind_some]
  unfold nx
  by_cases hok : okT p k d
  · have e : tableIn p k d = ((tab p k d).f0, (tab p k d).f1, (tab p k d).f2, true) := if_pos hok
    rw [e]
    show (if true = true then (impl_isIndex.f node ((tab p k d).f2.length : Int)).bind (fun t => if t = true then (if 0 ≤ node then (if node < ((tab p k d).f2.length : Int) then some (rd (tab p k d).f2 node, true) else none) else none) else some (-1, false)) else some (-1, false)) = _
    rw [if_pos rfl, isIx, Option.bind_some]
    by_cases h : 0 ≤ node ∧ node < ((tab p k d).f2.length : Int)
    · rw [if_pos (decide_eq_true h), if_pos h.1, if_pos h.2, if_pos ⟨hok, h⟩]
    · rw [if_neg (by rw [decide_eq_false h]; decide), if_neg (fun h2 => h h2.2)]
  · have e : tableIn p k d = (0, [], [], false) := if_neg hok
    rw [e]
    show (if false = true then _ else some (-1, false)) = _
    rw [if_neg (by decide), if_neg (fun h2 => hok h2.1)]
noncomputable def hop (p : List S106) (hp : nPgI p ≤ 1048576) (n a s node d t : Int) : Int := if ((0 ≤ s ∧ s ≤ 5) ∧ (0 ≤ t ∧ t ≤ 1000)) ∧ mixB p hp n a s d (wrap64 (t - wrap64 (2 * s))) (wrap64 (t + wrap64 (2 * s))) = true then (nx p (impl_PieceAt.go t p 0) d node).1 else -1
theorem hop1 (p : List S106) (hp : nPgI p ≤ 1048576) (n a s node d t : Int) : Ev (fun k => spec_HopAt.f k n a s p node d t) (hop p hp n a s node d t) := by
  unfold spec_HopAt.f hop
  refine Ev.bind0 (in1 s 0 5) ?_
  by_cases h1 : 0 ≤ s ∧ s ≤ 5
  · refine Ev.ite_pos (decide_eq_true h1) (Ev.bind0 (in1 t 0 1000) ?_)
    by_cases h2 : 0 ≤ t ∧ t ≤ 1000
    · refine Ev.ite_pos (decide_eq_true h2) (Ev.bind (mix1 p hp n a s d _ _) ?_)
      by_cases h3 : mixB p hp n a s d (wrap64 (t - wrap64 (2 * s))) (wrap64 (t + wrap64 (2 * s))) = true
      · rw [if_pos ⟨⟨h1, h2⟩, h3⟩]
        exact Ev.ite_pos h3 (Ev.bind (next1 p hp n a s node d t) (Ev.now _))
      · rw [if_neg (fun h => h3 h.2)]
        exact Ev.ite_neg h3 (Ev.now _)
    · rw [if_neg (fun h => h2 h.1.2)]
      exact Ev.ite_neg (by rw [decide_eq_false h2]; decide) (Ev.now _)
  · rw [if_neg (fun h => h1 h.1.1)]
    exact Ev.ite_neg (by rw [decide_eq_false h1]; decide) (Ev.now _)
theorem skewed (p : List S106) (n a s t : Int) : impl_isSkewed.f n a s p t = some (decide ((0 ≤ s ∧ s ≤ 5) ∧ (0 ≤ t ∧ t ≤ 1000))) := by
  unfold impl_isSkewed.f
  rw [in2, in2]
  by_cases h1 : 0 ≤ s ∧ s ≤ 5 <;> simp [h1]
theorem hop2 (p : List S106) (hp : nPgI p ≤ 1048576) (n a s node d t : Int) : Ev (fun k => impl_HopAt.f k n a s p node d t) (hop p hp n a s node d t) := by
  have hl : p.length ≤ 1048576 := by unfold nPgI at hp; omega
  unfold impl_HopAt.f hop
  refine Ev.bind0 (piece2 p hl n a s t) ?_
  generalize impl_PieceAt.go t p 0 = k
  refine Ev.bind0 (next2 p hp n a s k d node) ?_
  have hno : (nx p k d node).2 = false → (nx p k d node).1 = -1 := by
    unfold nx
    intro h
    by_cases hc : okT p k d ∧ 0 ≤ node ∧ node < ((tab p k d).f2.length : Int)
    · rw [if_pos hc] at h
      cases h
    · rw [if_neg hc]
  cases h0 : (nx p k d node).2 with
  | false =>
    have h1 := hno h0
    refine Ev.ite_neg (by decide) (Ev.some ?_)
    rw [h1, ite_self]
  | true =>
    refine Ev.ite_pos rfl (Ev.bind0 (skewed p n a s t) ?_)
    by_cases h2 : (0 ≤ s ∧ s ≤ 5) ∧ (0 ≤ t ∧ t ≤ 1000)
    · refine Ev.ite_pos (decide_eq_true h2) (Ev.bind (mix2 p hp n a s d _ _) ?_)
      by_cases h3 : mixB p hp n a s d (wrap64 (t - wrap64 (2 * s))) (wrap64 (t + wrap64 (2 * s))) = true
      · refine Ev.ite_pos h3 (Ev.some ?_)
        rw [if_pos ⟨h2, h3⟩]
      · refine Ev.ite_neg h3 (Ev.some ?_)
        rw [if_neg (fun h => h3 h.2)]
    · rw [if_neg (fun h => h2 h.1)]
      exact Ev.ite_neg (by rw [decide_eq_false h2]; decide) (Ev.now _)
end Go.Proofs.Ytlakjlolahjphaa.fnExactIsHolding
