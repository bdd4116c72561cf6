/- Words of the kit's printer (or of the session's own), as far as the law FnExactSafeSends names them. Conditions: none. -/
import Derived.Test.YtaciciobhfoglaaVFnExactSafeSendsQFnExactSafeSendsx
import Derived.Test.YtaciciobhfoglaaVFnExactSafeSendsEv
namespace Go.Proofs.Ytaciciobhfoglaa.fnExactSafeSends
open Go.RowKit Go.Proofs.YtaciciobhfoglaaW.PrintWords Go.Proofs.YtaciciobhfoglaaW.PrintLast Go.Proofs.YtaciciobhfoglaaW.PrintMore Go.Proofs.Ytaciciobhfoglaa.QFnExactSafeSends Go.Proofs.Ytaciciobhfoglaa.Open Go.Proofs.Ytaciciobhfoglaa.Kit
def cSpan (x : S102) : S100 := ⟨x.f0, x.f1⟩
theorem sz_SpanS (l : List S102) (left : Int) (hb : l.length ≤ 140737488351232) (h0 : 0 ≤ left) (h1 : left ≤ 1048576) : laws_szSpanS.f l left = some (szOf left l.length) := by
  unfold laws_szSpanS.f szOf
  rw [w64 (by omega) (by omega)]
  by_cases h : (l.length : Int) ≤ left
  · rw [if_neg (by omega), if_pos h]
  · rw [if_pos (by omega), if_neg h]
theorem to_Span (x : S102) : laws_toSpan.f (x.f0) (x.f1) = some (x.f0, x.f1) := by
  unfold laws_toSpan.f
  rfl
theorem to_SpanS (l : List S102) (hn : l.length ≤ 1048576) : Ev (fun k => laws_toSpanS.f k l) (l.map cSpan) := by
  unfold laws_toSpanS.f
  repeat (first | (with_reducible refine Ev.ite_pos (by omega) ?_) | (with_reducible refine Ev.ite_neg (by omega) ?_))
  rw [Int.toNat_natCast, ← fillTo_zero cSpan z100 l]
  refine Ev.up (n := l.length) (g := fun i k => laws_toSpanS.l0 k l (fillTo cSpan z100 l i) (i : Int)) ?_ ?_
  · intro i hi ih
    have hlen := fillTo_length cSpan z100 l (Nat.le_of_lt hi)
    rw [← fillTo_set cSpan z100 l hi z102] at ih
    refine Ev.step (fun k => by rw [laws_toSpanS.l0]) ?_
    repeat (first | (with_reducible refine Ev.ite_pos (by omega) ?_) | (with_reducible refine Ev.ite_neg (by omega) ?_))
    refine Ev.bind0 (to_Span (l.getD i z102)) ?_
    repeat (first | (with_reducible refine Ev.ite_pos (by omega) ?_) | (with_reducible refine Ev.ite_neg (by omega) ?_))
    rw [Int.toNat_natCast, w64n (by omega)]
    exact ih
  · refine Ev.step (fun k => by rw [laws_toSpanS.l0]) ?_
    repeat (first | (with_reducible refine Ev.ite_pos (by omega) ?_) | (with_reducible refine Ev.ite_neg (by omega) ?_))
    refine Ev.some ?_
    rw [fillTo_all]
theorem to_Battery (a0 : Int) (a1 : Int) (a2 : Int) (a3 : Int) (a4 : Int) (a5 : Int) : laws_toBattery.f a0 a1 a2 a3 a4 a5 = some (a0, a1, a2, a3, a4, a5) := by
  unfold laws_toBattery.f
  rfl
theorem eq_Span (x : S100) : laws_eqSpan.f (x.f0) (x.f1) (x.f0) (x.f1) = some true := by
  unfold laws_eqSpan.f
  simp
theorem eq_SpanS (l : List S100) (hn : l.length ≤ 1048576) : Ev (fun k => laws_eqSpanS.f k l l) true := by
  unfold laws_eqSpanS.f
  refine Ev.ite_pos rfl ?_
  refine Ev.up (n := l.length) (g := fun i k => laws_eqSpanS.l0 k l l (i : Int)) ?_ ?_
  · intro i hi ih
    refine Ev.step (fun k => by rw [laws_eqSpanS.l0]) ?_
    repeat (first | (with_reducible refine Ev.ite_pos (by omega) ?_) | (with_reducible refine Ev.ite_neg (by omega) ?_))
    refine Ev.bind0 (eq_Span (l.getD i z100)) ?_
    refine Ev.ite_pos rfl ?_
    rw [w64n (by omega)]
    exact ih
  · refine Ev.step (fun k => by rw [laws_eqSpanS.l0]) ?_
    repeat (first | (with_reducible refine Ev.ite_pos (by omega) ?_) | (with_reducible refine Ev.ite_neg (by omega) ?_))
    exact Ev.now _
theorem eq_IntS (l : List Int) (hn : l.length ≤ 2097152) : Ev (fun k => laws_eqIntS.f k l l) true := by
  unfold laws_eqIntS.f
  refine Ev.ite_pos rfl ?_
  refine Ev.up (n := l.length) (g := fun i k => laws_eqIntS.l0 k l l (i : Int)) ?_ ?_
  · intro i hi ih
    refine Ev.step (fun k => by rw [laws_eqIntS.l0]) ?_
    repeat (first | (with_reducible refine Ev.ite_pos (by omega) ?_) | (with_reducible refine Ev.ite_neg (by omega) ?_))
    rw [w64n (by omega)]
    exact ih
  · refine Ev.step (fun k => by rw [laws_eqIntS.l0]) ?_
    repeat (first | (with_reducible refine Ev.ite_pos (by omega) ?_) | (with_reducible refine Ev.ite_neg (by omega) ?_))
    exact Ev.now _
def mkSpan (b : Int) : S100 := ⟨b, b + 1⟩
def cntSpan (a : Int) (n : Nat) : List S100 := (List.range n).map fun j : Nat => mkSpan (a + 2 * (j : Int))
theorem mark_SpanS (l : List S100) (a : Int) (h0 : 0 ≤ a) (h1 : a ≤ 1000000000) (hl : l.length ≤ 2097152) : Ev (fun k => laws_markSpanS.f k l a) (a + 2 * (l.length : Int), cntSpan a l.length) := by
  have e1 : cntSpan a 0 ++ l.drop 0 = l := by simp [cntSpan]
  have e2 : a + 2 * ((0 : Nat) : Int) = a := by omega
  show Ev (fun k => laws_markSpanS.l0 k l a 0) _
  rw [show (fun k => laws_markSpanS.l0 k l a 0) = (fun k => laws_markSpanS.l0 k (cntSpan a 0 ++ l.drop 0) (a + 2 * ((0 : Nat) : Int)) ((0 : Nat) : Int)) by rw [e1, e2]; rfl]
  refine Ev.up (n := l.length) (g := fun i k => laws_markSpanS.l0 k (cntSpan a i ++ l.drop i) (a + 2 * (i : Int)) (i : Int)) ?_ ?_
  · intro i hi ih
    have hlen : (cntSpan a i).length = i := by simp [cntSpan]
    have hlen2 : (cntSpan a i ++ l.drop i).length = l.length := by rw [List.length_append, hlen, List.length_drop]; omega
    refine Ev.step (fun k => by rw [laws_markSpanS.l0]) ?_
    repeat (first | (with_reducible refine Ev.ite_pos (by omega) ?_) | (with_reducible refine Ev.ite_neg (by omega) ?_))
    rw [drop_getD hi z100]
    have w0 : wrap64 (a + 2 * (i : Int) + 1) = a + 2 * (i : Int) + 1 := w64 (by omega) (by omega)
    have w1 : wrap64 (a + 2 * (i : Int) + 1 + 1) = a + 2 * (i : Int) + 1 + 1 := w64 (by omega) (by omega)
    simp only [rd_T100, getD_mid _ _ _ _ hlen, Option.bind_some, Int.toNat_natCast, set_mid _ _ _ _ hlen, w0, w1, w64n (by omega : i ≤ 140737488351232)]
    have e3 : cntSpan a (i + 1) ++ l.drop (i + 1) = cntSpan a i ++ mkSpan (a + 2 * (i : Int)) :: l.drop (i + 1) := by
      simp [cntSpan, List.range_succ]
    have e4 : a + 2 * ((i + 1 : Nat) : Int) = a + 2 * (i : Int) + 1 + 1 := by omega
    rw [e3, e4] at ih
    exact ih
  · have hlen2 : (cntSpan a l.length ++ l.drop l.length).length = l.length := by simp [cntSpan]
    refine Ev.step (fun k => by rw [laws_markSpanS.l0]) ?_
    repeat (first | (with_reducible refine Ev.ite_pos (by omega) ?_) | (with_reducible refine Ev.ite_neg (by omega) ?_))
    refine Ev.some ?_
    simp
def cntInt (a : Int) (n : Nat) : List Int := (List.range n).map fun j : Nat => a + (j : Int)
theorem mark_IntS (l : List Int) (a : Int) (h0 : 0 ≤ a) (h1 : a ≤ 1000000000) (hl : l.length ≤ 2097152) : Ev (fun k => laws_markIntS.f k l a) (a + (l.length : Int), cntInt a l.length) := by
  have e1 : cntInt a 0 ++ l.drop 0 = l := by simp [cntInt]
  have e2 : a + ((0 : Nat) : Int) = a := by omega
  show Ev (fun k => laws_markIntS.l0 k l a 0) _
  rw [show (fun k => laws_markIntS.l0 k l a 0) = (fun k => laws_markIntS.l0 k (cntInt a 0 ++ l.drop 0) (a + ((0 : Nat) : Int)) ((0 : Nat) : Int)) by rw [e1, e2]; rfl]
  refine Ev.up (n := l.length) (g := fun i k => laws_markIntS.l0 k (cntInt a i ++ l.drop i) (a + (i : Int)) (i : Int)) ?_ ?_
  · intro i hi ih
    have hlen : (cntInt a i).length = i := by simp [cntInt]
    have hlen2 : (cntInt a i ++ l.drop i).length = l.length := by rw [List.length_append, hlen, List.length_drop]; omega
    refine Ev.step (fun k => by rw [laws_markIntS.l0]) ?_
    repeat (first | (with_reducible refine Ev.ite_pos (by omega) ?_) | (with_reducible refine Ev.ite_neg (by omega) ?_))
    rw [drop_getD hi 0]
    have w0 : wrap64 (a + (i : Int) + 1) = a + (i : Int) + 1 := w64 (by omega) (by omega)
    simp only [Int.toNat_natCast, set_mid _ _ _ _ hlen, w0, w64n (by omega : i ≤ 140737488351232)]
    have e3 : cntInt a (i + 1) ++ l.drop (i + 1) = cntInt a i ++ (a + (i : Int)) :: l.drop (i + 1) := by
      simp [cntInt, List.range_succ]
    have e4 : a + ((i + 1 : Nat) : Int) = a + (i : Int) + 1 := by omega
    rw [e3, e4] at ih
    exact ih
  · have hlen2 : (cntInt a l.length ++ l.drop l.length).length = l.length := by simp [cntInt]
    refine Ev.step (fun k => by rw [laws_markIntS.l0]) ?_
    repeat (first | (with_reducible refine Ev.ite_pos (by omega) ?_) | (with_reducible refine Ev.ite_neg (by omega) ?_))
    refine Ev.some ?_
    simp
theorem held_IntS (n : Nat) (a : Int) (h0 : 0 ≤ a) (h1 : a ≤ 1000000000) (hl : n ≤ 2097152) : Ev (fun k => laws_heldIntS.f k (cntInt a n) a) (a + (n : Int)) := by
  have hlen : (cntInt a n).length = n := by simp [cntInt]
  have e2 : a + ((0 : Nat) : Int) = a := by omega
  show Ev (fun k => laws_heldIntS.l0 k (cntInt a n) a 0) _
  rw [show (fun k => laws_heldIntS.l0 k (cntInt a n) a 0) = (fun k => laws_heldIntS.l0 k (cntInt a n) (a + ((0 : Nat) : Int)) ((0 : Nat) : Int)) by rw [e2]; rfl]
  refine Ev.up (n := n) (g := fun i k => laws_heldIntS.l0 k (cntInt a n) (a + (i : Int)) (i : Int)) ?_ ?_
  · intro i hi ih
    have hg : rd (cntInt a n) (i : Int) = a + (i : Int) := map_range_getD _ hi _
    refine Ev.step (fun k => by rw [laws_heldIntS.l0]) ?_
    repeat (first | (with_reducible refine Ev.ite_pos (by omega) ?_) | (with_reducible refine Ev.ite_neg (by omega) ?_))
    have w0 : wrap64 (a + (i : Int) + 1) = a + (i : Int) + 1 := w64 (by omega) (by omega)
    simp only [w0, w64n (by omega : i ≤ 140737488351232)]
    have e4 : a + ((i + 1 : Nat) : Int) = a + (i : Int) + 1 := by omega
    rw [e4] at ih
    exact ih
  · refine Ev.step (fun k => by rw [laws_heldIntS.l0]) ?_
    repeat (first | (with_reducible refine Ev.ite_pos (by omega) ?_) | (with_reducible refine Ev.ite_neg (by omega) ?_))
    exact Ev.now _
end Go.Proofs.Ytaciciobhfoglaa.fnExactSafeSends
