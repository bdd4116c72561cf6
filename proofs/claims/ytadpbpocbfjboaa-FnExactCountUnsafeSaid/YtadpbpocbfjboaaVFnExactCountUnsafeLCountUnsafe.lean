/- FnExactCountUnsafe: the program and the reference count the same unsafe mixtures. Conditions: none. -/
import Derived.Test.YtadpbpocbfjboaaVFnExactCountUnsafeMixFnExactCountUnsafe
namespace Go.Proofs.Ytadpbpocbfjboaa.fnExactCountUnsafe
open Go.RowKit Go.Proofs.YtadpbpocbfjboaaW.PrintWords Go.Proofs.YtadpbpocbfjboaaW.PrintMore Go.Proofs.Ytadpbpocbfjboaa.QFnExactCountUnsafe Go.Proofs.Ytadpbpocbfjboaa.Open Go.Proofs.Ytadpbpocbfjboaa.Kit
theorem in2 (a b c : Int) : impl_InRange.f a b c = some (decide (b ≤ a ∧ a ≤ c)) := by
  unfold impl_InRange.f
  by_cases h : b ≤ a <;> simp [h]
section
variable (p : List S69) (hp : nPgI p ≤ 1048576) (n a s by_ : Int)
/-- The count behind d tables of a piece from the table d on. -/
noncomputable def inner (x : S69) : Nat → Int → Int → Int
  | 0, _, m => m
  | c + 1, d, m => inner x c (d + 1) (if mixB p hp n a s d (wrap64 (x.f0.f0 - by_)) (wrap64 (x.f0.f0 + by_)) = true then m else wrap64 (m + 1))
noncomputable def outer : Nat → Nat → Int → Int
  | 0, _, m => m
  | c + 1, i, m => outer c (i + 1) (inner p hp n a s by_ (p.getD i z69) (p.getD i z69).f2.length 0 m)
end
theorem f2_len {p : List S69} (hp : nPgI p ≤ 1048576) {i : Nat} (h : i < p.length) : (p.getD i z69).f2.length ≤ 1048576 := by
  have hm := le_sum n69 (getD_mem h z69)
  unfold nPgI at hp
  have h0 : n69 (p.getD i z69) = (p.getD i z69).f1.length + ((p.getD i z69).f2.length + ((p.getD i z69).f2.map n44).sum) := rfl
  have h4 : (p.getD i z69).f2.length ≤ p.length + (p.map n69).sum := by omega
  omega
theorem count1 (p : List S69) (hp : nPgI p ≤ 1048576) (n a s by_ : Int) : ∀ (c i : Nat) (m : Int), i + c = p.length → Ev (fun k => spec_CountUnsafe.l0 k by_ m (i : Int) n a s p) (outer p hp n a s by_ c i m) := by
  have hl : p.length ≤ 1048576 := by unfold nPgI at hp; omega
  intro c
  induction c with
  | zero =>
    intro i m hi
    refine Ev.step (fun k => by rw [spec_CountUnsafe.l0]) ?_
    repeat (first | (with_reducible refine Ev.ite_pos (by omega) ?_) | (with_reducible refine Ev.ite_neg (by omega) ?_))
    exact Ev.now _
  | succ c ih =>
    intro i m hi
    have hf := f2_len hp (show i < p.length by omega)
    have e : rd_T69 p (i : Int) = p.getD i z69 := rfl
    rw [outer]
    have key : ∀ (q d : Nat) (m : Int), d + q = (p.getD i z69).f2.length → Ev (fun k => spec_CountUnsafe.l1 k by_ m (i : Int) (p.getD i z69).f0.f0 (d : Int) n a s p) (outer p hp n a s by_ c (i + 1) (inner p hp n a s by_ (p.getD i z69) q (d : Int) m)) := by
      intro q
      induction q with
      | zero =>
        intro d m hd
        refine Ev.step (fun k => by rw [spec_CountUnsafe.l1]) ?_
        rw [e]
        repeat (first | (with_reducible refine Ev.ite_pos (by omega) ?_) | (with_reducible refine Ev.ite_neg (by omega) ?_))
        rw [w64n (by omega), inner]
        exact ih (i + 1) m (by omega)
      | succ q ihq =>
        intro d m hd
        refine Ev.step (fun k => by rw [spec_CountUnsafe.l1]) ?_
        rw [e]
        repeat (first | (with_reducible refine Ev.ite_pos (by omega) ?_) | (with_reducible refine Ev.ite_neg (by omega) ?_))
        refine Ev.bind (mix1 p hp n a s (d : Int) _ _) ?_
        rw [inner, w64n (by omega)]
        cases hq : mixB p hp n a s (d : Int) (wrap64 ((p.getD i z69).f0.f0 - by_)) (wrap64 ((p.getD i z69).f0.f0 + by_)) with
        | true =>
          rw [if_pos rfl]
          exact Ev.ite_pos rfl (ihq (d + 1) m (by omega))
        | false =>
          rw [if_neg (by simp)]
          exact Ev.ite_neg (by simp) (ihq (d + 1) (wrap64 (m + 1)) (by omega))
    refine Ev.step (fun k => by rw [spec_CountUnsafe.l0]) ?_
    repeat (first | (with_reducible refine Ev.ite_pos (by omega) ?_) | (with_reducible refine Ev.ite_neg (by omega) ?_))
    rw [e]
    exact key _ 0 m (by omega)
theorem count2 (p : List S69) (hp : nPgI p ≤ 1048576) (n a s by_ : Int) : ∀ (c i : Nat) (m : Int), i + c = p.length → 0 < i → Ev (fun k => impl_CountUnsafe.l0 k by_ m p (p.length : Int) (i : Int) n a s p) (outer p hp n a s by_ c i m) := by
  have hl : p.length ≤ 1048576 := by unfold nPgI at hp; omega
  intro c
  induction c with
  | zero =>
    intro i m hi _
    refine Ev.step (fun k => by rw [impl_CountUnsafe.l0]) ?_
    repeat (first | (with_reducible refine Ev.ite_pos (by omega) ?_) | (with_reducible refine Ev.ite_neg (by omega) ?_))
    exact Ev.now _
  | succ c ih =>
    intro i m hi h0
    have hf := f2_len hp (show i < p.length by omega)
    have e : rd_T69 p (i : Int) = p.getD i z69 := rfl
    rw [outer]
    generalize hx : p.getD i z69 = x at hf
    have key : ∀ (q d : Nat) (m : Int), d + q = x.f2.length → Ev (fun k => impl_CountUnsafe.l1 k by_ m (i : Int) p (p.length : Int) (i : Int) (x.f2.length : Int) (d : Int) n a s p x.f0.f0 x.f0.f1 x.f1 x.f2) (outer p hp n a s by_ c (i + 1) (inner p hp n a s by_ x q (d : Int) m)) := by
      intro q
      induction q with
      | zero =>
        intro d m hd
        refine Ev.step (fun k => by rw [impl_CountUnsafe.l1]) ?_
        repeat (first | (with_reducible refine Ev.ite_pos (by omega) ?_) | (with_reducible refine Ev.ite_neg (by omega) ?_))
        rw [w64n (by omega), inner]
        exact ih (i + 1) m (by omega) (by omega)
      | succ q ihq =>
        intro d m hd
        refine Ev.step (fun k => by rw [impl_CountUnsafe.l1]) ?_
        repeat (first | (with_reducible refine Ev.ite_pos (by omega) ?_) | (with_reducible refine Ev.ite_neg (by omega) ?_))
        refine Ev.bind (mix2 p hp n a s (d : Int) _ _) ?_
        rw [inner, w64n (by omega)]
        cases hq : mixB p hp n a s (d : Int) (wrap64 (x.f0.f0 - by_)) (wrap64 (x.f0.f0 + by_)) with
        | true =>
          rw [if_pos rfl]
          exact Ev.ite_pos rfl (ihq (d + 1) m (by omega))
        | false =>
          rw [if_neg (by simp)]
          exact Ev.ite_neg (by simp) (ihq (d + 1) (wrap64 (m + 1)) (by omega))
    refine Ev.step (fun k => by rw [impl_CountUnsafe.l0]) ?_
    repeat (first | (with_reducible refine Ev.ite_pos (by omega) ?_) | (with_reducible refine Ev.ite_neg (by omega) ?_))
    rw [e, hx]
    exact key _ 0 m (by omega)
theorem count2z (p : List S69) (hp : nPgI p ≤ 1048576) (n a s by_ m : Int) (h : 0 < p.length) (r : Int) (hr : Ev (fun k => impl_CountUnsafe.l0 k by_ m p (p.length : Int) ((1 : Nat) : Int) n a s p) r) : Ev (fun k => impl_CountUnsafe.l0 k by_ m p (p.length : Int) ((0 : Nat) : Int) n a s p) r := by
  have hf := f2_len hp h
  have e : rd_T69 p ((0 : Nat) : Int) = p.getD 0 z69 := rfl
  generalize hx : p.getD 0 z69 = x at hf
  have key : ∀ (q d : Nat), d + q = x.f2.length → Ev (fun k => impl_CountUnsafe.l1 k by_ m ((0 : Nat) : Int) p (p.length : Int) ((0 : Nat) : Int) (x.f2.length : Int) (d : Int) n a s p x.f0.f0 x.f0.f1 x.f1 x.f2) r := by
    intro q
    induction q with
    | zero =>
      intro d hd
      refine Ev.step (fun k => by rw [impl_CountUnsafe.l1]) ?_
      repeat (first | (with_reducible refine Ev.ite_pos (by omega) ?_) | (with_reducible refine Ev.ite_neg (by omega) ?_))
      rw [w64n (by omega)]
      exact hr
    | succ q ihq =>
      intro d hd
      refine Ev.step (fun k => by rw [impl_CountUnsafe.l1]) ?_
      repeat (first | (with_reducible refine Ev.ite_pos (by omega) ?_) | (with_reducible refine Ev.ite_neg (by omega) ?_))
      rw [w64n (by omega)]
      exact ihq (d + 1) (by omega)
  refine Ev.step (fun k => by rw [impl_CountUnsafe.l0]) ?_
  repeat (first | (with_reducible refine Ev.ite_pos (by omega) ?_) | (with_reducible refine Ev.ite_neg (by omega) ?_))
  rw [e, hx]
  exact key x.f2.length 0 (by omega)
noncomputable def unsafeN (p : List S69) (hp : nPgI p ≤ 1048576) (n a s by_ : Int) : Int := if 0 ≤ by_ ∧ by_ ≤ 1000 then outer p hp n a s by_ (p.length - 1) 1 0 else 0
theorem uns1 (p : List S69) (hp : nPgI p ≤ 1048576) (n a s by_ : Int) : Ev (fun k => spec_CountUnsafe.f k n a s p by_) (unsafeN p hp n a s by_) := by
  unfold spec_CountUnsafe.f unsafeN
  refine Ev.bind0 (in1 by_ 0 1000) ?_
  by_cases h : 0 ≤ by_ ∧ by_ ≤ 1000
  · rw [if_pos h]
    refine Ev.ite_pos (by simpa using h) ?_
    by_cases h0 : 0 < p.length
    · exact count1 p hp n a s by_ (p.length - 1) 1 0 (by omega)
    · rw [show p.length - 1 = 0 by omega, outer]
      refine Ev.step (fun k => by rw [spec_CountUnsafe.l0]) ?_
      refine Ev.ite_neg (by omega) ?_
      exact Ev.now _
  · rw [if_neg h]
    exact Ev.ite_neg (by simpa using h) (Ev.now _)
theorem uns2 (p : List S69) (hp : nPgI p ≤ 1048576) (n a s by_ : Int) : Ev (fun k => impl_CountUnsafe.f k n a s p by_) (unsafeN p hp n a s by_) := by
  unfold impl_CountUnsafe.f unsafeN
  refine Ev.bind0 (in2 by_ 0 1000) ?_
  by_cases h : 0 ≤ by_ ∧ by_ ≤ 1000
  · rw [if_pos h]
    refine Ev.ite_pos (by simpa using h) ?_
    by_cases h0 : 0 < p.length
    · exact count2z p hp n a s by_ 0 h0 _ (count2 p hp n a s by_ (p.length - 1) 1 0 (by omega) (by omega))
    · rw [show p.length - 1 = 0 by omega, outer]
      refine Ev.step (fun k => by rw [impl_CountUnsafe.l0]) ?_
      refine Ev.ite_neg (by omega) ?_
      exact Ev.now _
  · rw [if_neg h]
    exact Ev.ite_neg (by simpa using h) (Ev.now _)
theorem pure : PureFnExactCountUnsafe := by
  intro n f s p u _ _ _ hp _
  have hb : p.length ≤ 140737488351232 ∧ (∀ y ∈ p, b97 y) := ⟨Len.le hp.1 (by omega), fun y hy => bPiece (hp.2 y hy)⟩
  refine Ev.rounds (r := true) ?_
  unfold laws_FnExactCountUnsafe.f
  refine Ev.bind (sz_Program n f s p 1048576 hb (by omega) (by omega)) ?_
  by_cases hn : ((nPg p : Nat) : Int) ≤ 1048576
  · have hs : szOf 1048576 (p.length + (p.map n97).sum) = 1048576 - ((nPg p : Nat) : Int) := by unfold szOf nPg; rw [if_pos (by exact hn)]
    rw [hs]
    have hq : nPg p ≤ 1048576 := by omega
    have hqi : nPgI (p.map cPiece) ≤ 1048576 := by rw [nPgI_c]; exact hq
    have hqj := hqi
    unfold nPg at hq
    unfold nPgI at hqj
    refine Ev.ite_neg (by omega) ?_
    refine Ev.bind (to_Program n f s p hq) ?_
    refine Ev.bind (uns1 _ hqi n f s u) ?_
    refine Ev.bind (to_Program n f s p hq) ?_
    refine Ev.bind (uns2 _ hqi n f s u) ?_
    refine Ev.ite_pos rfl ?_
    refine Ev.bind (to_Program n f s p hq) ?_
    refine Ev.bind (eq_Program n f s _ hqj) ?_
    exact Ev.ite_pos rfl (Ev.now _)
  · have hs : szOf 1048576 (p.length + (p.map n97).sum) = -1 := by unfold szOf; rw [if_neg (by exact hn)]
    rw [hs]
    exact Ev.ite_pos (by omega) (Ev.now _)
end Go.Proofs.Ytadpbpocbfjboaa.fnExactCountUnsafe
namespace Go.Proofs.Ytadpbpocbfjboaa
theorem fnExactCountUnsafe_holds : Rows.FnExactCountUnsafeSaid := fnExactCountUnsafe.row fnExactCountUnsafe.pure
end Go.Proofs.Ytadpbpocbfjboaa
