/- Packed sizes of tables, in the program and in the reference. Conditions: none. -/
import Derived.Test.YtadpbpocbfjboaaKFnExactProgramSize
namespace Go.Proofs.Ytadpbpocbfjboaa.fnExactProgramSize
open Go.RowKit Go.Proofs.YtadpbpocbfjboaaW.PrintWords Go.Proofs.YtadpbpocbfjboaaW.PrintMore Go.Proofs.Ytadpbpocbfjboaa.QFnExactProgramSize Go.Proofs.Ytadpbpocbfjboaa.Open Go.Proofs.Ytadpbpocbfjboaa.Kit
/-- One more element of a packed row. -/
def pk (acc : List S126) (x : Int) : List S126 :=
  if 0 < acc.length ∧ (acc.getD (acc.length - 1) z126).f1 = x then acc.set (acc.length - 1) ⟨wrap64 ((acc.getD (acc.length - 1) z126).f0 + 1), (acc.getD (acc.length - 1) z126).f1⟩ else acc ++ [⟨1, x⟩]
theorem pk_len (acc : List S126) (x : Int) : acc.length ≤ (pk acc x).length ∧ (pk acc x).length ≤ acc.length + 1 := by
  unfold pk
  split <;> simp
theorem pk_le (l : List Int) : ∀ i, i ≤ l.length → (foldTo pk [] l i).length ≤ i := by
  intro i
  induction i with
  | zero => intro _; simp [foldTo]
  | succ i ih =>
    intro hi
    have h1 := ih (by omega)
    rw [foldTo_succ pk [] (by omega : i < l.length) 0]
    have := pk_len (foldTo pk [] l i) (l.getD i 0)
    omega
theorem w1 {n : Nat} (h : 0 < n) (hn : n ≤ 1048576) : wrap64 ((n : Int) - 1) = ((n - 1 : Nat) : Int) := by
  rw [w64 (by omega) (by omega)]
  omega
theorem pack1 (l : List Int) (hl : l.length ≤ 1048576) : Ev (fun k => spec_PackNext.f k l) (l.foldl pk []) := by
  rw [← foldTo_all]
  have h0 := foldTo_zero pk [] l
  show Ev (fun k => spec_PackNext.l0 k l [] 0) _
  rw [show (fun k => spec_PackNext.l0 k l [] 0) = (fun k => spec_PackNext.l0 k l (foldTo pk [] l 0) ((0 : Nat) : Int)) by rw [h0]; rfl]
  refine Ev.up (n := l.length) (g := fun i k => spec_PackNext.l0 k l (foldTo pk [] l i) (i : Int)) ?_ ?_
  · intro i hi ih
    have hle := pk_le l i (by omega)
    rw [foldTo_succ pk [] hi 0] at ih
    refine Ev.step (fun k => by rw [spec_PackNext.l0]) ?_
    repeat (first | (with_reducible refine Ev.ite_pos (by omega) ?_) | (with_reducible refine Ev.ite_neg (by omega) ?_))
    by_cases hp : 0 < (foldTo pk [] l i).length
    · rw [w1 hp (by omega)]
      repeat (first | (with_reducible refine Ev.ite_pos (by omega) ?_) | (with_reducible refine Ev.ite_neg (by omega) ?_))
      rw [w64n (by omega)]
      by_cases hx : ((foldTo pk [] l i).getD ((foldTo pk [] l i).length - 1) z126).f1 = l.getD i 0
      · refine Ev.ite_pos hx ?_
        rw [pk, if_pos ⟨hp, hx⟩] at ih
        exact ih
      · refine Ev.ite_neg hx ?_
        repeat (first | (with_reducible refine Ev.ite_pos (by omega) ?_) | (with_reducible refine Ev.ite_neg (by omega) ?_))
        rw [pk, if_neg (fun h => hx h.2)] at ih
        exact ih
    · refine Ev.ite_neg (by omega) ?_
      repeat (first | (with_reducible refine Ev.ite_pos (by omega) ?_) | (with_reducible refine Ev.ite_neg (by omega) ?_))
      rw [w64n (by omega)]
      rw [pk, if_neg (fun h => hp h.1)] at ih
      exact ih
  · refine Ev.step (fun k => by rw [spec_PackNext.l0]) ?_
    repeat (first | (with_reducible refine Ev.ite_pos (by omega) ?_) | (with_reducible refine Ev.ite_neg (by omega) ?_))
    exact Ev.now _
theorem pack2 (l : List Int) (hl : l.length ≤ 1048576) : Ev (fun k => impl_PackNext.f k l) (l.foldl pk []) := by
  rw [← foldTo_all]
  have h0 := foldTo_zero pk [] l
  show Ev (fun k => impl_PackNext.l0 k [] l (l.length : Int) 0) _
  rw [show (fun k => impl_PackNext.l0 k [] l (l.length : Int) 0) = (fun k => impl_PackNext.l0 k (foldTo pk [] l 0) l (l.length : Int) ((0 : Nat) : Int)) by rw [h0]; rfl]
  refine Ev.up (n := l.length) (g := fun i k => impl_PackNext.l0 k (foldTo pk [] l i) l (l.length : Int) (i : Int)) ?_ ?_
  · intro i hi ih
    have hle := pk_le l i (by omega)
    rw [foldTo_succ pk [] hi 0] at ih
    refine Ev.step (fun k => by rw [impl_PackNext.l0]) ?_
    repeat (first | (with_reducible refine Ev.ite_pos (by omega) ?_) | (with_reducible refine Ev.ite_neg (by omega) ?_))
    by_cases hp : 0 < (foldTo pk [] l i).length
    · rw [w1 hp (by omega)]
      repeat (first | (with_reducible refine Ev.ite_pos (by omega) ?_) | (with_reducible refine Ev.ite_neg (by omega) ?_))
      rw [w64n (by omega)]
      by_cases hx : ((foldTo pk [] l i).getD ((foldTo pk [] l i).length - 1) z126).f1 = l.getD i 0
      · refine Ev.ite_pos hx ?_
        rw [pk, if_pos ⟨hp, hx⟩] at ih
        exact ih
      · refine Ev.ite_neg hx ?_
        repeat (first | (with_reducible refine Ev.ite_pos (by omega) ?_) | (with_reducible refine Ev.ite_neg (by omega) ?_))
        rw [pk, if_neg (fun h => hx h.2)] at ih
        exact ih
    · rw [w64 (x := ((foldTo pk [] l i).length : Int) - 1) (by omega) (by omega)]
      refine Ev.ite_neg (by omega) ?_
      repeat (first | (with_reducible refine Ev.ite_pos (by omega) ?_) | (with_reducible refine Ev.ite_neg (by omega) ?_))
      rw [w64n (by omega)]
      rw [pk, if_neg (fun h => hp h.1)] at ih
      exact ih
  · refine Ev.step (fun k => by rw [impl_PackNext.l0]) ?_
    repeat (first | (with_reducible refine Ev.ite_pos (by omega) ?_) | (with_reducible refine Ev.ite_neg (by omega) ?_))
    exact Ev.now _
/-- The size of packed tables, as it is summed. -/
def ps (n : Int) (x : S44) : Int := wrap64 (n + ((x.f2.foldl pk []).length : Int))
theorem size1 (l : List S44) (hl : l.length + (l.map n44).sum ≤ 1048576) : Ev (fun k => spec_PackedSize.f k l) (l.foldl ps 0) := by
  rw [← foldTo_all]
  have h0 := foldTo_zero ps 0 l
  show Ev (fun k => spec_PackedSize.l0 k l 0 0) _
  rw [show (fun k => spec_PackedSize.l0 k l 0 0) = (fun k => spec_PackedSize.l0 k l (foldTo ps 0 l 0) ((0 : Nat) : Int)) by rw [h0]; rfl]
  refine Ev.up (n := l.length) (g := fun i k => spec_PackedSize.l0 k l (foldTo ps 0 l i) (i : Int)) ?_ ?_
  · intro i hi ih
    rw [foldTo_succ ps 0 hi z44] at ih
    have hm := le_sum n44 (getD_mem hi z44)
    unfold n44 at hm
    refine Ev.step (fun k => by rw [spec_PackedSize.l0]) ?_
    repeat (first | (with_reducible refine Ev.ite_pos (by omega) ?_) | (with_reducible refine Ev.ite_neg (by omega) ?_))
    refine Ev.bind (pack1 (l.getD i z44).f2 (by unfold n44 at hl; omega)) ?_
    rw [w64n (by omega)]
    exact ih
  · refine Ev.step (fun k => by rw [spec_PackedSize.l0]) ?_
    repeat (first | (with_reducible refine Ev.ite_pos (by omega) ?_) | (with_reducible refine Ev.ite_neg (by omega) ?_))
    exact Ev.now _
theorem size2 (l : List S44) (hl : l.length + (l.map n44).sum ≤ 1048576) : Ev (fun k => impl_PackedSize.f k l) (l.foldl ps 0) := by
  rw [← foldTo_all]
  have h0 := foldTo_zero ps 0 l
  show Ev (fun k => impl_PackedSize.l0 k 0 l (l.length : Int) 0) _
  rw [show (fun k => impl_PackedSize.l0 k 0 l (l.length : Int) 0) = (fun k => impl_PackedSize.l0 k (foldTo ps 0 l 0) l (l.length : Int) ((0 : Nat) : Int)) by rw [h0]; rfl]
  refine Ev.up (n := l.length) (g := fun i k => impl_PackedSize.l0 k (foldTo ps 0 l i) l (l.length : Int) (i : Int)) ?_ ?_
  · intro i hi ih
    rw [foldTo_succ ps 0 hi z44] at ih
    have hm := le_sum n44 (getD_mem hi z44)
    unfold n44 at hm
    refine Ev.step (fun k => by rw [impl_PackedSize.l0]) ?_
    repeat (first | (with_reducible refine Ev.ite_pos (by omega) ?_) | (with_reducible refine Ev.ite_neg (by omega) ?_))
    refine Ev.bind (pack2 (l.getD i z44).f2 (by unfold n44 at hl; omega)) ?_
    rw [w64n (by omega)]
    exact ih
  · refine Ev.step (fun k => by rw [impl_PackedSize.l0]) ?_
    repeat (first | (with_reducible refine Ev.ite_pos (by omega) ?_) | (with_reducible refine Ev.ite_neg (by omega) ?_))
    exact Ev.now _
end Go.Proofs.Ytadpbpocbfjboaa.fnExactProgramSize
