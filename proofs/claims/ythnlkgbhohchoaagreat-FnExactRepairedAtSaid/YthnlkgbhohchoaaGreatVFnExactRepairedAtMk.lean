/- Numbers stored over numbers in nested rows of the call's own: what stays, whatever shares. Conditions: none. -/
import Derived.Test.YthnlkgbhohchoaaGreatVFnExactRepairedAtWKept
namespace Go.Proofs.YthnlkgbhohchoaaGreat.Mk
open Go.RowKit Go.Proofs.YthnlkgbhohchoaaGreatW.PrintWords
/-- Blocks outside P are as they were; every block keeps its shape, and only whole numbers were stored, over whole numbers. -/
structure Marked (P : Nat → Prop) (w W : World) : Prop where
  size : w.heap.size ≤ W.heap.size
  far : ∀ b, b < w.heap.size → ¬ P b → W.heap[b]? = w.heap[b]?
  near : ∀ (b : Nat) (cs : Array Value) (t : TypeId), w.heap[b]? = some (.cells cs t (0, 0)) → ∃ cs' : Array Value, W.heap[b]? = some (Obj.cells cs' t (0, 0)) ∧ ∀ j : Nat, cs'[j]? = cs[j]? ∨ ∃ x y, cs[j]? = some (Value.int .i64 x) ∧ cs'[j]? = some (Value.int .i64 y)
section
variable {P : Nat → Prop} {w W W2 : World} {g j n : Nat} {u v : Value}
theorem Marked.refl (P : Nat → Prop) (w : World) : Marked P w w := ⟨Nat.le_refl _, fun _ _ _ => rfl, fun _ cs _ h => ⟨cs, h, fun _ => .inl rfl⟩⟩
theorem Marked.trans (h : Marked P w W) (k : Marked P W W2) : Marked P w W2 := by
  refine ⟨Nat.le_trans h.size k.size, fun b hb hn => (k.far b (Nat.lt_of_lt_of_le hb h.size) hn).trans (h.far b hb hn), fun b cs t hc => ?_⟩
  obtain ⟨cs1, h1, j1⟩ := h.near b cs t hc
  obtain ⟨cs2, h2, j2⟩ := k.near b cs1 t h1
  refine ⟨cs2, h2, fun j => ?_⟩
  rcases j1 j with e1 | ⟨x, y, e1, e1'⟩ <;> rcases j2 j with e2 | ⟨x', y', e2, e2'⟩
  · exact .inl (e2.trans e1)
  · exact .inr ⟨x', y', e1 ▸ e2, e2'⟩
  · exact .inr ⟨x, y, e1, e2.trans e1'⟩
  · exact .inr ⟨x, y', e1, e2'⟩
theorem Marked.drewN (h : Marked P w W) (m : Nat) : Marked P w (W.drewN m) := ⟨h.size, h.far, h.near⟩
theorem Marked.put (h : Marked P w W) (hP : P g) (hb : ∃ (cs : Array Value) (t : TypeId), w.heap[g]? = some (Obj.cells cs t (0, 0))) {x : Int} (hc : W.cell? ⟨g, j, none⟩ = some (.int .i64 x)) (y : Int) : Marked P w (W.setCell ⟨g, j, none⟩ (.int .i64 y)) := by
  obtain ⟨cs0, t0, hb0⟩ := hb
  refine ⟨by simpa [World.setCell] using h.size, fun b hb hn => ?_, fun b cs t hcs => ?_⟩
  · rw [Below.heap_setCell W _ _ b (fun e => hn (by rw [e]; exact hP))]
    exact h.far b hb hn
  · by_cases e : b = g
    · subst e
      obtain ⟨cs1, h1, j1⟩ := h.near b cs t hcs
      refine ⟨cs1.setIfInBounds j (.int .i64 y), blk_set h1 j _, fun i => ?_⟩
      by_cases hi : j = i
      · subst hi
        have hx : cs1[j]? = some (.int .i64 x) := (blk_cell h1 j).symm.trans hc
        have hlt : j < cs1.size := (Array.getElem?_eq_some_iff.1 hx).1
        refine .inr ?_
        have hy : (cs1.setIfInBounds j (Value.int .i64 y))[j]? = some (.int .i64 y) := by rw [Array.getElem?_setIfInBounds]; simp [hlt]
        rcases j1 j with e1 | ⟨x', y', e1, _⟩
        · exact ⟨x, y, e1 ▸ hx, hy⟩
        · exact ⟨x', y, e1, hy⟩
      · rw [Array.getElem?_setIfInBounds, if_neg hi]
        exact j1 i
    · obtain ⟨cs1, h1, j1⟩ := h.near b cs t hcs
      exact ⟨cs1, (Below.heap_setCell W _ _ b e).trans h1, j1⟩
theorem Marked.kept (h : Marked P w W) : Kept w W P := ⟨h.size, h.far⟩
/-- A block of the call's own, at w. -/
def Blk (w : World) (g : Nat) : Prop := ∃ (cs : Array Value) (t : TypeId), w.heap[g]? = some (Obj.cells cs t (0, 0))
theorem Blk.on (h : Marked P w W) (hb : Blk w g) : Blk W g := by
  obtain ⟨cs, t, hb⟩ := hb
  obtain ⟨cs', h1, _⟩ := h.near g cs t hb
  exact ⟨cs', t, h1⟩
theorem Blk.thaw (hb : Blk w g) (j : Nat) : w.frozen? ⟨g, j, none⟩ = false := by
  obtain ⟨cs, t, hb⟩ := hb
  exact blk_frozen hb j
theorem Marked.cell (h : Marked P w W) (hb : Blk w g) (hu : w.cell? ⟨g, j, none⟩ = some u) (hne : ∀ x, u ≠ .int .i64 x) : W.cell? ⟨g, j, none⟩ = some u := by
  obtain ⟨cs, t, hb⟩ := hb
  obtain ⟨cs', h1, k1⟩ := h.near g cs t hb
  rw [blk_cell hb] at hu
  rw [blk_cell h1]
  rcases k1 j with e1 | ⟨x, y, e1, _⟩
  · exact e1.trans hu
  · rw [hu] at e1
    exact absurd (Option.some.inj e1) (hne x)
theorem Marked.num (h : Marked P w W) (hb : Blk w g) {x : Int} (hu : w.cell? ⟨g, j, none⟩ = some (.int .i64 x)) : ∃ y, W.cell? ⟨g, j, none⟩ = some (.int .i64 y) := by
  obtain ⟨cs, t, hb⟩ := hb
  obtain ⟨cs', h1, k1⟩ := h.near g cs t hb
  rw [blk_cell hb] at hu
  rw [blk_cell h1]
  rcases k1 j with e1 | ⟨_, y, _, e2⟩
  · exact ⟨x, e1.trans hu⟩
  · exact ⟨y, e2⟩
/-- A slice whose first m cells are whole numbers. -/
def Ints (P : Nat → Prop) (w : World) (v : Value) (n m : Nat) : Prop := ∃ A c, v = .slice A n c ∧ n ≤ 9223372036854775807 ∧ (0 < n → ∃ g, A = some ⟨g, 0, none⟩ ∧ P g ∧ Blk w g ∧ ∀ j, j < m → ∃ x, w.cell? ⟨g, j, none⟩ = some (.int .i64 x))
theorem Ints.on {m : Nat} (h : Marked P w W) (hv : Ints P w v n m) : Ints P W v n m := by
  obtain ⟨A, c, rfl, hm, hv⟩ := hv
  refine ⟨A, c, rfl, hm, fun hn => ?_⟩
  obtain ⟨g, rfl, hP, hb, hj⟩ := hv hn
  exact ⟨g, rfl, hP, hb.on h, fun j hlt => by obtain ⟨x, hx⟩ := hj j hlt; exact h.num hb hx⟩
theorem Ints.slice {m : Nat} (hv : Ints P w v n m) : ∀ x, v ≠ .int .i64 x := by
  obtain ⟨A, c, rfl, _⟩ := hv
  intro x h
  cases h
/-- Tables: a number and two rows of numbers each. -/
def Tabs (P : Nat → Prop) (w : World) (v : Value) (ns : List (Nat × Nat)) : Prop := ∃ A c, v = .slice A ns.length c ∧ ns.length ≤ 9223372036854775807 ∧ (0 < ns.length → ∃ g, A = some ⟨g, 0, none⟩ ∧ P g ∧ Blk w g ∧ ∀ i p, ns[i]? = some p →
  (∃ x, w.cell? ⟨g, i * 3, none⟩ = some (.int .i64 x)) ∧ (∃ u, w.cell? ⟨g, i * 3 + 1, none⟩ = some u ∧ Ints P w u p.1 p.1) ∧ (∃ u, w.cell? ⟨g, i * 3 + 2, none⟩ = some u ∧ Ints P w u p.2 p.2))
theorem Tabs.on {ns : List (Nat × Nat)} (h : Marked P w W) (hv : Tabs P w v ns) : Tabs P W v ns := by
  obtain ⟨A, c, rfl, hm, hv⟩ := hv
  refine ⟨A, c, rfl, hm, fun hn => ?_⟩
  obtain ⟨g, rfl, hP, hb, hj⟩ := hv hn
  refine ⟨g, rfl, hP, hb.on h, fun i p hp => ?_⟩
  obtain ⟨⟨x, hx⟩, ⟨u, hu, hi⟩, ⟨u2, hu2, hi2⟩⟩ := hj i p hp
  exact ⟨h.num hb hx, ⟨u, h.cell hb hu hi.slice, hi.on h⟩, ⟨u2, h.cell hb hu2 hi2.slice, hi2.on h⟩⟩
theorem Tabs.slice {ns : List (Nat × Nat)} (hv : Tabs P w v ns) : ∀ x, v ≠ .int .i64 x := by
  obtain ⟨A, c, rfl, _⟩ := hv
  intro x h
  cases h
/-- Pieces: two numbers, a row of pairs of numbers, a row of tables each. -/
def Pcs (P : Nat → Prop) (w : World) (v : Value) (ns : List (Nat × List (Nat × Nat))) : Prop := ∃ A c, v = .slice A ns.length c ∧ ns.length ≤ 9223372036854775807 ∧ (0 < ns.length → ∃ g, A = some ⟨g, 0, none⟩ ∧ P g ∧ Blk w g ∧ ∀ i p, ns[i]? = some p →
  (∃ x, w.cell? ⟨g, i * 4, none⟩ = some (.int .i64 x)) ∧ (∃ x, w.cell? ⟨g, i * 4 + 1, none⟩ = some (.int .i64 x)) ∧ (∃ u, w.cell? ⟨g, i * 4 + 2, none⟩ = some u ∧ Ints P w u p.1 (p.1 * 2)) ∧ (∃ u, w.cell? ⟨g, i * 4 + 3, none⟩ = some u ∧ Tabs P w u p.2))
end
/-- n times one more. -/
def bump : Nat → Int → Int
  | 0, a => a
  | n + 1, a => wrap64 (bump n a + 1)
theorem bump_add (m a : Nat) (x : Int) : bump m (bump a x) = bump (m + a) x := by
  induction m with
  | zero => rw [Nat.zero_add]; rfl
  | succ m ih => rw [show m + 1 + a = (m + a) + 1 by omega, bump, bump, ih]
theorem bump_num {n : Nat} {x : Int} (h : 0 ≤ x) (hx : x + (n : Int) ≤ 9223372036854775807) : bump n x = x + n := by
  induction n with
  | zero => simp [bump]
  | succ n ih =>
    rw [bump, ih (by omega)]
    unfold wrap64
    omega
theorem R_len {α : Type} {d : Kd α} {e base : Nat} {ok : Nat → Prop} {w : World} {v : Value} {xs : List α} (h : d.R e w base ok v xs) : xs.length ≤ 9223372036854775807 := by
  obtain ⟨_, inner, ho, _⟩ := h
  rcases ho.2 with ⟨_, h0⟩ | ⟨_, cap, _, _, _, _, h1, h2, _, _⟩
  · omega
  · have : maxLen = 9223372036854775807 := by decide
    omega
def sumT (ns : List (Nat × Nat)) : Nat := (ns.map fun p => 1 + p.1 + p.2).sum
def sumP (ns : List (Nat × List (Nat × Nat))) : Nat := (ns.map fun p => 2 + p.1 * 2 + sumT p.2).sum
theorem take_sum {α : Type} {f : α → Nat} {l : List α} {i : Nat} {p : α} (h : l[i]? = some p) : ((l.take (i + 1)).map f).sum = ((l.take i).map f).sum + f p := by
  obtain ⟨hi, rfl⟩ := List.getElem?_eq_some_iff.1 h
  rw [List.take_succ_eq_append_getElem hi, List.map_append, List.sum_append]
  simp
end Go.Proofs.YthnlkgbhohchoaaGreat.Mk
