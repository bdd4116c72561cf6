/- A stable sort by keys: what a merge of two sorted parts does; there is one sorted list whose keys' elements stand in their old order. Conditions: none. -/
import Derived.Shelf.SlSortCmp.Kit1
import Derived.Sort.Defs
namespace Stb
variable {α : Type}
/-- ys is xs, sorted anew between a and b: outside alike, inside out of the inside, and of each key the same elements in the same order. -/
structure Ch (key : α → Int) (a b : Nat) (xs ys : List α) : Prop where
  len : ys.length = xs.length
  out : ∀ k, k < a ∨ b ≤ k → ys[k]? = xs[k]?
  ins : ∀ k, a ≤ k → k < b → ∃ j, a ≤ j ∧ j < b ∧ ys[k]? = xs[j]?
  fib : ∀ q, ys.filter (fun x => key x == q) = xs.filter (fun x => key x == q)
theorem Ch.refl (key : α → Int) (a b : Nat) (xs : List α) : Ch key a b xs xs := ⟨rfl, fun _ _ => rfl, fun k h1 h2 => ⟨k, h1, h2, rfl⟩, fun _ => rfl⟩
theorem Ch.trans {key : α → Int} {a b : Nat} {xs ys zs : List α} (h : Ch key a b xs ys) (k : Ch key a b ys zs) : Ch key a b xs zs :=
  ⟨k.len.trans h.len, fun i hi => (k.out i hi).trans (h.out i hi), fun i h1 h2 => by
    obtain ⟨j, j1, j2, e⟩ := k.ins i h1 h2
    obtain ⟨l, l1, l2, f⟩ := h.ins j j1 j2
    exact ⟨l, l1, l2, e.trans f⟩, fun q => (k.fib q).trans (h.fib q)⟩
theorem Ch.wide {key : α → Int} {a b c d : Nat} {xs ys : List α} (h : Ch key a b xs ys) (h1 : c ≤ a) (h2 : b ≤ d) : Ch key c d xs ys :=
  ⟨h.len, fun i hi => h.out i (by omega), fun i i1 i2 => by
    by_cases hi : a ≤ i ∧ i < b
    · obtain ⟨j, j1, j2, e⟩ := h.ins i hi.1 hi.2
      exact ⟨j, by omega, by omega, e⟩
    · exact ⟨i, i1, i2, h.out i (by omega)⟩, h.fib⟩
theorem Ch.mem {key : α → Int} {a b : Nat} {xs ys : List α} (h : Ch key a b xs ys) {x : α} (hx : x ∈ ys) : x ∈ xs := by
  have h1 : x ∈ ys.filter (fun y => key y == key x) := List.mem_filter.2 ⟨hx, by simp⟩
  rw [h.fib] at h1
  exact (List.mem_filter.1 h1).1
def So (key : α → Int) (a b : Nat) (xs : List α) : Prop := ∀ i j x y, a ≤ i → i ≤ j → j < b → xs[i]? = some x → xs[j]? = some y → key x ≤ key y
theorem So.sub {key : α → Int} {a b c d : Nat} {xs : List α} (h : So key a b xs) (h1 : a ≤ c) (h2 : d ≤ b) : So key c d xs := fun i j x y i1 i2 i3 e f => h i j x y (by omega) i2 (by omega) e f
theorem So.out {key : α → Int} {a b c d : Nat} {xs ys : List α} (h : So key c d xs) (k : Ch key a b xs ys) (hd : d ≤ a ∨ b ≤ c) : So key c d ys := fun i j x y i1 i2 i3 e f => by
  rw [k.out i (by omega)] at e
  rw [k.out j (by omega)] at f
  exact h i j x y i1 i2 i3 e f
theorem So.one (key : α → Int) (a b : Nat) (xs : List α) (h : b ≤ a + 1) : So key a b xs := fun i j x y i1 i2 i3 e f => by
  obtain rfl : i = j := by omega
  rw [e] at f
  injection f with f
  subst f
  exact Int.le_refl _
/-- ys: the parts [s, m) and [m, e) of xs in turned order -/
structure Rot (s m e : Nat) (xs ys : List α) : Prop where
  len : ys.length = xs.length
  out : ∀ k, k < s ∨ e ≤ k → ys[k]? = xs[k]?
  lo : ∀ k, s ≤ k → k < s + (e - m) → ys[k]? = xs[k + (m - s)]?
  hi : ∀ k, s + (e - m) ≤ k → k < e → ys[k]? = xs[k - (e - m)]?
theorem split4 {s m e : Nat} (xs : List α) (h1 : s ≤ m) (h2 : m ≤ e) : xs = xs.take s ++ ((xs.drop s).take (m - s) ++ ((xs.drop m).take (e - m) ++ xs.drop e)) := by
  have a : (xs.drop m).take (e - m) ++ xs.drop e = xs.drop m := by
    conv => rhs; rw [← List.take_append_drop (e - m) (xs.drop m)]
    rw [List.drop_drop, show m + (e - m) = e by omega]
  have b : (xs.drop s).take (m - s) ++ xs.drop m = xs.drop s := by
    conv => rhs; rw [← List.take_append_drop (m - s) (xs.drop s)]
    rw [List.drop_drop, show s + (m - s) = m by omega]
  rw [a, b, List.take_append_drop]
theorem Rot.eq {s m e : Nat} {xs ys : List α} (h : Rot s m e xs ys) (h1 : s ≤ m) (h2 : m ≤ e) (h3 : e ≤ xs.length) : ys = xs.take s ++ ((xs.drop m).take (e - m) ++ ((xs.drop s).take (m - s) ++ xs.drop e)) := by
  apply List.ext_getElem?
  intro k
  simp only [List.getElem?_append, List.getElem?_take, List.getElem?_drop, List.length_take, List.length_drop]
  by_cases k1 : k < s
  · rw [h.out k (by omega), if_pos (by omega), if_pos k1]
  rw [if_neg (by omega)]
  by_cases k2 : k < s + (e - m)
  · rw [h.lo k (by omega) k2, if_pos (by omega), if_pos (by omega)]; congr 1; omega
  rw [if_neg (by omega)]
  by_cases k3 : k < e
  · rw [h.hi k (by omega) k3, if_pos (by omega), if_pos (by omega)]; congr 1; omega
  rw [h.out k (by omega), if_neg (by omega)]; congr 1; omega
theorem fil_swap (key : α → Int) (u v : List α) (h : ∀ x ∈ u, ∀ y ∈ v, key y < key x) (q : Int) : (v ++ u).filter (fun x => key x == q) = (u ++ v).filter (fun x => key x == q) := by
  rw [List.filter_append, List.filter_append]
  by_cases hu : ∃ x, x ∈ u ∧ key x = q
  · obtain ⟨x, hx, e⟩ := hu
    have : v.filter (fun x => key x == q) = [] := by
      rw [List.filter_eq_nil_iff]
      intro y hy hq
      have := h x hx y hy
      have := eq_of_beq hq
      omega
    rw [this, List.nil_append, List.append_nil]
  · have : u.filter (fun x => key x == q) = [] := by
      rw [List.filter_eq_nil_iff]
      intro y hy hq
      exact hu ⟨y, hy, eq_of_beq hq⟩
    rw [this, List.nil_append, List.append_nil]
theorem mem_part {xs : List α} {s n : Nat} {x : α} (h : x ∈ (xs.drop s).take n) : ∃ i, s ≤ i ∧ i < s + n ∧ xs[i]? = some x := by
  obtain ⟨i, hi⟩ := List.mem_iff_getElem?.1 h
  rw [List.getElem?_take] at hi
  by_cases c : i < n
  · rw [if_pos c, List.getElem?_drop] at hi
    exact ⟨s + i, by omega, by omega, hi⟩
  · rw [if_neg c] at hi; cases hi
/-- A turn of two parts, the first of which lies above the second: a change. -/
theorem Rot.ch {key : α → Int} {s m e : Nat} {xs ys : List α} (h : Rot s m e xs ys) (h1 : s ≤ m) (h2 : m ≤ e) (h3 : e ≤ xs.length)
    (hk : ∀ i j x y, s ≤ i → i < m → m ≤ j → j < e → xs[i]? = some x → xs[j]? = some y → key y < key x) : Ch key s e xs ys := by
  refine ⟨h.len, h.out, fun k k1 k2 => ?_, fun q => ?_⟩
  · by_cases c : k < s + (e - m)
    · exact ⟨k + (m - s), by omega, by omega, h.lo k k1 c⟩
    · exact ⟨k - (e - m), by omega, by omega, h.hi k (by omega) k2⟩
  · rw [h.eq h1 h2 h3]
    conv => rhs; rw [split4 xs h1 h2]
    simp only [List.filter_append]
    congr 1
    rw [← List.append_assoc, ← List.append_assoc]
    congr 1
    rw [← List.filter_append, ← List.filter_append]
    refine fil_swap key _ _ (fun x hx y hy => ?_) q
    obtain ⟨i, i1, i2, e1⟩ := mem_part hx
    obtain ⟨j, j1, j2, e2⟩ := mem_part hy
    exact hk i j x y (by omega) (by omega) (by omega) (by omega) e1 e2
/-- Both halves sorted, and the first below the second. -/
theorem So.join {key : α → Int} {a m b : Nat} {xs : List α} (h1 : So key a m xs) (h2 : So key m b xs) (h : ∀ i j x y, a ≤ i → i < m → m ≤ j → j < b → xs[i]? = some x → xs[j]? = some y → key x ≤ key y) : So key a b xs := fun i j x y i1 i2 i3 e f => by
  by_cases c : j < m
  · exact h1 i j x y i1 i2 c e f
  by_cases d : m ≤ i
  · exact h2 i j x y d i2 i3 e f
  · exact h i j x y i1 (by omega) (by omega) i3 e f
/-- What the merge's search found: s parts [a, m) and [m, b), t those behind. -/
theorem cross {key : α → Int} {a m b s t : Nat} {xs ys : List α} (hr : Rot s m t xs ys) (h1 : So key a m xs) (h2 : So key m b xs) (ha : a ≤ s) (hs : s ≤ m) (ht : m ≤ t) (hb : t ≤ b) (hl : b ≤ xs.length)
    (hP : s = m ∨ t = m ∨ ∀ x y, xs[s]? = some x → xs[t - 1]? = some y → key y < key x)
    (hN : a = s ∨ t = b ∨ ∀ x y, xs[s - 1]? = some x → xs[t]? = some y → key x ≤ key y) :
    Ch key s t xs ys ∧ So key a s ys ∧ So key s (s + (t - m)) ys ∧ So key (s + (t - m)) t ys ∧ So key t b ys ∧
    (∀ i j x y, a ≤ i → i < s + (t - m) → s + (t - m) ≤ j → j < b → ys[i]? = some x → ys[j]? = some y → key x ≤ key y) := by
  have get : ∀ i, i < xs.length → ∃ x, xs[i]? = some x := fun i hi => ⟨_, List.getElem?_eq_getElem hi⟩
  have above : ∀ i j x y, s ≤ i → i < m → m ≤ j → j < t → xs[i]? = some x → xs[j]? = some y → key y < key x := by
    intro i j x y i1 i2 j1 j2 e f
    rcases hP with hP | hP | hP
    · omega
    · omega
    · obtain ⟨u, hu⟩ := get s (by omega)
      obtain ⟨v, hv⟩ := get (t - 1) (by omega)
      have := hP u v hu hv
      have := h1 s i u x ha i1 i2 hu e
      have := h2 j (t - 1) y v j1 (by omega) (by omega) f hv
      omega
  have below : ∀ i j x y, a ≤ i → i < s → t ≤ j → j < b → xs[i]? = some x → xs[j]? = some y → key x ≤ key y := by
    intro i j x y i1 i2 j1 j2 e f
    rcases hN with hN | hN | hN
    · omega
    · omega
    · obtain ⟨u, hu⟩ := get (s - 1) (by omega)
      obtain ⟨v, hv⟩ := get t (by omega)
      have := hN u v hu hv
      have := h1 i (s - 1) x u i1 (by omega) (by omega) e hu
      have := h2 t j v y (by omega) j1 j2 hv f
      omega
  have hc := hr.ch (key := key) hs ht (by omega) above
  refine ⟨hc, fun i j x y i1 i2 i3 e f => ?_, fun i j x y i1 i2 i3 e f => ?_, fun i j x y i1 i2 i3 e f => ?_, fun i j x y i1 i2 i3 e f => ?_, fun i j x y i1 i2 j1 j2 e f => ?_⟩
  · rw [hr.out i (by omega)] at e
    rw [hr.out j (by omega)] at f
    exact h1 i j x y i1 i2 (by omega) e f
  · rw [hr.lo i (by omega) (by omega)] at e
    rw [hr.lo j (by omega) (by omega)] at f
    exact h2 _ _ x y (by omega) (by omega) (by omega) e f
  · rw [hr.hi i (by omega) (by omega)] at e
    rw [hr.hi j (by omega) (by omega)] at f
    exact h1 _ _ x y (by omega) (by omega) (by omega) e f
  · rw [hr.out i (by omega)] at e
    rw [hr.out j (by omega)] at f
    exact h2 i j x y (by omega) i2 i3 e f
  · by_cases c : i < s
    · rw [hr.out i (by omega)] at e
      by_cases d : j < t
      · rw [hr.hi j (by omega) d] at f
        exact h1 _ _ x y i1 (by omega) (by omega) e f
      · rw [hr.out j (by omega)] at f
        exact below i j x y i1 c (by omega) j2 e f
    · rw [hr.lo i (by omega) (by omega)] at e
      by_cases d : j < t
      · rw [hr.hi j (by omega) d] at f
        exact Int.le_of_lt (above _ _ y x (by omega) (by omega) (by omega) (by omega) f e)
      · rw [hr.out j (by omega)] at f
        exact h2 _ _ x y (by omega) (by omega) j2 e f
/-- The end of a merge: both halves sorted anew. -/
theorem merged {key : α → Int} {a c b : Nat} {ys zs us : List α} (h1 : Ch key a c ys zs) (h2 : Ch key c b zs us) (s1 : So key a c zs) (s2 : So key c b us) (hac : a ≤ c) (hcb : c ≤ b)
    (hx : ∀ i j x y, a ≤ i → i < c → c ≤ j → j < b → ys[i]? = some x → ys[j]? = some y → key x ≤ key y) : Ch key a b ys us ∧ So key a b us := by
  refine ⟨(h1.wide (Nat.le_refl _) hcb).trans (h2.wide hac (Nat.le_refl _)), (s1.out h2 (.inl (Nat.le_refl _))).join s2 (fun i j x y i1 i2 j1 j2 e f => ?_)⟩
  rw [h2.out i (.inl i2)] at e
  obtain ⟨p, p1, p2, ep⟩ := h1.ins i i1 i2
  obtain ⟨q, q1, q2, eq⟩ := h2.ins j j1 j2
  rw [ep] at e
  rw [eq, h1.out q (.inr q1)] at f
  exact hx p q x y p1 p2 q1 q2 e f
/-- One part V taken over U: what lies about fits. -/
theorem merge1 {key : α → Int} {a m b s t : Nat} {xs ys : List α} (hr : Rot s m t xs ys) (h1 : So key a m xs) (h2 : So key m b xs) (ha : a ≤ s) (hs : s ≤ m) (ht : m ≤ t) (hb : t ≤ b) (hl : b ≤ xs.length)
    (hP : s = m ∨ t = m ∨ ∀ x y, xs[s]? = some x → xs[t - 1]? = some y → key y < key x)
    (hN : a = s ∨ t = b ∨ ∀ x y, xs[s - 1]? = some x → xs[t]? = some y → key x ≤ key y)
    (hA : a = s ∨ t = m ∨ ∀ x y, xs[s - 1]? = some x → xs[m]? = some y → key x ≤ key y) (hB : t = b ∨ s = m ∨ ∀ x y, xs[m - 1]? = some x → xs[t]? = some y → key x ≤ key y) :
    Ch key a b xs ys ∧ So key a b ys := by
  have get : ∀ i, i < xs.length → ∃ x, xs[i]? = some x := fun i hi => ⟨_, List.getElem?_eq_getElem hi⟩
  obtain ⟨hc, p1, p2, p3, p4, hx⟩ := cross hr h1 h2 ha hs ht hb hl hP hN
  refine ⟨hc.wide ha hb, So.join (m := s + (t - m)) (So.join (m := s) p1 p2 ?_) (So.join (m := t) p3 p4 ?_) hx⟩
  · intro i j x y i1 i2 j1 j2 e f
    rw [hr.out i (by omega)] at e
    rw [hr.lo j (by omega) (by omega)] at f
    rcases hA with hA | hA | hA
    · omega
    · omega
    · obtain ⟨u, hu⟩ := get (s - 1) (by omega)
      obtain ⟨v, hv⟩ := get m (by omega)
      have := hA u v hu hv
      have := h1 i (s - 1) x u i1 (by omega) (by omega) e hu
      have := h2 m _ v y (by omega) (by omega) (by omega) hv f
      omega
  · intro i j x y i1 i2 j1 j2 e f
    rw [hr.hi i (by omega) (by omega)] at e
    rw [hr.out j (by omega)] at f
    rcases hB with hB | hB | hB
    · omega
    · omega
    · obtain ⟨u, hu⟩ := get (m - 1) (by omega)
      obtain ⟨v, hv⟩ := get t (by omega)
      have := hB u v hu hv
      have := h1 _ (m - 1) x u (by omega) (by omega) (by omega) e hu
      have := h2 t j v y (by omega) (by omega) (by omega) hv f
      omega
theorem Rot.none {s m e : Nat} (h1 : s ≤ m) (h2 : m ≤ e) (h : s = m ∨ m = e) (xs : List α) : Rot s m e xs xs := ⟨rfl, fun _ _ => rfl, fun k h1 h2 => by rcases h with h | h <;> (congr 1; omega), fun k h1 h2 => by rcases h with h | h <;> (congr 1; omega)⟩
theorem Rot.refl1 (s : Nat) (xs : List α) : Rot s (s + 1) (s + 1) xs xs := ⟨rfl, fun _ _ => rfl, fun k h1 h2 => by omega, fun k h1 h2 => by congr 1; omega⟩
theorem Rot.refl2 (m : Nat) (xs : List α) : Rot m m (m + 1) xs xs := ⟨rfl, fun _ _ => rfl, fun k h1 h2 => by congr 1; omega, fun k h1 h2 => by omega⟩
/-- an exchange of two places -/
structure Sw (i j : Nat) (xs ys : List α) : Prop where
  len : ys.length = xs.length
  out : ∀ k, k ≠ i → k ≠ j → ys[k]? = xs[k]?
  fst : ys[i]? = xs[j]?
  snd : ys[j]? = xs[i]?
theorem Rot.up {s k : Nat} {xs ys zs : List α} (h : Rot s (s + 1) (k + 1) xs ys) (hk : s ≤ k) (g : Sw k (k + 1) ys zs) : Rot s (s + 1) (k + 2) xs zs := by
  refine ⟨g.len.trans h.len, fun i hi => (g.out i (by omega) (by omega)).trans (h.out i (by omega)), fun i h1 h2 => ?_, fun i h1 h2 => ?_⟩
  · by_cases c : i = k
    · subst c
      rw [g.fst, h.out _ (by omega)]; congr 1; omega
    · rw [g.out i c (by omega), h.lo i h1 (by omega)]
  · obtain rfl : i = k + 1 := by omega
    rw [g.snd, h.hi k (by omega) (by omega)]; congr 1; omega
theorem Rot.down {s m k : Nat} {xs ys zs : List α} (h : Rot k m (m + 1) xs ys) (hk : s + 1 = k) (hm : k ≤ m) (g : Sw k s ys zs) : Rot s m (m + 1) xs zs := by
  refine ⟨g.len.trans h.len, fun i hi => (g.out i (by omega) (by omega)).trans (h.out i (by omega)), fun i h1 h2 => ?_, fun i h1 h2 => ?_⟩
  · obtain rfl : i = s := by omega
    rw [g.snd, h.lo k (by omega) (by omega)]; congr 1; omega
  · by_cases c : i = k
    · subst c
      rw [g.fst, h.out _ (by omega)]; congr 1; omega
    · rw [g.out i c (by omega), h.hi i (by omega) (by omega)]
/-- n places from a exchanged with those from b -/
structure Ex (a b n : Nat) (xs ys : List α) : Prop where
  len : ys.length = xs.length
  out : ∀ k, (k < a ∨ a + n ≤ k) → (k < b ∨ b + n ≤ k) → ys[k]? = xs[k]?
  fst : ∀ k, k < n → ys[a + k]? = xs[b + k]?
  snd : ∀ k, k < n → ys[b + k]? = xs[a + k]?
theorem Ex.zero (a b : Nat) (xs : List α) : Ex a b 0 xs xs := ⟨rfl, fun _ _ _ => rfl, fun k h => by omega, fun k h => by omega⟩
theorem Ex.step {a b n : Nat} {xs ys zs : List α} (h : Ex a b n xs ys) (hab : a + n + 1 ≤ b) (g : Sw (a + n) (b + n) ys zs) : Ex a b (n + 1) xs zs := by
  refine ⟨g.len.trans h.len, fun k h1 h2 => (g.out k (by omega) (by omega)).trans (h.out k (by omega) (by omega)), fun k hk => ?_, fun k hk => ?_⟩
  · by_cases c : k = n
    · subst c; rw [g.fst, h.out _ (by omega) (by omega)]
    · rw [g.out _ (by omega) (by omega), h.fst k (by omega)]
  · by_cases c : k = n
    · subst c; rw [g.snd, h.out _ (by omega) (by omega)]
    · rw [g.out _ (by omega) (by omega), h.snd k (by omega)]
/-- a turn half done: what is left is a turn of the i places ahead of m and the j behind -/
def Hlf (s m e i j : Nat) (xs ys : List α) : Prop := ys.length = xs.length ∧ ∀ zs, Rot (m - i) m (m + j) ys zs → Rot s m e xs zs
theorem Hlf.zero {s m e : Nat} {xs : List α} (h1 : s ≤ m) (h2 : m ≤ e) : Hlf s m e (m - s) (e - m) xs xs := ⟨rfl, fun zs h => by
  rw [show m - (m - s) = s by omega, show m + (e - m) = e by omega] at h; exact h⟩
theorem Hlf.big {s m e i j : Nat} {xs ys zs : List α} (h : Hlf s m e i j xs ys) (hi : i ≤ m) (hj : j < i) (g : Ex (m - i) m j ys zs) : Hlf s m e (i - j) j xs zs := by
  refine ⟨g.len.trans h.1, fun us hu => h.2 us ⟨hu.len.trans g.len, fun k hk => ?_, fun k h1 h2 => ?_, fun k h1 h2 => ?_⟩⟩
  · rw [hu.out k (by omega), g.out k (by omega) (by omega)]
  · rw [hu.out k (by omega)]
    have := g.fst (k - (m - i)) (by omega)
    rw [show m - i + (k - (m - i)) = k by omega] at this
    rw [this]; congr 1; omega
  · by_cases c : k < m - (i - j) + (m + j - m)
    · rw [hu.lo k (by omega) c]
      have := g.snd (k + (i - j) - m) (by omega)
      rw [show m + (k + (i - j) - m) = k + (m - (m - (i - j))) by omega] at this
      rw [this]; congr 1; omega
    · rw [hu.hi k (by omega) (by omega), g.out _ (by omega) (by omega)]
theorem Hlf.small {s m e i j : Nat} {xs ys zs : List α} (h : Hlf s m e i j xs ys) (hi : i ≤ m) (hj : i < j) (g : Ex (m - i) (m + j - i) i ys zs) : Hlf s m e i (j - i) xs zs := by
  refine ⟨g.len.trans h.1, fun us hu => h.2 us ⟨hu.len.trans g.len, fun k hk => ?_, fun k h1 h2 => ?_, fun k h1 h2 => ?_⟩⟩
  · rw [hu.out k (by omega), g.out k (by omega) (by omega)]
  · by_cases c : k < m - i + (m + (j - i) - m)
    · rw [hu.lo k (by omega) c, g.out _ (by omega) (by omega)]
    · rw [hu.hi k (by omega) (by omega)]
      have := g.fst (k - (j - i) - (m - i)) (by omega)
      rw [show m - i + (k - (j - i) - (m - i)) = k - (m + (j - i) - m) by omega] at this
      rw [this]; congr 1; omega
  · rw [hu.out k (by omega)]
    have := g.snd (k - (m + j - i)) (by omega)
    rw [show m + j - i + (k - (m + j - i)) = k by omega] at this
    rw [this]; congr 1; omega
theorem Hlf.last {s m e i : Nat} {xs ys zs : List α} (h : Hlf s m e i i xs ys) (hi : i ≤ m) (g : Ex (m - i) m i ys zs) : Rot s m e xs zs := by
  refine h.2 zs ⟨g.len, fun k hk => g.out k (by omega) (by omega), fun k h1 h2 => ?_, fun k h1 h2 => ?_⟩
  · rw [show k = (m - i) + (k - (m - i)) by omega, g.fst _ (by omega)]; congr 1; omega
  · rw [show k = m + (k - m) by omega, g.snd _ (by omega)]; congr 1; omega
/-- Sorted lists whose keys' elements are the same in order are one. -/
theorem uniq (key : α → Int) : ∀ (xs ys : List α), (xs.Pairwise fun a b => key a ≤ key b) → (ys.Pairwise fun a b => key a ≤ key b) → (∀ q, xs.filter (fun x => key x == q) = ys.filter (fun x => key x == q)) → xs = ys
  | [], ys, _, _, h => by
    cases ys with
    | nil => rfl
    | cons y ys => have := h (key y); simp at this
  | x :: xs, [], _, _, h => by have := h (key x); simp at this
  | x :: xs, y :: ys, h1, h2, h => by
    have hx := List.pairwise_cons.1 h1
    have hy := List.pairwise_cons.1 h2
    have e : key x = key y := by
      have m1 : x ∈ (y :: ys) := by
        have : x ∈ (x :: xs).filter (fun z => key z == key x) := List.mem_filter.2 ⟨List.mem_cons_self .., by simp⟩
        rw [h] at this
        exact (List.mem_filter.1 this).1
      have m2 : y ∈ (x :: xs) := by
        have : y ∈ (y :: ys).filter (fun z => key z == key y) := List.mem_filter.2 ⟨List.mem_cons_self .., by simp⟩
        rw [← h] at this
        exact (List.mem_filter.1 this).1
      have a1 : key y ≤ key x := by
        rcases List.mem_cons.1 m1 with m | m
        · rw [m]; exact Int.le_refl _
        · exact hy.1 x m
      have a2 : key x ≤ key y := by
        rcases List.mem_cons.1 m2 with m | m
        · rw [m]; exact Int.le_refl _
        · exact hx.1 y m
      omega
    have hxy : x = y := by
      have := h (key x)
      rw [List.filter_cons_of_pos (by simp), List.filter_cons_of_pos (by simp [e])] at this
      injection this
    subst hxy
    refine congrArg _ (uniq key xs ys hx.2 hy.2 fun q => ?_)
    have := h q
    by_cases c : key x = q
    · rw [List.filter_cons_of_pos (by simp [c]), List.filter_cons_of_pos (by simp [c])] at this
      injection this
    · rw [List.filter_cons_of_neg (by simp [c]), List.filter_cons_of_neg (by simp [c])] at this
      exact this
theorem So.pair {key : α → Int} {xs : List α} (h : So key 0 xs.length xs) : xs.Pairwise fun a b => key a ≤ key b := by
  rw [List.pairwise_iff_getElem]
  intro i j hi hj hij
  exact h i j _ _ (by omega) (by omega) hj (List.getElem?_eq_getElem hi) (List.getElem?_eq_getElem hj)
end Stb
/-! the sort that the reference does -/
namespace Stb
variable {α : Type}
def insK (key : α → Int) (x : α) : List α → List α
  | [] => [x]
  | y :: ys => if key y ≤ key x then y :: insK key x ys else x :: y :: ys
def srt (key : α → Int) (xs : List α) : List α := xs.foldl (fun out x => insK key x out) []
theorem insK_mem (key : α → Int) (x : α) : ∀ (ys : List α) (z : α), z ∈ insK key x ys → z = x ∨ z ∈ ys
  | [], z, h => by simp [insK] at h; exact .inl h
  | y :: ys, z, h => by
    unfold insK at h
    split at h
    · rcases List.mem_cons.1 h with h | h
      · exact .inr (h ▸ List.mem_cons_self ..)
      · rcases insK_mem key x ys z h with h | h
        · exact .inl h
        · exact .inr (List.mem_cons_of_mem _ h)
    · rcases List.mem_cons.1 h with h | h
      · exact .inl h
      · exact .inr h
theorem insK_sorted (key : α → Int) (x : α) : ∀ ys : List α, (ys.Pairwise fun a b => key a ≤ key b) → (insK key x ys).Pairwise fun a b => key a ≤ key b
  | [], _ => by simp [insK]
  | y :: ys, h => by
    have h' := List.pairwise_cons.1 h
    unfold insK
    split
    · rename_i c
      refine List.pairwise_cons.2 ⟨fun z hz => ?_, insK_sorted key x ys h'.2⟩
      rcases insK_mem key x ys z hz with e | m
      · rw [e]; exact c
      · exact h'.1 z m
    · rename_i c
      refine List.pairwise_cons.2 ⟨fun z hz => ?_, h⟩
      rcases List.mem_cons.1 hz with e | m
      · rw [e]; omega
      · have := h'.1 z m; omega
theorem insK_fib (key : α → Int) (x : α) (q : Int) : ∀ ys : List α, (ys.Pairwise fun a b => key a ≤ key b) → (insK key x ys).filter (fun z => key z == q) = (ys ++ [x]).filter (fun z => key z == q)
  | [], _ => by simp [insK]
  | y :: ys, h => by
    have h' := List.pairwise_cons.1 h
    unfold insK
    split
    · rw [List.cons_append, List.filter_cons, List.filter_cons, insK_fib key x q ys h'.2]
    · rename_i c
      have hx : ∀ z ∈ y :: ys, key x < key z := fun z hz => by
        rcases List.mem_cons.1 hz with e | m
        · rw [e]; omega
        · have := h'.1 z m; omega
      by_cases hq : key x = q
      · have : (y :: ys).filter (fun z => key z == q) = [] := by
          rw [List.filter_eq_nil_iff]
          intro z hz e
          have := hx z hz
          have := eq_of_beq e
          omega
        rw [List.filter_append, this, List.filter_cons_of_pos (by simp [hq]), this, List.nil_append, List.filter_cons_of_pos (by simp [hq])]
        rfl
      · rw [List.filter_append, List.filter_cons_of_neg (by simp [hq]), List.filter_cons_of_neg (a := x) (by simp [hq])]
        simp
theorem srt_law (key : α → Int) (xs : List α) : ((srt key xs).Pairwise fun a b => key a ≤ key b) ∧ ∀ q, (srt key xs).filter (fun z => key z == q) = xs.filter (fun z => key z == q) := by
  have go : ∀ (ys out pre : List α), (out.Pairwise fun a b => key a ≤ key b) → (∀ q, out.filter (fun z => key z == q) = pre.filter (fun z => key z == q)) →
      ((ys.foldl (fun out x => insK key x out) out).Pairwise fun a b => key a ≤ key b) ∧ ∀ q, (ys.foldl (fun out x => insK key x out) out).filter (fun z => key z == q) = (pre ++ ys).filter (fun z => key z == q) := by
    intro ys
    induction ys with
    | nil => intro out pre h1 h2; exact ⟨h1, fun q => by rw [List.append_nil]; exact h2 q⟩
    | cons y ys ih =>
      intro out pre h1 h2
      have := ih (insK key y out) (pre ++ [y]) (insK_sorted key y out h1) (fun q => by rw [insK_fib key y q out h1, List.filter_append, List.filter_append, h2 q])
      refine ⟨this.1, fun q => (this.2 q).trans (by simp)⟩
  exact go xs [] [] List.Pairwise.nil (fun _ => rfl)
theorem srt_uniq (key : α → Int) (xs ys : List α) (h1 : ys.Pairwise fun a b => key a ≤ key b) (h2 : ∀ q, ys.filter (fun z => key z == q) = xs.filter (fun z => key z == q)) : ys = srt key xs :=
  uniq key ys (srt key xs) h1 (srt_law key xs).1 (fun q => (h2 q).trans ((srt_law key xs).2 q).symm)
theorem insK_map {β : Type} (key : α → Int) (keyb : β → Int) (f : β → α) (hk : ∀ x, key (f x) = keyb x) (x : β) : ∀ ys : List β, (insK keyb x ys).map f = insK key (f x) (ys.map f)
  | [] => rfl
  | y :: ys => by
    rw [List.map_cons]
    unfold insK
    rw [hk, hk]
    split
    · rw [List.map_cons, insK_map key keyb f hk x ys]
    · rfl
theorem srt_map {β : Type} (key : α → Int) (keyb : β → Int) (f : β → α) (hk : ∀ x, key (f x) = keyb x) (xs : List β) : (srt keyb xs).map f = srt key (xs.map f) := by
  have go : ∀ (ys out : List β), (ys.foldl (fun out x => insK keyb x out) out).map f = (ys.map f).foldl (fun out x => insK key x out) (out.map f) := by
    intro ys
    induction ys with
    | nil => intro out; rfl
    | cons y ys ih => intro out; rw [List.foldl_cons, ih, insK_map key keyb f hk]; rfl
  exact go xs []
theorem Ex.size {a b n : Nat} {d d' : Array α} (h : Ex a b n d.toList d'.toList) : d'.size = d.size := by simpa using h.len
theorem Rot.size {a b n : Nat} {d d' : Array α} (h : Rot a b n d.toList d'.toList) : d'.size = d.size := by simpa using h.len
theorem Ch.size {key : α → Int} {a b : Nat} {d d' : Array α} (h : Ch key a b d.toList d'.toList) : d'.size = d.size := by simpa using h.len
theorem srt_mem (key : α → Int) (xs : List α) (x : α) (h : x ∈ srt key xs) : x ∈ xs := by
  have h1 : x ∈ (srt key xs).filter (fun y => key y == key x) := List.mem_filter.2 ⟨h, by simp⟩
  rw [(srt_law key xs).2] at h1
  exact (List.mem_filter.1 h1).1
end Stb
/-! arrays -/
namespace Stb
open Go.Sort Go.Proofs
variable {α : Type} [Inhabited α]
theorem get_bang {d : Array α} {i : Nat} (h : i < d.size) : d.toList[i]? = some d[i]! := by
  simp [h]
theorem swp_sw {d : Array α} {i j : Nat} (hi : i < d.size) (hj : j < d.size) (hne : i ≠ j) : Sw i j d.toList (swp d i j).toList := by
  unfold swp
  refine ⟨by simp, fun k h1 h2 => ?_, ?_, ?_⟩
  · simp only [Array.toList_setIfInBounds, List.getElem?_set]
    rw [if_neg (fun e => h2 e.symm), if_neg (fun e => h1 e.symm)]
  · simp only [Array.toList_setIfInBounds, List.getElem?_set]
    simp [hi, hj]
    intro e
    subst e
    rfl
  · simp only [Array.toList_setIfInBounds, List.getElem?_set]
    simp [hi, hj]
theorem inner_law {key : α → Int} {lt : α → α → Bool} (hlt : ∀ x y, lt x y = decide (key x < key y)) (a i : Nat) (d0 : Array α) (hs : i < d0.size) (h1 : So key a i d0.toList) :
    ∀ (j : Nat) (dj : Array α), a ≤ j → j ≤ i → dj.size = d0.size → Rot j i (i + 1) d0.toList dj.toList → (j = i ∨ key d0[i]! < key d0[j]!) →
      Ch key a (i + 1) d0.toList (insInner lt a j dj).toList ∧ So key a (i + 1) (insInner lt a j dj).toList ∧ (insInner lt a j dj).size = d0.size := by
  have fin : ∀ (j : Nat) (dj : Array α), a ≤ j → j ≤ i → dj.size = d0.size → Rot j i (i + 1) d0.toList dj.toList → (j = i ∨ key d0[i]! < key d0[j]!) → (j = a ∨ ¬ key d0[i]! < key d0[j - 1]!) →
      Ch key a (i + 1) d0.toList dj.toList ∧ So key a (i + 1) dj.toList ∧ dj.size = d0.size := by
    intro j dj hj hi hd hr hP hN
    have := merge1 (key := key) (a := a) (b := i + 1) hr h1 (So.one key i (i + 1) _ (by omega)) hj hi (by omega) (Nat.le_refl _) (by simp; omega) ?_ (.inr (.inl rfl)) ?_ (.inl rfl)
    · exact ⟨this.1, this.2, hd⟩
    · rcases hP with hP | hP
      · exact .inl hP
      · refine .inr (.inr fun x y e f => ?_)
        rw [get_bang (by omega)] at e
        rw [Nat.add_sub_cancel, get_bang hs] at f
        injection e with e
        injection f with f
        rw [← e, ← f]; exact hP
    · rcases hN with hN | hN
      · exact .inl hN.symm
      · by_cases c : a = j
        · exact .inl c
        refine .inr (.inr fun x y e f => ?_)
        rw [get_bang (by omega)] at e
        rw [get_bang hs] at f
        injection e with e
        injection f with f
        rw [← e, ← f]; omega
  intro j
  induction j with
  | zero => 
    intro dj hj hi hd hr hP
    exact fin 0 dj hj hi hd hr hP (.inl (by omega))
  | succ j ih =>
    intro dj hj hi hd hr hP
    have e1 : dj[j + 1]! = d0[i]! := by
      have := hr.lo (j + 1) (Nat.le_refl _) (by omega)
      rw [get_bang (by omega), show j + 1 + (i - (j + 1)) = i by omega, get_bang hs] at this
      injection this
    unfold insInner
    by_cases c : j + 1 > a ∧ lt dj[j + 1]! dj[j]! = true
    · rw [if_pos (by simpa using c)]
      have e2 : dj[j]! = d0[j]! := by
        have := hr.out j (by omega)
        rw [get_bang (by omega), get_bang (by omega)] at this
        injection this
      have hl := c.2
      rw [hlt, e1, e2] at hl
      refine ih _ (by omega) (by omega) (by unfold swp; simpa using hd) (hr.down rfl hi (swp_sw (by omega) (by omega) (by omega))) (.inr (of_decide_eq_true hl))
    · rw [if_neg (by simpa using c)]
      refine fin (j + 1) dj hj hi hd hr hP ?_
      by_cases ca : j + 1 = a
      · exact .inl ca
      · refine .inr fun hl => c ⟨by omega, ?_⟩
        have e2 : dj[j]! = d0[j]! := by
          have := hr.out j (by omega)
          rw [get_bang (by omega), get_bang (by omega)] at this
          injection this
        rw [hlt, e1, e2]
        exact decide_eq_true hl
theorem outer_law {key : α → Int} {lt : α → α → Bool} (hlt : ∀ x y, lt x y = decide (key x < key y)) (a b : Nat) :
    ∀ (n i : Nat) (d : Array α), b - i = n → a < i → b ≤ d.size → So key a (min i b) d.toList → Ch key a b d.toList (insOuter lt a b i d).toList ∧ So key a b (insOuter lt a b i d).toList := by
  intro n
  induction n with
  | zero =>
    intro i d hn hi hb h
    unfold insOuter
    rw [if_neg (by omega)]
    exact ⟨Ch.refl _ _ _ _, by rwa [Nat.min_eq_right (by omega)] at h⟩
  | succ n ih =>
    intro i d hn hi hb h
    unfold insOuter
    rw [if_pos (by omega)]
    rw [Nat.min_eq_left (by omega)] at h
    obtain ⟨h1, h2, h3⟩ := inner_law hlt a i d (by omega) h i d (by omega) (Nat.le_refl _) rfl (Rot.refl2 i _) (.inl rfl)
    obtain ⟨h4, h5⟩ := ih (i + 1) (insInner lt a i d) (by omega) (by omega) (by omega) (by rwa [Nat.min_eq_left (by omega)])
    exact ⟨(h1.wide (Nat.le_refl _) (by omega)).trans h4, h5⟩
theorem ins_law {key : α → Int} {lt : α → α → Bool} (hlt : ∀ x y, lt x y = decide (key x < key y)) (a b : Nat) (d : Array α) (hb : b ≤ d.size) :
    Ch key a b d.toList (insertionSort lt d a b).toList ∧ So key a b (insertionSort lt d a b).toList :=
  outer_law hlt a b _ (a + 1) d rfl (by omega) hb (So.one key a _ _ (by omega))
end Stb
