/- FnTables: every table leads downhill, and so has no loop. Conditions: none. -/
import Derived.Test.YtiihaabhjphaeaaVFnTablesWMore
import Derived.Test.YtiihaabhjphaeaaVFnTablesOpen
import Derived.Test.YtiihaabhjphaeaaVFnTablesQFnTablesx
import Derived.Lib.SlicesCompact
import Derived.Laws.BitsLemmas
import Derived.Test.YtiihaabhjphaeaaVFnTablesRowFnTables
/- Small words on answers that come with enough rounds. Conditions: none. -/
namespace Go.Proofs.Ytiihaabhjphaeaa.Kit
open Go.RowKit Go.Proofs.YtiihaabhjphaeaaW.PrintWords Go.Proofs.YtiihaabhjphaeaaW.PrintLast Go.Proofs.YtiihaabhjphaeaaW.PrintMore Go.Proofs.Ytiihaabhjphaeaa.Open

theorem Ev.ite_pos {α : Type} {c : Prop} [Decidable c] {f g : Nat → Option α} {r : α} (h : c) (k : Ev f r) : Ev (fun n => if c then f n else g n) r := by simpa only [if_pos h] using k
theorem Ev.ite_neg {α : Type} {c : Prop} [Decidable c] {f g : Nat → Option α} {r : α} (h : ¬ c) (k : Ev g r) : Ev (fun n => if c then f n else g n) r := by simpa only [if_neg h] using k
theorem Ev.bind0 {α β : Type} {o : Option α} {f : Nat → α → Option β} {a : α} {r : β} (h : o = some a) (k : Ev (fun n => f n a) r) : Ev (fun n => o.bind (f n)) r := by subst h; exact k
theorem Ev.some {α : Type} {r r' : α} (h : r' = r) : Ev (fun _ => some r') r := by subst h; exact Ev.now _
theorem Ev.eq {α : Type} {o : Option α} {r : α} (h : o = Option.some r) : Ev (fun _ => o) r := ⟨0, fun _ _ => h⟩
theorem Ev.uniq {α : Type} {g : Nat → Option α} {r r' : α} (h : Ev g r) (h' : Ev g r') : r = r' := by
  obtain ⟨K, h⟩ := h
  obtain ⟨K', h'⟩ := h'
  exact Option.some.inj ((h (max K K') (Nat.le_max_left _ _)).symm.trans (h' (max K K') (Nat.le_max_right _ _)))
theorem w64 {x : Int} (h0 : -9223372036854775808 ≤ x) (h1 : x ≤ 9223372036854775807) : wrap64 x = x := by
  unfold wrap64
  omega
theorem w64s {i : Int} {n : Nat} (h0 : 0 ≤ i) (h1 : i < (n : Int)) (hn : n ≤ 140737488351232) : wrap64 (i + 1) = i + 1 := w64 (by omega) (by omega)
theorem mx_def (a b : Int) : mx a b = max a b := by unfold mx; omega
theorem mn_def (a b : Int) : mn a b = min a b := by unfold mn; omega
theorem Len.le {B : Nat} {α : Type} {l : List α} (h : Len B l) (hB : 0 < B) : l.length ≤ 140737488351232 := by
  unfold Len at h
  exact Nat.le_trans (Nat.le_mul_of_pos_right _ hB) h
/-! ### loops that count up -/
/-- A loop from 0 to n with one answer: at each i the answer behind one round is the answer, and at n it is there. p: what holds at i. -/
theorem Ev.upIf {ρ : Type} {n : Nat} (p : Nat → Prop) {g : Nat → Nat → Option ρ} {r : ρ} (hs : ∀ i, i < n → p i → (p (i + 1) → Ev (g (i + 1)) r) → Ev (g i) r) (he : p n → Ev (g n) r) (h0 : p 0) : Ev (g 0) r := by
  have key : ∀ d i, i + d = n → p i → Ev (g i) r := by
    intro d
    induction d with
    | zero => intro i hi hp; obtain rfl : i = n := by omega
              exact he hp
    | succ d ih => intro i hi hp; exact hs i (by omega) hp (fun hp' => ih (i + 1) (by omega) hp')
  exact key n 0 (by omega) h0
theorem Ev.up {ρ : Type} {n : Nat} {g : Nat → Nat → Option ρ} {r : ρ} (hs : ∀ i, i < n → Ev (g (i + 1)) r → Ev (g i) r) (he : Ev (g n) r) : Ev (g 0) r :=
  Ev.upIf (fun _ => True) (fun i hi _ h => hs i hi (h trivial)) (fun _ => he) trivial
theorem w64n {i : Nat} (h : i ≤ 140737488351232) : wrap64 ((i : Int) + 1) = ((i + 1 : Nat) : Int) := by
  rw [w64 (by omega) (by omega)]
  omega
theorem rd_nat (xs : List Int) (i : Nat) : rd xs (i : Int) = xs.getD i 0 := rfl
theorem getD_at {α : Type} {xs : List α} {i : Nat} (h : i < xs.length) (z : α) : xs.getD i z = xs[i] := by simp [List.getD, h]
theorem getD_mem {α : Type} {xs : List α} {i : Nat} (h : i < xs.length) (z : α) : xs.getD i z ∈ xs := by rw [getD_at h]; exact List.getElem_mem h
theorem take_succ_getD {α : Type} {xs : List α} {i : Nat} (h : i < xs.length) (z : α) : xs.take (i + 1) = xs.take i ++ [xs.getD i z] := by
  rw [List.take_succ_eq_append_getElem h, getD_at h]
theorem drop_getD {α : Type} {xs : List α} {i : Nat} (h : i < xs.length) (z : α) : xs.drop i = xs.getD i z :: xs.drop (i + 1) := by
  rw [List.drop_eq_getElem_cons h, getD_at h]
/-- A row of zeros that is filled from the left. -/
def fillTo {α β : Type} (c : α → β) (z : β) (xs : List α) (i : Nat) : List β := (xs.take i).map c ++ List.replicate (xs.length - i) z
theorem fillTo_zero {α β : Type} (c : α → β) (z : β) (xs : List α) : fillTo c z xs 0 = List.replicate xs.length z := by simp [fillTo]
theorem fillTo_all {α β : Type} (c : α → β) (z : β) (xs : List α) : fillTo c z xs xs.length = xs.map c := by simp [fillTo]
theorem fillTo_length {α β : Type} (c : α → β) (z : β) (xs : List α) {i : Nat} (h : i ≤ xs.length) : (fillTo c z xs i).length = xs.length := by
  simp [fillTo]
  omega
theorem fillTo_set {α β : Type} (c : α → β) (z : β) (xs : List α) {i : Nat} (h : i < xs.length) (a : α) : (fillTo c z xs i).set i (c (xs.getD i a)) = fillTo c z xs (i + 1) := by
  have hl : ((xs.take i).map c).length = i := by simp; omega
  unfold fillTo
  rw [List.set_append_right _ _ (by omega), hl, Nat.sub_self, take_succ_getD h a, List.map_append, show xs.length - i = (xs.length - (i + 1)) + 1 by omega, List.replicate_succ]
  simp
/-- What the elements from the first up to i weigh. -/
def sumTo {α : Type} (f : α → Nat) (xs : List α) (i : Nat) : Nat := ((xs.take i).map f).sum
theorem sumTo_succ {α : Type} (f : α → Nat) {xs : List α} {i : Nat} (h : i < xs.length) (z : α) : sumTo f xs (i + 1) = sumTo f xs i + f (xs.getD i z) := by
  unfold sumTo
  rw [take_succ_getD h z]
  simp
theorem sumTo_all {α : Type} (f : α → Nat) (xs : List α) : sumTo f xs xs.length = (xs.map f).sum := by simp [sumTo]
theorem sumTo_le {α : Type} (f : α → Nat) (xs : List α) (i : Nat) : sumTo f xs i ≤ (xs.map f).sum := by
  unfold sumTo
  have h := congrArg List.sum (List.take_append_drop i (xs.map f))
  rw [List.sum_append, ← List.map_take] at h
  omega
theorem le_sum {α : Type} (f : α → Nat) {xs : List α} {x : α} (h : x ∈ xs) : f x ≤ (xs.map f).sum := by
  induction xs with
  | nil => cases h
  | cons y ys ih =>
    simp only [List.map_cons, List.sum_cons]
    rcases List.mem_cons.1 h with rfl | h
    · omega
    · have := ih h
      omega
/-- 'left' behind a value of the size n: -1 where it doesn't suffice. -/
def szOf (left : Int) (n : Nat) : Int := if (n : Int) ≤ left then left - n else -1
/-- A fold over the first i elements. -/
def foldTo {α σ : Type} (f : σ → α → σ) (s : σ) (xs : List α) (i : Nat) : σ := (xs.take i).foldl f s
theorem foldTo_zero {α σ : Type} (f : σ → α → σ) (s : σ) (xs : List α) : foldTo f s xs 0 = s := by simp [foldTo]
theorem foldTo_succ {α σ : Type} (f : σ → α → σ) (s : σ) {xs : List α} {i : Nat} (h : i < xs.length) (z : α) : foldTo f s xs (i + 1) = f (foldTo f s xs i) (xs.getD i z) := by
  unfold foldTo
  rw [take_succ_getD h z, List.foldl_append]
  rfl
theorem foldTo_all {α σ : Type} (f : σ → α → σ) (s : σ) (xs : List α) : foldTo f s xs xs.length = xs.foldl f s := by simp [foldTo]
/-! ### lists told by their index -/
theorem map_range_set {β : Type} (n : Nat) (f : Nat → β) (u : Nat) (v : β) : ((List.range n).map f).set u v = (List.range n).map (fun j => if j = u then v else f j) := by
  apply List.ext_getElem
  · simp
  · intro i h1 h2
    rw [List.getElem_set]
    by_cases h : u = i
    · rw [if_pos h]
      simp [h]
    · rw [if_neg h]
      simp [Ne.symm h]
theorem map_range_getD {β : Type} {n : Nat} (f : Nat → β) {u : Nat} (h : u < n) (z : β) : ((List.range n).map f).getD u z = f u := by
  rw [getD_at (by simpa using h)]
  simp
theorem map_range_congr {β : Type} {n : Nat} {f g : Nat → β} (h : ∀ i, i < n → f i = g i) : (List.range n).map f = (List.range n).map g :=
  List.map_congr_left fun i hi => h i (List.mem_range.1 hi)
/-- A loop that counts down from t + n - 1 to t. -/
theorem Ev.down {ρ : Type} {n : Nat} {g : Nat → Nat → Option ρ} {r : ρ} (hs : ∀ m, m < n → Ev (g m) r → Ev (g (m + 1)) r) (he : Ev (g 0) r) : Ev (g n) r := by
  have key : ∀ m, m ≤ n → Ev (g m) r := by
    intro m
    induction m with
    | zero => intro _; exact he
    | succ m ih => intro hm; exact hs m (by omega) (ih (by omega))
  exact key n (Nat.le_refl _)
theorem set_mid {α : Type} (pre suf : List α) (x y : α) {i : Nat} (h : pre.length = i) : (pre ++ x :: suf).set i y = pre ++ y :: suf := by
  rw [List.set_append_right _ _ (by omega), h, Nat.sub_self]
  rfl
theorem getD_mid {α : Type} (pre suf : List α) (x z : α) {i : Nat} (h : pre.length = i) : (pre ++ x :: suf).getD i z = x := by
  subst h
  simp [List.getD]
end Go.Proofs.Ytiihaabhjphaeaa.Kit
/- Walks in a finite graph: a set of nodes each of which leads to one of the set holds a circle. Conditions: none. -/
namespace Go.Proofs.Ytiihaabhjphaeaa.Graph

/-- m steps lead from x to y. -/
def Walk (E : Int → Int → Prop) : Nat → Int → Int → Prop
  | 0, x, y => x = y
  | m + 1, x, y => ∃ z, E x z ∧ Walk E m z y

theorem Walk.append {E : Int → Int → Prop} : ∀ {a b : Nat} {x y z : Int}, Walk E a x y → Walk E b y z → Walk E (a + b) x z
  | 0, b, x, y, z, h, k => by
    cases h
    rw [Nat.zero_add]
    exact k
  | a + 1, b, x, y, z, h, k => by
    obtain ⟨u, hu, hw⟩ := h
    rw [Nat.add_right_comm]
    exact ⟨u, hu, hw.append k⟩
theorem Walk.one {E : Int → Int → Prop} {x y : Int} (h : E x y) : Walk E 1 x y := ⟨y, h, rfl⟩
theorem Walk.snoc {E : Int → Int → Prop} {m : Nat} {x y z : Int} (h : Walk E m x y) (k : E y z) : Walk E (m + 1) x z := h.append (Walk.one k)
/-- There is a circle. -/
def Cyc (E : Int → Int → Prop) : Prop := ∃ i m, 0 < m ∧ Walk E m i i

/-- Different numbers below n are no more than n. -/
theorem nodup_le : ∀ (n : Nat) (l : List Int), l.Nodup → (∀ x ∈ l, 0 ≤ x ∧ x < n) → l.length ≤ n
  | 0, l, _, h => by
    cases l with
    | nil => simp
    | cons x xs =>
      have := h x List.mem_cons_self
      omega
  | n + 1, l, hd, h => by
    have h1 := nodup_le n (l.erase (n : Int)) (hd.erase _) (fun x hx => by
      have h2 := (List.Nodup.mem_erase_iff hd).1 hx
      have h3 := h x h2.2
      refine ⟨h3.1, ?_⟩
      have := h2.1
      omega)
    by_cases hm : (n : Int) ∈ l
    · rw [List.length_erase_of_mem hm] at h1
      omega
    · rw [List.erase_of_not_mem hm] at h1
      omega

theorem pigeon (n : Nat) (f : Nat → Int) (hf : ∀ i, 0 ≤ f i ∧ f i < n) : ∃ a b, a < b ∧ b ≤ n ∧ f a = f b := by
  refine Classical.byContradiction fun hno => ?_
  have hd : ((List.range (n + 1)).map f).Nodup := by
    unfold List.Nodup
    rw [List.pairwise_map]
    refine List.Pairwise.imp_of_mem ?_ (List.pairwise_lt_range)
    intro a b _ hb hab he
    have := List.mem_range.1 hb
    exact hno ⟨a, b, hab, by omega, he⟩
  have := nodup_le n _ hd (fun x hx => by
    obtain ⟨i, _, rfl⟩ := List.mem_map.1 hx
    exact hf i)
  simp at this
  omega

theorem walk_of_seq {E : Int → Int → Prop} (f : Nat → Int) (hf : ∀ i, E (f i) (f (i + 1))) (a : Nat) : ∀ d, Walk E d (f a) (f (a + d))
  | 0 => rfl
  | d + 1 => (walk_of_seq f hf a d).snoc (hf (a + d))

/-- A set of nodes below n each of which leads to one of the set: there is a circle of at most n steps in it. -/
theorem cyc_of_closed {E : Int → Int → Prop} {n : Nat} (U : Int → Prop) (hU : ∀ x, U x → 0 ≤ x ∧ x < n) (hs : ∀ x, U x → ∃ y, E x y ∧ U y) (x0 : Int) (h0 : U x0) :
    ∃ i m, 0 < m ∧ m ≤ n ∧ U i ∧ Walk E m i i := by
  classical
  let nxt : { x // U x } → { x // U x } := fun x => ⟨Classical.choose (hs x.1 x.2), (Classical.choose_spec (hs x.1 x.2)).2⟩
  have hn : ∀ x, E x.1 (nxt x).1 := fun x => (Classical.choose_spec (hs x.1 x.2)).1
  let g : Nat → { x // U x } := fun k => Nat.rec ⟨x0, h0⟩ (fun _ y => nxt y) k
  have hg : ∀ k, E (g k).1 (g (k + 1)).1 := fun k => hn (g k)
  obtain ⟨a, b, hab, hb, he⟩ := pigeon n (fun k => (g k).1) (fun k => hU _ (g k).2)
  refine ⟨(g a).1, b - a, by omega, by omega, (g a).2, ?_⟩
  have hw := walk_of_seq (E := E) (fun k => (g k).1) hg a (b - a)
  rw [show a + (b - a) = b by omega] at hw
  rw [← he] at hw
  exact hw

/-- The nodes of a circle: each leads to one of them. -/
def On (E : Int → Int → Prop) (i x : Int) : Prop := (∃ a, Walk E a i x) ∧ ∃ b, 0 < b ∧ Walk E b x i
theorem on_next {E : Int → Int → Prop} {i : Int} {k : Nat} (hk : 0 < k) (hw : Walk E k i i) {x : Int} (h : On E i x) : ∃ y, E x y ∧ On E i y := by
  obtain ⟨⟨a, ha⟩, b, hb, hx⟩ := h
  obtain ⟨b, rfl⟩ : ∃ c, b = c + 1 := ⟨b - 1, by omega⟩
  obtain ⟨y, hy, hw2⟩ := hx
  exact ⟨y, hy, ⟨a + 1, ha.snoc hy⟩, b + k, by omega, hw2.append hw⟩
theorem on_self {E : Int → Int → Prop} {i : Int} {k : Nat} (hk : 0 < k) (hw : Walk E k i i) : On E i i := ⟨⟨0, rfl⟩, k, hk, hw⟩

/-! ### tables as a graph -/
/-- From node x some table leads on to node y, one of the first n. -/
def EdgeIn (l : List (List Int)) (n : Nat) (x y : Int) : Prop := ∃ t ∈ l, 0 ≤ x ∧ x < t.length ∧ t.getD x.toNat 0 = y ∧ 0 ≤ y ∧ y < n
/-- Does one more table lead on to a node that is not gone? -/
def ld (n : Nat) (g : List Bool) (x : Nat) (acc : Bool) (t : List Int) : Bool := acc || (decide (x < t.length) && decide (0 ≤ t.getD x 0 ∧ t.getD x 0 < n) && !(g.getD (t.getD x 0).toNat false))
def leads (l : List (List Int)) (n : Nat) (g : List Bool) (x : Nat) : Bool := l.foldl (ld n g x) false
def ps1 (l : List (List Int)) (n : Nat) (s : List Bool × Bool) (x : Nat) : List Bool × Bool := if s.1.getD x false = true then s else if leads l n s.1 x = true then s else (s.1.set x true, true)
theorem ps1_gone {l : List (List Int)} {n : Nat} {s : List Bool × Bool} {x : Nat} (h : s.1.getD x false = true) : ps1 l n s x = s := by
  unfold ps1
  rw [if_pos h]
theorem foldl_or {α : Type} (p : α → Bool) : ∀ (l : List α) (b : Bool), l.foldl (fun acc t => acc || p t) b = (b || l.any p)
  | [], b => by simp
  | x :: xs, b => by
    rw [List.foldl_cons, foldl_or p xs, List.any_cons, Bool.or_assoc]
theorem leads_iff (l : List (List Int)) (n : Nat) (g : List Bool) (x : Nat) : leads l n g x = true ↔ ∃ y, EdgeIn l n (x : Int) y ∧ g.getD y.toNat false = false := by
  have e : leads l n g x = l.any (fun t => decide (x < t.length) && decide (0 ≤ t.getD x 0 ∧ t.getD x 0 < n) && !(g.getD (t.getD x 0).toNat false)) := by
    unfold leads ld
    rw [foldl_or, Bool.false_or]
  rw [e, List.any_eq_true]
  constructor
  · rintro ⟨t, ht, h⟩
    simp only [Bool.and_eq_true, decide_eq_true_eq, Bool.not_eq_true'] at h
    exact ⟨t.getD x 0, ⟨t, ht, by omega, by omega, rfl, h.1.2.1, h.1.2.2⟩, h.2⟩
  · rintro ⟨y, ⟨t, ht, _, h1, h2, h3, h4⟩, h5⟩
    refine ⟨t, ht, ?_⟩
    simp only [Int.toNat_natCast] at h2
    subst h2
    simp only [Bool.and_eq_true, decide_eq_true_eq, Bool.not_eq_true']
    exact ⟨⟨by omega, h3, h4⟩, h5⟩
/-- What every pass keeps: the nodes of each circle. -/
def Keeps (l : List (List Int)) (n : Nat) (g : List Bool) : Prop := ∀ (i : Int) (k : Nat), 0 < k → Walk (EdgeIn l n) k i i → ∀ x : Nat, On (EdgeIn l n) i (x : Int) → g.getD x false = false
theorem getD_set_ne {g : List Bool} {x y : Nat} (h : x ≠ y) : (g.set x true).getD y false = g.getD y false := by
  simp [List.getD, List.getElem?_set_ne h]
theorem count_set {g : List Bool} {x : Nat} (h : x < g.length) (hx : g.getD x false = false) : (g.set x true).count false < g.count false := by
  induction g generalizing x with
  | nil => simp at h
  | cons b bs ih =>
    cases x with
    | zero =>
      simp at hx
      subst hx
      simp
    | succ x =>
      have := ih (x := x) (by simpa using h) (by simpa using hx)
      simp only [List.set_cons_succ, List.count_cons]
      omega
structure PassOk (l : List (List Int)) (n : Nat) (g : List Bool) (i : Nat) (s : List Bool × Bool) : Prop where
  len : s.1.length = n
  keeps : Keeps l n g → Keeps l n s.1
  same : s.2 = false → s.1 = g ∧ ∀ x, x < i → g.getD x false = false → leads l n g x = true
  less : s.2 = true → s.1.count false < g.count false
  le : s.1.count false ≤ g.count false
theorem pass_step {l : List (List Int)} {n : Nat} {g : List Bool} {i : Nat} {s : List Bool × Bool} (hi : i < n) (h : PassOk l n g i s) : PassOk l n g (i + 1) (ps1 l n s i) := by
  unfold ps1
  by_cases h1 : s.1.getD i false = true
  · rw [if_pos h1]
    refine ⟨h.len, h.keeps, fun hs => ⟨(h.same hs).1, fun x hx hg => ?_⟩, h.less, h.le⟩
    rcases Nat.lt_succ_iff_lt_or_eq.1 hx with hx | rfl
    · exact (h.same hs).2 x hx hg
    · rw [(h.same hs).1, hg] at h1
      cases h1
  · rw [if_neg h1]
    have h1' : s.1.getD i false = false := by simpa using h1
    by_cases h2 : leads l n s.1 i = true
    · rw [if_pos h2]
      refine ⟨h.len, h.keeps, fun hs => ⟨(h.same hs).1, fun x hx hg => ?_⟩, h.less, h.le⟩
      rcases Nat.lt_succ_iff_lt_or_eq.1 hx with hx | rfl
      · exact (h.same hs).2 x hx hg
      · rw [(h.same hs).1] at h2
        exact h2
    · rw [if_neg h2]
      have hc := count_set (g := s.1) (x := i) (by rw [h.len]; exact hi) h1'
      have hle := h.le
      refine ⟨by rw [List.length_set]; exact h.len, fun hk j k hk0 hw x hx => ?_, fun hs => (by cases hs), fun _ => by show (s.1.set i true).count false < _; omega, by show (s.1.set i true).count false ≤ _; omega⟩
      have hkx := h.keeps hk j k hk0 hw x hx
      by_cases e : i = x
      · subst e
        exfalso
        apply h2
        rw [leads_iff]
        obtain ⟨y, hy, hon⟩ := on_next hk0 hw hx
        refine ⟨y, hy, ?_⟩
        have hy0 : 0 ≤ y := by obtain ⟨t, _, _, _, _, h3, _⟩ := hy; exact h3
        obtain ⟨m, rfl⟩ := Int.eq_ofNat_of_zero_le hy0
        exact h.keeps hk j k hk0 hw m hon
      · show (s.1.set i true).getD x false = false
        rw [getD_set_ne e]
        exact hkx
open Go.Proofs.Ytiihaabhjphaeaa.Kit in
theorem pass_ok {l : List (List Int)} {n : Nat} {g : List Bool} (hg : g.length = n) : ∀ i, i ≤ n → PassOk l n g i (foldTo (ps1 l n) (g, false) (List.range n) i) := by
  intro i
  induction i with
  | zero =>
    intro _
    rw [foldTo_zero]
    exact ⟨hg, fun h => h, fun _ => ⟨rfl, fun x hx => (by omega)⟩, fun h => (by cases h), Nat.le_refl _⟩
  | succ i ih =>
    intro hi
    rw [foldTo_succ (ps1 l n) (g, false) (by rw [List.length_range]; omega) 0]
    have e : (List.range n).getD i 0 = i := by
      rw [getD_at (by rw [List.length_range]; omega)]
      simp
    rw [e]
    exact pass_step (by omega) (ih (by omega))
/-- Behind a pass that changes nothing: some node is left just where there is a circle. -/
theorem left_iff {l : List (List Int)} {n : Nat} {g : List Bool} (hl : ∀ t ∈ l, t.length ≤ n) (hk : Keeps l n g) (hlead : ∀ x, x < n → g.getD x false = false → leads l n g x = true) : (∃ x, x < n ∧ g.getD x false = false) ↔ Cyc (EdgeIn l n) := by
  constructor
  · rintro ⟨x, hx, hg⟩
    obtain ⟨i, m, hm, _, _, hw⟩ := cyc_of_closed (E := EdgeIn l n) (n := n) (fun z => 0 ≤ z ∧ z < n ∧ g.getD z.toNat false = false) (fun z hz => ⟨hz.1, hz.2.1⟩) (fun z hz => by
      obtain ⟨m, rfl⟩ := Int.eq_ofNat_of_zero_le hz.1
      obtain ⟨y, hy, hgy⟩ := (leads_iff l n g m).1 (hlead m (by omega) (by simpa using hz.2.2))
      refine ⟨y, hy, ?_⟩
      obtain ⟨t, _, _, _, _, h3, h4⟩ := hy
      exact ⟨h3, h4, hgy⟩) (x : Int) ⟨by omega, by omega, by simpa using hg⟩
    exact ⟨i, m, hm, hw⟩
  · rintro ⟨i, m, hm, hw⟩
    have hon := on_self hm hw
    obtain ⟨y, hy, _⟩ := on_next hm hw hon
    obtain ⟨t, ht, h0, h1, _⟩ := hy
    obtain ⟨x, rfl⟩ := Int.eq_ofNat_of_zero_le h0
    have := hl t ht
    exact ⟨x, by omega, hk _ m hm hw x hon⟩

/-! ### the reference's search -/
/-- One more table's step from node x. -/
def stp (n x : Nat) (acc : List Int) (t : List Int) : List Int := if x < t.length ∧ (0 ≤ t.getD x 0 ∧ t.getD x 0 < n) ∧ t.getD x 0 ∉ acc then acc ++ [t.getD x 0] else acc
def steps (l : List (List Int)) (n x : Nat) : List Int := l.foldl (stp n x) []
/-- Different numbers below n. -/
def Few (n : Nat) (l : List Int) : Prop := l.Nodup ∧ ∀ y ∈ l, 0 ≤ y ∧ y < n
theorem Few.le {n : Nat} {l : List Int} (h : Few n l) : l.length ≤ n := nodup_le n l h.1 h.2
theorem Few.nil (n : Nat) : Few n [] := ⟨List.nodup_nil, by simp⟩
theorem Few.snoc {n : Nat} {l : List Int} {y : Int} (h : Few n l) (hy : 0 ≤ y ∧ y < n) (hn : y ∉ l) : Few n (l ++ [y]) := by
  refine ⟨?_, fun z hz => ?_⟩
  · rw [List.nodup_append]
    exact ⟨h.1, by simp, fun a ha b hb => by
      rw [List.mem_singleton.1 hb]
      rintro rfl
      exact hn ha⟩
  · rcases List.mem_append.1 hz with hz | hz
    · exact h.2 z hz
    · rw [List.mem_singleton.1 hz]
      exact hy
theorem stp_few {n x : Nat} {acc t : List Int} (h : Few n acc) : Few n (stp n x acc t) := by
  unfold stp
  by_cases hc : x < t.length ∧ (0 ≤ t.getD x 0 ∧ t.getD x 0 < n) ∧ t.getD x 0 ∉ acc
  · rw [if_pos hc]
    exact h.snoc hc.2.1 hc.2.2
  · rw [if_neg hc]
    exact h
theorem foldl_stp_few {n x : Nat} : ∀ (l : List (List Int)) (acc : List Int), Few n acc → Few n (l.foldl (stp n x) acc)
  | [], _, h => h
  | _ :: ts, _, h => foldl_stp_few ts _ (stp_few h)
theorem steps_few (l : List (List Int)) (n x : Nat) : Few n (steps l n x) := foldl_stp_few l [] (Few.nil n)
theorem mem_stp {n x : Nat} {acc t : List Int} {y : Int} : y ∈ stp n x acc t ↔ y ∈ acc ∨ (x < t.length ∧ t.getD x 0 = y ∧ 0 ≤ y ∧ y < n) := by
  unfold stp
  by_cases hc : x < t.length ∧ (0 ≤ t.getD x 0 ∧ t.getD x 0 < n) ∧ t.getD x 0 ∉ acc
  · rw [if_pos hc, List.mem_append, List.mem_singleton]
    constructor
    · rintro (h | rfl)
      · exact .inl h
      · exact .inr ⟨hc.1, rfl, hc.2.1⟩
    · rintro (h | ⟨_, rfl, _⟩)
      · exact .inl h
      · exact .inr rfl
  · rw [if_neg hc]
    constructor
    · exact .inl
    · rintro (h | ⟨h1, rfl, h2⟩)
      · exact h
      · exact Classical.byContradiction fun hn => hc ⟨h1, h2, hn⟩
theorem mem_foldl_stp {n x : Nat} {y : Int} : ∀ (l : List (List Int)) (acc : List Int), y ∈ l.foldl (stp n x) acc ↔ y ∈ acc ∨ ∃ t ∈ l, x < t.length ∧ t.getD x 0 = y ∧ 0 ≤ y ∧ y < n
  | [], acc => by simp
  | t :: ts, acc => by
    rw [List.foldl_cons, mem_foldl_stp ts, mem_stp]
    simp only [List.mem_cons, exists_eq_or_imp]
    rw [or_assoc]
theorem mem_steps {l : List (List Int)} {n x : Nat} {y : Int} : y ∈ steps l n x ↔ EdgeIn l n (x : Int) y := by
  unfold steps
  rw [mem_foldl_stp]
  unfold EdgeIn
  simp only [List.not_mem_nil, false_or, Int.toNat_natCast]
  constructor
  · rintro ⟨t, ht, h1, h2⟩
    exact ⟨t, ht, by omega, by omega, h2⟩
  · rintro ⟨t, ht, _, h1, h2⟩
    exact ⟨t, ht, by omega, h2⟩
/-- One more node that was seen. -/
def addN (seen : List Int) (y : Int) : List Int := if y ∈ seen then seen else seen ++ [y]
theorem mem_addN {seen : List Int} {y z : Int} : z ∈ addN seen y ↔ z ∈ seen ∨ z = y := by
  unfold addN
  by_cases h : y ∈ seen
  · rw [if_pos h]
    exact ⟨.inl, fun h' => h'.elim (fun h' => h') (fun e => e ▸ h)⟩
  · rw [if_neg h]
    simp
theorem addN_few {n : Nat} {seen : List Int} {y : Int} (h : Few n seen) (hy : 0 ≤ y ∧ y < n) : Few n (addN seen y) := by
  unfold addN
  by_cases h' : y ∈ seen
  · rw [if_pos h']
    exact h
  · rw [if_neg h']
    exact h.snoc hy h'
theorem mem_addAll {z : Int} : ∀ (more seen : List Int), z ∈ more.foldl addN seen ↔ z ∈ seen ∨ z ∈ more
  | [], seen => by simp
  | y :: ys, seen => by
    rw [List.foldl_cons, mem_addAll ys, mem_addN, List.mem_cons, or_assoc]
theorem addAll_few {n : Nat} : ∀ (more seen : List Int), Few n seen → (∀ y ∈ more, 0 ≤ y ∧ y < n) → Few n (more.foldl addN seen)
  | [], _, h, _ => h
  | y :: ys, _, h, hy => addAll_few ys _ (addN_few h (hy y List.mem_cons_self)) (fun z hz => hy z (List.mem_cons_of_mem _ hz))
theorem addN_pre {seen : List Int} {y : Int} {j : Nat} (h : j < seen.length) : (addN seen y).getD j 0 = seen.getD j 0 ∧ seen.length ≤ (addN seen y).length := by
  unfold addN
  by_cases h' : y ∈ seen
  · rw [if_pos h']
    exact ⟨rfl, Nat.le_refl _⟩
  · rw [if_neg h']
    exact ⟨by simp [List.getD, List.getElem?_append_left h], by simp⟩
theorem addAll_pre {j : Nat} : ∀ (more seen : List Int), j < seen.length → (more.foldl addN seen).getD j 0 = seen.getD j 0 ∧ seen.length ≤ (more.foldl addN seen).length
  | [], _, _ => ⟨rfl, Nat.le_refl _⟩
  | y :: ys, seen, h => by
    have h1 := addN_pre (y := y) h
    have h2 := addAll_pre (j := j) ys (addN seen y) (Nat.lt_of_lt_of_le h h1.2)
    rw [List.foldl_cons]
    exact ⟨h2.1.trans h1.1, Nat.le_trans h1.2 h2.2⟩
/-- What holds of the search from node i, when the first k of what was seen have been looked at. -/
structure Srch (l : List (List Int)) (n i : Nat) (seen : List Int) (k : Nat) : Prop where
  few : Few n seen
  le : k ≤ seen.length
  from_ : ∀ y ∈ seen, ∃ m, 0 < m ∧ Walk (EdgeIn l n) m i y
  first : ∀ y, EdgeIn l n i y → y ∈ seen
  closed : ∀ j, j < k → seen.getD j 0 ≠ i ∧ ∀ y, EdgeIn l n (seen.getD j 0) y → y ∈ seen
theorem srch_start (l : List (List Int)) (n i : Nat) : Srch l n i (steps l n i) 0 :=
  ⟨steps_few l n i, Nat.zero_le _, fun y hy => ⟨1, by omega, Walk.one (mem_steps.1 hy)⟩, fun y hy => mem_steps.2 hy, fun j hj => by omega⟩
open Go.Proofs.Ytiihaabhjphaeaa.Kit in
theorem srch_step {l : List (List Int)} {n i : Nat} {seen : List Int} {k : Nat} (h : Srch l n i seen k) (hk : k < seen.length) (hne : seen.getD k 0 ≠ i) {x : Nat} (hx : seen.getD k 0 = x) : Srch l n i ((steps l n x).foldl addN seen) (k + 1) := by
  have hm := getD_mem hk 0
  obtain ⟨m, hm0, hw⟩ := h.from_ _ hm
  refine ⟨addAll_few _ _ h.few (steps_few l n x).2, ?_, fun y hy => ?_, fun y hy => (mem_addAll _ _).2 (.inl (h.first y hy)), fun j hj => ?_⟩
  · have := (addAll_pre (steps l n x) seen hk).2
    omega
  · rcases (mem_addAll _ _).1 hy with hy | hy
    · exact h.from_ y hy
    · have he := mem_steps.1 hy
      rw [← hx] at he
      exact ⟨m + 1, by omega, hw.snoc he⟩
  · rcases Nat.lt_succ_iff_lt_or_eq.1 hj with hj | rfl
    · have hc := h.closed j hj
      rw [(addAll_pre (steps l n x) seen (by omega : j < seen.length)).1]
      exact ⟨hc.1, fun y hy => (mem_addAll _ _).2 (.inl (hc.2 y hy))⟩
    · rw [(addAll_pre (steps l n x) seen hk).1]
      refine ⟨hne, fun y hy => (mem_addAll _ _).2 (.inr (mem_steps.2 ?_))⟩
      rw [← hx]
      exact hy
open Go.Proofs.Ytiihaabhjphaeaa.Kit in
theorem srch_end {l : List (List Int)} {n i : Nat} {seen : List Int} (h : Srch l n i seen seen.length) : ¬ ∃ m, 0 < m ∧ Walk (EdgeIn l n) m i i := by
  have key : ∀ m x y, x ∈ seen → Walk (EdgeIn l n) m x y → y ∈ seen := by
    intro m
    induction m with
    | zero => intro x y hx hw; cases hw; exact hx
    | succ m ih =>
      intro x y hx hw
      obtain ⟨z, hz, hw⟩ := hw
      obtain ⟨j, hj, e⟩ := List.getElem_of_mem hx
      have hc := (h.closed j hj).2 z
      rw [getD_at hj, e] at hc
      exact ih z y (hc hz) hw
  rintro ⟨m, hm, hw⟩
  obtain ⟨m, rfl⟩ : ∃ q, m = q + 1 := ⟨m - 1, by omega⟩
  obtain ⟨z, hz, hw⟩ := hw
  have hi := key m z i (h.first z hz) hw
  obtain ⟨j, hj, e⟩ := List.getElem_of_mem hi
  have hc := (h.closed j hj).1
  rw [getD_at hj] at hc
  exact hc e

/-! ### one table alone -/
theorem walk_split {E : Int → Int → Prop} : ∀ {a b : Nat} {x z : Int}, Walk E (a + b) x z → ∃ y, Walk E a x y ∧ Walk E b y z
  | 0, b, x, z, h => by
    rw [Nat.zero_add] at h
    exact ⟨x, rfl, h⟩
  | a + 1, b, x, z, h => by
    rw [Nat.add_right_comm] at h
    obtain ⟨u, hu, hw⟩ := h
    obtain ⟨y, h1, h2⟩ := walk_split hw
    exact ⟨y, ⟨u, hu, h1⟩, h2⟩
theorem walk_det {E : Int → Int → Prop} (hE : ∀ x y z, E x y → E x z → y = z) : ∀ {a : Nat} {x y z : Int}, Walk E a x y → Walk E a x z → y = z
  | 0, _, _, _, h, k => by cases h; exact k
  | a + 1, x, y, z, h, k => by
    obtain ⟨u, hu, hw⟩ := h
    obtain ⟨v, hv, kw⟩ := k
    rw [hE x u v hu hv] at hw
    exact walk_det hE hw kw
theorem edge_one {l : List Int} {n : Nat} {x y : Int} : EdgeIn [l] n x y ↔ 0 ≤ x ∧ x < l.length ∧ l.getD x.toNat 0 = y ∧ 0 ≤ y ∧ y < n := by
  unfold EdgeIn
  simp
theorem edge_det {l : List Int} {n : Nat} (x y z : Int) (h : EdgeIn [l] n x y) (k : EdgeIn [l] n x z) : y = z := by
  rw [edge_one] at h k
  rw [← h.2.2.1, ← k.2.2.1]
end Go.Proofs.Ytiihaabhjphaeaa.Graph
/- The program's UnionHasLoop tells whether the tables, as one graph, hold a circle. Conditions: none. -/
namespace Go.Proofs.Ytiihaabhjphaeaa.fnTables
open Go.RowKit Go.Proofs.YtiihaabhjphaeaaW.PrintWords Go.Proofs.YtiihaabhjphaeaaW.PrintMore Go.Proofs.Ytiihaabhjphaeaa.QFnTables Go.Proofs.Ytiihaabhjphaeaa.Open Go.Proofs.Ytiihaabhjphaeaa.Kit Go.Proofs.Ytiihaabhjphaeaa.Graph
theorem ixU (a n : Int) : impl_isIndex.f a n = some (decide (0 ≤ a ∧ a < n)) := by
  unfold impl_isIndex.f
  by_cases h : 0 ≤ a <;> simp [h]
/-- The number of nodes: the length of the longest table. -/
def msz (l : List (List Int)) : Int := l.foldl (fun m t => mx m (t.length : Int)) 0
theorem msz_ge (l : List (List Int)) (b : Int) (hb : 0 ≤ b) : 0 ≤ l.foldl (fun m t => mx m (t.length : Int)) b ∧ b ≤ l.foldl (fun m t => mx m (t.length : Int)) b ∧ (∀ t ∈ l, (t.length : Int) ≤ l.foldl (fun m t => mx m (t.length : Int)) b) ∧ ∀ B : Int, b ≤ B → (∀ t ∈ l, (t.length : Int) ≤ B) → l.foldl (fun m t => mx m (t.length : Int)) b ≤ B := by
  induction l generalizing b with
  | nil => exact ⟨hb, Int.le_refl _, by simp, fun B h _ => h⟩
  | cons t ts ih =>
    have hm : b ≤ mx b (t.length : Int) ∧ (t.length : Int) ≤ mx b (t.length : Int) ∧ ∀ B : Int, b ≤ B → (t.length : Int) ≤ B → mx b (t.length : Int) ≤ B := by
      rw [mx_def]
      exact ⟨by omega, by omega, fun B _ _ => by omega⟩
    obtain ⟨h1, h2, h3, h4⟩ := ih (mx b (t.length : Int)) (by omega)
    rw [List.foldl_cons]
    refine ⟨h1, by omega, fun u hu => ?_, fun B hB hu => h4 B (hm.2.2 B hB (hu t List.mem_cons_self)) (fun u hu' => hu u (List.mem_cons_of_mem _ hu'))⟩
    rcases List.mem_cons.1 hu with rfl | hu
    · omega
    · exact h3 u hu
theorem rdOf_nat (g : List Bool) (x : Nat) : rdOf false g (x : Int) = g.getD x false := rfl
/-- The inmost loop: does a node lead on? -/
theorem l3_ev {l : List (List Int)} {n : Nat} {g : List Bool} {ch : Bool} {x : Nat} {r : Bool} (hx : x < n) (hn : n ≤ 1048576) (hg : g.length = n) (hl : l.length ≤ 1048576) (hgx : g.getD x false = false)
    (h : Ev (fun k => impl_UnionHasLoop.l2 k l (n : Int) (ps1 l n (g, ch) x).1 (ps1 l n (g, ch) x).2 (n : Int) ((x + 1 : Nat) : Int)) r) :
    Ev (fun k => impl_UnionHasLoop.l3 k l (n : Int) g ch (x : Int) false (n : Int) (x : Int) l (l.length : Int) 0) r := by
  have h0 := foldTo_zero (ld n g x) false l
  rw [show (fun k => impl_UnionHasLoop.l3 k l (n : Int) g ch (x : Int) false (n : Int) (x : Int) l (l.length : Int) 0) = (fun k => impl_UnionHasLoop.l3 k l (n : Int) g ch (x : Int) (foldTo (ld n g x) false l 0) (n : Int) (x : Int) l (l.length : Int) ((0 : Nat) : Int)) by rw [h0]; rfl]
  refine Ev.up (n := l.length) (g := fun j k => impl_UnionHasLoop.l3 k l (n : Int) g ch (x : Int) (foldTo (ld n g x) false l j) (n : Int) (x : Int) l (l.length : Int) (j : Int)) ?_ ?_
  · intro j hj ih
    rw [foldTo_succ (ld n g x) false hj []] at ih
    refine Ev.step (fun k => by rw [impl_UnionHasLoop.l3]) ?_
    repeat (first | (with_reducible refine Ev.ite_pos (by omega) ?_) | (with_reducible refine Ev.ite_neg (by omega) ?_))
    rw [w64n (by omega)]
    cases hacc : foldTo (ld n g x) false l j with
    | true =>
      rw [hacc] at ih
      exact Ev.ite_pos rfl (by simpa [ld] using ih)
    | false =>
      rw [hacc] at ih
      refine Ev.ite_neg (by simp) ?_
      by_cases hxl : x < (l.getD j []).length
      · refine Ev.ite_pos (by show (x : Int) < (((l.getD j []).length : Nat) : Int); omega) ?_
        refine Ev.ite_pos (by omega) ?_
        refine Ev.bind0 (ixU ((l.getD j []).getD x 0) (n : Int)) ?_
        by_cases hy : 0 ≤ (l.getD j []).getD x 0 ∧ (l.getD j []).getD x 0 < (n : Int)
        · refine Ev.ite_pos (by simp only [decide_eq_true_eq]; exact hy) ?_
          refine Ev.ite_pos hy.1 ?_
          refine Ev.ite_pos (by show (l.getD j []).getD x 0 < (g.length : Int); omega) ?_
          have e : ld n g x false (l.getD j []) = !(rdOf false g ((l.getD j []).getD x 0)) := by
            unfold ld
            rw [Bool.false_or, decide_eq_true hxl, decide_eq_true hy]
            rfl
          rw [e] at ih
          exact ih
        · refine Ev.ite_neg (by simp only [decide_eq_true_eq]; exact hy) ?_
          have e : ld n g x false (l.getD j []) = false := by
            unfold ld
            rw [decide_eq_false hy]
            simp
          rw [e] at ih
          exact ih
      · refine Ev.ite_neg (by show ¬ (x : Int) < (((l.getD j []).length : Nat) : Int); omega) ?_
        have e : ld n g x false (l.getD j []) = false := by
          unfold ld
          rw [decide_eq_false hxl]
          simp
        rw [e] at ih
        exact ih
  · refine Ev.step (fun k => by rw [impl_UnionHasLoop.l3]) ?_
    repeat (first | (with_reducible refine Ev.ite_pos (by omega) ?_) | (with_reducible refine Ev.ite_neg (by omega) ?_))
    rw [foldTo_all]
    have hps : ps1 l n (g, ch) x = if leads l n g x = true then (g, ch) else (g.set x true, true) := by
      unfold ps1
      rw [if_neg (by simpa using hgx)]
    have e : l.foldl (ld n g x) false = leads l n g x := rfl
    rw [e]
    by_cases hL : leads l n g x = true
    · refine Ev.ite_pos hL ?_
      rw [hps, if_pos hL] at h
      rw [w64n (by omega)]
      exact h
    · refine Ev.ite_neg hL ?_
      rw [hps, if_neg hL] at h
      repeat (first | (with_reducible refine Ev.ite_pos (by omega) ?_) | (with_reducible refine Ev.ite_neg (by omega) ?_))
      rw [Int.toNat_natCast, w64n (by omega)]
      exact h
/-- A pass. -/
theorem l2_ev {l : List (List Int)} {n : Nat} {g : List Bool} {r : Bool} (hn : n ≤ 1048576) (hg : g.length = n) (hl : l.length ≤ 1048576)
    (h : Ev (fun k => impl_UnionHasLoop.l1 k l (n : Int) (foldTo (ps1 l n) (g, false) (List.range n) n).1 (foldTo (ps1 l n) (g, false) (List.range n) n).2) r) :
    Ev (fun k => impl_UnionHasLoop.l2 k l (n : Int) g false (n : Int) 0) r := by
  have h0 := foldTo_zero (ps1 l n) (g, false) (List.range n)
  rw [show (fun k => impl_UnionHasLoop.l2 k l (n : Int) g false (n : Int) 0) = (fun k => impl_UnionHasLoop.l2 k l (n : Int) (foldTo (ps1 l n) (g, false) (List.range n) 0).1 (foldTo (ps1 l n) (g, false) (List.range n) 0).2 (n : Int) ((0 : Nat) : Int)) by rw [h0]; rfl]
  refine Ev.up (n := n) (g := fun i k => impl_UnionHasLoop.l2 k l (n : Int) (foldTo (ps1 l n) (g, false) (List.range n) i).1 (foldTo (ps1 l n) (g, false) (List.range n) i).2 (n : Int) (i : Int)) ?_ ?_
  · intro i hi ih
    have hlen := (pass_ok (l := l) hg i (by omega)).len
    have e : (List.range n).getD i 0 = i := by
      rw [getD_at (by rw [List.length_range]; omega)]
      simp
    rw [foldTo_succ (ps1 l n) (g, false) (by rw [List.length_range]; omega) 0, e] at ih
    refine Ev.step (fun k => by rw [impl_UnionHasLoop.l2]) ?_
    repeat (first | (with_reducible refine Ev.ite_pos (by omega) ?_) | (with_reducible refine Ev.ite_neg (by omega) ?_))
    by_cases hg1 : (foldTo (ps1 l n) (g, false) (List.range n) i).1.getD i false = true
    · refine Ev.ite_pos hg1 ?_
      rw [w64n (by omega)]
      rw [ps1_gone hg1] at ih
      exact ih
    · refine Ev.ite_neg hg1 ?_
      exact l3_ev hi hn hlen hl (by simpa using hg1) ih
  · refine Ev.step (fun k => by rw [impl_UnionHasLoop.l2]) ?_
    repeat (first | (with_reducible refine Ev.ite_pos (by omega) ?_) | (with_reducible refine Ev.ite_neg (by omega) ?_))
    exact h
theorem l4_ev {n : Nat} {g : List Bool} (hn : n ≤ 1048576) (hg : g.length = n) : ∃ r, Ev (fun k => impl_UnionHasLoop.l4 k g (n : Int) 0) r ∧ (r = true ↔ ∃ x, x < n ∧ g.getD x false = false) := by
  have key : ∀ d i : Nat, i + d = n → ∃ r, Ev (fun k => impl_UnionHasLoop.l4 k g (n : Int) (i : Int)) r ∧ (r = true ↔ ∃ x, i ≤ x ∧ x < n ∧ g.getD x false = false) := by
    intro d
    induction d with
    | zero =>
      intro i hi
      refine ⟨false, ?_, by simp; intro x h1 h2; omega⟩
      refine Ev.step (fun k => by rw [impl_UnionHasLoop.l4]) ?_
      repeat (first | (with_reducible refine Ev.ite_pos (by omega) ?_) | (with_reducible refine Ev.ite_neg (by omega) ?_))
      exact Ev.now _
    | succ d ih =>
      intro i hi
      by_cases hb : g.getD i false = true
      · obtain ⟨r, hr, hiff⟩ := ih (i + 1) (by omega)
        refine ⟨r, ?_, ?_⟩
        · refine Ev.step (fun k => by rw [impl_UnionHasLoop.l4]) ?_
          repeat (first | (with_reducible refine Ev.ite_pos (by omega) ?_) | (with_reducible refine Ev.ite_neg (by omega) ?_))
          refine Ev.ite_pos hb ?_
          rw [w64n (by omega)]
          exact hr
        · rw [hiff]
          constructor
          · rintro ⟨x, h1, h2, h3⟩
            exact ⟨x, by omega, h2, h3⟩
          · rintro ⟨x, h1, h2, h3⟩
            refine ⟨x, ?_, h2, h3⟩
            rcases Nat.eq_or_lt_of_le h1 with rfl | h1
            · rw [hb] at h3
              cases h3
            · exact h1
      · refine ⟨true, ?_, ?_⟩
        · refine Ev.step (fun k => by rw [impl_UnionHasLoop.l4]) ?_
          repeat (first | (with_reducible refine Ev.ite_pos (by omega) ?_) | (with_reducible refine Ev.ite_neg (by omega) ?_))
          exact Ev.ite_neg hb (Ev.now _)
        · exact ⟨fun _ => ⟨i, Nat.le_refl _, by omega, by simpa using hb⟩, fun _ => rfl⟩
  obtain ⟨r, hr, hiff⟩ := key n 0 (by omega)
  refine ⟨r, hr, ?_⟩
  rw [hiff]
  exact ⟨fun ⟨x, _, h⟩ => ⟨x, h⟩, fun ⟨x, h⟩ => ⟨x, Nat.zero_le _, h⟩⟩
/-- Passes till nothing changes. -/
theorem l1_ev {l : List (List Int)} {n : Nat} (hn : n ≤ 1048576) (hl : l.length ≤ 1048576) (hlt : ∀ t ∈ l, t.length ≤ n) : ∀ (c : Nat) (g : List Bool), g.count false ≤ c → g.length = n → Keeps l n g →
    ∃ r, Ev (fun k => impl_UnionHasLoop.l1 k l (n : Int) g true) r ∧ (r = true ↔ Cyc (EdgeIn l n)) := by
  intro c
  induction c with
  | zero =>
    intro g hc hg hk
    have hp := pass_ok (l := l) hg n (Nat.le_refl _)
    cases hs : (foldTo (ps1 l n) (g, false) (List.range n) n).2 with
    | true =>
      have := hp.less hs
      omega
    | false =>
      obtain ⟨r, hr, hiff⟩ := l4_ev hn hp.len
      refine ⟨r, ?_, ?_⟩
      · refine Ev.step (fun k => by rw [impl_UnionHasLoop.l1]) ?_
        refine Ev.ite_pos rfl ?_
        refine l2_ev hn hg hl ?_
        rw [hs]
        refine Ev.step (fun k => by rw [impl_UnionHasLoop.l1]) ?_
        exact Ev.ite_neg (by simp) hr
      · rw [hiff, (hp.same hs).1]
        exact left_iff hlt hk (hp.same hs).2
  | succ c ih =>
    intro g hc hg hk
    have hp := pass_ok (l := l) hg n (Nat.le_refl _)
    cases hs : (foldTo (ps1 l n) (g, false) (List.range n) n).2 with
    | true =>
      have := hp.less hs
      obtain ⟨r, hr, hiff⟩ := ih _ (by omega) hp.len (hp.keeps hk)
      refine ⟨r, ?_, hiff⟩
      refine Ev.step (fun k => by rw [impl_UnionHasLoop.l1]) ?_
      refine Ev.ite_pos rfl ?_
      refine l2_ev hn hg hl ?_
      rw [hs]
      exact hr
    | false =>
      obtain ⟨r, hr, hiff⟩ := l4_ev hn hp.len
      refine ⟨r, ?_, ?_⟩
      · refine Ev.step (fun k => by rw [impl_UnionHasLoop.l1]) ?_
        refine Ev.ite_pos rfl ?_
        refine l2_ev hn hg hl ?_
        rw [hs]
        refine Ev.step (fun k => by rw [impl_UnionHasLoop.l1]) ?_
        exact Ev.ite_neg (by simp) hr
      · rw [hiff, (hp.same hs).1]
        exact left_iff hlt hk (hp.same hs).2
theorem union2 (l : List (List Int)) (hl : l.length ≤ 1048576) (hb : ∀ t ∈ l, t.length ≤ 1048576) : ∃ r, Ev (fun k => impl_UnionHasLoop.f k l) r ∧ (r = true ↔ Cyc (EdgeIn l (msz l).toNat)) := by
  obtain ⟨h1, _, h3, h4⟩ := msz_ge l 0 (by omega)
  have h5 := h4 1048576 (by omega) (fun t ht => by have := hb t ht; omega)
  obtain ⟨n, hn⟩ := Int.eq_ofNat_of_zero_le h1
  have hn' : msz l = (n : Int) := hn
  rw [hn] at h3 h5
  obtain ⟨r, hr, hiff⟩ := l1_ev (l := l) (n := n) (by omega) hl (fun t ht => by have := h3 t ht; omega) _ (List.replicate n false) (Nat.le_refl _) (List.length_replicate ..) (fun _ _ _ _ x _ => by
    by_cases hx : x < n <;> simp [List.getD, hx])
  refine ⟨r, ?_, by rw [hn']; exact hiff⟩
  have h0 := foldTo_zero (fun m (t : List Int) => mx m (t.length : Int)) 0 l
  show Ev (fun k => impl_UnionHasLoop.l0 k l 0 l (l.length : Int) 0) r
  rw [show (fun k => impl_UnionHasLoop.l0 k l 0 l (l.length : Int) 0) = (fun k => impl_UnionHasLoop.l0 k l (foldTo (fun m (t : List Int) => mx m (t.length : Int)) 0 l 0) l (l.length : Int) ((0 : Nat) : Int)) by rw [h0]; rfl]
  refine Ev.up (n := l.length) (g := fun i k => impl_UnionHasLoop.l0 k l (foldTo (fun m (t : List Int) => mx m (t.length : Int)) 0 l i) l (l.length : Int) (i : Int)) ?_ ?_
  · intro i hi ih
    rw [foldTo_succ _ 0 hi []] at ih
    refine Ev.step (fun k => by rw [impl_UnionHasLoop.l0]) ?_
    repeat (first | (with_reducible refine Ev.ite_pos (by omega) ?_) | (with_reducible refine Ev.ite_neg (by omega) ?_))
    rw [w64n (by omega)]
    exact ih
  · refine Ev.step (fun k => by rw [impl_UnionHasLoop.l0]) ?_
    repeat (first | (with_reducible refine Ev.ite_pos (by omega) ?_) | (with_reducible refine Ev.ite_neg (by omega) ?_))
    rw [foldTo_all]
    rw [show l.foldl (fun m (t : List Int) => mx m (t.length : Int)) 0 = (n : Int) from hn]
    repeat (first | (with_reducible refine Ev.ite_pos (by omega) ?_) | (with_reducible refine Ev.ite_neg (by omega) ?_))
    rw [Int.toNat_natCast]
    exact hr
end Go.Proofs.Ytiihaabhjphaeaa.fnTables
/- A search in breadth from one node: what it comes to, and what holds of its answer. Conditions: none. -/
namespace Go.Proofs.Ytiihaabhjphaeaa.Bfs
open Go.RowKit Go.Proofs.YtiihaabhjphaeaaW.PrintWords Go.Proofs.Ytiihaabhjphaeaa.Kit
/-- The neighbors ys of a node whose distance is c - 1: those that have none yet get c and are put behind the queue. -/
def vis (n : Nat) (c : Int) : List Int → List Int → List Int → List Int × List Int
  | [], d, q => (d, q)
  | y :: ys, d, q => if 0 ≤ y ∧ y < n ∧ rd d y < 0 then vis n c ys (d.set y.toNat c) (q ++ [y]) else vis n c ys d q
def bfs (near : Int → List Int) (ex : Int → Bool) (n : Nat) : Nat → List Int → List Int → List Int
  | 0, d, _ => d
  | _ + 1, d, [] => d
  | f + 1, d, x :: q => if ex x = true then bfs near ex n f (vis n (rd d x + 1) (near x) d q).1 (vis n (rd d x + 1) (near x) d q).2 else bfs near ex n f d q
/-- How many have no distance. -/
def neg (d : List Int) : Nat := d.countP (fun x => decide (x < 0))
theorem neg_set : ∀ (d : List Int) (i : Nat) (c : Int), i < d.length → d.getD i 0 < 0 → 0 ≤ c → neg (d.set i c) + 1 = neg d
  | [], i, c, h, _, _ => by simp at h
  | x :: d, 0, c, _, h, hc => by
    have h' : x < 0 := by simpa using h
    have hc' : ¬ c < 0 := by omega
    simp [neg, h', hc']
  | x :: d, i + 1, c, h, hx, hc => by
    have := neg_set d i c (by simpa using h) (by simpa using hx) hc
    simp only [neg, List.set_cons_succ, List.countP_cons] at this ⊢
    omega
theorem neg_le (d : List Int) : neg d ≤ d.length := List.countP_le_length
theorem neg_lt {d : List Int} {x : Int} (hx : x ∈ d) (h : 0 ≤ x) : neg d < d.length := by
  have h1 := List.length_eq_countP_add_countP (fun x : Int => decide (x < 0)) (l := d)
  have h2 : 0 < List.countP (fun a : Int => !decide (a < 0)) d := List.countP_pos_iff.2 ⟨x, hx, by simp; omega⟩
  have h3 : List.countP (fun a : Int => decide ¬ decide (a < 0) = true) d = List.countP (fun a : Int => !decide (a < 0)) d := by
    refine List.countP_congr fun a _ => ?_
    simp
  unfold neg
  omega
theorem rd_set {d : List Int} {i j c : Int} (hi : 0 ≤ i) (hj : 0 ≤ j) (h : i < d.length) : rd (d.set i.toNat c) j = if i = j then c else rd d j := by
  unfold rd
  rw [List.getD_eq_getElem?_getD, List.getElem?_set, List.getD_eq_getElem?_getD]
  by_cases e : i = j
  · subst e
    rw [if_pos rfl, if_pos rfl, if_pos (by omega)]
    rfl
  · rw [if_neg (by omega), if_neg e]
theorem rd_mem {d : List Int} {x : Int} (h0 : 0 ≤ x) (h : x < d.length) : rd d x ∈ d := getD_mem (by omega) 0
theorem vis_spec {n : Nat} {c : Int} (hc : 0 ≤ c) : ∀ (ys d q : List Int), d.length = n → ∃ a, (vis n c ys d q).2 = q ++ a ∧ (vis n c ys d q).1.length = n ∧ neg (vis n c ys d q).1 + a.length = neg d ∧
      (∀ y ∈ a, y ∈ ys ∧ 0 ≤ y ∧ y < n ∧ rd (vis n c ys d q).1 y = c) ∧ (∀ v : Int, 0 ≤ v → v < n → rd (vis n c ys d q).1 v = rd d v ∨ rd d v < 0 ∧ rd (vis n c ys d q).1 v = c ∧ v ∈ a) ∧ ∀ y ∈ ys, 0 ≤ y → y < n → 0 ≤ rd (vis n c ys d q).1 y
  | [], d, q, hd => ⟨[], by simp [vis], hd, by simp [vis], by simp, fun v _ _ => .inl rfl, by simp⟩
  | y :: ys, d, q, hd => by
    by_cases h : 0 ≤ y ∧ y < n ∧ rd d y < 0
    · obtain ⟨a, h1, h2, h3, h4, h5, h6⟩ := vis_spec hc ys (d.set y.toNat c) (q ++ [y]) (by simpa using hd)
      have hs : ∀ v : Int, 0 ≤ v → rd (d.set y.toNat c) v = if y = v then c else rd d v := fun v hv => rd_set h.1 hv (by omega)
      have hy : rd (vis n c ys (d.set y.toNat c) (q ++ [y])).1 y = c := by
        rcases h5 y h.1 h.2.1 with e | ⟨e, _⟩
        · rw [e, hs y h.1, if_pos rfl]
        · rw [hs y h.1, if_pos rfl] at e
          omega
      refine ⟨y :: a, ?_, ?_, ?_, ?_, ?_, ?_⟩
      · simp only [vis, if_pos h]
        rw [h1]
        simp
      · simp only [vis, if_pos h]
        exact h2
      · simp only [vis, if_pos h]
        have := neg_set d y.toNat c (by omega) h.2.2 hc
        rw [List.length_cons]
        omega
      · simp only [vis, if_pos h]
        intro v hv
        rcases List.mem_cons.1 hv with rfl | hv
        · exact ⟨List.mem_cons_self, h.1, h.2.1, hy⟩
        · exact ⟨List.mem_cons_of_mem _ (h4 v hv).1, (h4 v hv).2⟩
      · simp only [vis, if_pos h]
        intro v h0 hn
        by_cases e : y = v
        · subst e
          exact .inr ⟨h.2.2, hy, List.mem_cons_self⟩
        · rcases h5 v h0 hn with g | ⟨g1, g2, g3⟩
          · rw [hs v h0, if_neg e] at g
            exact .inl g
          · rw [hs v h0, if_neg e] at g1
            exact .inr ⟨g1, g2, List.mem_cons_of_mem _ g3⟩
      · simp only [vis, if_pos h]
        intro v hv h0 hn
        rcases List.mem_cons.1 hv with rfl | hv
        · rw [hy]
          exact hc
        · exact h6 v hv h0 hn
    · obtain ⟨a, h1, h2, h3, h4, h5, h6⟩ := vis_spec hc ys d q hd
      simp only [vis, if_neg h]
      refine ⟨a, h1, h2, h3, fun v hv => ⟨List.mem_cons_of_mem _ (h4 v hv).1, (h4 v hv).2⟩, h5, ?_⟩
      intro v hv h0 hn
      rcases List.mem_cons.1 hv with rfl | hv
      · rcases h5 v h0 hn with g | ⟨_, g, _⟩
        · rw [g]
          omega
        · omega
      · exact h6 v hv h0 hn
/-- What holds while the search goes on: d the distances, q the queue. -/
structure Inv (near : Int → List Int) (ex : Int → Bool) (n : Nat) (dst : Int) (d q : List Int) : Prop where
  len : d.length = n
  din : 0 ≤ dst ∧ dst < n
  d0 : rd d dst = 0
  zero : ∀ x : Int, 0 ≤ x → x < n → rd d x = 0 → x = dst
  qin : ∀ x ∈ q, 0 ≤ x ∧ x < n ∧ 0 ≤ rd d x
  low : ∀ x : Int, 0 ≤ x → x < n → -1 ≤ rd d x
  pred : ∀ v : Int, 0 ≤ v → v < n → 0 < rd d v → ∃ u : Int, 0 ≤ u ∧ u < n ∧ ex u = true ∧ v ∈ near u ∧ rd d u = rd d v - 1
  done : ∀ u : Int, 0 ≤ u → u < n → 0 ≤ rd d u → u ∈ q ∨ (ex u = true → ∀ v ∈ near u, 0 ≤ v → v < n → 0 ≤ rd d v ∧ rd d v ≤ rd d u + 1)
  sorted : q.Pairwise (fun x y => rd d x ≤ rd d y)
  head : ∀ h q', q = h :: q' → ∀ v : Int, 0 ≤ v → v < n → rd d v ≤ rd d h + 1
  bound : ∀ v : Int, 0 ≤ v → v < n → rd d v + neg d < n
theorem Inv.skip {near : Int → List Int} {ex : Int → Bool} {n : Nat} {dst x : Int} {d q : List Int} (H : Inv near ex n dst d (x :: q)) (hx : ¬ ex x = true) : Inv near ex n dst d q := by
  have hs := List.pairwise_cons.1 H.sorted
  refine ⟨H.len, H.din, H.d0, H.zero, fun y hy => H.qin y (List.mem_cons_of_mem _ hy), H.low, H.pred, ?_, hs.2, ?_, H.bound⟩
  · intro u h0 hn hu
    rcases H.done u h0 hn hu with h | h
    · rcases List.mem_cons.1 h with rfl | h
      · exact .inr fun he => absurd he hx
      · exact .inl h
    · exact .inr h
  · intro h q' e v h0 hn
    have h1 := H.head x q rfl v h0 hn
    have h2 := hs.1 h (by rw [e]; exact List.mem_cons_self)
    omega
theorem Inv.step {near : Int → List Int} {ex : Int → Bool} {n : Nat} {dst x : Int} {d q : List Int} (H : Inv near ex n dst d (x :: q)) (hx : ex x = true) :
    Inv near ex n dst (vis n (rd d x + 1) (near x) d q).1 (vis n (rd d x + 1) (near x) d q).2 ∧ neg (vis n (rd d x + 1) (near x) d q).1 + (vis n (rd d x + 1) (near x) d q).2.length + 1 = neg d + (x :: q).length := by
  have hs := List.pairwise_cons.1 H.sorted
  have hxi := H.qin x List.mem_cons_self
  obtain ⟨a, h1, h2, h3, h4, h5, h6⟩ := vis_spec (n := n) (c := rd d x + 1) (by omega) (near x) d q H.len
  generalize (vis n (rd d x + 1) (near x) d q).1 = d' at *
  generalize (vis n (rd d x + 1) (near x) d q).2 = q' at *
  subst h1
  have keep : ∀ v : Int, 0 ≤ v → v < n → 0 ≤ rd d v → rd d' v = rd d v := fun v h0 hn hv => by
    rcases h5 v h0 hn with e | ⟨e, _⟩
    · exact e
    · omega
  have up : ∀ v : Int, 0 ≤ v → v < n → rd d' v ≤ rd d x + 1 := fun v h0 hn => by
    rcases h5 v h0 hn with e | ⟨_, e, _⟩
    · rw [e]
      exact H.head x q rfl v h0 hn
    · omega
  have hbx := H.bound x hxi.1 hxi.2.1
  refine ⟨⟨h2, H.din, ?_, ?_, ?_, ?_, ?_, ?_, ?_, ?_, ?_⟩, ?_⟩
  · rw [keep _ H.din.1 H.din.2 (by rw [H.d0]; omega), H.d0]
  · intro v h0 hn e
    rcases h5 v h0 hn with g | ⟨_, g, _⟩
    · exact H.zero v h0 hn (by omega)
    · omega
  · intro v hv
    rcases List.mem_append.1 hv with hv | hv
    · have := H.qin v (List.mem_cons_of_mem _ hv)
      rw [keep v this.1 this.2.1 this.2.2]
      exact this
    · have := h4 v hv
      exact ⟨this.2.1, this.2.2.1, by omega⟩
  · intro v h0 hn
    have := H.low v h0 hn
    rcases h5 v h0 hn with g | ⟨_, g, _⟩ <;> omega
  · intro v h0 hn hv
    rcases h5 v h0 hn with g | ⟨_, g, hm⟩
    · obtain ⟨u, hu0, hun, he, hm, hd⟩ := H.pred v h0 hn (by omega)
      exact ⟨u, hu0, hun, he, hm, by rw [keep u hu0 hun (by omega)]; omega⟩
    · exact ⟨x, hxi.1, hxi.2.1, hx, (h4 v hm).1, by rw [keep x hxi.1 hxi.2.1 hxi.2.2]; omega⟩
  · intro u h0 hn hu
    rcases h5 u h0 hn with g | ⟨_, g, hm⟩
    · rcases H.done u h0 hn (by omega) with h | h
      · rcases List.mem_cons.1 h with rfl | h
        · refine .inr fun _ v hv hv0 hvn => ⟨h6 v hv hv0 hvn, ?_⟩
          have := up v hv0 hvn
          omega
        · exact .inl (List.mem_append_left _ h)
      · refine .inr fun he v hv hv0 hvn => ?_
        have := h he v hv hv0 hvn
        rw [keep v hv0 hvn this.1]
        omega
    · exact .inl (List.mem_append_right _ hm)
  · refine List.pairwise_append.2 ⟨?_, ?_, ?_⟩
    · refine List.Pairwise.imp_of_mem ?_ hs.2
      intro u v hu hv huv
      have h1 := H.qin u (List.mem_cons_of_mem _ hu)
      have h2 := H.qin v (List.mem_cons_of_mem _ hv)
      rw [keep u h1.1 h1.2.1 h1.2.2, keep v h2.1 h2.2.1 h2.2.2]
      exact huv
    · refine List.Pairwise.imp_of_mem (R := fun _ _ => True) ?_ (List.pairwise_iff_getElem.2 fun _ _ _ _ _ => trivial)
      intro u v hu hv _
      rw [(h4 u hu).2.2.2, (h4 v hv).2.2.2]
      omega
    · intro u hu v hv
      rw [(h4 v hv).2.2.2]
      have h1 := H.qin u (List.mem_cons_of_mem _ hu)
      exact up u h1.1 h1.2.1
  · intro h q'' e v h0 hn
    have h1 := up v h0 hn
    have hm : h ∈ q ++ a := by rw [e]; exact List.mem_cons_self
    rcases List.mem_append.1 hm with hm | hm
    · have h2 := hs.1 h hm
      have h3 := H.qin h (List.mem_cons_of_mem _ hm)
      rw [keep h h3.1 h3.2.1 h3.2.2]
      omega
    · rw [(h4 h hm).2.2.2]
      omega
  · intro v h0 hn
    rcases h5 v h0 hn with g | ⟨_, g, hm⟩
    · have := H.bound v h0 hn
      omega
    · have : 0 < a.length := List.length_pos_of_mem hm
      omega
  · rw [List.length_append, List.length_cons]
    omega
theorem bfs_inv {near : Int → List Int} {ex : Int → Bool} {n : Nat} {dst : Int} : ∀ (f : Nat) (d q : List Int), Inv near ex n dst d q → neg d + q.length ≤ f → Inv near ex n dst (bfs near ex n f d q) []
  | 0, d, [], H, _ => H
  | 0, d, x :: q, H, h => by simp at h
  | f + 1, d, [], H, _ => H
  | f + 1, d, x :: q, H, h => by
    simp only [bfs]
    by_cases hx : ex x = true
    · rw [if_pos hx]
      have := H.step hx
      exact bfs_inv f _ _ this.1 (by omega)
    · rw [if_neg hx]
      rw [List.length_cons] at h
      exact bfs_inv f _ _ (H.skip hx) (by omega)
/-- The start: nobody has a distance but the node itself. -/
def start (n : Nat) (dst : Int) : List Int := (List.replicate n (-1)).set dst.toNat 0
theorem rd_start {n : Nat} {dst v : Int} (hd : 0 ≤ dst ∧ dst < n) (h0 : 0 ≤ v) (hn : v < n) : rd (start n dst) v = if dst = v then 0 else -1 := by
  unfold start
  rw [rd_set hd.1 h0 (by simpa using hd.2)]
  by_cases e : dst = v
  · rw [if_pos e, if_pos e]
  · rw [if_neg e, if_neg e]
    unfold rd
    rw [List.getD_eq_getElem?_getD, List.getElem?_replicate, if_pos (by omega)]
    rfl
theorem inv_start (near : Int → List Int) (ex : Int → Bool) {n : Nat} {dst : Int} (hd : 0 ≤ dst ∧ dst < n) : Inv near ex n dst (start n dst) [dst] := by
  have hr : ∀ v : Int, 0 ≤ v → v < n → rd (start n dst) v = if dst = v then 0 else -1 := fun v h0 hn => rd_start hd h0 hn
  have h00 : rd (start n dst) dst = 0 := by rw [hr dst hd.1 hd.2, if_pos rfl]
  have hlen : (start n dst).length = n := by simp [start]
  have hneg : neg (start n dst) < n := by
    have := neg_lt (rd_mem hd.1 (by rw [hlen]; exact hd.2)) (by rw [h00]; omega : 0 ≤ rd (start n dst) dst)
    omega
  refine ⟨hlen, hd, h00, ?_, ?_, ?_, ?_, ?_, ?_, ?_, ?_⟩
  · intro x h0 hn e
    rw [hr x h0 hn] at e
    split at e
    · omega
    · omega
  · intro x hx
    rw [List.mem_singleton] at hx
    subst hx
    exact ⟨hd.1, hd.2, by omega⟩
  · intro x h0 hn
    rw [hr x h0 hn]
    split <;> omega
  · intro v h0 hn hv
    rw [hr v h0 hn] at hv
    split at hv <;> omega
  · intro u h0 hn hu
    rw [hr u h0 hn] at hu
    split at hu
    · rename_i e
      exact .inl (List.mem_singleton.2 e.symm)
    · omega
  · exact List.pairwise_singleton _ _
  · intro h q' e v h0 hn
    injection e with e1 e2
    subst e1
    rw [h00, hr v h0 hn]
    split <;> omega
  · intro v h0 hn
    rw [hr v h0 hn]
    split <;> omega
theorem neg_start_le {n : Nat} {dst : Int} (hd : 0 ≤ dst ∧ dst < n) : neg (start n dst) + 1 ≤ n := by
  have := (inv_start (fun _ => []) (fun _ => true) hd).bound dst hd.1 hd.2
  rw [rd_start hd hd.1 hd.2, if_pos rfl] at this
  omega
/-- The distances of all nodes to dst. -/
def dist (near : Int → List Int) (ex : Int → Bool) (n : Nat) (dst : Int) : List Int := bfs near ex n n (start n dst) [dst]
theorem dist_inv (near : Int → List Int) (ex : Int → Bool) {n : Nat} {dst : Int} (hd : 0 ≤ dst ∧ dst < n) : Inv near ex n dst (dist near ex n dst) [] :=
  bfs_inv n _ _ (inv_start near ex hd) (neg_start_le hd)
end Go.Proofs.Ytiihaabhjphaeaa.Bfs
/- Rows of numbers in order, without doubles: there is one for each set. Conditions: none. -/
namespace Go.Proofs.Ytiihaabhjphaeaa.Nb
/-- In order and without doubles. -/
def Up (l : List Int) : Prop := l.Pairwise (fun x y => x < y)
theorem up_uniq : ∀ {a b : List Int}, Up a → Up b → (∀ x, x ∈ a ↔ x ∈ b) → a = b
  | [], [], _, _, _ => rfl
  | [], y :: b, _, _, h => by
    have := (h y).2 List.mem_cons_self
    cases this
  | x :: a, [], _, _, h => by
    have := (h x).1 List.mem_cons_self
    cases this
  | x :: a, y :: b, ha, hb, h => by
    have h1 := List.pairwise_cons.1 ha
    have h2 := List.pairwise_cons.1 hb
    have e : x = y := by
      rcases List.mem_cons.1 ((h x).1 List.mem_cons_self) with e | m1
      · exact e
      · rcases List.mem_cons.1 ((h y).2 List.mem_cons_self) with e | m2
        · exact e.symm
        · have := h2.1 x m1
          have := h1.1 y m2
          omega
    subst e
    rw [up_uniq h1.2 h2.2 fun z => ?_]
    constructor
    · intro hz
      rcases List.mem_cons.1 ((h z).1 (List.mem_cons_of_mem _ hz)) with e | m
      · have := h1.1 z hz
        omega
      · exact m
    · intro hz
      rcases List.mem_cons.1 ((h z).2 (List.mem_cons_of_mem _ hz)) with e | m
      · have := h2.1 z hz
        omega
      · exact m
theorem compact_up {zs : List Int} (hs : zs.Pairwise (fun x y => x ≤ y)) : Up (Go.Lib.compact zs) ∧ ∀ x, x ∈ Go.Lib.compact zs ↔ x ∈ zs := by
  have hg : ∀ i j, i < j → j < zs.length → zs.toArray[i]! ≤ zs.toArray[j]! := by
    intro i j hij hj
    have := List.pairwise_iff_getElem.1 hs i j (by omega) hj hij
    rw [getElem!_pos zs.toArray i (by simp; omega), getElem!_pos zs.toArray j (by simp; omega)]
    simpa using this
  have key : ∀ m, m ≤ zs.length → Up (Go.Lib.compactUpTo zs.toArray m) ∧ ∀ x, x ∈ Go.Lib.compactUpTo zs.toArray m ↔ ∃ j, j < m ∧ zs.toArray[j]! = x := by
    intro m
    induction m with
    | zero => exact fun _ => ⟨by simp [Up, Go.Lib.compactUpTo], fun x => by simp [Go.Lib.compactUpTo]⟩
    | succ m ih =>
      intro hm
      obtain ⟨h1, h2⟩ := ih (by omega)
      rw [Go.Lib.compactUpTo_succ]
      by_cases hk : Go.Lib.keeps zs.toArray m = true
      · rw [if_pos hk]
        refine ⟨List.pairwise_append.2 ⟨h1, List.pairwise_singleton _ _, ?_⟩, ?_⟩
        · intro x hx y hy
          rw [List.mem_singleton] at hy
          subst hy
          obtain ⟨j, hj, rfl⟩ := (h2 x).1 hx
          have h3 := hg j m hj (by omega)
          have h5 : zs.toArray[m]! ≠ zs.toArray[m - 1]! := by
            intro e
            rw [Go.Lib.keeps_neg (by omega) e] at hk
            cases hk
          have h4 : zs.toArray[j]! ≤ zs.toArray[m - 1]! := by
            by_cases e : j = m - 1
            · rw [e]
              omega
            · exact hg j (m - 1) (by omega) (by omega)
          have h6 := hg (m - 1) m (by omega) (by omega)
          omega
        · intro x
          rw [List.mem_append, h2, List.mem_singleton]
          constructor
          · rintro (⟨j, hj, e⟩ | e)
            · exact ⟨j, by omega, e⟩
            · exact ⟨m, by omega, e.symm⟩
          · rintro ⟨j, hj, e⟩
            by_cases hjm : j = m
            · subst hjm
              exact .inr e.symm
            · exact .inl ⟨j, by omega, e⟩
      · rw [if_neg hk, List.append_nil]
        refine ⟨h1, fun x => ?_⟩
        rw [h2]
        have hm0 : 0 < m := by
          refine Nat.pos_of_ne_zero fun e => ?_
          subst e
          exact hk (Go.Lib.keeps_lt_one _ 0 (by omega))
        have he : zs.toArray[m]! = zs.toArray[m - 1]! := by
          refine Classical.byContradiction fun h => ?_
          exact hk (Go.Lib.keeps_pos h)
        constructor
        · rintro ⟨j, hj, e⟩
          exact ⟨j, by omega, e⟩
        · rintro ⟨j, hj, e⟩
          by_cases hjm : j = m
          · subst hjm
            exact ⟨j - 1, by omega, by rw [← he, e]⟩
          · exact ⟨j, by omega, e⟩
  obtain ⟨h1, h2⟩ := key zs.length (Nat.le_refl _)
  refine ⟨h1, fun x => ?_⟩
  show x ∈ Go.Lib.compactUpTo zs.toArray zs.length ↔ _
  rw [h2]
  constructor
  · rintro ⟨j, hj, rfl⟩
    rw [getElem!_pos zs.toArray j (by simpa using hj)]
    simp
  · intro hx
    obtain ⟨j, hj, e⟩ := List.getElem_of_mem hx
    refine ⟨j, hj, ?_⟩
    rw [getElem!_pos zs.toArray j (by simpa using hj)]
    simpa using e
theorem sorted_up (zs : List Int) : Up (Go.Lib.compact (zs.mergeSort fun x y => decide (x ≤ y))) ∧ ∀ x, x ∈ Go.Lib.compact (zs.mergeSort fun x y => decide (x ≤ y)) ↔ x ∈ zs := by
  have h1 := List.pairwise_mergeSort (le := fun x y : Int => decide (x ≤ y)) (by intro a b c; simp; omega) (by intro a b; simp; omega) zs
  have h2 := compact_up (zs := zs.mergeSort fun x y => decide (x ≤ y)) (h1.imp (by intro a b h; simpa using h))
  refine ⟨h2.1, fun x => ?_⟩
  rw [h2.2, List.mem_mergeSort]
/-- A number put into its place. -/
theorem up_put {out : List Int} {n : Int} {k : Nat} (hu : Up out) (hlt : ∀ x ∈ out.take k, x < n) (hge : ∀ x ∈ out.drop k, n < x) : Up (out.take k ++ n :: out.drop k) ∧ ∀ x, x ∈ out.take k ++ n :: out.drop k ↔ x ∈ out ∨ x = n := by
  have h0 := List.take_append_drop k out
  have hu' : Up (out.take k ++ out.drop k) := by rw [h0]; exact hu
  have h3 := List.pairwise_append.1 hu'
  refine ⟨List.pairwise_append.2 ⟨h3.1, List.pairwise_cons.2 ⟨hge, h3.2.1⟩, ?_⟩, ?_⟩
  · intro x hx y hy
    rcases List.mem_cons.1 hy with rfl | hy
    · exact hlt x hx
    · exact h3.2.2 x hx y hy
  · intro x
    have : x ∈ out ↔ x ∈ out.take k ∨ x ∈ out.drop k := by rw [← List.mem_append, h0]
    rw [this, List.mem_append, List.mem_cons]
    constructor
    · rintro (h | h | h)
      · exact .inl (.inl h)
      · exact .inr h
      · exact .inl (.inr h)
    · rintro ((h | h) | h)
      · exact .inl h
      · exact .inr (.inr h)
      · exact .inr (.inl h)
end Go.Proofs.Ytiihaabhjphaeaa.Nb
/- What neighbors, distances, next nodes and paths come to. Conditions: none. -/
namespace Go.Proofs.Ytiihaabhjphaeaa.fnTables
open Go.RowKit Go.Proofs.YtiihaabhjphaeaaW.PrintWords Go.Proofs.YtiihaabhjphaeaaW.PrintLast Go.Proofs.YtiihaabhjphaeaaW.PrintMore Go.Proofs.Ytiihaabhjphaeaa.QFnTables Go.Proofs.Ytiihaabhjphaeaa.Open Go.Proofs.Ytiihaabhjphaeaa.Kit Go.Proofs.Ytiihaabhjphaeaa.Nb Go.Proofs.Ytiihaabhjphaeaa.Bfs
theorem ixP (a n : Int) : impl_isIndex.f a n = some (decide (0 ≤ a ∧ a < n)) := by
  unfold impl_isIndex.f
  by_cases h : a ≥ 0
  · rw [if_pos h]
    simp [h]
  · rw [if_neg h]
    simp
    omega
theorem inP (a b c : Int) : spec_l1In.f a b c = some (decide (b ≤ a ∧ a ≤ c)) := by
  unfold spec_l1In.f
  by_cases h : a ≥ b
  · rw [if_pos h]
    simp [h]
  · rw [if_neg h]
    simp
    omega
theorem rgP (a b c : Int) : impl_InRange.f a b c = some (decide (b ≤ a ∧ a ≤ c)) := by
  unfold impl_InRange.f
  by_cases h : b ≤ a
  · rw [if_pos h]
    simp [h]
  · rw [if_neg h]
    simp
    omega
theorem drop_cons {α : Type} {xs ys : List α} {y z : α} {i : Nat} (h : xs.drop i = y :: ys) : i < xs.length ∧ xs.getD i z = y ∧ xs.drop (i + 1) = ys := by
  have hi : i < xs.length := by
    refine Nat.lt_of_not_le fun hn => ?_
    rw [List.drop_of_length_le hn] at h
    cases h
  rw [drop_getD hi z] at h
  injection h with h1 h2
  exact ⟨hi, h1, h2⟩
/-! ### neighbors -/
/-- The neighbors of a node that a link tells. -/
def nbOf (v : Int) (x : S134) : List Int := (if x.f0 = v then [x.f1] else []) ++ (if x.f1 = v then [x.f0] else [])
def nbRaw (l : List S134) (v : Int) : List Int := l.flatMap (nbOf v)
/-- The neighbors of a node, in order. -/
def nb (l : List S134) (v : Int) : List Int := Go.Lib.compact ((nbRaw l v).mergeSort fun x y => decide (x ≤ y))
def Links (l : List S134) (v y : Int) : Prop := ∃ x ∈ l, x.f0 = v ∧ x.f1 = y ∨ x.f1 = v ∧ x.f0 = y
theorem mem_nbOf {v y : Int} {x : S134} : y ∈ nbOf v x ↔ x.f0 = v ∧ x.f1 = y ∨ x.f1 = v ∧ x.f0 = y := by
  unfold nbOf
  rw [List.mem_append]
  constructor
  · rintro (h | h)
    · split at h
      · rename_i c
        exact .inl ⟨c, (List.mem_singleton.1 h).symm⟩
      · cases h
    · split at h
      · rename_i c
        exact .inr ⟨c, (List.mem_singleton.1 h).symm⟩
      · cases h
  · rintro (⟨h1, h2⟩ | ⟨h1, h2⟩)
    · left
      rw [if_pos h1]
      exact List.mem_singleton.2 h2.symm
    · right
      rw [if_pos h1]
      exact List.mem_singleton.2 h2.symm
theorem mem_nb {l : List S134} {v y : Int} : y ∈ nb l v ↔ Links l v y := by
  rw [nb, (sorted_up (nbRaw l v)).2 y, nbRaw, List.mem_flatMap]
  constructor
  · rintro ⟨x, hx, h⟩
    exact ⟨x, hx, mem_nbOf.1 h⟩
  · rintro ⟨x, hx, h⟩
    exact ⟨x, hx, mem_nbOf.2 h⟩
theorem nb_up (l : List S134) (v : Int) : Up (nb l v) := (sorted_up (nbRaw l v)).1
theorem nb_sym {l : List S134} {v y : Int} : y ∈ nb l v ↔ v ∈ nb l y := by
  rw [mem_nb, mem_nb]
  constructor <;>
  · rintro ⟨x, hx, ⟨h1, h2⟩ | ⟨h1, h2⟩⟩
    · exact ⟨x, hx, .inr ⟨h2, h1⟩⟩
    · exact ⟨x, hx, .inl ⟨h2, h1⟩⟩
theorem nbOf_len (v : Int) (x : S134) : (nbOf v x).length ≤ 2 := by
  unfold nbOf
  split <;> split <;> simp
theorem nbRaw_len (l : List S134) (v : Int) : (nbRaw l v).length ≤ 2 * l.length := by
  unfold nbRaw
  induction l with
  | nil => simp
  | cons x l ih =>
    rw [List.flatMap_cons, List.length_append, List.length_cons]
    have := nbOf_len v x
    omega
theorem nb_len (l : List S134) (v : Int) : (nb l v).length ≤ 2 * l.length := by
  have h1 : (nb l v).length ≤ ((nbRaw l v).mergeSort fun x y => decide (x ≤ y)).length := by
    unfold nb Go.Lib.compact Go.Lib.compactUpTo
    rw [List.length_map]
    exact Nat.le_trans (List.length_filter_le _ _) (by simp)
  rw [List.length_mergeSort] at h1
  have := nbRaw_len l v
  omega
theorem nbI_l0 {l : List S134} (hl : l.length ≤ 1048576) (v : Int) : ∀ (d i : Nat), i + d = l.length → Ev (fun k => impl_NeighborsIn.l0 k v (nbRaw (l.take i) v) l (l.length : Int) (i : Int)) (nb l v) := by
  intro d
  induction d with
  | zero =>
    intro i hi
    have hr := nbRaw_len l v
    rw [List.take_of_length_le (by omega)]
    refine Ev.step (fun k => by rw [impl_NeighborsIn.l0]) ?_
    refine Ev.ite_neg (by omega) (Ev.bind0 (a := (nbRaw l v).mergeSort fun x y => decide (x ≤ y)) ?_ (Ev.bind0 (a := nb l v) ?_ (Ev.now _)))
    · unfold slices_Sort_int_int.f
      rw [if_pos (by omega)]
    · unfold slices_Compact_int_int.f
      rw [if_pos (by rw [List.length_mergeSort]; omega)]
      rfl
  | succ d ih =>
    intro i hi
    have hr := nbRaw_len (l.take i) v
    rw [List.length_take] at hr
    have h := ih (i + 1) (by omega)
    have he : nbRaw (l.take (i + 1)) v = nbRaw (l.take i) v ++ nbOf v (rd_T134 l (i : Int)) := by
      unfold nbRaw
      rw [take_succ_getD (show i < l.length by omega) z134, List.flatMap_append]
      simp
      rfl
    rw [he] at h
    refine Ev.step (fun k => by rw [impl_NeighborsIn.l0]) ?_
    refine Ev.ite_pos (by omega) (Ev.ite_pos (by omega) (Ev.ite_pos (by omega) ?_))
    rw [w64n (by omega)]
    by_cases c1 : (rd_T134 l (i : Int)).f0 = v
    · refine Ev.ite_pos c1 (Ev.ite_pos (by omega) (Ev.bind0 rfl ?_))
      by_cases c2 : (rd_T134 l (i : Int)).f1 = v
      · refine Ev.ite_pos c2 (Ev.ite_pos (by rw [List.length_append, List.length_singleton]; omega) ?_)
        unfold nbOf at h
        rw [if_pos c1, if_pos c2, ← List.append_assoc] at h
        exact h
      · refine Ev.ite_neg c2 ?_
        unfold nbOf at h
        rw [if_pos c1, if_neg c2, List.append_nil] at h
        exact h
    · refine Ev.ite_neg c1 ?_
      by_cases c2 : (rd_T134 l (i : Int)).f1 = v
      · refine Ev.ite_pos c2 (Ev.ite_pos (by omega) ?_)
        unfold nbOf at h
        rw [if_neg c1, if_pos c2, List.nil_append] at h
        exact h
      · refine Ev.ite_neg c2 ?_
        unfold nbOf at h
        rw [if_neg c1, if_neg c2, List.append_nil, List.append_nil] at h
        exact h
theorem nbI {l : List S134} (hl : l.length ≤ 1048576) (v : Int) : Ev (fun k => impl_NeighborsIn.f k l v) (nb l v) := nbI_l0 hl v l.length 0 (by omega)
/-- The row is that of the neighbors which the first i links tell. -/
def NbTo (l : List S134) (v : Int) (i : Nat) (out : List Int) : Prop := Up out ∧ out.length ≤ i ∧ ∀ y, y ∈ out ↔ Links (l.take i) v y
theorem nbS_l1 {l : List S134} {v n : Int} {i : Nat} {out r : List Int} (hl : l.length ≤ 1048576) (hi : i < l.length) (hu : Up out) (ho : out.length ≤ i)
    (hk : ∀ out', Up out' → out'.length ≤ i + 1 → (∀ x, x ∈ out' ↔ x ∈ out ∨ x = n) → Ev (fun k => spec_NeighborsIn.l0 k l v out' ((i + 1 : Nat) : Int)) r) :
    ∀ (d q : Nat), q + d = out.length → (∀ x ∈ out.take q, x < n) → Ev (fun k => spec_NeighborsIn.l1 k l v out (i : Int) n (q : Int)) r := by
  intro d
  induction d with
  | zero =>
    intro q hq hlt
    have hp := up_put (k := q) hu hlt (by rw [List.drop_of_length_le (by omega)]; simp)
    have hlen : (out.take q ++ n :: out.drop q).length = out.length + 1 := by
      rw [List.length_append, List.length_cons, List.length_take, List.length_drop]
      omega
    have h := hk _ hp.1 (by omega) hp.2
    refine Ev.step (fun k => by rw [spec_NeighborsIn.l1]) ?_
    refine Ev.ite_neg (by omega) (Ev.ite_pos (by omega) (Ev.bind0 rfl (Ev.ite_pos (by omega) (Ev.ite_pos (by omega) ?_))))
    rw [Int.toNat_natCast, w64n (by omega)]
    refine Ev.bind0 rfl (Ev.ite_pos ?_ (Ev.bind0 rfl (Ev.bind0 rfl (Ev.ite_pos ?_ (Ev.bind0 rfl (Ev.bind0 rfl (Ev.ite_pos ?_ ?_)))))))
    · simp only [List.length_nil, List.length_take]
      omega
    · simp only [List.length_append, List.length_nil, List.length_take, List.length_cons]
      omega
    · simp only [List.length_append, List.length_nil, List.length_take, List.length_cons, List.length_drop]
      omega
    · rw [List.nil_append, List.append_assoc]
      exact h
  | succ d ih =>
    intro q hq hlt
    have hql : q < out.length := by omega
    refine Ev.step (fun k => by rw [spec_NeighborsIn.l1]) ?_
    refine Ev.ite_pos (by omega) (Ev.ite_pos (by omega) ?_)
    rw [rd_nat]
    by_cases c : out.getD q 0 < n
    · refine Ev.ite_pos c ?_
      rw [w64n (by omega)]
      refine ih (q + 1) (by omega) ?_
      intro x hx
      rw [take_succ_getD hql 0, List.mem_append, List.mem_singleton] at hx
      rcases hx with hx | rfl
      · exact hlt x hx
      · exact c
    · refine Ev.ite_neg c (Ev.ite_neg (by omega) ?_)
      rw [w64n (by omega)]
      by_cases c2 : out.getD q 0 = n
      · refine Ev.ite_pos c2 (hk out hu (by omega) fun x => ⟨.inl, ?_⟩)
        rintro (h | rfl)
        · exact h
        · rw [← c2]
          exact getD_mem hql 0
      · have hge : ∀ x ∈ out.drop q, n < x := by
          intro x hx
          have h1 : Up (out.drop q) := List.Pairwise.sublist (List.drop_sublist q out) hu
          rw [drop_getD hql 0] at h1 hx
          rcases List.mem_cons.1 hx with rfl | hx
          · omega
          · have := (List.pairwise_cons.1 h1).1 x hx
            omega
        have hp := up_put (k := q) hu hlt hge
        have hlen : (out.take q ++ n :: out.drop q).length = out.length + 1 := by
          rw [List.length_append, List.length_cons, List.length_take, List.length_drop]
          omega
        have h := hk _ hp.1 (by omega) hp.2
        refine Ev.ite_neg c2 (Ev.bind0 rfl (Ev.ite_pos (by omega) ?_))
        rw [Int.toNat_natCast]
        refine Ev.bind0 rfl (Ev.ite_pos ?_ (Ev.bind0 rfl (Ev.bind0 rfl (Ev.ite_pos ?_ (Ev.bind0 rfl (Ev.bind0 rfl (Ev.ite_pos ?_ ?_)))))))
        · simp only [List.length_nil, List.length_take]
          omega
        · simp only [List.length_append, List.length_nil, List.length_take, List.length_cons]
          omega
        · simp only [List.length_append, List.length_nil, List.length_take, List.length_cons, List.length_drop]
          omega
        · rw [List.nil_append, List.append_assoc]
          exact h
theorem nbS_l0 {l : List S134} (hl : l.length ≤ 1048576) (v : Int) : ∀ (d i : Nat) (out : List Int), i + d = l.length → NbTo l v i out → Ev (fun k => spec_NeighborsIn.l0 k l v out (i : Int)) (nb l v) := by
  intro d
  induction d with
  | zero =>
    intro i out hi ho
    refine Ev.step (fun k => by rw [spec_NeighborsIn.l0]) ?_
    refine Ev.ite_neg (by omega) (Ev.some (up_uniq ho.1 (nb_up l v) fun x => ?_))
    rw [ho.2.2 x, mem_nb, List.take_of_length_le (by omega)]
  | succ d ih =>
    intro i out hi ho
    have hL : ∀ y, Links (l.take (i + 1)) v y ↔ Links (l.take i) v y ∨ ((rd_T134 l (i : Int)).f0 = v ∧ (rd_T134 l (i : Int)).f1 = y ∨ (rd_T134 l (i : Int)).f1 = v ∧ (rd_T134 l (i : Int)).f0 = y) := by
      intro y
      unfold Links
      rw [take_succ_getD (show i < l.length by omega) z134]
      constructor
      · rintro ⟨x, hx, h⟩
        rcases List.mem_append.1 hx with hx | hx
        · exact .inl ⟨x, hx, h⟩
        · rw [List.mem_singleton.1 hx] at h
          exact .inr h
      · rintro (⟨x, hx, h⟩ | h)
        · exact ⟨x, List.mem_append_left _ hx, h⟩
        · exact ⟨_, List.mem_append_right _ (List.mem_singleton.2 rfl), h⟩
    refine Ev.step (fun k => by rw [spec_NeighborsIn.l0]) ?_
    refine Ev.ite_pos (by omega) (Ev.ite_pos (by omega) ?_)
    by_cases c1 : (rd_T134 l (i : Int)).f0 = v
    · refine Ev.ite_pos c1 ?_
      refine Ev.step (fun k => by rw [spec_NeighborsIn.j1]) ?_
      refine nbS_l1 (i := i) hl (by omega) ho.1 ho.2.1 (fun out' hu hlen hm => ih (i + 1) out' (by omega) ⟨hu, hlen, fun y => ?_⟩) out.length 0 (by omega) (by simp)
      rw [hm, hL, ho.2.2 y]
      constructor
      · rintro (h | h)
        · exact .inl h
        · exact .inr (.inl ⟨c1, h.symm⟩)
      · rintro (h | ⟨_, h⟩ | ⟨h1, h2⟩)
        · exact .inl h
        · exact .inr h.symm
        · exact .inr (by omega)
    · refine Ev.ite_neg c1 ?_
      by_cases c2 : (rd_T134 l (i : Int)).f1 = v
      · refine Ev.ite_pos c2 ?_
        refine Ev.step (fun k => by rw [spec_NeighborsIn.j1]) ?_
        refine nbS_l1 (i := i) hl (by omega) ho.1 ho.2.1 (fun out' hu hlen hm => ih (i + 1) out' (by omega) ⟨hu, hlen, fun y => ?_⟩) out.length 0 (by omega) (by simp)
        rw [hm, hL, ho.2.2 y]
        constructor
        · rintro (h | h)
          · exact .inl h
          · exact .inr (.inr ⟨c2, h.symm⟩)
        · rintro (h | ⟨h, _⟩ | ⟨_, h⟩)
          · exact .inl h
          · exact absurd h c1
          · exact .inr h.symm
      · refine Ev.ite_neg c2 ?_
        rw [w64n (by omega)]
        refine ih (i + 1) out (by omega) ⟨ho.1, by have := ho.2.1; omega, fun y => ?_⟩
        rw [hL, ho.2.2 y]
        constructor
        · exact .inl
        · rintro (h | ⟨h, _⟩ | ⟨h, _⟩)
          · exact h
          · exact absurd h c1
          · exact absurd h c2
theorem nbS {l : List S134} (hl : l.length ≤ 1048576) (v : Int) : Ev (fun k => spec_NeighborsIn.f k l v) (nb l v) := by
  refine nbS_l0 hl v l.length 0 [] (by omega) ⟨List.Pairwise.nil, by simp, fun y => ?_⟩
  simp [Links]
/-! ### distances -/
def exB (first dst x : Int) : Bool := decide (x = dst ∨ x < first)
/-- The distances to dst. -/
def dists (l : List S134) (n first dst : Int) : List Int := if (1 ≤ n ∧ n ≤ 12) ∧ 0 ≤ dst ∧ dst < n then dist (nb l) (exB first dst) n.toNat dst else []
theorem dists_inv {l : List S134} {n first dst : Int} (h : (1 ≤ n ∧ n ≤ 12) ∧ 0 ≤ dst ∧ dst < n) : Inv (nb l) (exB first dst) n.toNat dst (dists l n first dst) [] := by
  unfold dists
  rw [if_pos h]
  exact dist_inv _ _ ⟨h.2.1, by omega⟩
theorem vis_len {n : Nat} {c : Int} (hc : 0 ≤ c) {ys d q : List Int} (hd : d.length = n) : (vis n c ys d q).1.length = n := by
  obtain ⟨_, _, h, _⟩ := vis_spec hc ys d q hd
  exact h
theorem distI_l2 {l : List S134} {n : Nat} {first dst x c : Int} {near r : List Int} (hn : n ≤ 12) (hx : 0 ≤ x ∧ x < n) (hc : 1 ≤ c ∧ c ≤ 100) (hnear : near.length ≤ 10000000) :
    ∀ (ys : List Int) (i : Nat) (d q : List Int), near.drop i = ys → i ≤ near.length → d.length = n → rd d x = c - 1 → q.length + neg d ≤ 100 →
      Ev (fun k => impl_DistancesTo.l1 k l (n : Int) first dst (vis n c ys d q).1 (vis n c ys d q).2) r → Ev (fun k => impl_DistancesTo.l2 k l (n : Int) first dst d (x :: q) x near (near.length : Int) (i : Int)) r
  | [], i, d, q, hy, hi, hd, hr, hq, h => by
    have hi' : near.length ≤ i := List.drop_eq_nil_iff.1 hy
    refine Ev.step (fun k => by rw [impl_DistancesTo.l2]) ?_
    refine Ev.ite_neg (by omega) (Ev.ite_pos ?_ h)
    rw [List.length_cons]
    omega
  | y :: ys, i, d, q, hy, hi, hd, hr, hq, h => by
    obtain ⟨hi', hg, hy'⟩ := drop_cons (z := 0) hy
    refine Ev.step (fun k => by rw [impl_DistancesTo.l2]) ?_
    refine Ev.ite_pos (by omega) (Ev.ite_pos (by omega) (Ev.ite_pos (by omega) ?_))
    rw [rd_nat, hg, w64n (by omega)]
    refine Ev.bind0 (ixP y n) ?_
    by_cases c1 : 0 ≤ y ∧ y < n
    · refine Ev.ite_pos (decide_eq_true c1) (Ev.ite_pos c1.1 (Ev.ite_pos (by omega) ?_))
      by_cases c2 : rd d y < 0
      · refine Ev.ite_pos c2 (Ev.ite_pos hx.1 (Ev.ite_pos (by omega) (Ev.ite_pos (by rw [List.length_cons]; omega) ?_)))
        have hng := neg_set d y.toNat c (by omega) c2 (by omega)
        rw [hr, show c - 1 + 1 = c by omega, w64 (by omega) (by omega)]
        have hxy : y ≠ x := by
          intro e
          subst e
          omega
        refine distI_l2 hn hx hc hnear ys (i + 1) (d.set y.toNat c) (q ++ [y]) hy' (by omega) (by rw [List.length_set]; exact hd) ?_ ?_ ?_
        · rw [rd_set c1.1 hx.1 (by omega), if_neg hxy, hr]
        · rw [List.length_append, List.length_singleton]
          omega
        · simp only [vis, if_pos (show 0 ≤ y ∧ y < n ∧ rd d y < 0 from ⟨c1.1, c1.2, c2⟩)] at h
          exact h
      · refine Ev.ite_neg c2 (distI_l2 hn hx hc hnear ys (i + 1) d q hy' (by omega) hd hr hq ?_)
        simp only [vis, if_neg (show ¬ (0 ≤ y ∧ y < n ∧ rd d y < 0) from fun h => c2 h.2.2)] at h
        exact h
    · refine Ev.ite_neg (by simpa using c1) (distI_l2 hn hx hc hnear ys (i + 1) d q hy' (by omega) hd hr hq ?_)
      simp only [vis, if_neg (show ¬ (0 ≤ y ∧ y < n ∧ rd d y < 0) from fun h => c1 ⟨h.1, h.2.1⟩)] at h
      exact h
theorem distI_l1 {l : List S134} (hl : l.length ≤ 1048576) {n : Nat} {first dst : Int} (hn : n ≤ 12) : ∀ (f : Nat) (d q : List Int), Inv (nb l) (exB first dst) n dst d q → neg d + q.length ≤ f → f ≤ 100 →
    Ev (fun k => impl_DistancesTo.l1 k l (n : Int) first dst d q) (bfs (nb l) (exB first dst) n f d q)
  | 0, d, [], _, _, _ => by
    refine Ev.step (fun k => by rw [impl_DistancesTo.l1]) ?_
    exact Ev.ite_neg (by simp) (Ev.now _)
  | 0, d, x :: q, _, h, _ => by simp at h
  | f + 1, d, [], _, _, _ => by
    refine Ev.step (fun k => by rw [impl_DistancesTo.l1]) ?_
    exact Ev.ite_neg (by simp) (Ev.now _)
  | f + 1, d, x :: q, H, hf, hf1 => by
    rw [List.length_cons] at hf
    have hrd : rd (x :: q) 0 = x := rfl
    refine Ev.step (fun k => by rw [impl_DistancesTo.l1]) ?_
    refine Ev.ite_pos (by rw [List.length_cons]; omega) (Ev.ite_pos (by rw [List.length_cons]; omega) ?_)
    rw [hrd]
    have hb := H.qin x List.mem_cons_self
    have hbd := H.bound x hb.1 hb.2.1
    have go : exB first dst x = true → Ev (fun k => impl_DistancesTo.j3 k l (n : Int) first dst d (x :: q) x false) (bfs (nb l) (exB first dst) n (f + 1) d (x :: q)) := by
      intro hx
      have hs := H.step hx
      refine Ev.step (fun k => by rw [impl_DistancesTo.j3]) ?_
      refine Ev.ite_neg (by simp) (Ev.bind (nbI hl x) ?_)
      have hnl := nb_len l x
      refine distI_l2 (i := 0) hn ⟨hb.1, hb.2.1⟩ (c := rd d x + 1) (by omega) (by omega) _ _ _ rfl (by omega) H.len (by omega) (by omega) ?_
      rw [List.drop_zero]
      simp only [bfs, if_pos hx]
      rw [List.length_cons] at hs
      exact distI_l1 hl hn f _ _ hs.1 (by omega) (by omega)
    by_cases c : x = dst
    · exact Ev.ite_pos c (go (by simp [exB, c]))
    · refine Ev.ite_neg c ?_
      by_cases c2 : x < first
      · rw [decide_eq_false (by omega : ¬ x ≥ first)]
        exact go (by simp [exB, c2])
      · have hx : ¬ exB first dst x = true := by simp [exB, c]; omega
        rw [decide_eq_true (by omega : x ≥ first)]
        refine Ev.step (fun k => by rw [impl_DistancesTo.j3]) ?_
        refine Ev.ite_pos rfl (Ev.ite_pos (by rw [List.length_cons]; omega) ?_)
        simp only [bfs, if_neg hx]
        exact distI_l1 hl hn f d q (H.skip hx) (by omega) (by omega)
theorem distI_l0 {l : List S134} (hl : l.length ≤ 1048576) {n : Nat} {first dst : Int} (hn : n ≤ 12) (hd : 0 ≤ dst ∧ dst < n) : ∀ (m i : Nat), i + m = n →
    Ev (fun k => impl_DistancesTo.l0 k l (n : Int) first dst (List.replicate i (-1)) (n : Int) (i : Int)) (dist (nb l) (exB first dst) n dst) := by
  intro m
  induction m with
  | zero =>
    intro i hi
    obtain rfl : i = n := by omega
    refine Ev.step (fun k => by rw [impl_DistancesTo.l0]) ?_
    refine Ev.ite_neg (by omega) (Ev.ite_pos hd.1 (Ev.ite_pos (by rw [List.length_replicate]; exact hd.2) ?_))
    exact distI_l1 hl hn i _ _ (inv_start _ _ hd) (neg_start_le hd) (by omega)
  | succ m ih =>
    intro i hi
    refine Ev.step (fun k => by rw [impl_DistancesTo.l0]) ?_
    refine Ev.ite_pos (by omega) (Ev.ite_pos (by rw [List.length_replicate]; omega) ?_)
    rw [w64n (by omega), show List.replicate i (-1 : Int) ++ [-1] = List.replicate (i + 1) (-1) from List.replicate_succ'.symm]
    exact ih (i + 1) (by omega)
theorem distI {l : List S134} (hl : l.length ≤ 1048576) (n first dst : Int) : Ev (fun k => impl_DistancesTo.f k l n first dst) (dists l n first dst) := by
  unfold impl_DistancesTo.f
  refine Ev.bind0 rfl (Ev.bind0 (a := decide (1 ≤ n ∧ n ≤ 12)) ?_ ?_)
  · unfold impl_isNumber.f
    rw [rgP]
    rfl
  · unfold dists
    by_cases c1 : 1 ≤ n ∧ n ≤ 12
    · refine Ev.ite_pos (decide_eq_true c1) (Ev.bind0 (ixP dst n) ?_)
      by_cases c2 : 0 ≤ dst ∧ dst < n
      · rw [decide_eq_true c2, if_pos ⟨c1, c2⟩]
        refine Ev.step (fun k => by rw [impl_DistancesTo.j0]) ?_
        refine Ev.ite_neg (by simp) ?_
        have h := distI_l0 hl (n := n.toNat) (first := first) (dst := dst) (by omega) (by omega) n.toNat 0 (by omega)
        rw [Int.toNat_of_nonneg (by omega)] at h
        exact h
      · rw [decide_eq_false c2, if_neg (fun h => c2 h.2)]
        refine Ev.step (fun k => by rw [impl_DistancesTo.j0]) ?_
        exact Ev.ite_pos rfl (Ev.now _)
    · refine Ev.ite_neg (by simpa using c1) ?_
      rw [if_neg (fun h => c1 h.1)]
      refine Ev.step (fun k => by rw [impl_DistancesTo.j0]) ?_
      exact Ev.ite_pos rfl (Ev.now _)
theorem distS_l2 {l : List S134} {n : Nat} {first dst x c : Int} {near r pre : List Int} (hn : n ≤ 12) (hx : 0 ≤ x ∧ x < n) (hc : 1 ≤ c ∧ c ≤ 100) (hnear : near.length ≤ 10000000) (hp : pre.length ≤ 1000) :
    ∀ (ys : List Int) (i : Nat) (d q : List Int), near.drop i = ys → i ≤ near.length → d.length = n → rd d x = c - 1 → q.length + neg d ≤ 100 →
      Ev (fun k => spec_DistancesTo.l1 k l (n : Int) first dst (vis n c ys d q).1 (pre ++ x :: (vis n c ys d q).2) ((pre.length + 1 : Nat) : Int)) r → Ev (fun k => spec_DistancesTo.l2 k l (n : Int) first dst d (pre ++ x :: q) (pre.length : Int) x near (i : Int)) r
  | [], i, d, q, hy, hi, hd, hr, hq, h => by
    have hi' : near.length ≤ i := List.drop_eq_nil_iff.1 hy
    refine Ev.step (fun k => by rw [spec_DistancesTo.l2]) ?_
    refine Ev.ite_neg (by omega) ?_
    rw [w64n (by omega)]
    exact h
  | y :: ys, i, d, q, hy, hi, hd, hr, hq, h => by
    obtain ⟨hi', hg, hy'⟩ := drop_cons (z := 0) hy
    refine Ev.step (fun k => by rw [spec_DistancesTo.l2]) ?_
    refine Ev.ite_pos (by omega) (Ev.ite_pos (by omega) ?_)
    rw [rd_nat, hg, w64n (by omega), w64 (x := (n : Int) - 1) (by omega) (by omega)]
    refine Ev.bind0 (inP y 0 ((n : Int) - 1)) ?_
    by_cases c1 : 0 ≤ y ∧ y ≤ (n : Int) - 1
    · refine Ev.ite_pos (decide_eq_true c1) (Ev.ite_pos c1.1 (Ev.ite_pos (by omega) ?_))
      by_cases c2 : rd d y < 0
      · refine Ev.ite_pos c2 (Ev.ite_pos hx.1 (Ev.ite_pos (by omega) (Ev.ite_pos (by rw [List.length_append, List.length_cons]; omega) ?_)))
        have hng := neg_set d y.toNat c (by omega) c2 (by omega)
        rw [hr, show c - 1 + 1 = c by omega, w64 (x := c) (by omega) (by omega)]
        have hxy : y ≠ x := by
          intro e
          subst e
          omega
        rw [List.append_assoc, List.cons_append]
        refine distS_l2 hn hx hc hnear hp ys (i + 1) (d.set y.toNat c) (q ++ [y]) hy' (by omega) (by rw [List.length_set]; exact hd) ?_ ?_ ?_
        · rw [rd_set c1.1 hx.1 (by omega), if_neg hxy, hr]
        · rw [List.length_append, List.length_singleton]
          omega
        · simp only [vis, if_pos (show 0 ≤ y ∧ y < n ∧ rd d y < 0 from ⟨c1.1, by omega, c2⟩)] at h
          exact h
      · refine Ev.ite_neg c2 (distS_l2 hn hx hc hnear hp ys (i + 1) d q hy' (by omega) hd hr hq ?_)
        simp only [vis, if_neg (show ¬ (0 ≤ y ∧ y < n ∧ rd d y < 0) from fun h => c2 h.2.2)] at h
        exact h
    · refine Ev.ite_neg (by simpa using c1) (distS_l2 hn hx hc hnear hp ys (i + 1) d q hy' (by omega) hd hr hq ?_)
      simp only [vis, if_neg (show ¬ (0 ≤ y ∧ y < n ∧ rd d y < 0) from fun h => c1 ⟨h.1, by have := h.2.1; omega⟩)] at h
      exact h
theorem rd_pre (pre q : List Int) (x : Int) : rd (pre ++ x :: q) (pre.length : Int) = x := by
  rw [rd_nat]
  exact getD_mid pre q x 0 rfl
theorem distS_l1 {l : List S134} (hl : l.length ≤ 1048576) {n : Nat} {first dst : Int} (hn : n ≤ 12) : ∀ (f : Nat) (d q pre : List Int), Inv (nb l) (exB first dst) n dst d q → neg d + q.length ≤ f → f + pre.length ≤ 100 →
    Ev (fun k => spec_DistancesTo.l1 k l (n : Int) first dst d (pre ++ q) (pre.length : Int)) (bfs (nb l) (exB first dst) n f d q)
  | 0, d, [], pre, _, _, _ => by
    refine Ev.step (fun k => by rw [spec_DistancesTo.l1]) ?_
    exact Ev.ite_neg (by simp) (Ev.now _)
  | 0, d, x :: q, pre, _, h, _ => by simp at h
  | f + 1, d, [], pre, _, _, _ => by
    refine Ev.step (fun k => by rw [spec_DistancesTo.l1]) ?_
    exact Ev.ite_neg (by simp) (Ev.now _)
  | f + 1, d, x :: q, pre, H, hf, hf1 => by
    rw [List.length_cons] at hf
    refine Ev.step (fun k => by rw [spec_DistancesTo.l1]) ?_
    refine Ev.ite_pos (by rw [List.length_append, List.length_cons]; omega) (Ev.ite_pos (by omega) ?_)
    rw [rd_pre]
    have hb := H.qin x List.mem_cons_self
    have hbd := H.bound x hb.1 hb.2.1
    have next : ∀ d' q', Inv (nb l) (exB first dst) n dst d' q' → neg d' + q'.length ≤ f → Ev (fun k => spec_DistancesTo.l1 k l (n : Int) first dst d' (pre ++ x :: q') ((pre.length + 1 : Nat) : Int)) (bfs (nb l) (exB first dst) n f d' q') := by
      intro d' q' H' hf'
      have h := distS_l1 hl hn f d' q' (pre ++ [x]) H' hf' (by rw [List.length_append, List.length_singleton]; omega)
      rw [List.length_append, List.length_singleton, List.append_assoc] at h
      exact h
    have go : exB first dst x = true → Ev (fun k => spec_DistancesTo.j2 k l (n : Int) first dst d (pre ++ x :: q) (pre.length : Int) x false) (bfs (nb l) (exB first dst) n (f + 1) d (x :: q)) := by
      intro hx
      have hs := H.step hx
      refine Ev.step (fun k => by rw [spec_DistancesTo.j2]) ?_
      refine Ev.ite_neg (by simp) (Ev.bind (nbS hl x) ?_)
      have hnl := nb_len l x
      refine distS_l2 (i := 0) hn ⟨hb.1, hb.2.1⟩ (c := rd d x + 1) (by omega) (by omega) (by omega) _ _ _ rfl (by omega) H.len (by omega) (by omega) ?_
      rw [List.drop_zero]
      simp only [bfs, if_pos hx]
      rw [List.length_cons] at hs
      exact next _ _ hs.1 (by omega)
    by_cases c : x = dst
    · exact Ev.ite_pos c (go (by simp [exB, c]))
    · refine Ev.ite_neg c ?_
      by_cases c2 : x < first
      · rw [decide_eq_false (by omega : ¬ x ≥ first)]
        exact go (by simp [exB, c2])
      · have hx : ¬ exB first dst x = true := by simp [exB, c]; omega
        rw [decide_eq_true (by omega : x ≥ first)]
        refine Ev.step (fun k => by rw [spec_DistancesTo.j2]) ?_
        refine Ev.ite_pos rfl ?_
        rw [w64n (by omega)]
        simp only [bfs, if_neg hx]
        exact next d q (H.skip hx) (by omega)
theorem distS_l0 {l : List S134} (hl : l.length ≤ 1048576) {n : Nat} {first dst : Int} (hn : n ≤ 12) (hd : 0 ≤ dst ∧ dst < n) : ∀ (m i : Nat), i + m = n →
    Ev (fun k => spec_DistancesTo.l0 k l (n : Int) first dst (List.replicate i (-1)) (i : Int)) (dist (nb l) (exB first dst) n dst) := by
  intro m
  induction m with
  | zero =>
    intro i hi
    obtain rfl : i = n := by omega
    refine Ev.step (fun k => by rw [spec_DistancesTo.l0]) ?_
    refine Ev.ite_neg (by omega) (Ev.ite_pos hd.1 (Ev.ite_pos (by rw [List.length_replicate]; exact hd.2) ?_))
    exact distS_l1 hl hn i _ _ [] (inv_start _ _ hd) (neg_start_le hd) (by simp; omega)
  | succ m ih =>
    intro i hi
    refine Ev.step (fun k => by rw [spec_DistancesTo.l0]) ?_
    refine Ev.ite_pos (by omega) (Ev.ite_pos (by rw [List.length_replicate]; omega) ?_)
    rw [w64n (by omega), show List.replicate i (-1 : Int) ++ [-1] = List.replicate (i + 1) (-1) from List.replicate_succ'.symm]
    exact ih (i + 1) (by omega)
theorem okP (n dst : Int) : spec_l14Ok.f n dst = some (decide ((1 ≤ n ∧ n ≤ 12) ∧ 0 ≤ dst ∧ dst < n)) := by
  unfold spec_l14Ok.f
  rw [inP, Option.bind_some]
  by_cases c : 1 ≤ n ∧ n ≤ 12
  · rw [if_pos (decide_eq_true c), inP, Option.bind_some, w64 (by omega) (by omega)]
    congr 1
    rw [decide_eq_decide]
    omega
  · rw [if_neg (by simpa using c)]
    congr 1
    rw [eq_comm, decide_eq_false_iff_not]
    exact fun h => c h.1
theorem distS {l : List S134} (hl : l.length ≤ 1048576) (n first dst : Int) : Ev (fun k => spec_DistancesTo.f k l n first dst) (dists l n first dst) := by
  unfold spec_DistancesTo.f
  refine Ev.bind0 (okP n dst) ?_
  unfold dists
  by_cases c : (1 ≤ n ∧ n ≤ 12) ∧ 0 ≤ dst ∧ dst < n
  · refine Ev.ite_pos (decide_eq_true c) ?_
    rw [if_pos c]
    have h := distS_l0 hl (n := n.toNat) (first := first) (dst := dst) (by omega) (by omega) n.toNat 0 (by omega)
    rw [Int.toNat_of_nonneg (by omega)] at h
    exact h
  · refine Ev.ite_neg (by rw [decide_eq_true_iff]; exact c) ?_
    rw [if_neg c]
    exact Ev.now _
/-! ### next nodes -/
/-- A neighbor that is a way on from a node with the distance dx. -/
def nxB (n first dst : Int) (d : List Int) (dx y : Int) : Bool := decide (dx > 0 ∧ (0 ≤ y ∧ y < n) ∧ (y < first ∨ y = dst) ∧ rd d y = dx - 1)
def nxt (l : List S134) (n first dst : Int) (d : List Int) (x : Nat) : Int := ((nb l (x : Int)).find? (nxB n first dst d (rd d (x : Int)))).getD (-1)
def nextRow (l : List S134) (n first dst : Int) (d : List Int) : List Int := (List.range d.length).map (nxt l n first dst d)
def nextsTo (l : List S134) (n first dst : Int) : List Int := nextRow l n first dst (dists l n first dst)
/-- Distances that fit a table of n nodes. -/
def Fit (n : Int) (d : List Int) : Prop := (d = [] ∨ d.length = n.toNat ∧ 0 ≤ n ∧ n ≤ 12) ∧ ∀ y : Int, 0 ≤ y → y < d.length → -1 ≤ rd d y ∧ rd d y < 100
theorem dists_fit (l : List S134) (n first dst : Int) : Fit n (dists l n first dst) := by
  by_cases c : (1 ≤ n ∧ n ≤ 12) ∧ 0 ≤ dst ∧ dst < n
  · have H := dists_inv (l := l) (first := first) c
    refine ⟨.inr ⟨H.len, by omega, by omega⟩, fun y h0 h1 => ?_⟩
    have hl := H.len
    have := H.low y h0 (by omega)
    have := H.bound y h0 (by omega)
    omega
  · have e : dists l n first dst = [] := by
      unfold dists
      rw [if_neg c]
    rw [e]
    refine ⟨.inl rfl, fun y h0 h1 => ?_⟩
    rw [List.length_nil] at h1
    omega
theorem find_step {α : Type} (p : α → Bool) (y : α) (ys : List α) (h : p y = false) : (y :: ys).find? p = ys.find? p := by rw [List.find?_cons, h]
theorem nextI_l1 {l : List S134} {n first dst : Int} {d out near r : List Int} {x : Nat} (hd : d.length = n.toNat ∧ 0 ≤ n ∧ n ≤ 12) (hf : Fit n d) (hx : x < d.length) (hnear : near.length ≤ 10000000) (hout : out.length ≤ 100)
    (hk : ∀ v : Int, v = (near.find? (nxB n first dst d (rd d (x : Int)))).getD (-1) → Ev (fun k => impl_NextTo.l0 k l n first dst (out ++ [v]) d d (d.length : Int) ((x + 1 : Nat) : Int)) r) :
    ∀ (ys : List Int) (i : Nat) (cur : Int), near.drop i = ys → i ≤ near.length → (cur = -1 ∧ (ys.find? (nxB n first dst d (rd d (x : Int)))).getD (-1) = (near.find? (nxB n first dst d (rd d (x : Int)))).getD (-1) ∨ 0 ≤ cur ∧ cur = (near.find? (nxB n first dst d (rd d (x : Int)))).getD (-1)) →
      Ev (fun k => impl_NextTo.l1 k l n first dst out d (rd d (x : Int)) cur d (d.length : Int) (x : Int) near (near.length : Int) (i : Int)) r
  | [], i, cur, hy, hi, hc => by
    have hi' : near.length ≤ i := List.drop_eq_nil_iff.1 hy
    have hd2 := hf.2 (x : Int) (by omega) (by omega)
    refine Ev.step (fun k => by rw [impl_NextTo.l1]) ?_
    refine Ev.ite_neg (by omega) (Ev.ite_pos (by omega) ?_)
    rw [w64n (by omega)]
    refine hk cur ?_
    rcases hc with ⟨e, h⟩ | ⟨_, h⟩
    · rw [← h, e]
      rfl
    · exact h
  | y :: ys, i, cur, hy, hi, hc => by
    obtain ⟨hi', hg, hy'⟩ := drop_cons (z := 0) hy
    have hd2 := hf.2 (x : Int) (by omega) (by omega)
    refine Ev.step (fun k => by rw [impl_NextTo.l1]) ?_
    refine Ev.ite_pos (by omega) (Ev.ite_pos (by omega) (Ev.ite_pos (by omega) ?_))
    rw [rd_nat near, hg, w64n (by omega), w64 (x := rd d (x : Int) - 1) (by omega) (by omega)]
    rcases hc with ⟨e, h⟩ | ⟨h0, h⟩
    · subst e
      have skip : nxB n first dst d (rd d (x : Int)) y = false → Ev (fun k => impl_NextTo.l1 k l n first dst out d (rd d (x : Int)) (-1) d (d.length : Int) (x : Int) near (near.length : Int) ((i + 1 : Nat) : Int)) r := fun hb =>
        nextI_l1 hd hf hx hnear hout hk ys (i + 1) (-1) hy' (by omega) (.inl ⟨rfl, by rw [← h, find_step _ _ _ hb]⟩)
      have hit : nxB n first dst d (rd d (x : Int)) y = true → Ev (fun k => impl_NextTo.l1 k l n first dst out d (rd d (x : Int)) y d (d.length : Int) (x : Int) near (near.length : Int) ((i + 1 : Nat) : Int)) r := fun hb =>
        nextI_l1 hd hf hx hnear hout hk ys (i + 1) y hy' (by omega) (.inr ⟨by simp [nxB] at hb; omega, by rw [← h, List.find?_cons, hb]; rfl⟩)
      refine Ev.ite_pos (by omega) ?_
      by_cases c0 : rd d (x : Int) > 0
      · refine Ev.ite_pos c0 (Ev.bind0 (ixP y n) ?_)
        by_cases c1 : 0 ≤ y ∧ y < n
        · refine Ev.ite_pos (decide_eq_true c1) ?_
          have fin : (y < first ∨ y = dst) → Ev (fun k => if 0 ≤ y then (if y < (d.length : Int) then (if rd d y = rd d (x : Int) - 1 then impl_NextTo.l1 k l n first dst out d (rd d (x : Int)) y d (d.length : Int) (x : Int) near (near.length : Int) ((i + 1 : Nat) : Int) else impl_NextTo.l1 k l n first dst out d (rd d (x : Int)) (-1) d (d.length : Int) (x : Int) near (near.length : Int) ((i + 1 : Nat) : Int)) else none) else none) r := by
            intro hfd
            refine Ev.ite_pos c1.1 (Ev.ite_pos (by omega) ?_)
            by_cases c3 : rd d y = rd d (x : Int) - 1
            · exact Ev.ite_pos c3 (hit (by simp [nxB]; omega))
            · exact Ev.ite_neg c3 (skip (by simp [nxB]; omega))
          by_cases c2 : y < first
          · exact Ev.ite_pos c2 (fin (.inl c2))
          · refine Ev.ite_neg c2 ?_
            by_cases c4 : y = dst
            · exact Ev.ite_pos c4 (fin (.inr c4))
            · exact Ev.ite_neg c4 (skip (by simp [nxB]; omega))
        · exact Ev.ite_neg (by simpa using c1) (skip (by simp [nxB]; omega))
      · exact Ev.ite_neg c0 (skip (by simp [nxB]; omega))
    · exact Ev.ite_neg (by omega) (nextI_l1 hd hf hx hnear hout hk ys (i + 1) cur hy' (by omega) (.inr ⟨h0, h⟩))
theorem nextI_l0 {l : List S134} (hl : l.length ≤ 1048576) {n first dst : Int} {d : List Int} (hf : Fit n d) : ∀ (m x : Nat), x + m = d.length →
    Ev (fun k => impl_NextTo.l0 k l n first dst ((List.range x).map (nxt l n first dst d)) d d (d.length : Int) (x : Int)) (nextRow l n first dst d) := by
  intro m
  induction m with
  | zero =>
    intro x hx
    obtain rfl : x = d.length := by omega
    refine Ev.step (fun k => by rw [impl_NextTo.l0]) ?_
    exact Ev.ite_neg (by omega) (Ev.now _)
  | succ m ih =>
    intro x hx
    have hd : d.length = n.toNat ∧ 0 ≤ n ∧ n ≤ 12 := by
      rcases hf.1 with rfl | h
      · rw [List.length_nil] at hx
        omega
      · exact h
    have hnl := nb_len l (x : Int)
    refine Ev.step (fun k => by rw [impl_NextTo.l0]) ?_
    refine Ev.ite_pos (by omega) (Ev.ite_pos (by omega) (Ev.ite_pos (by omega) (Ev.bind (nbI hl (x : Int)) ?_)))
    refine nextI_l1 hd hf (by omega) (by omega) (by simp; omega) (fun v hv => ?_) _ 0 (-1) rfl (by omega) (.inl ⟨rfl, rfl⟩)
    have h := ih (x + 1) (by omega)
    rw [List.range_succ, List.map_append] at h
    rw [hv]
    exact h
theorem nextI {l : List S134} (hl : l.length ≤ 1048576) (n first dst : Int) : Ev (fun k => impl_NextTo.f k l n first dst) (nextsTo l n first dst) := by
  unfold impl_NextTo.f
  exact Ev.bind (distI hl n first dst) (nextI_l0 hl (dists_fit l n first dst) (dists l n first dst).length 0 (by omega))
theorem nextS_l1 {l : List S134} {n first dst : Int} {d out near r : List Int} {x : Nat} (hd : d.length = n.toNat ∧ 0 ≤ n ∧ n ≤ 12) (hf : Fit n d) (hx : x < d.length) (hnear : near.length ≤ 10000000) (hout : out.length ≤ 100)
    (hk : ∀ v : Int, v = (near.find? (nxB n first dst d (rd d (x : Int)))).getD (-1) → Ev (fun k => spec_NextTo.l0 k l n first dst (out ++ [v]) d ((x + 1 : Nat) : Int)) r) :
    ∀ (ys : List Int) (i : Nat) (cur : Int), near.drop i = ys → i ≤ near.length → (cur = -1 ∧ (ys.find? (nxB n first dst d (rd d (x : Int)))).getD (-1) = (near.find? (nxB n first dst d (rd d (x : Int)))).getD (-1) ∨ 0 ≤ cur ∧ cur = (near.find? (nxB n first dst d (rd d (x : Int)))).getD (-1)) →
      Ev (fun k => spec_NextTo.l1 k l n first dst out d (x : Int) cur near (i : Int)) r := by
  have fin : ∀ (i : Nat) (v : Int), v = (near.find? (nxB n first dst d (rd d (x : Int)))).getD (-1) → Ev (fun k => spec_NextTo.j2 k l n first dst out d (x : Int) v near (i : Int) false) r := by
    intro i v hv
    refine Ev.step (fun k => by rw [spec_NextTo.j2]) ?_
    refine Ev.ite_neg (by simp) (Ev.ite_pos (by omega) ?_)
    rw [w64n (by omega)]
    exact hk v hv
  intro ys
  induction ys with
  | nil =>
    intro i cur hy hi hc
    have hi' : near.length ≤ i := List.drop_eq_nil_iff.1 hy
    refine Ev.step (fun k => by rw [spec_NextTo.l1]) ?_
    refine Ev.ite_neg (by omega) (fin i cur ?_)
    rcases hc with ⟨e, h⟩ | ⟨_, h⟩
    · rw [← h, e]
      rfl
    · exact h
  | cons y ys ih =>
    intro i cur hy hi hc
    obtain ⟨hi', hg, hy'⟩ := drop_cons (z := 0) hy
    have hd2 := hf.2 (x : Int) (by omega) (by omega)
    refine Ev.step (fun k => by rw [spec_NextTo.l1]) ?_
    refine Ev.ite_pos (by omega) (Ev.ite_pos (by omega) (Ev.ite_pos (by omega) ?_))
    by_cases c0 : rd d (x : Int) > 0
    · refine Ev.ite_pos c0 ?_
      rcases hc with ⟨e, h⟩ | ⟨h0, h⟩
      · subst e
        have skip : nxB n first dst d (rd d (x : Int)) y = false → Ev (fun k => spec_NextTo.l1 k l n first dst out d (x : Int) (-1) near ((i + 1 : Nat) : Int)) r := fun hb =>
          ih (i + 1) (-1) hy' (by omega) (.inl ⟨rfl, by rw [← h, find_step _ _ _ hb]⟩)
        have hit : nxB n first dst d (rd d (x : Int)) y = true → Ev (fun k => spec_NextTo.l1 k l n first dst out d (x : Int) y near ((i + 1 : Nat) : Int)) r := fun hb =>
          ih (i + 1) y hy' (by omega) (.inr ⟨by simp [nxB] at hb; omega, by rw [← h, List.find?_cons, hb]; rfl⟩)
        rw [decide_eq_true (by omega : (-1 : Int) < 0)]
        refine Ev.step (fun k => by rw [spec_NextTo.j2]) ?_
        refine Ev.ite_pos rfl (Ev.ite_pos (by omega) (Ev.ite_pos (by omega) ?_))
        rw [rd_nat near, hg, w64n (by omega), w64 (x := rd d (x : Int) - 1) (by omega) (by omega), w64 (x := n - 1) (by omega) (by omega)]
        refine Ev.bind0 (inP y 0 (n - 1)) ?_
        by_cases c1 : 0 ≤ y ∧ y ≤ n - 1
        · refine Ev.ite_pos (decide_eq_true c1) ?_
          have fin2 : (y < first ∨ y = dst) → Ev (fun k => if 0 ≤ y then (if y < (d.length : Int) then (if 0 ≤ (x : Int) then (if (x : Int) < (d.length : Int) then (if rd d y = rd d (x : Int) - 1 then spec_NextTo.l1 k l n first dst out d (x : Int) y near ((i + 1 : Nat) : Int) else spec_NextTo.l1 k l n first dst out d (x : Int) (-1) near ((i + 1 : Nat) : Int)) else none) else none) else none) else none) r := by
            intro hfd
            refine Ev.ite_pos c1.1 (Ev.ite_pos (by omega) (Ev.ite_pos (by omega) (Ev.ite_pos (by omega) ?_)))
            by_cases c3 : rd d y = rd d (x : Int) - 1
            · exact Ev.ite_pos c3 (hit (by simp [nxB]; omega))
            · exact Ev.ite_neg c3 (skip (by simp [nxB]; omega))
          by_cases c2 : y < first
          · exact Ev.ite_pos c2 (fin2 (.inl c2))
          · refine Ev.ite_neg c2 ?_
            by_cases c4 : y = dst
            · exact Ev.ite_pos c4 (fin2 (.inr c4))
            · exact Ev.ite_neg c4 (skip (by simp [nxB]; omega))
        · exact Ev.ite_neg (by simpa using c1) (skip (by simp [nxB]; omega))
      · rw [decide_eq_false (by omega : ¬ cur < 0)]
        exact fin i cur h
    · refine Ev.ite_neg c0 (fin i cur ?_)
      have hn : near.find? (nxB n first dst d (rd d (x : Int))) = none := by
        refine List.find?_eq_none.2 fun z _ => ?_
        simp [nxB]
        omega
      rcases hc with ⟨e, _⟩ | ⟨_, h⟩
      · rw [hn, e]
        rfl
      · exact h
theorem nextS_l0 {l : List S134} (hl : l.length ≤ 1048576) {n first dst : Int} {d : List Int} (hf : Fit n d) : ∀ (m x : Nat), x + m = d.length →
    Ev (fun k => spec_NextTo.l0 k l n first dst ((List.range x).map (nxt l n first dst d)) d (x : Int)) (nextRow l n first dst d) := by
  intro m
  induction m with
  | zero =>
    intro x hx
    obtain rfl : x = d.length := by omega
    refine Ev.step (fun k => by rw [spec_NextTo.l0]) ?_
    exact Ev.ite_neg (by omega) (Ev.now _)
  | succ m ih =>
    intro x hx
    have hd : d.length = n.toNat ∧ 0 ≤ n ∧ n ≤ 12 := by
      rcases hf.1 with rfl | h
      · rw [List.length_nil] at hx
        omega
      · exact h
    have hnl := nb_len l (x : Int)
    refine Ev.step (fun k => by rw [spec_NextTo.l0]) ?_
    refine Ev.ite_pos (by omega) (Ev.bind (nbS hl (x : Int)) ?_)
    refine nextS_l1 hd hf (by omega) (by omega) (by simp; omega) (fun v hv => ?_) _ 0 (-1) rfl (by omega) (.inl ⟨rfl, rfl⟩)
    have h := ih (x + 1) (by omega)
    rw [List.range_succ, List.map_append] at h
    rw [hv]
    exact h
theorem nextS {l : List S134} (hl : l.length ≤ 1048576) (n first dst : Int) : Ev (fun k => spec_NextTo.f k l n first dst) (nextsTo l n first dst) := by
  unfold spec_NextTo.f
  exact Ev.bind (distS hl n first dst) (nextS_l0 hl (dists_fit l n first dst) (dists l n first dst).length 0 (by omega))
theorem tableI {l : List S134} (hl : l.length ≤ 1048576) (n first dst : Int) : Ev (fun k => impl_TableOf.f k l n first dst) (dst, dists l n first dst, nextsTo l n first dst) := by
  unfold impl_TableOf.f
  exact Ev.bind (distI hl n first dst) (Ev.bind (nextI hl n first dst) (Ev.now _))
theorem tableS {l : List S134} (hl : l.length ≤ 1048576) (n first dst : Int) : Ev (fun k => spec_TableOf.f k l n first dst) (dst, dists l n first dst, nextsTo l n first dst) := by
  unfold spec_TableOf.f
  exact Ev.bind (distS hl n first dst) (Ev.bind (nextS hl n first dst) (Ev.now _))
/-- What is right of a row of distances and of next nodes. -/
structure Down (n first dst : Int) (d t : List Int) : Prop where
  dlen : d.length = n.toNat
  tlen : t.length = n.toNat
  rng : 1 ≤ n ∧ n ≤ 12
  din : 0 ≤ dst ∧ dst < n
  d0 : rd d dst = 0
  zero : ∀ x : Int, 0 ≤ x → x < n → rd d x = 0 → x = dst
  low : ∀ x : Int, 0 ≤ x → x < n → -1 ≤ rd d x ∧ rd d x < n
  stop : ∀ x : Int, 0 ≤ x → x < n → rd d x ≤ 0 → rd t x = -1
  step : ∀ x : Int, 0 ≤ x → x < n → 0 < rd d x → (0 ≤ rd t x ∧ rd t x < n) ∧ (rd t x < first ∨ rd t x = dst) ∧ rd d (rd t x) = rd d x - 1
theorem nextRow_len (l : List S134) (n first dst : Int) (d : List Int) : (nextRow l n first dst d).length = d.length := by simp [nextRow]
theorem rd_nextRow {l : List S134} {n first dst : Int} {d : List Int} {x : Int} (h0 : 0 ≤ x) (h1 : x < d.length) : rd (nextRow l n first dst d) x = nxt l n first dst d x.toNat := by
  unfold rd nextRow
  rw [getD_at (by simp; omega)]
  simp
theorem down (l : List S134) {n first dst : Int} (h : (1 ≤ n ∧ n ≤ 12) ∧ 0 ≤ dst ∧ dst < n) : Down n first dst (dists l n first dst) (nextsTo l n first dst) := by
  have H := dists_inv (l := l) (first := first) h
  have hlen := H.len
  have hN : ((n.toNat : Nat) : Int) = n := Int.toNat_of_nonneg (by omega)
  refine ⟨hlen, by rw [nextsTo, nextRow_len]; exact hlen, h.1, h.2, H.d0, fun x h0 h1 => H.zero x h0 (by omega), fun x h0 h1 => ⟨H.low x h0 (by omega), by have := H.bound x h0 (by omega); omega⟩, ?_, ?_⟩
  · intro x h0 h1 hx
    rw [nextsTo, rd_nextRow h0 (by omega), nxt, Int.toNat_of_nonneg h0, List.find?_eq_none.2]
    · rfl
    · intro y _
      simp [nxB]
      omega
  · intro x h0 h1 hx
    rw [nextsTo, rd_nextRow h0 (by omega), nxt, Int.toNat_of_nonneg h0]
    obtain ⟨u, hu0, hun, hex, hm, hd⟩ := H.pred x h0 (by omega) hx
    have hmu : u ∈ nb l x := nb_sym.1 hm
    cases hfd : (nb l x).find? (nxB n first dst (dists l n first dst) (rd (dists l n first dst) x)) with
    | none =>
      have := List.find?_eq_none.1 hfd u hmu
      simp only [exB, decide_eq_true_iff] at hex
      simp [nxB] at this
      omega
    | some y =>
      have := List.find?_some hfd
      simp only [nxB, decide_eq_true_iff] at this
      exact this.2
end Go.Proofs.Ytiihaabhjphaeaa.fnTables
/- HasLoop and rows that lead downhill. Conditions: none. -/
namespace Go.Proofs.Ytiihaabhjphaeaa.fnTables
open Go.RowKit Go.Proofs.YtiihaabhjphaeaaW.PrintWords Go.Proofs.YtiihaabhjphaeaaW.PrintLast Go.Proofs.YtiihaabhjphaeaaW.PrintMore Go.Proofs.Ytiihaabhjphaeaa.QFnTables Go.Proofs.Ytiihaabhjphaeaa.Open Go.Proofs.Ytiihaabhjphaeaa.Kit Go.Proofs.Ytiihaabhjphaeaa.Graph
theorem walk_pot {E : Int → Int → Prop} (pot : Int → Int) (h : ∀ x y, E x y → pot y < pot x) : ∀ (m : Nat) (x y : Int), Walk E m x y → pot y + m ≤ pot x
  | 0, x, y, hw => by
    cases hw
    omega
  | m + 1, x, y, ⟨z, hz, hw⟩ => by
    have h1 := h x z hz
    have h2 := walk_pot pot h m z y hw
    omega
theorem fnLoop_no {E : Int → Int → Prop} (pot : Int → Int) (h : ∀ x y, E x y → pot y < pot x) : ¬ Cyc E := by
  rintro ⟨i, m, hm, hw⟩
  have := walk_pot pot h m i i hw
  omega
theorem msz_one (t : List Int) : (msz [t]).toNat = t.length := by
  unfold msz
  simp only [List.foldl_cons, List.foldl_nil, mx_def]
  omega
theorem hasLoopI (t : List Int) (ht : t.length ≤ 1048576) : ∃ r, Ev (fun k => impl_HasLoop.f k t) r ∧ (r = true ↔ Cyc (EdgeIn [t] t.length)) := by
  obtain ⟨r, h, hr⟩ := union2 [t] (by simp) (by simpa using ht)
  rw [msz_one] at hr
  refine ⟨r, ?_, hr⟩
  unfold impl_HasLoop.f
  exact Ev.bind h (Ev.now _)
theorem hasLoop_no (t : List Int) (ht : t.length ≤ 1048576) (h : ¬ Cyc (EdgeIn [t] t.length)) : Ev (fun k => impl_HasLoop.f k t) false := by
  obtain ⟨r, hr, hi⟩ := hasLoopI t ht
  cases r with
  | true => exact absurd (hi.1 rfl) h
  | false => exact hr
theorem edge_rd {t : List Int} {n : Nat} {x y : Int} (h : EdgeIn [t] n x y) : 0 ≤ x ∧ x < t.length ∧ rd t x = y ∧ 0 ≤ y ∧ y < n := edge_one.1 h
theorem Down.no_cyc {n first dst : Int} {d t : List Int} (D : Down n first dst d t) : ¬ Cyc (EdgeIn [t] t.length) := by
  refine fnLoop_no (fun x => rd d x) ?_
  intro x y h
  obtain ⟨h0, h1, h2, h3, _⟩ := edge_rd h
  have ht := D.tlen
  have hr := D.rng
  have hx : x < n := by omega
  rcases Int.lt_or_le 0 (rd d x) with hp | hp
  · have := (D.step x h0 hx hp).2.2
    rw [h2] at this
    omega
  · have := D.stop x h0 hx hp
    omega
theorem nextsTo_no (l : List S134) (n first dst : Int) : ¬ Cyc (EdgeIn [nextsTo l n first dst] (nextsTo l n first dst).length) := by
  by_cases c : (1 ≤ n ∧ n ≤ 12) ∧ 0 ≤ dst ∧ dst < n
  · exact (down l c).no_cyc
  · have e : nextsTo l n first dst = [] := by
      have : dists l n first dst = [] := by
        unfold dists
        rw [if_neg c]
      unfold nextsTo nextRow
      rw [this]
      rfl
    rw [e]
    refine fnLoop_no (fun x => x) fun x y h => ?_
    have := edge_rd h
    simp at this
    omega
theorem nextsTo_len (l : List S134) (n first dst : Int) : (nextsTo l n first dst).length ≤ 100 := by
  rw [nextsTo, nextRow_len]
  rcases (dists_fit l n first dst).1 with e | e
  · rw [e]
    simp
  · omega
end Go.Proofs.Ytiihaabhjphaeaa.fnTables
/- The draws of numbers, batteries and spans come to an end. Conditions: none. -/
namespace Go.Proofs.Ytiihaabhjphaeaa.fnTables
open Go.RowKit Go.Proofs.YtiihaabhjphaeaaW.PrintWords Go.Proofs.YtiihaabhjphaeaaW.PrintMore Go.Proofs.Ytiihaabhjphaeaa.QFnTables Go.Proofs.Ytiihaabhjphaeaa.Open Go.Proofs.Ytiihaabhjphaeaa.Kit
theorem and255 (n : Int) : Go.bits .and .i64 n 255 = n % 256 := by
  have h255 : (BitVec.ofInt 64 255).toNat = 2 ^ 8 - 1 := by decide
  have key : (BitVec.ofInt 64 n &&& BitVec.ofInt 64 255).toNat = (n % ((2 ^ 64 : Nat) : Int)).toNat % 2 ^ 8 := by
    rw [BitVec.toNat_and, BitVec.toNat_ofInt, h255, Nat.and_two_pow_sub_one_eq_mod]
  show IntKind.i64.wrap ((BitVec.ofInt 64 n &&& BitVec.ofInt 64 255).toNat : Nat) = n % 256
  rw [key, IntKind.wrap_i64]
  omega
/-- A cursor that lies on the code. -/
def Cur (b : List Int) (i : Int) : Prop := 0 ≤ i ∧ i ≤ (b.length : Int) ∧ b.length ≤ 1048576
theorem byte_ends {b : List Int} {i : Int} (h : Int) (hc : Cur b i) : ∃ x i' h', spec_l1Byte.f b i h = some (x, i', h') ∧ (0 ≤ x ∧ x < 256) ∧ Cur b i' := by
  unfold spec_l1Byte.f
  unfold Cur at hc ⊢
  by_cases c : i < (b.length : Int)
  · rw [if_pos c, if_pos hc.1]
    refine ⟨_, _, _, rfl, ?_, ?_⟩
    · rw [and255]
      exact ⟨Int.emod_nonneg _ (by omega), Int.emod_lt_of_pos _ (by omega)⟩
    · rw [w64 (x := i + 1) (by omega) (by omega)]
      omega
  · rw [if_neg c]
    refine ⟨_, _, _, rfl, ?_, hc⟩
    rw [and255]
    exact ⟨Int.emod_nonneg _ (by omega), Int.emod_lt_of_pos _ (by omega)⟩
theorem below_ends {b : List Int} {i : Int} (h n : Int) (hc : Cur b i) : ∃ x i' h', spec_l1Below.f b i h n = some (x, i', h') ∧ 0 ≤ x ∧ (0 < n → x < n) ∧ Cur b i' := by
  unfold spec_l1Below.f
  by_cases c : n ≤ 0
  · rw [if_pos c]
    exact ⟨0, i, h, rfl, by omega, by omega, hc⟩
  · rw [if_neg c]
    obtain ⟨x, i1, h1, e1, hx, hc1⟩ := byte_ends h hc
    rw [e1]
    by_cases c2 : n ≤ 256
    · rw [if_pos c2, Option.bind_some, if_neg (by omega)]
      exact ⟨_, _, _, rfl, Int.tmod_nonneg _ hx.1, fun h0 => Int.tmod_lt_of_pos _ h0, hc1⟩
    · rw [if_neg c2, Option.bind_some]
      obtain ⟨y, i2, h2, e2, hy, hc2⟩ := byte_ends h1 hc1
      obtain ⟨z, i3, h3, e3, hz, hc3⟩ := byte_ends h2 hc2
      dsimp only
      rw [e2, Option.bind_some]
      dsimp only
      rw [e3, Option.bind_some, if_neg (by omega)]
      refine ⟨_, _, _, rfl, Int.tmod_nonneg _ ?_, fun h0 => Int.tmod_lt_of_pos _ h0, hc3⟩
      dsimp only
      rw [w64 (x := x * 65536) (by omega) (by omega), w64 (x := y * 256) (by omega) (by omega), w64 (x := x * 65536 + y * 256) (by omega) (by omega), w64 (by omega) (by omega)]
      omega
theorem Dr.below {β : Type} {P : β → Prop} {b : List Int} {i h n : Int} {f : Int × Int × Int → Option β} (hc : Cur b i) (k : ∀ x i' h', 0 ≤ x → (0 < n → x < n) → Cur b i' → ∃ r, f (x, i', h') = some r ∧ P r) : ∃ r, (spec_l1Below.f b i h n).bind f = some r ∧ P r := by
  obtain ⟨x, i', h', e, h0, h1, hc'⟩ := below_ends h n hc
  rw [e, Option.bind_some]
  exact k x i' h' h0 h1 hc'
theorem Dr.oneOf {β : Type} {P : β → Prop} {b : List Int} {i h : Int} {L : List Int} {f : Int × Int × Int → Option β} (hc : Cur b i) (hL : 0 < L.length) (k : ∀ x i' h', x ∈ L → Cur b i' → ∃ r, f (x, i', h') = some r ∧ P r) : ∃ r, (spec_l1Int.f b i h L).bind f = some r ∧ P r := by
  unfold spec_l1Int.f
  obtain ⟨x, i', h', e, h0, h1, hc'⟩ := below_ends h (L.length : Int) hc
  have h1' := h1 (by omega)
  rw [e, Option.bind_some]
  dsimp only
  rw [if_pos h0, if_pos h1', Option.bind_some]
  exact k _ i' h' (getD_mem (by omega) 0) hc'
theorem Dr.once {β : Type} {P : β → Prop} {b : List Int} {i h n : Int} {f : Bool × Int × Int → Option β} (hc : Cur b i) (k : ∀ x i' h', Cur b i' → ∃ r, f (x, i', h') = some r ∧ P r) : ∃ r, (spec_l1Once.f b i h n).bind f = some r ∧ P r := by
  unfold spec_l1Once.f
  obtain ⟨x, i', h', e, h0, h1, hc'⟩ := below_ends h n hc
  rw [e, Option.bind_some, Option.bind_some]
  exact k _ i' h' hc'
theorem l1New_ends (b : List Int) (_hb : b.length ≤ 1048576) : ∃ h, Ev (fun k => spec_l1New.f k b) (b, 0, h) := by
  have key : ∀ (d i : Nat) (h : Int), i + d = b.length → ∃ h', Ev (fun k => spec_l1New.l0 k b h (i : Int)) (b, 0, h') := by
    intro d
    induction d with
    | zero =>
      intro i h hi
      refine ⟨h, ?_⟩
      refine Ev.step (fun k => by rw [spec_l1New.l0]) ?_
      exact Ev.ite_neg (by omega) (Ev.now _)
    | succ d ih =>
      intro i h hi
      by_cases c : (i : Int) < 4000
      · obtain ⟨h', he⟩ := ih (i + 1) (Go.bits .and .i64 (wrap64 ((wrap64 ((wrap64 (h * 137)) + (wrap64 (rd b (i : Int))))) + 11)) 1073741823) (by omega)
        refine ⟨h', ?_⟩
        refine Ev.step (fun k => by rw [spec_l1New.l0]) ?_
        refine Ev.ite_pos (by omega) (Ev.ite_pos c (Ev.ite_pos (by omega) ?_))
        rw [w64n (by omega)]
        exact he
      · refine ⟨h, ?_⟩
        refine Ev.step (fun k => by rw [spec_l1New.l0]) ?_
        exact Ev.ite_pos (by omega) (Ev.ite_neg c (Ev.now _))
  obtain ⟨h', he⟩ := key b.length 0 (wrap64 (193017 + (b.length : Int))) (by omega)
  exact ⟨h', he⟩
theorem cur0 {b : List Int} (hb : b.length ≤ 1048576) : Cur b 0 := ⟨by omega, by omega, hb⟩
end Go.Proofs.Ytiihaabhjphaeaa.fnTables
/- The draws of links, plans and programs come to an end. Conditions: none. -/
namespace Go.Proofs.Ytiihaabhjphaeaa.fnTables
open Go.RowKit Go.Proofs.YtiihaabhjphaeaaW.PrintWords Go.Proofs.YtiihaabhjphaeaaW.PrintMore Go.Proofs.Ytiihaabhjphaeaa.QFnTables Go.Proofs.Ytiihaabhjphaeaa.Open Go.Proofs.Ytiihaabhjphaeaa.Kit
theorem l13Links_l1 {b : List Int} {m a : Nat} (hm : m ≤ 20) {B : Nat} (hB : B ≤ 1000) (hk : ∀ (acc : List S134) (i h : Int), acc.length ≤ B → Cur b i → ∃ L i' h', Ev (fun k => spec_l13Links.l0 k (m : Int) acc ((a + 1 : Nat) : Int) b i h) (L, i', h') ∧ L.length ≤ 1000 ∧ Cur b i') (ha : a < m) :
    ∀ (d q : Nat) (acc : List S134) (i h : Int), q + d = m → acc.length + d ≤ B → Cur b i → ∃ L i' h', Ev (fun k => spec_l13Links.l1 k (m : Int) acc (a : Int) (q : Int) b i h) (L, i', h') ∧ L.length ≤ 1000 ∧ Cur b i' := by
  intro d
  induction d with
  | zero =>
    intro q acc i h hq hacc hc
    obtain ⟨L, i', h', he, hL⟩ := hk acc i h (by omega) hc
    refine ⟨L, i', h', ?_, hL⟩
    refine Ev.step (fun k => by rw [spec_l13Links.l1]) ?_
    refine Ev.ite_neg (by omega) ?_
    rw [w64n (by omega)]
    exact he
  | succ d ih =>
    intro q acc i h hq hacc hc
    obtain ⟨r, e, hc'⟩ := Dr.once (P := fun r : Bool × Int × Int => Cur b r.2.1) (f := some) (n := 2) (h := h) hc (fun x i h hc => ⟨_, rfl, hc⟩)
    rw [Option.bind_fun_some] at e
    by_cases c : r.1 = true
    · obtain ⟨L, i', h', he, hL⟩ := ih (q + 1) acc r.2.1 r.2.2 (by omega) (by omega) hc'
      refine ⟨L, i', h', ?_, hL⟩
      refine Ev.step (fun k => by rw [spec_l13Links.l1]) ?_
      refine Ev.ite_pos (by omega) (Ev.bind0 e (Ev.ite_pos c ?_))
      rw [w64n (by omega)]
      exact he
    · obtain ⟨L, i', h', he, hL⟩ := ih (q + 1) (acc ++ [(⟨(a : Int), (q : Int)⟩ : S134)]) r.2.1 r.2.2 (by omega) (by rw [List.length_append, List.length_singleton]; omega) hc'
      refine ⟨L, i', h', ?_, hL⟩
      refine Ev.step (fun k => by rw [spec_l13Links.l1]) ?_
      refine Ev.ite_pos (by omega) (Ev.bind0 e (Ev.ite_neg c (Ev.ite_pos (by omega) ?_)))
      rw [w64n (by omega)]
      exact he
theorem l13Links_l0 {b : List Int} {m : Nat} (hm : m ≤ 20) : ∀ (d a : Nat) (acc : List S134) (i h : Int), a + d = m → acc.length + d * m ≤ 1000 → Cur b i → ∃ L i' h', Ev (fun k => spec_l13Links.l0 k (m : Int) acc (a : Int) b i h) (L, i', h') ∧ L.length ≤ 1000 ∧ Cur b i' := by
  intro d
  induction d with
  | zero =>
    intro a acc i h ha hacc hc
    refine ⟨acc, i, h, ?_, by omega, hc⟩
    refine Ev.step (fun k => by rw [spec_l13Links.l0]) ?_
    exact Ev.ite_neg (by omega) (Ev.now _)
  | succ d ih =>
    intro a acc i h ha hacc hc
    rw [Nat.succ_mul] at hacc
    obtain ⟨L, i', h', he, hL⟩ := l13Links_l1 (B := 1000 - d * m) hm (by omega) (fun acc i h hl hc => ih (a + 1) acc i h (by omega) (by omega) hc) (by omega) (m - (a + 1)) (a + 1) acc i h (by omega) (by omega) hc
    refine ⟨L, i', h', ?_, hL⟩
    refine Ev.step (fun k => by rw [spec_l13Links.l0]) ?_
    refine Ev.ite_pos (by omega) ?_
    rw [w64n (by omega)]
    exact he
theorem l13Links_ends {b : List Int} {m : Nat} (hm : m ≤ 20) {i : Int} (h : Int) (hc : Cur b i) : ∃ L i' h', Ev (fun k => spec_l13Links.f k b i h (m : Int)) (L, i', h') ∧ L.length ≤ 1000 ∧ Cur b i' :=
  l13Links_l0 hm m 0 [] i h (by omega) (by have : m * m ≤ 20 * 20 := Nat.mul_le_mul hm hm; simp; omega) hc
theorem drawDistancesTo_ends (b : List Int) (hb : b.length ≤ 1048576) : ∃ L n f d, Ev (fun k => spec_DrawDistancesTo.f k b) (L, n, f, d) ∧ L.length ≤ 1000 := by
  obtain ⟨h, hn⟩ := l1New_ends b hb
  obtain ⟨L, i1, h1, e1, hL, hc1⟩ := l13Links_ends (m := 6) (by omega) h (cur0 hb)
  obtain ⟨r2, e2, hc2⟩ := Dr.oneOf (P := fun r : Int × Int × Int => Cur b r.2.1) (f := some) (L := [6, 6, 6, 5, 0, 13, 1]) (h := h1) hc1 (by decide) (fun x i h _ hc => ⟨_, rfl, hc⟩)
  obtain ⟨r3, e3, hc3⟩ := Dr.oneOf (P := fun r : Int × Int × Int => Cur b r.2.1) (f := some) (L := [4, 4, 3, 6, 0]) (h := r2.2.2) hc2 (by decide) (fun x i h _ hc => ⟨_, rfl, hc⟩)
  obtain ⟨x, i4, h4, e4, _, _, hc4⟩ := below_ends r3.2.2 7 hc3
  rw [Option.bind_fun_some] at e2 e3
  refine ⟨L, r2.1, r3.1, x, ?_, hL⟩
  unfold spec_DrawDistancesTo.f
  exact Ev.bind hn (Ev.bind e1 (Ev.bind0 e2 (Ev.bind0 e3 (Ev.bind0 e4 (Ev.now _)))))
end Go.Proofs.Ytiihaabhjphaeaa.fnTables
/- Tables: what IsTable, IsDownhill, RouteOf and UsesNode tell, and the draws of tables. Conditions: none. -/
namespace Go.Proofs.Ytiihaabhjphaeaa.fnTables
open Go.RowKit Go.Proofs.YtiihaabhjphaeaaW.PrintWords Go.Proofs.YtiihaabhjphaeaaW.PrintLast Go.Proofs.YtiihaabhjphaeaaW.PrintMore Go.Proofs.Ytiihaabhjphaeaa.QFnTables Go.Proofs.Ytiihaabhjphaeaa.Open Go.Proofs.Ytiihaabhjphaeaa.Kit Go.Proofs.Ytiihaabhjphaeaa.Graph Go.Proofs.Ytiihaabhjphaeaa.Bfs
theorem rd_set_ge {d : List Int} {i : Nat} {c : Int} : (d.set i c).length = d.length := List.length_set
theorem l15Any_ends {b : List Int} {i : Int} (h : Int) (hc : Cur b i) : ∃ r, Ev (fun k => spec_l15Any.f k b i h) r ∧ r.2.1.length ≤ 6 ∧ r.2.2.1.length = 6 ∧ Cur b r.2.2.2.1 := by
  obtain ⟨L, i1, h1, e1, hL, hc1⟩ := l13Links_ends (m := 6) (by omega) h hc
  obtain ⟨x, i2, h2, e2, hx0, hx1, hc2⟩ := below_ends h1 6 hc1
  have hx1 := hx1 (by omega)
  have D := down L (n := 6) (first := 4) (dst := x) ⟨by omega, hx0, hx1⟩
  have hd := D.dlen
  have ht := D.tlen
  obtain ⟨y, i3, h3, e3, hy0, hy1, hc3⟩ := below_ends h2 8 hc2
  have key : ∃ r : Int × List Int × List Int × Int × Int, (if y = 0 then ((spec_l1Int.f b i3 h3 (([(-1), 0, 5, 6] : List Int))).bind fun bt419 => (some (bt419.1, dists L 6 4 x, nextsTo L 6 4 x, bt419.2.1, bt419.2.2))) else (if y = 1 then ((spec_l1Below.f b i3 h3 6).bind fun bt422 => ((spec_l1Below.f b bt422.2.1 bt422.2.2 8).bind fun bt425 => (if 0 ≤ bt422.1 then (if bt422.1 < ((nextsTo L 6 4 x).length : Int) then (some (x, dists L 6 4 x, ((nextsTo L 6 4 x).set (bt422.1 : Int).toNat (wrap64 (bt425.1 - 1))), bt425.2.1, bt425.2.2)) else (none)) else (none)))) else (if y = 2 then ((spec_l1Below.f b i3 h3 6).bind fun bt429 => ((spec_l1Int.f b bt429.2.1 bt429.2.2 (([(-2), (-1), 0, 1, 5, 6] : List Int))).bind fun bt435 => (if 0 ≤ bt429.1 then (if bt429.1 < ((dists L 6 4 x).length : Int) then (some (x, ((dists L 6 4 x).set (bt429.1 : Int).toNat bt435.1), nextsTo L 6 4 x, bt435.2.1, bt435.2.2)) else (none)) else (none)))) else (if y = 3 then (if 5 ≤ ((dists L 6 4 x).length : Int) then (some (x, ((dists L 6 4 x).take (5 : Int).toNat), nextsTo L 6 4 x, i3, h3)) else (none)) else (some (x, dists L 6 4 x, nextsTo L 6 4 x, i3, h3)))))) = some r ∧ r.2.1.length ≤ 6 ∧ r.2.2.1.length = 6 ∧ Cur b r.2.2.2.1 := by
    have h6 : ((6 : Int)).toNat = 6 := rfl
    rw [h6] at hd ht
    split
    · exact Dr.oneOf hc3 (by decide) fun z i4 h4 _ hc4 => ⟨_, rfl, by show (dists L 6 4 x).length ≤ 6; omega, ht, hc4⟩
    · split
      · refine Dr.below hc3 fun u i4 h4 hu0 hu1 hc4 => Dr.below hc4 fun v i5 h5 _ _ hc5 => ?_
        have := hu1 (by omega)
        dsimp only
        rw [if_pos hu0, if_pos (by omega)]
        exact ⟨_, rfl, by show (dists L 6 4 x).length ≤ 6; omega, by show ((nextsTo L 6 4 x).set _ _).length = 6; rw [List.length_set, ht], hc5⟩
      · split
        · refine Dr.below hc3 fun u i4 h4 hu0 hu1 hc4 => Dr.oneOf hc4 (by decide) fun v i5 h5 _ hc5 => ?_
          have := hu1 (by omega)
          dsimp only
          rw [if_pos hu0, if_pos (by omega)]
          exact ⟨_, rfl, by show ((dists L 6 4 x).set _ _).length ≤ 6; rw [List.length_set]; omega, ht, hc5⟩
        · split
          · rw [if_pos (by omega)]
            exact ⟨_, rfl, by show ((dists L 6 4 x).take _).length ≤ 6; rw [List.length_take]; omega, ht, hc3⟩
          · exact ⟨_, rfl, by show (dists L 6 4 x).length ≤ 6; omega, ht, hc3⟩
  obtain ⟨r, er, h1r, h2r, h3r⟩ := key
  refine ⟨r, ?_, h1r, h2r, h3r⟩
  unfold spec_l15Any.f
  have hL1 : L.length ≤ 1048576 := by omega
  exact Ev.bind e1 (Ev.bind0 e2 (Ev.bind (tableS hL1 6 4 x) (Ev.bind0 e3 (Ev.eq er))))
theorem drawIsTable_ends (b : List Int) (hb : b.length ≤ 1048576) : ∃ s d t n f, Ev (fun k => spec_DrawIsTable.f k b) (s, d, t, n, f) ∧ d.length ≤ 6 ∧ t.length = 6 := by
  obtain ⟨h, hn⟩ := l1New_ends b hb
  obtain ⟨r, e1, hd, ht, hc1⟩ := l15Any_ends h (cur0 hb)
  obtain ⟨r2, e2, hc2⟩ := Dr.oneOf (P := fun r : Int × Int × Int => Cur b r.2.1) (f := some) (L := [6, 6, 6, 5, 0]) (h := r.2.2.2.2) hc1 (by decide) (fun x i h _ hc => ⟨_, rfl, hc⟩)
  obtain ⟨r3, e3, _⟩ := Dr.oneOf (P := fun r : Int × Int × Int => Cur b r.2.1) (f := some) (L := [4, 4, 0, 6]) (h := r2.2.2) hc2 (by decide) (fun x i h _ hc => ⟨_, rfl, hc⟩)
  rw [Option.bind_fun_some] at e2 e3
  refine ⟨r.1, r.2.1, r.2.2.1, r2.1, r3.1, ?_, hd, ht⟩
  unfold spec_DrawIsTable.f
  exact Ev.bind hn (Ev.bind e1 (Ev.bind0 e2 (Ev.bind0 e3 (Ev.now _))))
theorem drawRouteOf_ends (b : List Int) (hb : b.length ≤ 1048576) : ∃ s d t f, Ev (fun k => spec_DrawRouteOf.f k b) (s, d, t, f) ∧ d.length ≤ 6 ∧ t.length = 6 := by
  obtain ⟨h, hn⟩ := l1New_ends b hb
  obtain ⟨r, e1, hd, ht, hc1⟩ := l15Any_ends h (cur0 hb)
  obtain ⟨x, i2, h2, e2, _, _, _⟩ := below_ends r.2.2.2.2 8 hc1
  refine ⟨r.1, r.2.1, r.2.2.1, wrap64 (x - 1), ?_, hd, ht⟩
  unfold spec_DrawRouteOf.f
  exact Ev.bind hn (Ev.bind e1 (Ev.bind0 e2 (Ev.now _)))
theorem drawTableOf_ends (b : List Int) (hb : b.length ≤ 1048576) : ∃ L n f d, Ev (fun k => spec_DrawTableOf.f k b) (L, n, f, d) ∧ L.length ≤ 1000 := by
  obtain ⟨L, n, f, d, e, hL⟩ := drawDistancesTo_ends b hb
  refine ⟨L, n, f, d, ?_, hL⟩
  unfold spec_DrawTableOf.f
  exact Ev.bind e (Ev.now _)
/-! ### routes -/
/-- The nodes from at on, behind those of acc. -/
def walkTo (t : List Int) (dst : Int) : Nat → Int → List Int → List Int
  | 0, _, _ => []
  | f + 1, x, acc => if acc.length ≤ t.length ∧ 0 ≤ x ∧ x < t.length then (if x = dst then acc ++ [x] else walkTo t dst f (rd t x) (acc ++ [x])) else []
theorem walkTo_ok (t : List Int) (dst : Int) : ∀ (f : Nat) (x : Int) (acc : List Int), walkTo t dst f x acc = [] ∨ ∃ p, walkTo t dst f x acc = acc ++ x :: p ∧ (walkTo t dst f x acc).getLast? = some dst
  | 0, x, acc => .inl rfl
  | f + 1, x, acc => by
    simp only [walkTo]
    by_cases c : acc.length ≤ t.length ∧ 0 ≤ x ∧ x < t.length
    · rw [if_pos c]
      by_cases c2 : x = dst
      · rw [if_pos c2]
        exact .inr ⟨[], rfl, by simp [c2]⟩
      · rw [if_neg c2]
        rcases walkTo_ok t dst f (rd t x) (acc ++ [x]) with h | ⟨p, h1, h2⟩
        · exact .inl h
        · exact .inr ⟨rd t x :: p, by rw [h1, List.append_assoc]; rfl, h2⟩
    · rw [if_neg c]
      exact .inl rfl
theorem walkTo_len (t : List Int) (dst : Int) : ∀ (f : Nat) (x : Int) (acc : List Int), (walkTo t dst f x acc).length ≤ acc.length + f
  | 0, x, acc => by simp [walkTo]
  | f + 1, x, acc => by
    simp only [walkTo]
    split
    · split
      · rw [List.length_append, List.length_singleton]
        omega
      · have := walkTo_len t dst f (rd t x) (acc ++ [x])
        rw [List.length_append, List.length_singleton] at this
        omega
    · simp
theorem pathI (t : List Int) (ht : t.length ≤ 1048576) (dst : Int) : ∀ (f : Nat) (x : Int) (acc : List Int), acc.length + f = t.length + 2 → Ev (fun k => impl_PathTo.l0 k t x dst acc) (walkTo t dst f x acc)
  | 0, x, acc, h => by
    refine Ev.step (fun k => by rw [impl_PathTo.l0]) ?_
    refine Ev.ite_neg (by omega) ?_
    refine Ev.step (fun k => by rw [impl_PathTo.j1]) ?_
    exact Ev.ite_neg (by simp) (Ev.now _)
  | f + 1, x, acc, h => by
    refine Ev.step (fun k => by rw [impl_PathTo.l0]) ?_
    by_cases c : acc.length ≤ t.length
    · refine Ev.ite_pos (by omega) (Ev.bind0 (ixP x (t.length : Int)) ?_)
      by_cases c1 : 0 ≤ x ∧ x < t.length
      · rw [decide_eq_true c1]
        have hw : walkTo t dst (f + 1) x acc = if x = dst then acc ++ [x] else walkTo t dst f (rd t x) (acc ++ [x]) := by
          simp only [walkTo, if_pos (show acc.length ≤ t.length ∧ 0 ≤ x ∧ x < t.length from ⟨c, c1.1, c1.2⟩)]
        rw [hw]
        refine Ev.step (fun k => by rw [impl_PathTo.j1]) ?_
        refine Ev.ite_pos rfl (Ev.ite_pos (by omega) (Ev.bind0 rfl ?_))
        by_cases c2 : x = dst
        · rw [if_pos c2]
          exact Ev.ite_pos c2 (Ev.now _)
        · rw [if_neg c2]
          refine Ev.ite_neg c2 (Ev.ite_pos c1.1 (Ev.ite_pos c1.2 ?_))
          exact pathI t ht dst f (rd t x) (acc ++ [x]) (by rw [List.length_append, List.length_singleton]; omega)
      · rw [decide_eq_false c1]
        have hw : walkTo t dst (f + 1) x acc = [] := by
          simp only [walkTo]
          rw [if_neg (fun h => c1 h.2)]
        rw [hw]
        refine Ev.step (fun k => by rw [impl_PathTo.j1]) ?_
        exact Ev.ite_neg (by simp) (Ev.now _)
    · have hw : walkTo t dst (f + 1) x acc = [] := by
        simp only [walkTo]
        rw [if_neg (fun h => c h.1)]
      rw [hw]
      refine Ev.ite_neg (by omega) ?_
      refine Ev.step (fun k => by rw [impl_PathTo.j1]) ?_
      exact Ev.ite_neg (by simp) (Ev.now _)
theorem pathS (t : List Int) (ht : t.length ≤ 1048576) (dst : Int) : ∀ (f : Nat) (x : Int) (acc : List Int), acc.length + f = t.length + 2 → Ev (fun k => spec_PathTo.l0 k t dst acc x) (walkTo t dst f x acc)
  | 0, x, acc, h => by
    refine Ev.step (fun k => by rw [spec_PathTo.l0]) ?_
    refine Ev.ite_neg (by omega) ?_
    refine Ev.step (fun k => by rw [spec_PathTo.j1]) ?_
    exact Ev.ite_neg (by simp) (Ev.now _)
  | f + 1, x, acc, h => by
    refine Ev.step (fun k => by rw [spec_PathTo.l0]) ?_
    by_cases c : acc.length ≤ t.length
    · refine Ev.ite_pos (by omega) (Ev.bind0 (inP x 0 (wrap64 ((t.length : Int) - 1))) ?_)
      rw [w64 (x := (t.length : Int) - 1) (by omega) (by omega)]
      by_cases c1 : 0 ≤ x ∧ x ≤ (t.length : Int) - 1
      · rw [decide_eq_true c1]
        have hw : walkTo t dst (f + 1) x acc = if x = dst then acc ++ [x] else walkTo t dst f (rd t x) (acc ++ [x]) := by
          simp only [walkTo, if_pos (show acc.length ≤ t.length ∧ 0 ≤ x ∧ x < t.length from ⟨c, c1.1, by omega⟩)]
        rw [hw]
        refine Ev.step (fun k => by rw [spec_PathTo.j1]) ?_
        refine Ev.ite_pos rfl (Ev.ite_pos (by omega) (Ev.bind0 rfl ?_))
        by_cases c2 : x = dst
        · rw [if_pos c2]
          exact Ev.ite_pos c2 (Ev.now _)
        · rw [if_neg c2]
          refine Ev.ite_neg c2 (Ev.ite_pos c1.1 (Ev.ite_pos (by omega) ?_))
          exact pathS t ht dst f (rd t x) (acc ++ [x]) (by rw [List.length_append, List.length_singleton]; omega)
      · rw [decide_eq_false c1]
        have hw : walkTo t dst (f + 1) x acc = [] := by
          simp only [walkTo]
          rw [if_neg (fun h => c1 ⟨h.2.1, by have := h.2.2; omega⟩)]
        rw [hw]
        refine Ev.step (fun k => by rw [spec_PathTo.j1]) ?_
        exact Ev.ite_neg (by simp) (Ev.now _)
    · have hw : walkTo t dst (f + 1) x acc = [] := by
        simp only [walkTo]
        rw [if_neg (fun h => c h.1)]
      rw [hw]
      refine Ev.ite_neg (by omega) ?_
      refine Ev.step (fun k => by rw [spec_PathTo.j1]) ?_
      exact Ev.ite_neg (by simp) (Ev.now _)
/-- The route of a table from a node. -/
def route (t : List Int) (dst x : Int) : List Int := walkTo t dst (t.length + 2) x []
theorem routeI (t d : List Int) (ht : t.length ≤ 1048576) (dst x : Int) : Ev (fun k => impl_RouteOf.f k dst d t x) (route t dst x) := by
  unfold impl_RouteOf.f
  exact Ev.bind (pathI t ht dst (t.length + 2) x [] (by simp)) (Ev.now _)
theorem routeS (t d : List Int) (ht : t.length ≤ 1048576) (dst x : Int) : Ev (fun k => spec_RouteOf.f k dst d t x) (route t dst x) := by
  unfold spec_RouteOf.f
  exact Ev.bind (pathS t ht dst (t.length + 2) x [] (by simp)) (Ev.now _)
theorem route_len (t : List Int) (dst x : Int) : (route t dst x).length ≤ t.length + 2 := by
  have := walkTo_len t dst (t.length + 2) x []
  simpa [route] using this
theorem route_ends (t : List Int) (dst x : Int) (h : 0 < (route t dst x).length) : rd (route t dst x) 0 = x ∧ rd (route t dst x) ((route t dst x).length - 1 : Int) = dst := by
  rcases walkTo_ok t dst (t.length + 2) x [] with e | ⟨p, e1, e2⟩
  · unfold route at h
    rw [e] at h
    simp at h
  · constructor
    · unfold route
      rw [e1]
      rfl
    · rw [List.getLast?_eq_getElem?] at e2
      unfold route rd at *
      rw [List.getD_eq_getElem?_getD, show (((walkTo t dst (t.length + 2) x []).length : Int) - 1).toNat = (walkTo t dst (t.length + 2) x []).length - 1 by omega, e2]
      rfl
/-! ### tables -/
/-- The entry of a node is right. -/
def NodeOk (n first dst : Int) (d t : List Int) (x : Int) : Prop := x = dst ∧ rd d x = 0 ∧ rd t x = -1 ∨ x ≠ dst ∧ rd d x = -1 ∧ rd t x = -1 ∨
  x ≠ dst ∧ (1 ≤ rd d x ∧ rd d x ≤ n - 1) ∧ (0 ≤ rd t x ∧ rd t x < n) ∧ (rd t x < first ∨ rd t x = dst) ∧ rd d (rd t x) = rd d x - 1
def TabOk (n first dst : Int) (d t : List Int) : Prop := ((1 ≤ n ∧ n ≤ 12) ∧ 0 ≤ dst ∧ dst < n) ∧ (d.length : Int) = n ∧ (t.length : Int) = n ∧ ∀ x : Nat, (x : Int) < n → NodeOk n first dst d t x
theorem isTable_l0 {n first dst : Int} {d t : List Int} (hn : 1 ≤ n ∧ n ≤ 12) (hd : (d.length : Int) = n) (ht : (t.length : Int) = n) : ∀ (m i : Nat), i + m = d.length → ∃ r, Ev (fun k => impl_IsTable.l0 k n first d (d.length : Int) (i : Int) dst d t) r ∧ (r = true ↔ ∀ x : Nat, i ≤ x → (x : Int) < n → NodeOk n first dst d t x) := by
  intro m
  induction m with
  | zero =>
    intro i hi
    refine ⟨true, ?_, ?_⟩
    · refine Ev.step (fun k => by rw [impl_IsTable.l0]) ?_
      exact Ev.ite_neg (by omega) (Ev.now _)
    · simp only [true_iff]
      intro x h1 h2
      omega
  | succ m ih =>
    intro i hi
    obtain ⟨r, hr, hiff⟩ := ih (i + 1) (by omega)
    have good : NodeOk n first dst d t (i : Int) → (r = true ↔ ∀ x : Nat, i ≤ x → (x : Int) < n → NodeOk n first dst d t x) := by
      intro hok
      rw [hiff]
      constructor
      · intro h x h1 h2
        by_cases e : x = i
        · rw [e]
          exact hok
        · exact h x (by omega) h2
      · exact fun h x h1 h2 => h x (by omega) h2
    have bad : ¬ NodeOk n first dst d t (i : Int) → (false = true ↔ ∀ x : Nat, i ≤ x → (x : Int) < n → NodeOk n first dst d t x) := by
      intro hno
      constructor
      · intro h
        cases h
      · exact fun h => absurd (h i (by omega) (by omega)) hno
    have go : NodeOk n first dst d t (i : Int) ∧ Ev (fun k => impl_IsTable.l0 k n first d (d.length : Int) (i : Int) dst d t) r ∨ ¬ NodeOk n first dst d t (i : Int) ∧ Ev (fun k => impl_IsTable.l0 k n first d (d.length : Int) (i : Int) dst d t) false → ∃ r, Ev (fun k => impl_IsTable.l0 k n first d (d.length : Int) (i : Int) dst d t) r ∧ (r = true ↔ ∀ x : Nat, i ≤ x → (x : Int) < n → NodeOk n first dst d t x) := by
      rintro (⟨h1, h2⟩ | ⟨h1, h2⟩)
      · exact ⟨r, h2, good h1⟩
      · exact ⟨false, h2, bad h1⟩
    apply go
    clear go good bad
    have hp : ∀ {f : Nat → Option Bool} {q : Bool}, Ev f q → Ev (fun k => if (i : Int) < (d.length : Int) then (if 0 ≤ (i : Int) then (if (i : Int) < (d.length : Int) then (if (i : Int) < (t.length : Int) then f k else none) else none) else none) else some true) q := fun h => Ev.ite_pos (by omega) (Ev.ite_pos (by omega) (Ev.ite_pos (by omega) (Ev.ite_pos (by omega) h)))
    unfold NodeOk
    by_cases c1 : (i : Int) = dst
    · by_cases c2 : rd d (i : Int) = 0
      · by_cases c3 : rd t (i : Int) = -1
        · refine .inl ⟨.inl ⟨c1, c2, c3⟩, ?_⟩
          refine Ev.step (fun k => by rw [impl_IsTable.l0]) ?_
          refine hp (Ev.ite_pos c1 (Ev.ite_pos c2 (Ev.ite_pos c3 ?_)))
          rw [w64n (by omega)]
          exact hr
        · refine .inr ⟨by omega, ?_⟩
          refine Ev.step (fun k => by rw [impl_IsTable.l0]) ?_
          exact hp (Ev.ite_pos c1 (Ev.ite_pos c2 (Ev.ite_neg c3 (Ev.now _))))
      · refine .inr ⟨by omega, ?_⟩
        refine Ev.step (fun k => by rw [impl_IsTable.l0]) ?_
        exact hp (Ev.ite_pos c1 (Ev.ite_neg c2 (Ev.now _)))
    · by_cases c2 : rd d (i : Int) = -1
      · by_cases c3 : rd t (i : Int) = -1
        · refine .inl ⟨.inr (.inl ⟨c1, c2, c3⟩), ?_⟩
          refine Ev.step (fun k => by rw [impl_IsTable.l0]) ?_
          refine hp (Ev.ite_neg c1 (Ev.ite_pos c2 (Ev.ite_pos c3 ?_)))
          rw [w64n (by omega)]
          exact hr
        · refine .inr ⟨by omega, ?_⟩
          refine Ev.step (fun k => by rw [impl_IsTable.l0]) ?_
          exact hp (Ev.ite_neg c1 (Ev.ite_pos c2 (Ev.ite_neg c3 (Ev.now _))))
      · have hw : wrap64 (n - 1) = n - 1 := w64 (by omega) (by omega)
        by_cases c3 : 1 ≤ rd d (i : Int) ∧ rd d (i : Int) ≤ n - 1
        · have hw2 : wrap64 (rd d (i : Int) - 1) = rd d (i : Int) - 1 := w64 (by omega) (by omega)
          by_cases c4 : 0 ≤ rd t (i : Int) ∧ rd t (i : Int) < n
          · by_cases c5 : rd t (i : Int) < first ∨ rd t (i : Int) = dst
            · by_cases c6 : rd d (rd t (i : Int)) = rd d (i : Int) - 1
              · refine .inl ⟨.inr (.inr ⟨c1, c3, c4, c5, c6⟩), ?_⟩
                refine Ev.step (fun k => by rw [impl_IsTable.l0]) ?_
                refine hp (Ev.ite_neg c1 (Ev.ite_neg c2 (Ev.bind0 (rgP _ 1 (wrap64 (n - 1))) ?_)))
                rw [hw, hw2, w64n (by omega)]
                refine Ev.ite_pos (decide_eq_true c3) (Ev.bind0 (ixP _ n) (Ev.ite_pos (decide_eq_true c4) ?_))
                have tail : Ev (fun k => if 0 ≤ rd t (i : Int) then (if rd t (i : Int) < (d.length : Int) then (if rd d (rd t (i : Int)) = rd d (i : Int) - 1 then impl_IsTable.l0 k n first d (d.length : Int) ((i + 1 : Nat) : Int) dst d t else some false) else none) else none) r := Ev.ite_pos c4.1 (Ev.ite_pos (by omega) (Ev.ite_pos c6 hr))
                by_cases c7 : rd t (i : Int) ≥ first
                · exact Ev.ite_pos c7 (Ev.ite_pos (by omega) tail)
                · exact Ev.ite_neg c7 tail
              · refine .inr ⟨by omega, ?_⟩
                refine Ev.step (fun k => by rw [impl_IsTable.l0]) ?_
                refine hp (Ev.ite_neg c1 (Ev.ite_neg c2 (Ev.bind0 (rgP _ 1 (wrap64 (n - 1))) ?_)))
                rw [hw, hw2, w64n (by omega)]
                refine Ev.ite_pos (decide_eq_true c3) (Ev.bind0 (ixP _ n) (Ev.ite_pos (decide_eq_true c4) ?_))
                have tail : Ev (fun k => if 0 ≤ rd t (i : Int) then (if rd t (i : Int) < (d.length : Int) then (if rd d (rd t (i : Int)) = rd d (i : Int) - 1 then impl_IsTable.l0 k n first d (d.length : Int) ((i + 1 : Nat) : Int) dst d t else some false) else none) else none) false := Ev.ite_pos c4.1 (Ev.ite_pos (by omega) (Ev.ite_neg c6 (Ev.now _)))
                by_cases c7 : rd t (i : Int) ≥ first
                · exact Ev.ite_pos c7 (Ev.ite_pos (by omega) tail)
                · exact Ev.ite_neg c7 tail
            · refine .inr ⟨by omega, ?_⟩
              refine Ev.step (fun k => by rw [impl_IsTable.l0]) ?_
              refine hp (Ev.ite_neg c1 (Ev.ite_neg c2 (Ev.bind0 (rgP _ 1 (wrap64 (n - 1))) ?_)))
              rw [hw]
              exact Ev.ite_pos (decide_eq_true c3) (Ev.bind0 (ixP _ n) (Ev.ite_pos (decide_eq_true c4) (Ev.ite_pos (by omega) (Ev.ite_neg (by omega) (Ev.now _)))))
          · refine .inr ⟨by omega, ?_⟩
            refine Ev.step (fun k => by rw [impl_IsTable.l0]) ?_
            refine hp (Ev.ite_neg c1 (Ev.ite_neg c2 (Ev.bind0 (rgP _ 1 (wrap64 (n - 1))) ?_)))
            rw [hw]
            exact Ev.ite_pos (decide_eq_true c3) (Ev.bind0 (ixP _ n) (Ev.ite_neg (by simpa using c4) (Ev.now _)))
        · refine .inr ⟨by omega, ?_⟩
          refine Ev.step (fun k => by rw [impl_IsTable.l0]) ?_
          refine hp (Ev.ite_neg c1 (Ev.ite_neg c2 (Ev.bind0 (rgP _ 1 (wrap64 (n - 1))) ?_)))
          rw [hw]
          exact Ev.ite_neg (by simpa using c3) (Ev.now _)
theorem isTable_ev (n first dst : Int) (d t : List Int) : ∃ r, Ev (fun k => impl_IsTable.f k dst d t n first) r ∧ (r = true ↔ TabOk n first dst d t) := by
  have no : ¬ TabOk n first dst d t → (false = true ↔ TabOk n first dst d t) := fun h => ⟨fun h => (by cases h), fun h' => absurd h' h⟩
  have j : ∀ q : Bool, q = true → Ev (fun k => impl_IsTable.j0 k n first q dst d t) false := by
    intro q hq
    refine Ev.step (fun k => by rw [impl_IsTable.j0]) ?_
    exact Ev.ite_pos hq (Ev.now _)
  have hnum : impl_isNumber.f n = some (decide (1 ≤ n ∧ n ≤ 12)) := by
    unfold impl_isNumber.f
    rw [rgP]
    rfl
  by_cases c1 : 1 ≤ n ∧ n ≤ 12
  · by_cases c2 : 0 ≤ dst ∧ dst < n
    · by_cases c3 : (d.length : Int) = n
      · by_cases c4 : (t.length : Int) = n
        · obtain ⟨r, hr, hi⟩ := isTable_l0 (first := first) (dst := dst) c1 c3 c4 d.length 0 (by omega)
          refine ⟨r, ?_, ?_⟩
          · unfold impl_IsTable.f
            refine Ev.bind0 hnum (Ev.ite_pos (decide_eq_true c1) (Ev.bind0 (ixP dst n) (Ev.ite_pos (decide_eq_true c2) (Ev.ite_pos c3 ?_))))
            refine Ev.step (fun k => by rw [impl_IsTable.j0]) ?_
            exact Ev.ite_neg (by simp [c4]) hr
          · rw [hi]
            exact ⟨fun h => ⟨⟨c1, c2⟩, c3, c4, fun x hx => h x (by omega) hx⟩, fun h x _ hx => h.2.2.2 x hx⟩
        · refine ⟨false, ?_, no fun h => c4 h.2.2.1⟩
          unfold impl_IsTable.f
          exact Ev.bind0 hnum (Ev.ite_pos (decide_eq_true c1) (Ev.bind0 (ixP dst n) (Ev.ite_pos (decide_eq_true c2) (Ev.ite_pos c3 (j _ (by simp [c4]))))))
      · refine ⟨false, ?_, no fun h => c3 h.2.1⟩
        unfold impl_IsTable.f
        exact Ev.bind0 hnum (Ev.ite_pos (decide_eq_true c1) (Ev.bind0 (ixP dst n) (Ev.ite_pos (decide_eq_true c2) (Ev.ite_neg c3 (j true rfl)))))
    · refine ⟨false, ?_, no fun h => c2 h.1.2⟩
      unfold impl_IsTable.f
      exact Ev.bind0 hnum (Ev.ite_pos (decide_eq_true c1) (Ev.bind0 (ixP dst n) (Ev.ite_neg (by simpa using c2) (j true rfl))))
  · refine ⟨false, ?_, no fun h => c1 h.1.1⟩
    unfold impl_IsTable.f
    exact Ev.bind0 hnum (Ev.ite_neg (by simpa using c1) (j true rfl))
theorem Down.tab {n first dst : Int} {d t : List Int} (D : Down n first dst d t) : TabOk n first dst d t := by
  have h1 := D.dlen
  have h2 := D.tlen
  have h3 := D.rng
  refine ⟨⟨D.rng, D.din⟩, by omega, by omega, fun x hx => ?_⟩
  have hl := D.low (x : Int) (by omega) hx
  unfold NodeOk
  by_cases c : (x : Int) = dst
  · have h0 : rd d (x : Int) = 0 := by rw [c]; exact D.d0
    exact .inl ⟨c, h0, D.stop (x : Int) (by omega) hx (by omega)⟩
  · by_cases c2 : rd d (x : Int) = 0
    · exact absurd (D.zero (x : Int) (by omega) hx c2) c
    · by_cases c3 : rd d (x : Int) = -1
      · exact .inr (.inl ⟨c, c3, D.stop (x : Int) (by omega) hx (by omega)⟩)
      · have := D.step (x : Int) (by omega) hx (by omega)
        exact .inr (.inr ⟨c, by omega, this.1, this.2.1, this.2.2⟩)
/-- Every table's row of next nodes leads downhill. -/
def DownOk (d t : List Int) : Prop := d.length = t.length ∧ ∀ x : Nat, x < t.length → 0 ≤ rd t (x : Int) → rd t (x : Int) < t.length → 0 ≤ rd d (rd t (x : Int)) ∧ rd d (rd t (x : Int)) < rd d (x : Int)
theorem TabOk.down {n first dst : Int} {d t : List Int} (h : TabOk n first dst d t) : DownOk d t := by
  obtain ⟨h1, h2, h3, h4⟩ := h
  refine ⟨by omega, fun x hx h0 hn => ?_⟩
  rcases h4 x (by omega) with ⟨_, _, e⟩ | ⟨_, _, e⟩ | ⟨_, e1, _, _, e2⟩
  · omega
  · omega
  · omega
theorem DownOk.no {d t : List Int} (h : DownOk d t) : ¬ Cyc (EdgeIn [t] t.length) := by
  refine fnLoop_no (fun x => rd d x) fun x y he => ?_
  obtain ⟨h0, h1, h2, h3, h4⟩ := edge_rd he
  have h5 := h.2 x.toNat (by omega)
  rw [Int.toNat_of_nonneg h0, h2] at h5
  exact (h5 h3 h4).2
theorem isDown_ev (d t : List Int) (ht : t.length ≤ 1048576) (dst : Int) : ∃ r, Ev (fun k => impl_IsDownhill.f k dst d t) r ∧ (r = true ↔ DownOk d t) := by
  by_cases c : d.length = t.length
  · have key : ∀ m i : Nat, i + m = t.length → ∃ r, Ev (fun k => impl_IsDownhill.l0 k t (t.length : Int) (i : Int) dst d t) r ∧ (r = true ↔ ∀ x : Nat, i ≤ x → x < t.length → 0 ≤ rd t (x : Int) → rd t (x : Int) < t.length → 0 ≤ rd d (rd t (x : Int)) ∧ rd d (rd t (x : Int)) < rd d (x : Int)) := by
      intro m
      induction m with
      | zero =>
        intro i hi
        refine ⟨true, ?_, ?_⟩
        · refine Ev.step (fun k => by rw [impl_IsDownhill.l0]) ?_
          exact Ev.ite_neg (by omega) (Ev.now _)
        · simp only [true_iff]
          intro x h1 h2
          omega
      | succ m ih =>
        intro i hi
        obtain ⟨r, hr, hiff⟩ := ih (i + 1) (by omega)
        have good : (0 ≤ rd t (i : Int) → rd t (i : Int) < t.length → 0 ≤ rd d (rd t (i : Int)) ∧ rd d (rd t (i : Int)) < rd d (i : Int)) → (r = true ↔ ∀ x : Nat, i ≤ x → x < t.length → 0 ≤ rd t (x : Int) → rd t (x : Int) < t.length → 0 ≤ rd d (rd t (x : Int)) ∧ rd d (rd t (x : Int)) < rd d (x : Int)) := by
          intro hok
          rw [hiff]
          constructor
          · intro h x h1 h2
            by_cases e : x = i
            · rw [e]
              exact hok
            · exact h x (by omega) h2
          · exact fun h x h1 h2 => h x (by omega) h2
        have bad : ∀ (q : Prop), (0 ≤ rd t (i : Int) → rd t (i : Int) < t.length → ¬ (0 ≤ rd d (rd t (i : Int)) ∧ rd d (rd t (i : Int)) < rd d (i : Int))) → 0 ≤ rd t (i : Int) ∧ rd t (i : Int) < t.length → (false = true ↔ ∀ x : Nat, i ≤ x → x < t.length → 0 ≤ rd t (x : Int) → rd t (x : Int) < t.length → 0 ≤ rd d (rd t (x : Int)) ∧ rd d (rd t (x : Int)) < rd d (x : Int)) := by
          intro _ hno hin
          constructor
          · intro h
            cases h
          · exact fun h => absurd (h i (by omega) (by omega) hin.1 hin.2) (hno hin.1 hin.2)
        by_cases c1 : 0 ≤ rd t (i : Int) ∧ rd t (i : Int) < (t.length : Int)
        · by_cases c2 : rd d (rd t (i : Int)) < 0
          · refine ⟨false, ?_, bad True (fun _ _ h => by omega) c1⟩
            refine Ev.step (fun k => by rw [impl_IsDownhill.l0]) ?_
            exact Ev.ite_pos (by omega) (Ev.ite_pos (by omega) (Ev.ite_pos (by omega) (Ev.bind0 (ixP _ _) (Ev.ite_pos (decide_eq_true c1) (Ev.ite_pos c1.1 (Ev.ite_pos (by omega) (Ev.ite_pos c2 (Ev.now _))))))))
          · by_cases c3 : rd d (rd t (i : Int)) ≥ rd d (i : Int)
            · refine ⟨false, ?_, bad True (fun _ _ h => by omega) c1⟩
              refine Ev.step (fun k => by rw [impl_IsDownhill.l0]) ?_
              exact Ev.ite_pos (by omega) (Ev.ite_pos (by omega) (Ev.ite_pos (by omega) (Ev.bind0 (ixP _ _) (Ev.ite_pos (decide_eq_true c1) (Ev.ite_pos c1.1 (Ev.ite_pos (by omega) (Ev.ite_neg c2 (Ev.ite_pos (by omega) (Ev.ite_pos c3 (Ev.now _))))))))))
            · refine ⟨r, ?_, good fun _ _ => by omega⟩
              refine Ev.step (fun k => by rw [impl_IsDownhill.l0]) ?_
              refine Ev.ite_pos (by omega) (Ev.ite_pos (by omega) (Ev.ite_pos (by omega) (Ev.bind0 (ixP _ _) (Ev.ite_pos (decide_eq_true c1) (Ev.ite_pos c1.1 (Ev.ite_pos (by omega) (Ev.ite_neg c2 (Ev.ite_pos (by omega) (Ev.ite_neg c3 ?_)))))))))
              rw [w64n (by omega)]
              exact hr
        · refine ⟨r, ?_, good fun h1 h2 => absurd ⟨h1, h2⟩ c1⟩
          refine Ev.step (fun k => by rw [impl_IsDownhill.l0]) ?_
          refine Ev.ite_pos (by omega) (Ev.ite_pos (by omega) (Ev.ite_pos (by omega) (Ev.bind0 (ixP _ _) (Ev.ite_neg (by simpa using c1) ?_))))
          rw [w64n (by omega)]
          exact hr
    obtain ⟨r, hr, hi⟩ := key t.length 0 (by omega)
    refine ⟨r, ?_, ?_⟩
    · unfold impl_IsDownhill.f
      exact Ev.ite_pos (by omega) hr
    · rw [hi]
      exact ⟨fun h => ⟨c, fun x hx => h x (by omega) hx⟩, fun h x _ hx => h.2 x hx⟩
  · refine ⟨false, ?_, ⟨fun h => (by cases h), fun h => absurd h.1 c⟩⟩
    unfold impl_IsDownhill.f
    exact Ev.ite_neg (by omega) (Ev.now _)
theorem containsP (l : List Int) (hl : l.length ≤ 2000000) (v : Int) : ∃ r, Ev (fun k => slices_Contains_int_int.f k l v) r := by
  have key : ∀ m i : Nat, i + m = l.length → ∃ r, Ev (fun k => slices_Index_int_int.l0 k l v (l.length : Int) (i : Int)) r := by
    intro m
    induction m with
    | zero =>
      intro i hi
      refine ⟨-1, ?_⟩
      refine Ev.step (fun k => by rw [slices_Index_int_int.l0]) ?_
      exact Ev.ite_neg (by omega) (Ev.now _)
    | succ m ih =>
      intro i hi
      by_cases c : v = rd l (i : Int)
      · refine ⟨(i : Int), ?_⟩
        refine Ev.step (fun k => by rw [slices_Index_int_int.l0]) ?_
        exact Ev.ite_pos (by omega) (Ev.ite_pos (by omega) (Ev.ite_pos (by omega) (Ev.ite_pos c (Ev.now _))))
      · obtain ⟨r, hr⟩ := ih (i + 1) (by omega)
        refine ⟨r, ?_⟩
        refine Ev.step (fun k => by rw [slices_Index_int_int.l0]) ?_
        refine Ev.ite_pos (by omega) (Ev.ite_pos (by omega) (Ev.ite_pos (by omega) (Ev.ite_neg c ?_)))
        rw [w64n (by omega)]
        exact hr
  obtain ⟨r, hr⟩ := key l.length 0 (by omega)
  refine ⟨decide (r ≥ 0), ?_⟩
  unfold slices_Contains_int_int.f
  exact Ev.bind hr (Ev.now _)
theorem uses_ev (d t : List Int) (ht : t.length ≤ 1048576) (dst v : Int) : ∃ c, Ev (fun k => impl_UsesNode.f k dst d t v) c ∧ c ≤ t.length := by
  have key : ∀ (m i : Nat) (c : Int), i + m = t.length → 0 ≤ c ∧ c ≤ i → ∃ r, Ev (fun k => impl_UsesNode.l0 k v c (t.length : Int) (i : Int) dst d t) r ∧ r ≤ t.length := by
    intro m
    induction m with
    | zero =>
      intro i c hi hc
      refine ⟨c, ?_, by omega⟩
      refine Ev.step (fun k => by rw [impl_UsesNode.l0]) ?_
      exact Ev.ite_neg (by omega) (Ev.now _)
    | succ m ih =>
      intro i c hi hc
      obtain ⟨r, hr, hl⟩ := ih (i + 1) c (by omega) (by omega)
      obtain ⟨r', hr', hl'⟩ := ih (i + 1) (c + 1) (by omega) (by omega)
      by_cases c1 : (i : Int) = v
      · refine ⟨r, ?_, hl⟩
        refine Ev.step (fun k => by rw [impl_UsesNode.l0]) ?_
        refine Ev.ite_pos (by omega) (Ev.ite_pos c1 ?_)
        rw [w64n (by omega)]
        exact hr
      · by_cases c2 : (i : Int) = dst
        · refine ⟨r, ?_, hl⟩
          refine Ev.step (fun k => by rw [impl_UsesNode.l0]) ?_
          refine Ev.ite_pos (by omega) (Ev.ite_neg c1 (Ev.ite_pos c2 ?_))
          rw [w64n (by omega)]
          exact hr
        · obtain ⟨q, hq⟩ := containsP (route t dst (i : Int)) (by have := route_len t dst (i : Int); omega) v
          by_cases c3 : q = true
          · refine ⟨r', ?_, hl'⟩
            refine Ev.step (fun k => by rw [impl_UsesNode.l0]) ?_
            refine Ev.ite_pos (by omega) (Ev.ite_neg c1 (Ev.ite_neg c2 (Ev.bind (routeI t d ht dst (i : Int)) (Ev.bind hq (Ev.ite_pos c3 ?_)))))
            rw [w64n (by omega), w64 (x := c + 1) (by omega) (by omega)]
            exact hr'
          · refine ⟨r, ?_, hl⟩
            refine Ev.step (fun k => by rw [impl_UsesNode.l0]) ?_
            refine Ev.ite_pos (by omega) (Ev.ite_neg c1 (Ev.ite_neg c2 (Ev.bind (routeI t d ht dst (i : Int)) (Ev.bind hq (Ev.ite_neg c3 ?_)))))
            rw [w64n (by omega)]
            exact hr
  obtain ⟨r, hr, hl⟩ := key t.length 0 0 (by omega) (by omega)
  exact ⟨r, hr, hl⟩
end Go.Proofs.Ytiihaabhjphaeaa.fnTables
namespace Go.Proofs.Ytiihaabhjphaeaa.fnTables
open Go.RowKit Go.Proofs.YtiihaabhjphaeaaW.PrintWords Go.Proofs.YtiihaabhjphaeaaW.PrintMore Go.Proofs.Ytiihaabhjphaeaa.QFnTables Go.Proofs.Ytiihaabhjphaeaa.Open Go.Proofs.Ytiihaabhjphaeaa.Kit Go.Proofs.Ytiihaabhjphaeaa.Graph
theorem tail_j1 (l : List S134) (n first dst : Int) : Ev (fun k => laws_FnTables.j1 k n first dst false dst (dists l n first dst) (nextsTo l n first dst)) true := by
  refine Ev.step (fun k => by rw [laws_FnTables.j1]) ?_
  refine Ev.ite_neg (by simp) ?_
  by_cases c : (1 ≤ n ∧ n ≤ 12) ∧ 0 ≤ dst ∧ dst < n
  · have D := down l (first := first) c
    have hd := D.dlen
    have ht := D.tlen
    obtain ⟨r, hr, hi⟩ := isTable_ev n first dst (dists l n first dst) (nextsTo l n first dst)
    obtain ⟨u, hu, hul⟩ := uses_ev (dists l n first dst) (nextsTo l n first dst) (by omega) dst dst
    refine Ev.ite_neg (by omega) (Ev.bind hr (Ev.ite_pos (hi.2 D.tab) (Ev.bind hu (Ev.some (decide_eq_true (by omega))))))
  · have e : dists l n first dst = [] := by
      unfold dists
      rw [if_neg c]
    rw [e]
    exact Ev.ite_pos (by simp) (Ev.now _)
theorem tail_j0 (l : List S134) (n first dst from' s : Int) (d t : List Int) (ht : t.length = 6) : Ev (fun k => laws_FnTables.j0 k n first dst from' (route t s from') false dst (dists l n first dst) (nextsTo l n first dst) s d t) true := by
  have hl := route_len t s from'
  refine Ev.step (fun k => by rw [laws_FnTables.j0]) ?_
  refine Ev.ite_neg (by simp) ?_
  by_cases c : 0 < (route t s from').length
  · have he := route_ends t s from' c
    refine Ev.ite_pos (by omega) (Ev.ite_pos (by omega) (Ev.ite_pos he.1 ?_))
    rw [w64 (x := ((route t s from').length : Int) - 1) (by omega) (by omega)]
    refine Ev.ite_pos (by omega) (Ev.ite_pos (by omega) ?_)
    rw [show ((rd (route t s from') (((route t s from').length : Int) - 1)) != s) = false by rw [he.2]; simp]
    exact tail_j1 l n first dst
  · exact Ev.ite_neg (by omega) (tail_j1 l n first dst)
theorem pure : PureFnTables := by
  intro code hcode
  refine Ev.rounds (r := true) ?_
  unfold laws_FnTables.f
  refine Ev.bind0 rfl ?_
  by_cases hb : (code.length : Int) > 1048576
  · exact Ev.ite_pos (decide_eq_true hb) (Ev.now _)
  · refine Ev.ite_neg (by simpa using hb) ?_
    have hb' : code.length ≤ 1048576 := by omega
    obtain ⟨l, n, first, dst, e1, hl⟩ := drawTableOf_ends code hb'
    obtain ⟨s2, d2, t2, n2, f2, e2, hd2, ht2⟩ := drawIsTable_ends code hb'
    obtain ⟨s3, d3, t3, f3, e3, hd3, ht3⟩ := drawRouteOf_ends code hb'
    have hl1 : l.length ≤ 1048576 := by omega
    have ht2' : t2.length ≤ 1048576 := by omega
    have ht3' : t3.length ≤ 1048576 := by omega
    obtain ⟨r1, h1, i1⟩ := isTable_ev n2 f2 s2 d2 t2
    obtain ⟨r2, h2, i2⟩ := isDown_ev d2 t2 ht2' s2
    refine Ev.bind e1 (Ev.bind (tableI hl1 n first dst) (Ev.bind e2 (Ev.bind e3 (Ev.bind (routeI t3 d3 ht3' s3 f3) (Ev.bind (routeS t3 d3 ht3' s3 f3) (Ev.ite_pos rfl (Ev.bind h1 ?_)))))))
    have fin := tail_j0 l n first dst f3 s3 d3 t3 ht3
    have mid : Ev (fun k => (impl_IsDownhill.f k s2 d2 t2).bind fun t573 => (if t573 = true then ((impl_HasLoop.f k t2).bind fun t574 => (laws_FnTables.j0 k n first dst f3 (route t3 s3 f3) t574 dst (dists l n first dst) (nextsTo l n first dst) s3 d3 t3)) else (laws_FnTables.j0 k n first dst f3 (route t3 s3 f3) false dst (dists l n first dst) (nextsTo l n first dst) s3 d3 t3))) true := by
      refine Ev.bind h2 ?_
      by_cases c : r2 = true
      · exact Ev.ite_pos c (Ev.bind (hasLoop_no t2 ht2' (i2.1 c).no) fin)
      · exact Ev.ite_neg c fin
    by_cases c : r1 = true
    · have hd := (i1.1 c).down
      exact Ev.ite_pos c (Ev.bind h2 (Ev.ite_pos (i2.2 hd) (Ev.bind (hasLoop_no t2 ht2' hd.no) (Ev.ite_neg (by simp) mid))))
    · exact Ev.ite_neg c mid
end Go.Proofs.Ytiihaabhjphaeaa.fnTables
namespace Go.Proofs.Ytiihaabhjphaeaa
theorem fnTables_holds : Rows.FnTablesSaid := fnTables.row fnTables.pure
end Go.Proofs.Ytiihaabhjphaeaa
