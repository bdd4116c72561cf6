/- Walks in a finite graph: a set of nodes each of which leads to one of the set holds a circle. Conditions: none. -/
import Derived.Test.YtlakjlolahjphaaEv
namespace Go.Proofs.Ytlakjlolahjphaa.Graph

/-- m steps lead from x to y. -/
def Walk (E : Int → Int → Prop) : Nat → Int → Int → Prop
  | 0, x, y => x = y
  | m + 1, x, y => ∃ z, E x z ∧ Walk E m z y

theorem Walk.append {E : Int → Int → Prop} : ∀ {a b : Nat} {x y z : Int}, Walk E a x y → Walk E b y z → Walk E (a + b) x z
  | 0, b, x, y, z, h, k => by
    cases h
    rw [Nat.zero_add]
    exact k
  | a + 1, b, x, y, z, h, k => by
    obtain ⟨u, hu, hw⟩ := h
    rw [Nat.add_right_comm]
    exact ⟨u, hu, hw.append k⟩
theorem Walk.one {E : Int → Int → Prop} {x y : Int} (h : E x y) : Walk E 1 x y := ⟨y, h, rfl⟩
theorem Walk.snoc {E : Int → Int → Prop} {m : Nat} {x y z : Int} (h : Walk E m x y) (k : E y z) : Walk E (m + 1) x z := h.append (Walk.one k)
/-- There is a circle. -/
def Cyc (E : Int → Int → Prop) : Prop := ∃ i m, 0 < m ∧ Walk E m i i

/-- Different numbers below n are no more than n. -/
theorem nodup_le : ∀ (n : Nat) (l : List Int), l.Nodup → (∀ x ∈ l, 0 ≤ x ∧ x < n) → l.length ≤ n
  | 0, l, _, h => by
    cases l with
    | nil => simp
    | cons x xs =>
      have := h x List.mem_cons_self
      omega
  | n + 1, l, hd, h => by
    have h1 := nodup_le n (l.erase (n : Int)) (hd.erase _) (fun x hx => by
      have h2 := (List.Nodup.mem_erase_iff hd).1 hx
      have h3 := h x h2.2
      refine ⟨h3.1, ?_⟩
      have := h2.1
      omega)
    by_cases hm : (n : Int) ∈ l
    · rw [List.length_erase_of_mem hm] at h1
      omega
    · rw [List.erase_of_not_mem hm] at h1
      omega

theorem pigeon (n : Nat) (f : Nat → Int) (hf : ∀ i, 0 ≤ f i ∧ f i < n) : ∃ a b, a < b ∧ b ≤ n ∧ f a = f b := by
  refine Classical.byContradiction fun hno => ?_
  have hd : ((List.range (n + 1)).map f).Nodup := by
    unfold List.Nodup
    rw [List.pairwise_map]
    refine List.Pairwise.imp_of_mem ?_ (List.pairwise_lt_range)
    intro a b _ hb hab he
    have := List.mem_range.1 hb
    exact hno ⟨a, b, hab, by omega, he⟩
  have := nodup_le n _ hd (fun x hx => by
    obtain ⟨i, _, rfl⟩ := List.mem_map.1 hx
    exact hf i)
  simp at this
  omega

theorem walk_of_seq {E : Int → Int → Prop} (f : Nat → Int) (hf : ∀ i, E (f i) (f (i + 1))) (a : Nat) : ∀ d, Walk E d (f a) (f (a + d))
  | 0 => rfl
  | d + 1 => (walk_of_seq f hf a d).snoc (hf (a + d))

/-- A set of nodes below n each of which leads to one of the set: there is a circle of at most n steps in it. -/
theorem cyc_of_closed {E : Int → Int → Prop} {n : Nat} (U : Int → Prop) (hU : ∀ x, U x → 0 ≤ x ∧ x < n) (hs : ∀ x, U x → ∃ y, E x y ∧ U y) (x0 : Int) (h0 : U x0) :
    ∃ i m, 0 < m ∧ m ≤ n ∧ U i ∧ Walk E m i i := by
  classical
  let nxt : { x // U x } → { x // U x } := fun x => ⟨Classical.choose (hs x.1 x.2), (Classical.choose_spec (hs x.1 x.2)).2⟩
  have hn : ∀ x, E x.1 (nxt x).1 := fun x => (Classical.choose_spec (hs x.1 x.2)).1
  let g : Nat → { x // U x } := fun k => Nat.rec ⟨x0, h0⟩ (fun _ y => nxt y) k
  have hg : ∀ k, E (g k).1 (g (k + 1)).1 := fun k => hn (g k)
  obtain ⟨a, b, hab, hb, he⟩ := pigeon n (fun k => (g k).1) (fun k => hU _ (g k).2)
  refine ⟨(g a).1, b - a, by omega, by omega, (g a).2, ?_⟩
  have hw := walk_of_seq (E := E) (fun k => (g k).1) hg a (b - a)
  rw [show a + (b - a) = b by omega] at hw
  rw [← he] at hw
  exact hw

/-- The nodes of a circle: each leads to one of them. -/
def On (E : Int → Int → Prop) (i x : Int) : Prop := (∃ a, Walk E a i x) ∧ ∃ b, 0 < b ∧ Walk E b x i
theorem on_next {E : Int → Int → Prop} {i : Int} {k : Nat} (hk : 0 < k) (hw : Walk E k i i) {x : Int} (h : On E i x) : ∃ y, E x y ∧ On E i y := by
  obtain ⟨⟨a, ha⟩, b, hb, hx⟩ := h
  obtain ⟨b, rfl⟩ : ∃ c, b = c + 1 := ⟨b - 1, by omega⟩
  obtain ⟨y, hy, hw2⟩ := hx
  exact ⟨y, hy, ⟨a + 1, ha.snoc hy⟩, b + k, by omega, hw2.append hw⟩
theorem on_self {E : Int → Int → Prop} {i : Int} {k : Nat} (hk : 0 < k) (hw : Walk E k i i) : On E i i := ⟨⟨0, rfl⟩, k, hk, hw⟩

/-! ### tables as a graph -/
/-- From node x some table leads on to node y, one of the first n. -/
def EdgeIn (l : List (List Int)) (n : Nat) (x y : Int) : Prop := ∃ t ∈ l, 0 ≤ x ∧ x < t.length ∧ t.getD x.toNat 0 = y ∧ 0 ≤ y ∧ y < n
/-- Does one more table lead on to a node that is not gone? -/
def ld (n : Nat) (g : List Bool) (x : Nat) (acc : Bool) (t : List Int) : Bool := acc || (decide (x < t.length) && decide (0 ≤ t.getD x 0 ∧ t.getD x 0 < n) && !(g.getD (t.getD x 0).toNat false))
def leads (l : List (List Int)) (n : Nat) (g : List Bool) (x : Nat) : Bool := l.foldl (ld n g x) false
def ps1 (l : List (List Int)) (n : Nat) (s : List Bool × Bool) (x : Nat) : List Bool × Bool := if s.1.getD x false = true then s else if leads l n s.1 x = true then s else (s.1.set x true, true)
theorem ps1_gone {l : List (List Int)} {n : Nat} {s : List Bool × Bool} {x : Nat} (h : s.1.getD x false = true) : ps1 l n s x = s := by
  unfold ps1
  rw [if_pos h]
theorem foldl_or {α : Type} (p : α → Bool) : ∀ (l : List α) (b : Bool), l.foldl (fun acc t => acc || p t) b = (b || l.any p)
  | [], b => by simp
  | x :: xs, b => by
    rw [List.foldl_cons, foldl_or p xs, List.any_cons, Bool.or_assoc]
theorem leads_iff (l : List (List Int)) (n : Nat) (g : List Bool) (x : Nat) : leads l n g x = true ↔ ∃ y, EdgeIn l n (x : Int) y ∧ g.getD y.toNat false = false := by
  have e : leads l n g x = l.any (fun t => decide (x < t.length) && decide (0 ≤ t.getD x 0 ∧ t.getD x 0 < n) && !(g.getD (t.getD x 0).toNat false)) := by
    unfold leads ld
    rw [foldl_or, Bool.false_or]
  rw [e, List.any_eq_true]
  constructor
  · rintro ⟨t, ht, h⟩
    simp only [Bool.and_eq_true, decide_eq_true_eq, Bool.not_eq_true'] at h
    exact ⟨t.getD x 0, ⟨t, ht, by omega, by omega, rfl, h.1.2.1, h.1.2.2⟩, h.2⟩
  · rintro ⟨y, ⟨t, ht, _, h1, h2, h3, h4⟩, h5⟩
    refine ⟨t, ht, ?_⟩
    simp only [Int.toNat_natCast] at h2
    subst h2
    simp only [Bool.and_eq_true, decide_eq_true_eq, Bool.not_eq_true']
    exact ⟨⟨by omega, h3, h4⟩, h5⟩
/-- What every pass keeps: the nodes of each circle. -/
def Keeps (l : List (List Int)) (n : Nat) (g : List Bool) : Prop := ∀ (i : Int) (k : Nat), 0 < k → Walk (EdgeIn l n) k i i → ∀ x : Nat, On (EdgeIn l n) i (x : Int) → g.getD x false = false
theorem getD_set_ne {g : List Bool} {x y : Nat} (h : x ≠ y) : (g.set x true).getD y false = g.getD y false := by
  simp [List.getD, List.getElem?_set_ne h]
theorem count_set {g : List Bool} {x : Nat} (h : x < g.length) (hx : g.getD x false = false) : (g.set x true).count false < g.count false := by
  induction g generalizing x with
  | nil => simp at h
  | cons b bs ih =>
    cases x with
    | zero =>
      simp at hx
      subst hx
      simp
    | succ x =>
      have := ih (x := x) (by simpa using h) (by simpa using hx)
      simp only [List.set_cons_succ, List.count_cons]
      omega
structure PassOk (l : List (List Int)) (n : Nat) (g : List Bool) (i : Nat) (s : List Bool × Bool) : Prop where
  len : s.1.length = n
  keeps : Keeps l n g → Keeps l n s.1
  same : s.2 = false → s.1 = g ∧ ∀ x, x < i → g.getD x false = false → leads l n g x = true
  less : s.2 = true → s.1.count false < g.count false
  le : s.1.count false ≤ g.count false
theorem pass_step {l : List (List Int)} {n : Nat} {g : List Bool} {i : Nat} {s : List Bool × Bool} (hi : i < n) (h : PassOk l n g i s) : PassOk l n g (i + 1) (ps1 l n s i) := by
  unfold ps1
  by_cases h1 : s.1.getD i false = true
  · rw [if_pos h1]
    refine ⟨h.len, h.keeps, fun hs => ⟨(h.same hs).1, fun x hx hg => ?_⟩, h.less, h.le⟩
    rcases Nat.lt_succ_iff_lt_or_eq.1 hx with hx | rfl
    · exact (h.same hs).2 x hx hg
    · rw [(h.same hs).1, hg] at h1
      cases h1
  · rw [if_neg h1]
    have h1' : s.1.getD i false = false := by simpa using h1
    by_cases h2 : leads l n s.1 i = true
    · rw [if_pos h2]
      refine ⟨h.len, h.keeps, fun hs => ⟨(h.same hs).1, fun x hx hg => ?_⟩, h.less, h.le⟩
      rcases Nat.lt_succ_iff_lt_or_eq.1 hx with hx | rfl
      · exact (h.same hs).2 x hx hg
      · rw [(h.same hs).1] at h2
        exact h2
    · rw [if_neg h2]
      have hc := count_set (g := s.1) (x := i) (by rw [h.len]; exact hi) h1'
      have hle := h.le
      refine ⟨by rw [List.length_set]; exact h.len, fun hk j k hk0 hw x hx => ?_, fun hs => (by cases hs), fun _ => by show (s.1.set i true).count false < _; omega, by show (s.1.set i true).count false ≤ _; omega⟩
      have hkx := h.keeps hk j k hk0 hw x hx
      by_cases e : i = x
      · subst e
        exfalso
        apply h2
        rw [leads_iff]
        obtain ⟨y, hy, hon⟩ := on_next hk0 hw hx
        refine ⟨y, hy, ?_⟩
        have hy0 : 0 ≤ y := by obtain ⟨t, _, _, _, _, h3, _⟩ := hy; exact h3
        obtain ⟨m, rfl⟩ := Int.eq_ofNat_of_zero_le hy0
        exact h.keeps hk j k hk0 hw m hon
      · show (s.1.set i true).getD x false = false
        rw [getD_set_ne e]
        exact hkx
open Go.Proofs.Ytlakjlolahjphaa.Kit in
theorem pass_ok {l : List (List Int)} {n : Nat} {g : List Bool} (hg : g.length = n) : ∀ i, i ≤ n → PassOk l n g i (foldTo (ps1 l n) (g, false) (List.range n) i) := by
  intro i
  induction i with
  | zero =>
    intro _
    rw [foldTo_zero]
    exact ⟨hg, fun h => h, fun _ => ⟨rfl, fun x hx => (by omega)⟩, fun h => (by cases h), Nat.le_refl _⟩
  | succ i ih =>
    intro hi
    rw [foldTo_succ (ps1 l n) (g, false) (by rw [List.length_range]; omega) 0]
    have e : (List.range n).getD i 0 = i := by
      rw [getD_at (by rw [List.length_range]; omega)]
      simp
    rw [e]
    exact pass_step (by omega) (ih (by omega))
/-- Behind a pass that changes nothing: some node is left just where there is a circle. -/
theorem left_iff {l : List (List Int)} {n : Nat} {g : List Bool} (hl : ∀ t ∈ l, t.length ≤ n) (hk : Keeps l n g) (hlead : ∀ x, x < n → g.getD x false = false → leads l n g x = true) : (∃ x, x < n ∧ g.getD x false = false) ↔ Cyc (EdgeIn l n) := by
  constructor
  · rintro ⟨x, hx, hg⟩
    obtain ⟨i, m, hm, _, _, hw⟩ := cyc_of_closed (E := EdgeIn l n) (n := n) (fun z => 0 ≤ z ∧ z < n ∧ g.getD z.toNat false = false) (fun z hz => ⟨hz.1, hz.2.1⟩) (fun z hz => by
      obtain ⟨m, rfl⟩ := Int.eq_ofNat_of_zero_le hz.1
      obtain ⟨y, hy, hgy⟩ := (leads_iff l n g m).1 (hlead m (by omega) (by simpa using hz.2.2))
      refine ⟨y, hy, ?_⟩
      obtain ⟨t, _, _, _, _, h3, h4⟩ := hy
      exact ⟨h3, h4, hgy⟩) (x : Int) ⟨by omega, by omega, by simpa using hg⟩
    exact ⟨i, m, hm, hw⟩
  · rintro ⟨i, m, hm, hw⟩
    have hon := on_self hm hw
    obtain ⟨y, hy, _⟩ := on_next hm hw hon
    obtain ⟨t, ht, h0, h1, _⟩ := hy
    obtain ⟨x, rfl⟩ := Int.eq_ofNat_of_zero_le h0
    have := hl t ht
    exact ⟨x, by omega, hk _ m hm hw x hon⟩

/-! ### the reference's search -/
/-- One more table's step from node x. -/
def stp (n x : Nat) (acc : List Int) (t : List Int) : List Int := if x < t.length ∧ (0 ≤ t.getD x 0 ∧ t.getD x 0 < n) ∧ t.getD x 0 ∉ acc then acc ++ [t.getD x 0] else acc
def steps (l : List (List Int)) (n x : Nat) : List Int := l.foldl (stp n x) []
/-- Different numbers below n. -/
def Few (n : Nat) (l : List Int) : Prop := l.Nodup ∧ ∀ y ∈ l, 0 ≤ y ∧ y < n
theorem Few.le {n : Nat} {l : List Int} (h : Few n l) : l.length ≤ n := nodup_le n l h.1 h.2
theorem Few.nil (n : Nat) : Few n [] := ⟨List.nodup_nil, by simp⟩
theorem Few.snoc {n : Nat} {l : List Int} {y : Int} (h : Few n l) (hy : 0 ≤ y ∧ y < n) (hn : y ∉ l) : Few n (l ++ [y]) := by
  refine ⟨?_, fun z hz => ?_⟩
  · rw [List.nodup_append]
    exact ⟨h.1, by simp, fun a ha b hb => by
      rw [List.mem_singleton.1 hb]
      rintro rfl
      exact hn ha⟩
  · rcases List.mem_append.1 hz with hz | hz
    · exact h.2 z hz
    · rw [List.mem_singleton.1 hz]
      exact hy
theorem stp_few {n x : Nat} {acc t : List Int} (h : Few n acc) : Few n (stp n x acc t) := by
  unfold stp
  by_cases hc : x < t.length ∧ (0 ≤ t.getD x 0 ∧ t.getD x 0 < n) ∧ t.getD x 0 ∉ acc
  · rw [if_pos hc]
    exact h.snoc hc.2.1 hc.2.2
  · rw [if_neg hc]
    exact h
theorem foldl_stp_few {n x : Nat} : ∀ (l : List (List Int)) (acc : List Int), Few n acc → Few n (l.foldl (stp n x) acc)
  | [], _, h => h
  | _ :: ts, _, h => foldl_stp_few ts _ (stp_few h)
theorem steps_few (l : List (List Int)) (n x : Nat) : Few n (steps l n x) := foldl_stp_few l [] (Few.nil n)
theorem mem_stp {n x : Nat} {acc t : List Int} {y : Int} : y ∈ stp n x acc t ↔ y ∈ acc ∨ (x < t.length ∧ t.getD x 0 = y ∧ 0 ≤ y ∧ y < n) := by
  unfold stp
  by_cases hc : x < t.length ∧ (0 ≤ t.getD x 0 ∧ t.getD x 0 < n) ∧ t.getD x 0 ∉ acc
  · rw [if_pos hc, List.mem_append, List.mem_singleton]
    constructor
    · rintro (h | rfl)
      · exact .inl h
      · exact .inr ⟨hc.1, rfl, hc.2.1⟩
    · rintro (h | ⟨_, rfl, _⟩)
      · exact .inl h
      · exact .inr rfl
  · rw [if_neg hc]
    constructor
    · exact .inl
    · rintro (h | ⟨h1, rfl, h2⟩)
      · exact h
      · exact Classical.byContradiction fun hn => hc ⟨h1, h2, hn⟩
theorem mem_foldl_stp {n x : Nat} {y : Int} : ∀ (l : List (List Int)) (acc : List Int), y ∈ l.foldl (stp n x) acc ↔ y ∈ acc ∨ ∃ t ∈ l, x < t.length ∧ t.getD x 0 = y ∧ 0 ≤ y ∧ y < n
  | [], acc => by simp
  | t :: ts, acc => by
    rw [List.foldl_cons, mem_foldl_stp ts, mem_stp]
    simp only [List.mem_cons, exists_eq_or_imp]
    rw [or_assoc]
theorem mem_steps {l : List (List Int)} {n x : Nat} {y : Int} : y ∈ steps l n x ↔ EdgeIn l n (x : Int) y := by
  unfold steps
  rw [mem_foldl_stp]
  unfold EdgeIn
  simp only [List.not_mem_nil, false_or, Int.toNat_natCast]
  constructor
  · rintro ⟨t, ht, h1, h2⟩
    exact ⟨t, ht, by omega, by omega, h2⟩
  · rintro ⟨t, ht, _, h1, h2⟩
    exact ⟨t, ht, by omega, h2⟩
/-- One more node that was seen. -/
def addN (seen : List Int) (y : Int) : List Int := if y ∈ seen then seen else seen ++ [y]
theorem mem_addN {seen : List Int} {y z : Int} : z ∈ addN seen y ↔ z ∈ seen ∨ z = y := by
  unfold addN
  by_cases h : y ∈ seen
  · rw [if_pos h]
    exact ⟨.inl, fun h' => h'.elim (fun h' => h') (fun e => e ▸ h)⟩
  · rw [if_neg h]
    simp
theorem addN_few {n : Nat} {seen : List Int} {y : Int} (h : Few n seen) (hy : 0 ≤ y ∧ y < n) : Few n (addN seen y) := by
  unfold addN
  by_cases h' : y ∈ seen
  · rw [if_pos h']
    exact h
  · rw [if_neg h']
    exact h.snoc hy h'
theorem mem_addAll {z : Int} : ∀ (more seen : List Int), z ∈ more.foldl addN seen ↔ z ∈ seen ∨ z ∈ more
  | [], seen => by simp
  | y :: ys, seen => by
    rw [List.foldl_cons, mem_addAll ys, mem_addN, List.mem_cons, or_assoc]
theorem addAll_few {n : Nat} : ∀ (more seen : List Int), Few n seen → (∀ y ∈ more, 0 ≤ y ∧ y < n) → Few n (more.foldl addN seen)
  | [], _, h, _ => h
  | y :: ys, _, h, hy => addAll_few ys _ (addN_few h (hy y List.mem_cons_self)) (fun z hz => hy z (List.mem_cons_of_mem _ hz))
theorem addN_pre {seen : List Int} {y : Int} {j : Nat} (h : j < seen.length) : (addN seen y).getD j 0 = seen.getD j 0 ∧ seen.length ≤ (addN seen y).length := by
  unfold addN
  by_cases h' : y ∈ seen
  · rw [if_pos h']
    exact ⟨rfl, Nat.le_refl _⟩
  · rw [if_neg h']
    exact ⟨by simp [List.getD, List.getElem?_append_left h], by simp⟩
theorem addAll_pre {j : Nat} : ∀ (more seen : List Int), j < seen.length → (more.foldl addN seen).getD j 0 = seen.getD j 0 ∧ seen.length ≤ (more.foldl addN seen).length
  | [], _, _ => ⟨rfl, Nat.le_refl _⟩
  | y :: ys, seen, h => by
    have h1 := addN_pre (y := y) h
    have h2 := addAll_pre (j := j) ys (addN seen y) (Nat.lt_of_lt_of_le h h1.2)
    rw [List.foldl_cons]
    exact ⟨h2.1.trans h1.1, Nat.le_trans h1.2 h2.2⟩
/-- What holds of the search from node i, when the first k of what was seen have been looked at. -/
structure Srch (l : List (List Int)) (n i : Nat) (seen : List Int) (k : Nat) : Prop where
  few : Few n seen
  le : k ≤ seen.length
  from_ : ∀ y ∈ seen, ∃ m, 0 < m ∧ Walk (EdgeIn l n) m i y
  first : ∀ y, EdgeIn l n i y → y ∈ seen
  closed : ∀ j, j < k → seen.getD j 0 ≠ i ∧ ∀ y, EdgeIn l n (seen.getD j 0) y → y ∈ seen
theorem srch_start (l : List (List Int)) (n i : Nat) : Srch l n i (steps l n i) 0 :=
  ⟨steps_few l n i, Nat.zero_le _, fun y hy => ⟨1, by omega, Walk.one (mem_steps.1 hy)⟩, fun y hy => mem_steps.2 hy, fun j hj => by omega⟩
open Go.Proofs.Ytlakjlolahjphaa.Kit in
theorem srch_step {l : List (List Int)} {n i : Nat} {seen : List Int} {k : Nat} (h : Srch l n i seen k) (hk : k < seen.length) (hne : seen.getD k 0 ≠ i) {x : Nat} (hx : seen.getD k 0 = x) : Srch l n i ((steps l n x).foldl addN seen) (k + 1) := by
  have hm := getD_mem hk 0
  obtain ⟨m, hm0, hw⟩ := h.from_ _ hm
  refine ⟨addAll_few _ _ h.few (steps_few l n x).2, ?_, fun y hy => ?_, fun y hy => (mem_addAll _ _).2 (.inl (h.first y hy)), fun j hj => ?_⟩
  · have := (addAll_pre (steps l n x) seen hk).2
    omega
  · rcases (mem_addAll _ _).1 hy with hy | hy
    · exact h.from_ y hy
    · have he := mem_steps.1 hy
      rw [← hx] at he
      exact ⟨m + 1, by omega, hw.snoc he⟩
  · rcases Nat.lt_succ_iff_lt_or_eq.1 hj with hj | rfl
    · have hc := h.closed j hj
      rw [(addAll_pre (steps l n x) seen (by omega : j < seen.length)).1]
      exact ⟨hc.1, fun y hy => (mem_addAll _ _).2 (.inl (hc.2 y hy))⟩
    · rw [(addAll_pre (steps l n x) seen hk).1]
      refine ⟨hne, fun y hy => (mem_addAll _ _).2 (.inr (mem_steps.2 ?_))⟩
      rw [← hx]
      exact hy
open Go.Proofs.Ytlakjlolahjphaa.Kit in
theorem srch_end {l : List (List Int)} {n i : Nat} {seen : List Int} (h : Srch l n i seen seen.length) : ¬ ∃ m, 0 < m ∧ Walk (EdgeIn l n) m i i := by
  have key : ∀ m x y, x ∈ seen → Walk (EdgeIn l n) m x y → y ∈ seen := by
    intro m
    induction m with
    | zero => intro x y hx hw; cases hw; exact hx
    | succ m ih =>
      intro x y hx hw
      obtain ⟨z, hz, hw⟩ := hw
      obtain ⟨j, hj, e⟩ := List.getElem_of_mem hx
      have hc := (h.closed j hj).2 z
      rw [getD_at hj, e] at hc
      exact ih z y (hc hz) hw
  rintro ⟨m, hm, hw⟩
  obtain ⟨m, rfl⟩ : ∃ q, m = q + 1 := ⟨m - 1, by omega⟩
  obtain ⟨z, hz, hw⟩ := hw
  have hi := key m z i (h.first z hz) hw
  obtain ⟨j, hj, e⟩ := List.getElem_of_mem hi
  have hc := (h.closed j hj).1
  rw [getD_at hj] at hc
  exact hc e

/-! ### one table alone -/
theorem walk_split {E : Int → Int → Prop} : ∀ {a b : Nat} {x z : Int}, Walk E (a + b) x z → ∃ y, Walk E a x y ∧ Walk E b y z
  | 0, b, x, z, h => by
    rw [Nat.zero_add] at h
    exact ⟨x, rfl, h⟩
  | a + 1, b, x, z, h => by
    rw [Nat.add_right_comm] at h
    obtain ⟨u, hu, hw⟩ := h
    obtain ⟨y, h1, h2⟩ := walk_split hw
    exact ⟨y, ⟨u, hu, h1⟩, h2⟩
theorem walk_det {E : Int → Int → Prop} (hE : ∀ x y z, E x y → E x z → y = z) : ∀ {a : Nat} {x y z : Int}, Walk E a x y → Walk E a x z → y = z
  | 0, _, _, _, h, k => by cases h; exact k
  | a + 1, x, y, z, h, k => by
    obtain ⟨u, hu, hw⟩ := h
    obtain ⟨v, hv, kw⟩ := k
    rw [hE x u v hu hv] at hw
    exact walk_det hE hw kw
theorem edge_one {l : List Int} {n : Nat} {x y : Int} : EdgeIn [l] n x y ↔ 0 ≤ x ∧ x < l.length ∧ l.getD x.toNat 0 = y ∧ 0 ≤ y ∧ y < n := by
  unfold EdgeIn
  simp
theorem edge_det {l : List Int} {n : Nat} (x y z : Int) (h : EdgeIn [l] n x y) (k : EdgeIn [l] n x z) : y = z := by
  rw [edge_one] at h k
  rw [← h.2.2.1, ← k.2.2.1]
end Go.Proofs.Ytlakjlolahjphaa.Graph
