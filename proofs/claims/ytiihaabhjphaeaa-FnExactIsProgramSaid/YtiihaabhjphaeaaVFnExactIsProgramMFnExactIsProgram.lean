/- FnExactIsProgram: the program and the reference agree on what is a program. Conditions: none. -/
import Derived.Test.YtiihaabhjphaeaaVFnExactIsProgramWMore
import Derived.Test.YtiihaabhjphaeaaVFnExactIsProgramOpen
import Derived.Lib.SlicesCompact
import Derived.Test.YtiihaabhjphaeaaVFnExactIsProgramQFnExactIsProgramx
import Derived.Test.YtiihaabhjphaeaaVFnExactIsProgramRowFnExactIsProgram
/- Small words on answers that come with enough rounds. Conditions: none. -/
namespace Go.Proofs.Ytiihaabhjphaeaa.Kit
open Go.RowKit Go.Proofs.YtiihaabhjphaeaaW.PrintWords Go.Proofs.YtiihaabhjphaeaaW.PrintLast Go.Proofs.YtiihaabhjphaeaaW.PrintMore Go.Proofs.Ytiihaabhjphaeaa.Open

theorem Ev.ite_pos {α : Type} {c : Prop} [Decidable c] {f g : Nat → Option α} {r : α} (h : c) (k : Ev f r) : Ev (fun n => if c then f n else g n) r := by simpa only [if_pos h] using k
theorem Ev.ite_neg {α : Type} {c : Prop} [Decidable c] {f g : Nat → Option α} {r : α} (h : ¬ c) (k : Ev g r) : Ev (fun n => if c then f n else g n) r := by simpa only [if_neg h] using k
theorem Ev.bind0 {α β : Type} {o : Option α} {f : Nat → α → Option β} {a : α} {r : β} (h : o = some a) (k : Ev (fun n => f n a) r) : Ev (fun n => o.bind (f n)) r := by subst h; exact k
theorem Ev.some {α : Type} {r r' : α} (h : r' = r) : Ev (fun _ => some r') r := by subst h; exact Ev.now _
theorem Ev.eq {α : Type} {o : Option α} {r : α} (h : o = Option.some r) : Ev (fun _ => o) r := ⟨0, fun _ _ => h⟩
theorem Ev.uniq {α : Type} {g : Nat → Option α} {r r' : α} (h : Ev g r) (h' : Ev g r') : r = r' := by
  obtain ⟨K, h⟩ := h
  obtain ⟨K', h'⟩ := h'
  exact Option.some.inj ((h (max K K') (Nat.le_max_left _ _)).symm.trans (h' (max K K') (Nat.le_max_right _ _)))
theorem w64 {x : Int} (h0 : -9223372036854775808 ≤ x) (h1 : x ≤ 9223372036854775807) : wrap64 x = x := by
  unfold wrap64
  omega
theorem w64s {i : Int} {n : Nat} (h0 : 0 ≤ i) (h1 : i < (n : Int)) (hn : n ≤ 140737488351232) : wrap64 (i + 1) = i + 1 := w64 (by omega) (by omega)
theorem mx_def (a b : Int) : mx a b = max a b := by unfold mx; omega
theorem mn_def (a b : Int) : mn a b = min a b := by unfold mn; omega
theorem Len.le {B : Nat} {α : Type} {l : List α} (h : Len B l) (hB : 0 < B) : l.length ≤ 140737488351232 := by
  unfold Len at h
  exact Nat.le_trans (Nat.le_mul_of_pos_right _ hB) h
/-! ### loops that count up -/
/-- A loop from 0 to n with one answer: at each i the answer behind one round is the answer, and at n it is there. p: what holds at i. -/
theorem Ev.upIf {ρ : Type} {n : Nat} (p : Nat → Prop) {g : Nat → Nat → Option ρ} {r : ρ} (hs : ∀ i, i < n → p i → (p (i + 1) → Ev (g (i + 1)) r) → Ev (g i) r) (he : p n → Ev (g n) r) (h0 : p 0) : Ev (g 0) r := by
  have key : ∀ d i, i + d = n → p i → Ev (g i) r := by
    intro d
    induction d with
    | zero => intro i hi hp; obtain rfl : i = n := by omega
              exact he hp
    | succ d ih => intro i hi hp; exact hs i (by omega) hp (fun hp' => ih (i + 1) (by omega) hp')
  exact key n 0 (by omega) h0
theorem Ev.up {ρ : Type} {n : Nat} {g : Nat → Nat → Option ρ} {r : ρ} (hs : ∀ i, i < n → Ev (g (i + 1)) r → Ev (g i) r) (he : Ev (g n) r) : Ev (g 0) r :=
  Ev.upIf (fun _ => True) (fun i hi _ h => hs i hi (h trivial)) (fun _ => he) trivial
theorem w64n {i : Nat} (h : i ≤ 140737488351232) : wrap64 ((i : Int) + 1) = ((i + 1 : Nat) : Int) := by
  rw [w64 (by omega) (by omega)]
  omega
theorem rd_nat (xs : List Int) (i : Nat) : rd xs (i : Int) = xs.getD i 0 := rfl
theorem getD_at {α : Type} {xs : List α} {i : Nat} (h : i < xs.length) (z : α) : xs.getD i z = xs[i] := by simp [List.getD, h]
theorem getD_mem {α : Type} {xs : List α} {i : Nat} (h : i < xs.length) (z : α) : xs.getD i z ∈ xs := by rw [getD_at h]; exact List.getElem_mem h
theorem take_succ_getD {α : Type} {xs : List α} {i : Nat} (h : i < xs.length) (z : α) : xs.take (i + 1) = xs.take i ++ [xs.getD i z] := by
  rw [List.take_succ_eq_append_getElem h, getD_at h]
theorem drop_getD {α : Type} {xs : List α} {i : Nat} (h : i < xs.length) (z : α) : xs.drop i = xs.getD i z :: xs.drop (i + 1) := by
  rw [List.drop_eq_getElem_cons h, getD_at h]
/-- A row of zeros that is filled from the left. -/
def fillTo {α β : Type} (c : α → β) (z : β) (xs : List α) (i : Nat) : List β := (xs.take i).map c ++ List.replicate (xs.length - i) z
theorem fillTo_zero {α β : Type} (c : α → β) (z : β) (xs : List α) : fillTo c z xs 0 = List.replicate xs.length z := by simp [fillTo]
theorem fillTo_all {α β : Type} (c : α → β) (z : β) (xs : List α) : fillTo c z xs xs.length = xs.map c := by simp [fillTo]
theorem fillTo_length {α β : Type} (c : α → β) (z : β) (xs : List α) {i : Nat} (h : i ≤ xs.length) : (fillTo c z xs i).length = xs.length := by
  simp [fillTo]
  omega
theorem fillTo_set {α β : Type} (c : α → β) (z : β) (xs : List α) {i : Nat} (h : i < xs.length) (a : α) : (fillTo c z xs i).set i (c (xs.getD i a)) = fillTo c z xs (i + 1) := by
  have hl : ((xs.take i).map c).length = i := by simp; omega
  unfold fillTo
  rw [List.set_append_right _ _ (by omega), hl, Nat.sub_self, take_succ_getD h a, List.map_append, show xs.length - i = (xs.length - (i + 1)) + 1 by omega, List.replicate_succ]
  simp
/-- What the elements from the first up to i weigh. -/
def sumTo {α : Type} (f : α → Nat) (xs : List α) (i : Nat) : Nat := ((xs.take i).map f).sum
theorem sumTo_succ {α : Type} (f : α → Nat) {xs : List α} {i : Nat} (h : i < xs.length) (z : α) : sumTo f xs (i + 1) = sumTo f xs i + f (xs.getD i z) := by
  unfold sumTo
  rw [take_succ_getD h z]
  simp
theorem sumTo_all {α : Type} (f : α → Nat) (xs : List α) : sumTo f xs xs.length = (xs.map f).sum := by simp [sumTo]
theorem sumTo_le {α : Type} (f : α → Nat) (xs : List α) (i : Nat) : sumTo f xs i ≤ (xs.map f).sum := by
  unfold sumTo
  have h := congrArg List.sum (List.take_append_drop i (xs.map f))
  rw [List.sum_append, ← List.map_take] at h
  omega
theorem le_sum {α : Type} (f : α → Nat) {xs : List α} {x : α} (h : x ∈ xs) : f x ≤ (xs.map f).sum := by
  induction xs with
  | nil => cases h
  | cons y ys ih =>
    simp only [List.map_cons, List.sum_cons]
    rcases List.mem_cons.1 h with rfl | h
    · omega
    · have := ih h
      omega
/-- 'left' behind a value of the size n: -1 where it doesn't suffice. -/
def szOf (left : Int) (n : Nat) : Int := if (n : Int) ≤ left then left - n else -1
/-- A fold over the first i elements. -/
def foldTo {α σ : Type} (f : σ → α → σ) (s : σ) (xs : List α) (i : Nat) : σ := (xs.take i).foldl f s
theorem foldTo_zero {α σ : Type} (f : σ → α → σ) (s : σ) (xs : List α) : foldTo f s xs 0 = s := by simp [foldTo]
theorem foldTo_succ {α σ : Type} (f : σ → α → σ) (s : σ) {xs : List α} {i : Nat} (h : i < xs.length) (z : α) : foldTo f s xs (i + 1) = f (foldTo f s xs i) (xs.getD i z) := by
  unfold foldTo
  rw [take_succ_getD h z, List.foldl_append]
  rfl
theorem foldTo_all {α σ : Type} (f : σ → α → σ) (s : σ) (xs : List α) : foldTo f s xs xs.length = xs.foldl f s := by simp [foldTo]
/-! ### lists told by their index -/
theorem map_range_set {β : Type} (n : Nat) (f : Nat → β) (u : Nat) (v : β) : ((List.range n).map f).set u v = (List.range n).map (fun j => if j = u then v else f j) := by
  apply List.ext_getElem
  · simp
  · intro i h1 h2
    rw [List.getElem_set]
    by_cases h : u = i
    · rw [if_pos h]
      simp [h]
    · rw [if_neg h]
      simp [Ne.symm h]
theorem map_range_getD {β : Type} {n : Nat} (f : Nat → β) {u : Nat} (h : u < n) (z : β) : ((List.range n).map f).getD u z = f u := by
  rw [getD_at (by simpa using h)]
  simp
theorem map_range_congr {β : Type} {n : Nat} {f g : Nat → β} (h : ∀ i, i < n → f i = g i) : (List.range n).map f = (List.range n).map g :=
  List.map_congr_left fun i hi => h i (List.mem_range.1 hi)
/-- A loop that counts down from t + n - 1 to t. -/
theorem Ev.down {ρ : Type} {n : Nat} {g : Nat → Nat → Option ρ} {r : ρ} (hs : ∀ m, m < n → Ev (g m) r → Ev (g (m + 1)) r) (he : Ev (g 0) r) : Ev (g n) r := by
  have key : ∀ m, m ≤ n → Ev (g m) r := by
    intro m
    induction m with
    | zero => intro _; exact he
    | succ m ih => intro hm; exact hs m (by omega) (ih (by omega))
  exact key n (Nat.le_refl _)
theorem set_mid {α : Type} (pre suf : List α) (x y : α) {i : Nat} (h : pre.length = i) : (pre ++ x :: suf).set i y = pre ++ y :: suf := by
  rw [List.set_append_right _ _ (by omega), h, Nat.sub_self]
  rfl
theorem getD_mid {α : Type} (pre suf : List α) (x z : α) {i : Nat} (h : pre.length = i) : (pre ++ x :: suf).getD i z = x := by
  subst h
  simp [List.getD]
end Go.Proofs.Ytiihaabhjphaeaa.Kit
/- A search in breadth from one node: what it comes to, and what holds of its answer. Conditions: none. -/
namespace Go.Proofs.Ytiihaabhjphaeaa.Bfs
open Go.RowKit Go.Proofs.YtiihaabhjphaeaaW.PrintWords Go.Proofs.Ytiihaabhjphaeaa.Kit
/-- The neighbors ys of a node whose distance is c - 1: those that have none yet get c and are put behind the queue. -/
def vis (n : Nat) (c : Int) : List Int → List Int → List Int → List Int × List Int
  | [], d, q => (d, q)
  | y :: ys, d, q => if 0 ≤ y ∧ y < n ∧ rd d y < 0 then vis n c ys (d.set y.toNat c) (q ++ [y]) else vis n c ys d q
def bfs (near : Int → List Int) (ex : Int → Bool) (n : Nat) : Nat → List Int → List Int → List Int
  | 0, d, _ => d
  | _ + 1, d, [] => d
  | f + 1, d, x :: q => if ex x = true then bfs near ex n f (vis n (rd d x + 1) (near x) d q).1 (vis n (rd d x + 1) (near x) d q).2 else bfs near ex n f d q
/-- How many have no distance. -/
def neg (d : List Int) : Nat := d.countP (fun x => decide (x < 0))
theorem neg_set : ∀ (d : List Int) (i : Nat) (c : Int), i < d.length → d.getD i 0 < 0 → 0 ≤ c → neg (d.set i c) + 1 = neg d
  | [], i, c, h, _, _ => by simp at h
  | x :: d, 0, c, _, h, hc => by
    have h' : x < 0 := by simpa using h
    have hc' : ¬ c < 0 := by omega
    simp [neg, h', hc']
  | x :: d, i + 1, c, h, hx, hc => by
    have := neg_set d i c (by simpa using h) (by simpa using hx) hc
    simp only [neg, List.set_cons_succ, List.countP_cons] at this ⊢
    omega
theorem neg_le (d : List Int) : neg d ≤ d.length := List.countP_le_length
theorem neg_lt {d : List Int} {x : Int} (hx : x ∈ d) (h : 0 ≤ x) : neg d < d.length := by
  have h1 := List.length_eq_countP_add_countP (fun x : Int => decide (x < 0)) (l := d)
  have h2 : 0 < List.countP (fun a : Int => !decide (a < 0)) d := List.countP_pos_iff.2 ⟨x, hx, by simp; omega⟩
  have h3 : List.countP (fun a : Int => decide ¬ decide (a < 0) = true) d = List.countP (fun a : Int => !decide (a < 0)) d := by
    refine List.countP_congr fun a _ => ?_
    simp
  unfold neg
  omega
theorem rd_set {d : List Int} {i j c : Int} (hi : 0 ≤ i) (hj : 0 ≤ j) (h : i < d.length) : rd (d.set i.toNat c) j = if i = j then c else rd d j := by
  unfold rd
  rw [List.getD_eq_getElem?_getD, List.getElem?_set, List.getD_eq_getElem?_getD]
  by_cases e : i = j
  · subst e
    rw [if_pos rfl, if_pos rfl, if_pos (by omega)]
    rfl
  · rw [if_neg (by omega), if_neg e]
theorem rd_mem {d : List Int} {x : Int} (h0 : 0 ≤ x) (h : x < d.length) : rd d x ∈ d := getD_mem (by omega) 0
theorem vis_spec {n : Nat} {c : Int} (hc : 0 ≤ c) : ∀ (ys d q : List Int), d.length = n → ∃ a, (vis n c ys d q).2 = q ++ a ∧ (vis n c ys d q).1.length = n ∧ neg (vis n c ys d q).1 + a.length = neg d ∧
      (∀ y ∈ a, y ∈ ys ∧ 0 ≤ y ∧ y < n ∧ rd (vis n c ys d q).1 y = c) ∧ (∀ v : Int, 0 ≤ v → v < n → rd (vis n c ys d q).1 v = rd d v ∨ rd d v < 0 ∧ rd (vis n c ys d q).1 v = c ∧ v ∈ a) ∧ ∀ y ∈ ys, 0 ≤ y → y < n → 0 ≤ rd (vis n c ys d q).1 y
  | [], d, q, hd => ⟨[], by simp [vis], hd, by simp [vis], by simp, fun v _ _ => .inl rfl, by simp⟩
  | y :: ys, d, q, hd => by
    by_cases h : 0 ≤ y ∧ y < n ∧ rd d y < 0
    · obtain ⟨a, h1, h2, h3, h4, h5, h6⟩ := vis_spec hc ys (d.set y.toNat c) (q ++ [y]) (by simpa using hd)
      have hs : ∀ v : Int, 0 ≤ v → rd (d.set y.toNat c) v = if y = v then c else rd d v := fun v hv => rd_set h.1 hv (by omega)
      have hy : rd (vis n c ys (d.set y.toNat c) (q ++ [y])).1 y = c := by
        rcases h5 y h.1 h.2.1 with e | ⟨e, _⟩
        · rw [e, hs y h.1, if_pos rfl]
        · rw [hs y h.1, if_pos rfl] at e
          omega
      refine ⟨y :: a, ?_, ?_, ?_, ?_, ?_, ?_⟩
      · simp only [vis, if_pos h]
        rw [h1]
        simp
      · simp only [vis, if_pos h]
        exact h2
      · simp only [vis, if_pos h]
        have := neg_set d y.toNat c (by omega) h.2.2 hc
        rw [List.length_cons]
        omega
      · simp only [vis, if_pos h]
        intro v hv
        rcases List.mem_cons.1 hv with rfl | hv
        · exact ⟨List.mem_cons_self, h.1, h.2.1, hy⟩
        · exact ⟨List.mem_cons_of_mem _ (h4 v hv).1, (h4 v hv).2⟩
      · simp only [vis, if_pos h]
        intro v h0 hn
        by_cases e : y = v
        · subst e
          exact .inr ⟨h.2.2, hy, List.mem_cons_self⟩
        · rcases h5 v h0 hn with g | ⟨g1, g2, g3⟩
          · rw [hs v h0, if_neg e] at g
            exact .inl g
          · rw [hs v h0, if_neg e] at g1
            exact .inr ⟨g1, g2, List.mem_cons_of_mem _ g3⟩
      · simp only [vis, if_pos h]
        intro v hv h0 hn
        rcases List.mem_cons.1 hv with rfl | hv
        · rw [hy]
          exact hc
        · exact h6 v hv h0 hn
    · obtain ⟨a, h1, h2, h3, h4, h5, h6⟩ := vis_spec hc ys d q hd
      simp only [vis, if_neg h]
      refine ⟨a, h1, h2, h3, fun v hv => ⟨List.mem_cons_of_mem _ (h4 v hv).1, (h4 v hv).2⟩, h5, ?_⟩
      intro v hv h0 hn
      rcases List.mem_cons.1 hv with rfl | hv
      · rcases h5 v h0 hn with g | ⟨_, g, _⟩
        · rw [g]
          omega
        · omega
      · exact h6 v hv h0 hn
/-- What holds while the search goes on: d the distances, q the queue. -/
structure Inv (near : Int → List Int) (ex : Int → Bool) (n : Nat) (dst : Int) (d q : List Int) : Prop where
  len : d.length = n
  din : 0 ≤ dst ∧ dst < n
  d0 : rd d dst = 0
  zero : ∀ x : Int, 0 ≤ x → x < n → rd d x = 0 → x = dst
  qin : ∀ x ∈ q, 0 ≤ x ∧ x < n ∧ 0 ≤ rd d x
  low : ∀ x : Int, 0 ≤ x → x < n → -1 ≤ rd d x
  pred : ∀ v : Int, 0 ≤ v → v < n → 0 < rd d v → ∃ u : Int, 0 ≤ u ∧ u < n ∧ ex u = true ∧ v ∈ near u ∧ rd d u = rd d v - 1
  done : ∀ u : Int, 0 ≤ u → u < n → 0 ≤ rd d u → u ∈ q ∨ (ex u = true → ∀ v ∈ near u, 0 ≤ v → v < n → 0 ≤ rd d v ∧ rd d v ≤ rd d u + 1)
  sorted : q.Pairwise (fun x y => rd d x ≤ rd d y)
  head : ∀ h q', q = h :: q' → ∀ v : Int, 0 ≤ v → v < n → rd d v ≤ rd d h + 1
  bound : ∀ v : Int, 0 ≤ v → v < n → rd d v + neg d < n
theorem Inv.skip {near : Int → List Int} {ex : Int → Bool} {n : Nat} {dst x : Int} {d q : List Int} (H : Inv near ex n dst d (x :: q)) (hx : ¬ ex x = true) : Inv near ex n dst d q := by
  have hs := List.pairwise_cons.1 H.sorted
  refine ⟨H.len, H.din, H.d0, H.zero, fun y hy => H.qin y (List.mem_cons_of_mem _ hy), H.low, H.pred, ?_, hs.2, ?_, H.bound⟩
  · intro u h0 hn hu
    rcases H.done u h0 hn hu with h | h
    · rcases List.mem_cons.1 h with rfl | h
      · exact .inr fun he => absurd he hx
      · exact .inl h
    · exact .inr h
  · intro h q' e v h0 hn
    have h1 := H.head x q rfl v h0 hn
    have h2 := hs.1 h (by rw [e]; exact List.mem_cons_self)
    omega
theorem Inv.step {near : Int → List Int} {ex : Int → Bool} {n : Nat} {dst x : Int} {d q : List Int} (H : Inv near ex n dst d (x :: q)) (hx : ex x = true) :
    Inv near ex n dst (vis n (rd d x + 1) (near x) d q).1 (vis n (rd d x + 1) (near x) d q).2 ∧ neg (vis n (rd d x + 1) (near x) d q).1 + (vis n (rd d x + 1) (near x) d q).2.length + 1 = neg d + (x :: q).length := by
  have hs := List.pairwise_cons.1 H.sorted
  have hxi := H.qin x List.mem_cons_self
  obtain ⟨a, h1, h2, h3, h4, h5, h6⟩ := vis_spec (n := n) (c := rd d x + 1) (by omega) (near x) d q H.len
  generalize (vis n (rd d x + 1) (near x) d q).1 = d' at *
  generalize (vis n (rd d x + 1) (near x) d q).2 = q' at *
  subst h1
  have keep : ∀ v : Int, 0 ≤ v → v < n → 0 ≤ rd d v → rd d' v = rd d v := fun v h0 hn hv => by
    rcases h5 v h0 hn with e | ⟨e, _⟩
    · exact e
    · omega
  have up : ∀ v : Int, 0 ≤ v → v < n → rd d' v ≤ rd d x + 1 := fun v h0 hn => by
    rcases h5 v h0 hn with e | ⟨_, e, _⟩
    · rw [e]
      exact H.head x q rfl v h0 hn
    · omega
  have hbx := H.bound x hxi.1 hxi.2.1
  refine ⟨⟨h2, H.din, ?_, ?_, ?_, ?_, ?_, ?_, ?_, ?_, ?_⟩, ?_⟩
  · rw [keep _ H.din.1 H.din.2 (by rw [H.d0]; omega), H.d0]
  · intro v h0 hn e
    rcases h5 v h0 hn with g | ⟨_, g, _⟩
    · exact H.zero v h0 hn (by omega)
    · omega
  · intro v hv
    rcases List.mem_append.1 hv with hv | hv
    · have := H.qin v (List.mem_cons_of_mem _ hv)
      rw [keep v this.1 this.2.1 this.2.2]
      exact this
    · have := h4 v hv
      exact ⟨this.2.1, this.2.2.1, by omega⟩
  · intro v h0 hn
    have := H.low v h0 hn
    rcases h5 v h0 hn with g | ⟨_, g, _⟩ <;> omega
  · intro v h0 hn hv
    rcases h5 v h0 hn with g | ⟨_, g, hm⟩
    · obtain ⟨u, hu0, hun, he, hm, hd⟩ := H.pred v h0 hn (by omega)
      exact ⟨u, hu0, hun, he, hm, by rw [keep u hu0 hun (by omega)]; omega⟩
    · exact ⟨x, hxi.1, hxi.2.1, hx, (h4 v hm).1, by rw [keep x hxi.1 hxi.2.1 hxi.2.2]; omega⟩
  · intro u h0 hn hu
    rcases h5 u h0 hn with g | ⟨_, g, hm⟩
    · rcases H.done u h0 hn (by omega) with h | h
      · rcases List.mem_cons.1 h with rfl | h
        · refine .inr fun _ v hv hv0 hvn => ⟨h6 v hv hv0 hvn, ?_⟩
          have := up v hv0 hvn
          omega
        · exact .inl (List.mem_append_left _ h)
      · refine .inr fun he v hv hv0 hvn => ?_
        have := h he v hv hv0 hvn
        rw [keep v hv0 hvn this.1]
        omega
    · exact .inl (List.mem_append_right _ hm)
  · refine List.pairwise_append.2 ⟨?_, ?_, ?_⟩
    · refine List.Pairwise.imp_of_mem ?_ hs.2
      intro u v hu hv huv
      have h1 := H.qin u (List.mem_cons_of_mem _ hu)
      have h2 := H.qin v (List.mem_cons_of_mem _ hv)
      rw [keep u h1.1 h1.2.1 h1.2.2, keep v h2.1 h2.2.1 h2.2.2]
      exact huv
    · refine List.Pairwise.imp_of_mem (R := fun _ _ => True) ?_ (List.pairwise_iff_getElem.2 fun _ _ _ _ _ => trivial)
      intro u v hu hv _
      rw [(h4 u hu).2.2.2, (h4 v hv).2.2.2]
      omega
    · intro u hu v hv
      rw [(h4 v hv).2.2.2]
      have h1 := H.qin u (List.mem_cons_of_mem _ hu)
      exact up u h1.1 h1.2.1
  · intro h q'' e v h0 hn
    have h1 := up v h0 hn
    have hm : h ∈ q ++ a := by rw [e]; exact List.mem_cons_self
    rcases List.mem_append.1 hm with hm | hm
    · have h2 := hs.1 h hm
      have h3 := H.qin h (List.mem_cons_of_mem _ hm)
      rw [keep h h3.1 h3.2.1 h3.2.2]
      omega
    · rw [(h4 h hm).2.2.2]
      omega
  · intro v h0 hn
    rcases h5 v h0 hn with g | ⟨_, g, hm⟩
    · have := H.bound v h0 hn
      omega
    · have : 0 < a.length := List.length_pos_of_mem hm
      omega
  · rw [List.length_append, List.length_cons]
    omega
theorem bfs_inv {near : Int → List Int} {ex : Int → Bool} {n : Nat} {dst : Int} : ∀ (f : Nat) (d q : List Int), Inv near ex n dst d q → neg d + q.length ≤ f → Inv near ex n dst (bfs near ex n f d q) []
  | 0, d, [], H, _ => H
  | 0, d, x :: q, H, h => by simp at h
  | f + 1, d, [], H, _ => H
  | f + 1, d, x :: q, H, h => by
    simp only [bfs]
    by_cases hx : ex x = true
    · rw [if_pos hx]
      have := H.step hx
      exact bfs_inv f _ _ this.1 (by omega)
    · rw [if_neg hx]
      rw [List.length_cons] at h
      exact bfs_inv f _ _ (H.skip hx) (by omega)
/-- The start: nobody has a distance but the node itself. -/
def start (n : Nat) (dst : Int) : List Int := (List.replicate n (-1)).set dst.toNat 0
theorem rd_start {n : Nat} {dst v : Int} (hd : 0 ≤ dst ∧ dst < n) (h0 : 0 ≤ v) (hn : v < n) : rd (start n dst) v = if dst = v then 0 else -1 := by
  unfold start
  rw [rd_set hd.1 h0 (by simpa using hd.2)]
  by_cases e : dst = v
  · rw [if_pos e, if_pos e]
  · rw [if_neg e, if_neg e]
    unfold rd
    rw [List.getD_eq_getElem?_getD, List.getElem?_replicate, if_pos (by omega)]
    rfl
theorem inv_start (near : Int → List Int) (ex : Int → Bool) {n : Nat} {dst : Int} (hd : 0 ≤ dst ∧ dst < n) : Inv near ex n dst (start n dst) [dst] := by
  have hr : ∀ v : Int, 0 ≤ v → v < n → rd (start n dst) v = if dst = v then 0 else -1 := fun v h0 hn => rd_start hd h0 hn
  have h00 : rd (start n dst) dst = 0 := by rw [hr dst hd.1 hd.2, if_pos rfl]
  have hlen : (start n dst).length = n := by simp [start]
  have hneg : neg (start n dst) < n := by
    have := neg_lt (rd_mem hd.1 (by rw [hlen]; exact hd.2)) (by rw [h00]; omega : 0 ≤ rd (start n dst) dst)
    omega
  refine ⟨hlen, hd, h00, ?_, ?_, ?_, ?_, ?_, ?_, ?_, ?_⟩
  · intro x h0 hn e
    rw [hr x h0 hn] at e
    split at e
    · omega
    · omega
  · intro x hx
    rw [List.mem_singleton] at hx
    subst hx
    exact ⟨hd.1, hd.2, by omega⟩
  · intro x h0 hn
    rw [hr x h0 hn]
    split <;> omega
  · intro v h0 hn hv
    rw [hr v h0 hn] at hv
    split at hv <;> omega
  · intro u h0 hn hu
    rw [hr u h0 hn] at hu
    split at hu
    · rename_i e
      exact .inl (List.mem_singleton.2 e.symm)
    · omega
  · exact List.pairwise_singleton _ _
  · intro h q' e v h0 hn
    injection e with e1 e2
    subst e1
    rw [h00, hr v h0 hn]
    split <;> omega
  · intro v h0 hn
    rw [hr v h0 hn]
    split <;> omega
theorem neg_start_le {n : Nat} {dst : Int} (hd : 0 ≤ dst ∧ dst < n) : neg (start n dst) + 1 ≤ n := by
  have := (inv_start (fun _ => []) (fun _ => true) hd).bound dst hd.1 hd.2
  rw [rd_start hd hd.1 hd.2, if_pos rfl] at this
  omega
/-- The distances of all nodes to dst. -/
def dist (near : Int → List Int) (ex : Int → Bool) (n : Nat) (dst : Int) : List Int := bfs near ex n n (start n dst) [dst]
theorem dist_inv (near : Int → List Int) (ex : Int → Bool) {n : Nat} {dst : Int} (hd : 0 ≤ dst ∧ dst < n) : Inv near ex n dst (dist near ex n dst) [] :=
  bfs_inv n _ _ (inv_start near ex hd) (neg_start_le hd)
end Go.Proofs.Ytiihaabhjphaeaa.Bfs
/- Rows of numbers in order, without doubles: there is one for each set. Conditions: none. -/
namespace Go.Proofs.Ytiihaabhjphaeaa.Nb
/-- In order and without doubles. -/
def Up (l : List Int) : Prop := l.Pairwise (fun x y => x < y)
theorem up_uniq : ∀ {a b : List Int}, Up a → Up b → (∀ x, x ∈ a ↔ x ∈ b) → a = b
  | [], [], _, _, _ => rfl
  | [], y :: b, _, _, h => by
    have := (h y).2 List.mem_cons_self
    cases this
  | x :: a, [], _, _, h => by
    have := (h x).1 List.mem_cons_self
    cases this
  | x :: a, y :: b, ha, hb, h => by
    have h1 := List.pairwise_cons.1 ha
    have h2 := List.pairwise_cons.1 hb
    have e : x = y := by
      rcases List.mem_cons.1 ((h x).1 List.mem_cons_self) with e | m1
      · exact e
      · rcases List.mem_cons.1 ((h y).2 List.mem_cons_self) with e | m2
        · exact e.symm
        · have := h2.1 x m1
          have := h1.1 y m2
          omega
    subst e
    rw [up_uniq h1.2 h2.2 fun z => ?_]
    constructor
    · intro hz
      rcases List.mem_cons.1 ((h z).1 (List.mem_cons_of_mem _ hz)) with e | m
      · have := h1.1 z hz
        omega
      · exact m
    · intro hz
      rcases List.mem_cons.1 ((h z).2 (List.mem_cons_of_mem _ hz)) with e | m
      · have := h2.1 z hz
        omega
      · exact m
theorem compact_up {zs : List Int} (hs : zs.Pairwise (fun x y => x ≤ y)) : Up (Go.Lib.compact zs) ∧ ∀ x, x ∈ Go.Lib.compact zs ↔ x ∈ zs := by
  have hg : ∀ i j, i < j → j < zs.length → zs.toArray[i]! ≤ zs.toArray[j]! := by
    intro i j hij hj
    have := List.pairwise_iff_getElem.1 hs i j (by omega) hj hij
    rw [getElem!_pos zs.toArray i (by simp; omega), getElem!_pos zs.toArray j (by simp; omega)]
    simpa using this
  have key : ∀ m, m ≤ zs.length → Up (Go.Lib.compactUpTo zs.toArray m) ∧ ∀ x, x ∈ Go.Lib.compactUpTo zs.toArray m ↔ ∃ j, j < m ∧ zs.toArray[j]! = x := by
    intro m
    induction m with
    | zero => exact fun _ => ⟨by simp [Up, Go.Lib.compactUpTo], fun x => by simp [Go.Lib.compactUpTo]⟩
    | succ m ih =>
      intro hm
      obtain ⟨h1, h2⟩ := ih (by omega)
      rw [Go.Lib.compactUpTo_succ]
      by_cases hk : Go.Lib.keeps zs.toArray m = true
      · rw [if_pos hk]
        refine ⟨List.pairwise_append.2 ⟨h1, List.pairwise_singleton _ _, ?_⟩, ?_⟩
        · intro x hx y hy
          rw [List.mem_singleton] at hy
          subst hy
          obtain ⟨j, hj, rfl⟩ := (h2 x).1 hx
          have h3 := hg j m hj (by omega)
          have h5 : zs.toArray[m]! ≠ zs.toArray[m - 1]! := by
            intro e
            rw [Go.Lib.keeps_neg (by omega) e] at hk
            cases hk
          have h4 : zs.toArray[j]! ≤ zs.toArray[m - 1]! := by
            by_cases e : j = m - 1
            · rw [e]
              omega
            · exact hg j (m - 1) (by omega) (by omega)
          have h6 := hg (m - 1) m (by omega) (by omega)
          omega
        · intro x
          rw [List.mem_append, h2, List.mem_singleton]
          constructor
          · rintro (⟨j, hj, e⟩ | e)
            · exact ⟨j, by omega, e⟩
            · exact ⟨m, by omega, e.symm⟩
          · rintro ⟨j, hj, e⟩
            by_cases hjm : j = m
            · subst hjm
              exact .inr e.symm
            · exact .inl ⟨j, by omega, e⟩
      · rw [if_neg hk, List.append_nil]
        refine ⟨h1, fun x => ?_⟩
        rw [h2]
        have hm0 : 0 < m := by
          refine Nat.pos_of_ne_zero fun e => ?_
          subst e
          exact hk (Go.Lib.keeps_lt_one _ 0 (by omega))
        have he : zs.toArray[m]! = zs.toArray[m - 1]! := by
          refine Classical.byContradiction fun h => ?_
          exact hk (Go.Lib.keeps_pos h)
        constructor
        · rintro ⟨j, hj, e⟩
          exact ⟨j, by omega, e⟩
        · rintro ⟨j, hj, e⟩
          by_cases hjm : j = m
          · subst hjm
            exact ⟨j - 1, by omega, by rw [← he, e]⟩
          · exact ⟨j, by omega, e⟩
  obtain ⟨h1, h2⟩ := key zs.length (Nat.le_refl _)
  refine ⟨h1, fun x => ?_⟩
  show x ∈ Go.Lib.compactUpTo zs.toArray zs.length ↔ _
  rw [h2]
  constructor
  · rintro ⟨j, hj, rfl⟩
    rw [getElem!_pos zs.toArray j (by simpa using hj)]
    simp
  · intro hx
    obtain ⟨j, hj, e⟩ := List.getElem_of_mem hx
    refine ⟨j, hj, ?_⟩
    rw [getElem!_pos zs.toArray j (by simpa using hj)]
    simpa using e
theorem sorted_up (zs : List Int) : Up (Go.Lib.compact (zs.mergeSort fun x y => decide (x ≤ y))) ∧ ∀ x, x ∈ Go.Lib.compact (zs.mergeSort fun x y => decide (x ≤ y)) ↔ x ∈ zs := by
  have h1 := List.pairwise_mergeSort (le := fun x y : Int => decide (x ≤ y)) (by intro a b c; simp; omega) (by intro a b; simp; omega) zs
  have h2 := compact_up (zs := zs.mergeSort fun x y => decide (x ≤ y)) (h1.imp (by intro a b h; simpa using h))
  refine ⟨h2.1, fun x => ?_⟩
  rw [h2.2, List.mem_mergeSort]
/-- A number put into its place. -/
theorem up_put {out : List Int} {n : Int} {k : Nat} (hu : Up out) (hlt : ∀ x ∈ out.take k, x < n) (hge : ∀ x ∈ out.drop k, n < x) : Up (out.take k ++ n :: out.drop k) ∧ ∀ x, x ∈ out.take k ++ n :: out.drop k ↔ x ∈ out ∨ x = n := by
  have h0 := List.take_append_drop k out
  have hu' : Up (out.take k ++ out.drop k) := by rw [h0]; exact hu
  have h3 := List.pairwise_append.1 hu'
  refine ⟨List.pairwise_append.2 ⟨h3.1, List.pairwise_cons.2 ⟨hge, h3.2.1⟩, ?_⟩, ?_⟩
  · intro x hx y hy
    rcases List.mem_cons.1 hy with rfl | hy
    · exact hlt x hx
    · exact h3.2.2 x hx y hy
  · intro x
    have : x ∈ out ↔ x ∈ out.take k ∨ x ∈ out.drop k := by rw [← List.mem_append, h0]
    rw [this, List.mem_append, List.mem_cons]
    constructor
    · rintro (h | h | h)
      · exact .inl (.inl h)
      · exact .inr h
      · exact .inl (.inr h)
    · rintro ((h | h) | h)
      · exact .inl h
      · exact .inr (.inr h)
      · exact .inr (.inl h)
end Go.Proofs.Ytiihaabhjphaeaa.Nb
/- What neighbors, distances, next nodes and paths come to. Conditions: none. -/
namespace Go.Proofs.Ytiihaabhjphaeaa.fnExactIsProgram
open Go.RowKit Go.Proofs.YtiihaabhjphaeaaW.PrintWords Go.Proofs.YtiihaabhjphaeaaW.PrintLast Go.Proofs.YtiihaabhjphaeaaW.PrintMore Go.Proofs.Ytiihaabhjphaeaa.QFnExactIsProgram Go.Proofs.Ytiihaabhjphaeaa.Open Go.Proofs.Ytiihaabhjphaeaa.Kit Go.Proofs.Ytiihaabhjphaeaa.Nb Go.Proofs.Ytiihaabhjphaeaa.Bfs
theorem ixP (a n : Int) : impl_isIndex.f a n = some (decide (0 ≤ a ∧ a < n)) := by
  unfold impl_isIndex.f
  by_cases h : a ≥ 0
  · rw [if_pos h]
    simp [h]
  · rw [if_neg h]
    simp
    omega
theorem inP (a b c : Int) : spec_l1In.f a b c = some (decide (b ≤ a ∧ a ≤ c)) := by
  unfold spec_l1In.f
  by_cases h : a ≥ b
  · rw [if_pos h]
    simp [h]
  · rw [if_neg h]
    simp
    omega
theorem rgP (a b c : Int) : impl_InRange.f a b c = some (decide (b ≤ a ∧ a ≤ c)) := by
  unfold impl_InRange.f
  by_cases h : b ≤ a
  · rw [if_pos h]
    simp [h]
  · rw [if_neg h]
    simp
    omega
theorem drop_cons {α : Type} {xs ys : List α} {y z : α} {i : Nat} (h : xs.drop i = y :: ys) : i < xs.length ∧ xs.getD i z = y ∧ xs.drop (i + 1) = ys := by
  have hi : i < xs.length := by
    refine Nat.lt_of_not_le fun hn => ?_
    rw [List.drop_of_length_le hn] at h
    cases h
  rw [drop_getD hi z] at h
  injection h with h1 h2
  exact ⟨hi, h1, h2⟩
/-! ### neighbors -/
/-- The neighbors of a node that a link tells. -/
def nbOf (v : Int) (x : S134) : List Int := (if x.f0 = v then [x.f1] else []) ++ (if x.f1 = v then [x.f0] else [])
def nbRaw (l : List S134) (v : Int) : List Int := l.flatMap (nbOf v)
/-- The neighbors of a node, in order. -/
def nb (l : List S134) (v : Int) : List Int := Go.Lib.compact ((nbRaw l v).mergeSort fun x y => decide (x ≤ y))
def Links (l : List S134) (v y : Int) : Prop := ∃ x ∈ l, x.f0 = v ∧ x.f1 = y ∨ x.f1 = v ∧ x.f0 = y
theorem mem_nbOf {v y : Int} {x : S134} : y ∈ nbOf v x ↔ x.f0 = v ∧ x.f1 = y ∨ x.f1 = v ∧ x.f0 = y := by
  unfold nbOf
  rw [List.mem_append]
  constructor
  · rintro (h | h)
    · split at h
      · rename_i c
        exact .inl ⟨c, (List.mem_singleton.1 h).symm⟩
      · cases h
    · split at h
      · rename_i c
        exact .inr ⟨c, (List.mem_singleton.1 h).symm⟩
      · cases h
  · rintro (⟨h1, h2⟩ | ⟨h1, h2⟩)
    · left
      rw [if_pos h1]
      exact List.mem_singleton.2 h2.symm
    · right
      rw [if_pos h1]
      exact List.mem_singleton.2 h2.symm
theorem mem_nb {l : List S134} {v y : Int} : y ∈ nb l v ↔ Links l v y := by
  rw [nb, (sorted_up (nbRaw l v)).2 y, nbRaw, List.mem_flatMap]
  constructor
  · rintro ⟨x, hx, h⟩
    exact ⟨x, hx, mem_nbOf.1 h⟩
  · rintro ⟨x, hx, h⟩
    exact ⟨x, hx, mem_nbOf.2 h⟩
theorem nb_up (l : List S134) (v : Int) : Up (nb l v) := (sorted_up (nbRaw l v)).1
theorem nb_sym {l : List S134} {v y : Int} : y ∈ nb l v ↔ v ∈ nb l y := by
  rw [mem_nb, mem_nb]
  constructor <;>
  · rintro ⟨x, hx, ⟨h1, h2⟩ | ⟨h1, h2⟩⟩
    · exact ⟨x, hx, .inr ⟨h2, h1⟩⟩
    · exact ⟨x, hx, .inl ⟨h2, h1⟩⟩
theorem nbOf_len (v : Int) (x : S134) : (nbOf v x).length ≤ 2 := by
  unfold nbOf
  split <;> split <;> simp
theorem nbRaw_len (l : List S134) (v : Int) : (nbRaw l v).length ≤ 2 * l.length := by
  unfold nbRaw
  induction l with
  | nil => simp
  | cons x l ih =>
    rw [List.flatMap_cons, List.length_append, List.length_cons]
    have := nbOf_len v x
    omega
theorem nb_len (l : List S134) (v : Int) : (nb l v).length ≤ 2 * l.length := by
  have h1 : (nb l v).length ≤ ((nbRaw l v).mergeSort fun x y => decide (x ≤ y)).length := by
    unfold nb Go.Lib.compact Go.Lib.compactUpTo
    rw [List.length_map]
    exact Nat.le_trans (List.length_filter_le _ _) (by simp)
  rw [List.length_mergeSort] at h1
  have := nbRaw_len l v
  omega
theorem nbI_l0 {l : List S134} (hl : l.length ≤ 1048576) (v : Int) : ∀ (d i : Nat), i + d = l.length → Ev (fun k => impl_NeighborsIn.l0 k v (nbRaw (l.take i) v) l (l.length : Int) (i : Int)) (nb l v) := by
  intro d
  induction d with
  | zero =>
    intro i hi
    have hr := nbRaw_len l v
    rw [List.take_of_length_le (by omega)]
    refine Ev.step (fun k => by rw [impl_NeighborsIn.l0]) ?_
    refine Ev.ite_neg (by omega) (Ev.bind0 (a := (nbRaw l v).mergeSort fun x y => decide (x ≤ y)) ?_ (Ev.bind0 (a := nb l v) ?_ (Ev.now _)))
    · unfold slices_Sort_int_int.f
      rw [if_pos (by omega)]
    · unfold slices_Compact_int_int.f
      rw [if_pos (by rw [List.length_mergeSort]; omega)]
      rfl
  | succ d ih =>
    intro i hi
    have hr := nbRaw_len (l.take i) v
    rw [List.length_take] at hr
    have h := ih (i + 1) (by omega)
    have he : nbRaw (l.take (i + 1)) v = nbRaw (l.take i) v ++ nbOf v (rd_T134 l (i : Int)) := by
      unfold nbRaw
      rw [take_succ_getD (show i < l.length by omega) z134, List.flatMap_append]
      simp
      rfl
    rw [he] at h
    refine Ev.step (fun k => by rw [impl_NeighborsIn.l0]) ?_
    refine Ev.ite_pos (by omega) (Ev.ite_pos (by omega) (Ev.ite_pos (by omega) ?_))
    rw [w64n (by omega)]
    by_cases c1 : (rd_T134 l (i : Int)).f0 = v
    · refine Ev.ite_pos c1 (Ev.ite_pos (by omega) (Ev.bind0 rfl ?_))
      by_cases c2 : (rd_T134 l (i : Int)).f1 = v
      · refine Ev.ite_pos c2 (Ev.ite_pos (by rw [List.length_append, List.length_singleton]; omega) ?_)
        unfold nbOf at h
        rw [if_pos c1, if_pos c2, ← List.append_assoc] at h
        exact h
      · refine Ev.ite_neg c2 ?_
        unfold nbOf at h
        rw [if_pos c1, if_neg c2, List.append_nil] at h
        exact h
    · refine Ev.ite_neg c1 ?_
      by_cases c2 : (rd_T134 l (i : Int)).f1 = v
      · refine Ev.ite_pos c2 (Ev.ite_pos (by omega) ?_)
        unfold nbOf at h
        rw [if_neg c1, if_pos c2, List.nil_append] at h
        exact h
      · refine Ev.ite_neg c2 ?_
        unfold nbOf at h
        rw [if_neg c1, if_neg c2, List.append_nil, List.append_nil] at h
        exact h
theorem nbI {l : List S134} (hl : l.length ≤ 1048576) (v : Int) : Ev (fun k => impl_NeighborsIn.f k l v) (nb l v) := nbI_l0 hl v l.length 0 (by omega)
/-- The row is that of the neighbors which the first i links tell. -/
def NbTo (l : List S134) (v : Int) (i : Nat) (out : List Int) : Prop := Up out ∧ out.length ≤ i ∧ ∀ y, y ∈ out ↔ Links (l.take i) v y
theorem nbS_l1 {l : List S134} {v n : Int} {i : Nat} {out r : List Int} (hl : l.length ≤ 1048576) (hi : i < l.length) (hu : Up out) (ho : out.length ≤ i)
    (hk : ∀ out', Up out' → out'.length ≤ i + 1 → (∀ x, x ∈ out' ↔ x ∈ out ∨ x = n) → Ev (fun k => spec_NeighborsIn.l0 k l v out' ((i + 1 : Nat) : Int)) r) :
    ∀ (d q : Nat), q + d = out.length → (∀ x ∈ out.take q, x < n) → Ev (fun k => spec_NeighborsIn.l1 k l v out (i : Int) n (q : Int)) r := by
  intro d
  induction d with
  | zero =>
    intro q hq hlt
    have hp := up_put (k := q) hu hlt (by rw [List.drop_of_length_le (by omega)]; simp)
    have hlen : (out.take q ++ n :: out.drop q).length = out.length + 1 := by
      rw [List.length_append, List.length_cons, List.length_take, List.length_drop]
      omega
    have h := hk _ hp.1 (by omega) hp.2
    refine Ev.step (fun k => by rw [spec_NeighborsIn.l1]) ?_
    refine Ev.ite_neg (by omega) (Ev.ite_pos (by omega) (Ev.bind0 rfl (Ev.ite_pos (by omega) (Ev.ite_pos (by omega) ?_))))
    rw [Int.toNat_natCast, w64n (by omega)]
    refine Ev.bind0 rfl (Ev.ite_pos ?_ (Ev.bind0 rfl (Ev.bind0 rfl (Ev.ite_pos ?_ (Ev.bind0 rfl (Ev.bind0 rfl (Ev.ite_pos ?_ ?_)))))))
    · simp only [List.length_nil, List.length_take]
      omega
    · simp only [List.length_append, List.length_nil, List.length_take, List.length_cons]
      omega
    · simp only [List.length_append, List.length_nil, List.length_take, List.length_cons, List.length_drop]
      omega
    · rw [List.nil_append, List.append_assoc]
      exact h
  | succ d ih =>
    intro q hq hlt
    have hql : q < out.length := by omega
    refine Ev.step (fun k => by rw [spec_NeighborsIn.l1]) ?_
    refine Ev.ite_pos (by omega) (Ev.ite_pos (by omega) ?_)
    rw [rd_nat]
    by_cases c : out.getD q 0 < n
    · refine Ev.ite_pos c ?_
      rw [w64n (by omega)]
      refine ih (q + 1) (by omega) ?_
      intro x hx
      rw [take_succ_getD hql 0, List.mem_append, List.mem_singleton] at hx
      rcases hx with hx | rfl
      · exact hlt x hx
      · exact c
    · refine Ev.ite_neg c (Ev.ite_neg (by omega) ?_)
      rw [w64n (by omega)]
      by_cases c2 : out.getD q 0 = n
      · refine Ev.ite_pos c2 (hk out hu (by omega) fun x => ⟨.inl, ?_⟩)
        rintro (h | rfl)
        · exact h
        · rw [← c2]
          exact getD_mem hql 0
      · have hge : ∀ x ∈ out.drop q, n < x := by
          intro x hx
          have h1 : Up (out.drop q) := List.Pairwise.sublist (List.drop_sublist q out) hu
          rw [drop_getD hql 0] at h1 hx
          rcases List.mem_cons.1 hx with rfl | hx
          · omega
          · have := (List.pairwise_cons.1 h1).1 x hx
            omega
        have hp := up_put (k := q) hu hlt hge
        have hlen : (out.take q ++ n :: out.drop q).length = out.length + 1 := by
          rw [List.length_append, List.length_cons, List.length_take, List.length_drop]
          omega
        have h := hk _ hp.1 (by omega) hp.2
        refine Ev.ite_neg c2 (Ev.bind0 rfl (Ev.ite_pos (by omega) ?_))
        rw [Int.toNat_natCast]
        refine Ev.bind0 rfl (Ev.ite_pos ?_ (Ev.bind0 rfl (Ev.bind0 rfl (Ev.ite_pos ?_ (Ev.bind0 rfl (Ev.bind0 rfl (Ev.ite_pos ?_ ?_)))))))
        · simp only [List.length_nil, List.length_take]
          omega
        · simp only [List.length_append, List.length_nil, List.length_take, List.length_cons]
          omega
        · simp only [List.length_append, List.length_nil, List.length_take, List.length_cons, List.length_drop]
          omega
        · rw [List.nil_append, List.append_assoc]
          exact h
theorem nbS_l0 {l : List S134} (hl : l.length ≤ 1048576) (v : Int) : ∀ (d i : Nat) (out : List Int), i + d = l.length → NbTo l v i out → Ev (fun k => spec_NeighborsIn.l0 k l v out (i : Int)) (nb l v) := by
  intro d
  induction d with
  | zero =>
    intro i out hi ho
    refine Ev.step (fun k => by rw [spec_NeighborsIn.l0]) ?_
    refine Ev.ite_neg (by omega) (Ev.some (up_uniq ho.1 (nb_up l v) fun x => ?_))
    rw [ho.2.2 x, mem_nb, List.take_of_length_le (by omega)]
  | succ d ih =>
    intro i out hi ho
    have hL : ∀ y, Links (l.take (i + 1)) v y ↔ Links (l.take i) v y ∨ ((rd_T134 l (i : Int)).f0 = v ∧ (rd_T134 l (i : Int)).f1 = y ∨ (rd_T134 l (i : Int)).f1 = v ∧ (rd_T134 l (i : Int)).f0 = y) := by
      intro y
      unfold Links
      rw [take_succ_getD (show i < l.length by omega) z134]
      constructor
      · rintro ⟨x, hx, h⟩
        rcases List.mem_append.1 hx with hx | hx
        · exact .inl ⟨x, hx, h⟩
        · rw [List.mem_singleton.1 hx] at h
          exact .inr h
      · rintro (⟨x, hx, h⟩ | h)
        · exact ⟨x, List.mem_append_left _ hx, h⟩
        · exact ⟨_, List.mem_append_right _ (List.mem_singleton.2 rfl), h⟩
    refine Ev.step (fun k => by rw [spec_NeighborsIn.l0]) ?_
    refine Ev.ite_pos (by omega) (Ev.ite_pos (by omega) ?_)
    by_cases c1 : (rd_T134 l (i : Int)).f0 = v
    · refine Ev.ite_pos c1 ?_
      refine Ev.step (fun k => by rw [spec_NeighborsIn.j1]) ?_
      refine nbS_l1 (i := i) hl (by omega) ho.1 ho.2.1 (fun out' hu hlen hm => ih (i + 1) out' (by omega) ⟨hu, hlen, fun y => ?_⟩) out.length 0 (by omega) (by simp)
      rw [hm, hL, ho.2.2 y]
      constructor
      · rintro (h | h)
        · exact .inl h
        · exact .inr (.inl ⟨c1, h.symm⟩)
      · rintro (h | ⟨_, h⟩ | ⟨h1, h2⟩)
        · exact .inl h
        · exact .inr h.symm
        · exact .inr (by omega)
    · refine Ev.ite_neg c1 ?_
      by_cases c2 : (rd_T134 l (i : Int)).f1 = v
      · refine Ev.ite_pos c2 ?_
        refine Ev.step (fun k => by rw [spec_NeighborsIn.j1]) ?_
        refine nbS_l1 (i := i) hl (by omega) ho.1 ho.2.1 (fun out' hu hlen hm => ih (i + 1) out' (by omega) ⟨hu, hlen, fun y => ?_⟩) out.length 0 (by omega) (by simp)
        rw [hm, hL, ho.2.2 y]
        constructor
        · rintro (h | h)
          · exact .inl h
          · exact .inr (.inr ⟨c2, h.symm⟩)
        · rintro (h | ⟨h, _⟩ | ⟨_, h⟩)
          · exact .inl h
          · exact absurd h c1
          · exact .inr h.symm
      · refine Ev.ite_neg c2 ?_
        rw [w64n (by omega)]
        refine ih (i + 1) out (by omega) ⟨ho.1, by have := ho.2.1; omega, fun y => ?_⟩
        rw [hL, ho.2.2 y]
        constructor
        · exact .inl
        · rintro (h | ⟨h, _⟩ | ⟨h, _⟩)
          · exact h
          · exact absurd h c1
          · exact absurd h c2
theorem nbS {l : List S134} (hl : l.length ≤ 1048576) (v : Int) : Ev (fun k => spec_NeighborsIn.f k l v) (nb l v) := by
  refine nbS_l0 hl v l.length 0 [] (by omega) ⟨List.Pairwise.nil, by simp, fun y => ?_⟩
  simp [Links]
/-! ### distances -/
def exB (first dst x : Int) : Bool := decide (x = dst ∨ x < first)
/-- The distances to dst. -/
def dists (l : List S134) (n first dst : Int) : List Int := if (1 ≤ n ∧ n ≤ 12) ∧ 0 ≤ dst ∧ dst < n then dist (nb l) (exB first dst) n.toNat dst else []
theorem dists_inv {l : List S134} {n first dst : Int} (h : (1 ≤ n ∧ n ≤ 12) ∧ 0 ≤ dst ∧ dst < n) : Inv (nb l) (exB first dst) n.toNat dst (dists l n first dst) [] := by
  unfold dists
  rw [if_pos h]
  exact dist_inv _ _ ⟨h.2.1, by omega⟩
theorem vis_len {n : Nat} {c : Int} (hc : 0 ≤ c) {ys d q : List Int} (hd : d.length = n) : (vis n c ys d q).1.length = n := by
  obtain ⟨_, _, h, _⟩ := vis_spec hc ys d q hd
  exact h
theorem distI_l2 {l : List S134} {n : Nat} {first dst x c : Int} {near r : List Int} (hn : n ≤ 12) (hx : 0 ≤ x ∧ x < n) (hc : 1 ≤ c ∧ c ≤ 100) (hnear : near.length ≤ 10000000) :
    ∀ (ys : List Int) (i : Nat) (d q : List Int), near.drop i = ys → i ≤ near.length → d.length = n → rd d x = c - 1 → q.length + neg d ≤ 100 →
      Ev (fun k => impl_DistancesTo.l1 k l (n : Int) first dst (vis n c ys d q).1 (vis n c ys d q).2) r → Ev (fun k => impl_DistancesTo.l2 k l (n : Int) first dst d (x :: q) x near (near.length : Int) (i : Int)) r
  | [], i, d, q, hy, hi, hd, hr, hq, h => by
    have hi' : near.length ≤ i := List.drop_eq_nil_iff.1 hy
    refine Ev.step (fun k => by rw [impl_DistancesTo.l2]) ?_
    refine Ev.ite_neg (by omega) (Ev.ite_pos ?_ h)
    rw [List.length_cons]
    omega
  | y :: ys, i, d, q, hy, hi, hd, hr, hq, h => by
    obtain ⟨hi', hg, hy'⟩ := drop_cons (z := 0) hy
    refine Ev.step (fun k => by rw [impl_DistancesTo.l2]) ?_
    refine Ev.ite_pos (by omega) (Ev.ite_pos (by omega) (Ev.ite_pos (by omega) ?_))
    rw [rd_nat, hg, w64n (by omega)]
    refine Ev.bind0 (ixP y n) ?_
    by_cases c1 : 0 ≤ y ∧ y < n
    · refine Ev.ite_pos (decide_eq_true c1) (Ev.ite_pos c1.1 (Ev.ite_pos (by omega) ?_))
      by_cases c2 : rd d y < 0
      · refine Ev.ite_pos c2 (Ev.ite_pos hx.1 (Ev.ite_pos (by omega) (Ev.ite_pos (by rw [List.length_cons]; omega) ?_)))
        have hng := neg_set d y.toNat c (by omega) c2 (by omega)
        rw [hr, show c - 1 + 1 = c by omega, w64 (by omega) (by omega)]
        have hxy : y ≠ x := by
          intro e
          subst e
          omega
        refine distI_l2 hn hx hc hnear ys (i + 1) (d.set y.toNat c) (q ++ [y]) hy' (by omega) (by rw [List.length_set]; exact hd) ?_ ?_ ?_
        · rw [rd_set c1.1 hx.1 (by omega), if_neg hxy, hr]
        · rw [List.length_append, List.length_singleton]
          omega
        · simp only [vis, if_pos (show 0 ≤ y ∧ y < n ∧ rd d y < 0 from ⟨c1.1, c1.2, c2⟩)] at h
          exact h
      · refine Ev.ite_neg c2 (distI_l2 hn hx hc hnear ys (i + 1) d q hy' (by omega) hd hr hq ?_)
        simp only [vis, if_neg (show ¬ (0 ≤ y ∧ y < n ∧ rd d y < 0) from fun h => c2 h.2.2)] at h
        exact h
    · refine Ev.ite_neg (by simpa using c1) (distI_l2 hn hx hc hnear ys (i + 1) d q hy' (by omega) hd hr hq ?_)
      simp only [vis, if_neg (show ¬ (0 ≤ y ∧ y < n ∧ rd d y < 0) from fun h => c1 ⟨h.1, h.2.1⟩)] at h
      exact h
theorem distI_l1 {l : List S134} (hl : l.length ≤ 1048576) {n : Nat} {first dst : Int} (hn : n ≤ 12) : ∀ (f : Nat) (d q : List Int), Inv (nb l) (exB first dst) n dst d q → neg d + q.length ≤ f → f ≤ 100 →
    Ev (fun k => impl_DistancesTo.l1 k l (n : Int) first dst d q) (bfs (nb l) (exB first dst) n f d q)
  | 0, d, [], _, _, _ => by
    refine Ev.step (fun k => by rw [impl_DistancesTo.l1]) ?_
    exact Ev.ite_neg (by simp) (Ev.now _)
  | 0, d, x :: q, _, h, _ => by simp at h
  | f + 1, d, [], _, _, _ => by
    refine Ev.step (fun k => by rw [impl_DistancesTo.l1]) ?_
    exact Ev.ite_neg (by simp) (Ev.now _)
  | f + 1, d, x :: q, H, hf, hf1 => by
    rw [List.length_cons] at hf
    have hrd : rd (x :: q) 0 = x := rfl
    refine Ev.step (fun k => by rw [impl_DistancesTo.l1]) ?_
    refine Ev.ite_pos (by rw [List.length_cons]; omega) (Ev.ite_pos (by rw [List.length_cons]; omega) ?_)
    rw [hrd]
    have hb := H.qin x List.mem_cons_self
    have hbd := H.bound x hb.1 hb.2.1
    have go : exB first dst x = true → Ev (fun k => impl_DistancesTo.j3 k l (n : Int) first dst d (x :: q) x false) (bfs (nb l) (exB first dst) n (f + 1) d (x :: q)) := by
      intro hx
      have hs := H.step hx
      refine Ev.step (fun k => by rw [impl_DistancesTo.j3]) ?_
      refine Ev.ite_neg (by simp) (Ev.bind (nbI hl x) ?_)
      have hnl := nb_len l x
      refine distI_l2 (i := 0) hn ⟨hb.1, hb.2.1⟩ (c := rd d x + 1) (by omega) (by omega) _ _ _ rfl (by omega) H.len (by omega) (by omega) ?_
      rw [List.drop_zero]
      simp only [bfs, if_pos hx]
      rw [List.length_cons] at hs
      exact distI_l1 hl hn f _ _ hs.1 (by omega) (by omega)
    by_cases c : x = dst
    · exact Ev.ite_pos c (go (by simp [exB, c]))
    · refine Ev.ite_neg c ?_
      by_cases c2 : x < first
      · rw [decide_eq_false (by omega : ¬ x ≥ first)]
        exact go (by simp [exB, c2])
      · have hx : ¬ exB first dst x = true := by simp [exB, c]; omega
        rw [decide_eq_true (by omega : x ≥ first)]
        refine Ev.step (fun k => by rw [impl_DistancesTo.j3]) ?_
        refine Ev.ite_pos rfl (Ev.ite_pos (by rw [List.length_cons]; omega) ?_)
        simp only [bfs, if_neg hx]
        exact distI_l1 hl hn f d q (H.skip hx) (by omega) (by omega)
theorem distI_l0 {l : List S134} (hl : l.length ≤ 1048576) {n : Nat} {first dst : Int} (hn : n ≤ 12) (hd : 0 ≤ dst ∧ dst < n) : ∀ (m i : Nat), i + m = n →
    Ev (fun k => impl_DistancesTo.l0 k l (n : Int) first dst (List.replicate i (-1)) (n : Int) (i : Int)) (dist (nb l) (exB first dst) n dst) := by
  intro m
  induction m with
  | zero =>
    intro i hi
    obtain rfl : i = n := by omega
    refine Ev.step (fun k => by rw [impl_DistancesTo.l0]) ?_
    refine Ev.ite_neg (by omega) (Ev.ite_pos hd.1 (Ev.ite_pos (by rw [List.length_replicate]; exact hd.2) ?_))
    exact distI_l1 hl hn i _ _ (inv_start _ _ hd) (neg_start_le hd) (by omega)
  | succ m ih =>
    intro i hi
    refine Ev.step (fun k => by rw [impl_DistancesTo.l0]) ?_
    refine Ev.ite_pos (by omega) (Ev.ite_pos (by rw [List.length_replicate]; omega) ?_)
    rw [w64n (by omega), show List.replicate i (-1 : Int) ++ [-1] = List.replicate (i + 1) (-1) from List.replicate_succ'.symm]
    exact ih (i + 1) (by omega)
theorem distI {l : List S134} (hl : l.length ≤ 1048576) (n first dst : Int) : Ev (fun k => impl_DistancesTo.f k l n first dst) (dists l n first dst) := by
  unfold impl_DistancesTo.f
  refine Ev.bind0 rfl (Ev.bind0 (a := decide (1 ≤ n ∧ n ≤ 12)) ?_ ?_)
  · unfold impl_isNumber.f
    rw [rgP]
    rfl
  · unfold dists
    by_cases c1 : 1 ≤ n ∧ n ≤ 12
    · refine Ev.ite_pos (decide_eq_true c1) (Ev.bind0 (ixP dst n) ?_)
      by_cases c2 : 0 ≤ dst ∧ dst < n
      · rw [decide_eq_true c2, if_pos ⟨c1, c2⟩]
        refine Ev.step (fun k => by rw [impl_DistancesTo.j0]) ?_
        refine Ev.ite_neg (by simp) ?_
        have h := distI_l0 hl (n := n.toNat) (first := first) (dst := dst) (by omega) (by omega) n.toNat 0 (by omega)
        rw [Int.toNat_of_nonneg (by omega)] at h
        exact h
      · rw [decide_eq_false c2, if_neg (fun h => c2 h.2)]
        refine Ev.step (fun k => by rw [impl_DistancesTo.j0]) ?_
        exact Ev.ite_pos rfl (Ev.now _)
    · refine Ev.ite_neg (by simpa using c1) ?_
      rw [if_neg (fun h => c1 h.1)]
      refine Ev.step (fun k => by rw [impl_DistancesTo.j0]) ?_
      exact Ev.ite_pos rfl (Ev.now _)
theorem distS_l2 {l : List S134} {n : Nat} {first dst x c : Int} {near r pre : List Int} (hn : n ≤ 12) (hx : 0 ≤ x ∧ x < n) (hc : 1 ≤ c ∧ c ≤ 100) (hnear : near.length ≤ 10000000) (hp : pre.length ≤ 1000) :
    ∀ (ys : List Int) (i : Nat) (d q : List Int), near.drop i = ys → i ≤ near.length → d.length = n → rd d x = c - 1 → q.length + neg d ≤ 100 →
      Ev (fun k => spec_DistancesTo.l1 k l (n : Int) first dst (vis n c ys d q).1 (pre ++ x :: (vis n c ys d q).2) ((pre.length + 1 : Nat) : Int)) r → Ev (fun k => spec_DistancesTo.l2 k l (n : Int) first dst d (pre ++ x :: q) (pre.length : Int) x near (i : Int)) r
  | [], i, d, q, hy, hi, hd, hr, hq, h => by
    have hi' : near.length ≤ i := List.drop_eq_nil_iff.1 hy
    refine Ev.step (fun k => by rw [spec_DistancesTo.l2]) ?_
    refine Ev.ite_neg (by omega) ?_
    rw [w64n (by omega)]
    exact h
  | y :: ys, i, d, q, hy, hi, hd, hr, hq, h => by
    obtain ⟨hi', hg, hy'⟩ := drop_cons (z := 0) hy
    refine Ev.step (fun k => by rw [spec_DistancesTo.l2]) ?_
    refine Ev.ite_pos (by omega) (Ev.ite_pos (by omega) ?_)
    rw [rd_nat, hg, w64n (by omega), w64 (x := (n : Int) - 1) (by omega) (by omega)]
    refine Ev.bind0 (inP y 0 ((n : Int) - 1)) ?_
    by_cases c1 : 0 ≤ y ∧ y ≤ (n : Int) - 1
    · refine Ev.ite_pos (decide_eq_true c1) (Ev.ite_pos c1.1 (Ev.ite_pos (by omega) ?_))
      by_cases c2 : rd d y < 0
      · refine Ev.ite_pos c2 (Ev.ite_pos hx.1 (Ev.ite_pos (by omega) (Ev.ite_pos (by rw [List.length_append, List.length_cons]; omega) ?_)))
        have hng := neg_set d y.toNat c (by omega) c2 (by omega)
        rw [hr, show c - 1 + 1 = c by omega, w64 (x := c) (by omega) (by omega)]
        have hxy : y ≠ x := by
          intro e
          subst e
          omega
        rw [List.append_assoc, List.cons_append]
        refine distS_l2 hn hx hc hnear hp ys (i + 1) (d.set y.toNat c) (q ++ [y]) hy' (by omega) (by rw [List.length_set]; exact hd) ?_ ?_ ?_
        · rw [rd_set c1.1 hx.1 (by omega), if_neg hxy, hr]
        · rw [List.length_append, List.length_singleton]
          omega
        · simp only [vis, if_pos (show 0 ≤ y ∧ y < n ∧ rd d y < 0 from ⟨c1.1, by omega, c2⟩)] at h
          exact h
      · refine Ev.ite_neg c2 (distS_l2 hn hx hc hnear hp ys (i + 1) d q hy' (by omega) hd hr hq ?_)
        simp only [vis, if_neg (show ¬ (0 ≤ y ∧ y < n ∧ rd d y < 0) from fun h => c2 h.2.2)] at h
        exact h
    · refine Ev.ite_neg (by simpa using c1) (distS_l2 hn hx hc hnear hp ys (i + 1) d q hy' (by omega) hd hr hq ?_)
      simp only [vis, if_neg (show ¬ (0 ≤ y ∧ y < n ∧ rd d y < 0) from fun h => c1 ⟨h.1, by have := h.2.1; omega⟩)] at h
      exact h
theorem rd_pre (pre q : List Int) (x : Int) : rd (pre ++ x :: q) (pre.length : Int) = x := by
  rw [rd_nat]
  exact getD_mid pre q x 0 rfl
theorem distS_l1 {l : List S134} (hl : l.length ≤ 1048576) {n : Nat} {first dst : Int} (hn : n ≤ 12) : ∀ (f : Nat) (d q pre : List Int), Inv (nb l) (exB first dst) n dst d q → neg d + q.length ≤ f → f + pre.length ≤ 100 →
    Ev (fun k => spec_DistancesTo.l1 k l (n : Int) first dst d (pre ++ q) (pre.length : Int)) (bfs (nb l) (exB first dst) n f d q)
  | 0, d, [], pre, _, _, _ => by
    refine Ev.step (fun k => by rw [spec_DistancesTo.l1]) ?_
    exact Ev.ite_neg (by simp) (Ev.now _)
  | 0, d, x :: q, pre, _, h, _ => by simp at h
  | f + 1, d, [], pre, _, _, _ => by
    refine Ev.step (fun k => by rw [spec_DistancesTo.l1]) ?_
    exact Ev.ite_neg (by simp) (Ev.now _)
  | f + 1, d, x :: q, pre, H, hf, hf1 => by
    rw [List.length_cons] at hf
    refine Ev.step (fun k => by rw [spec_DistancesTo.l1]) ?_
    refine Ev.ite_pos (by rw [List.length_append, List.length_cons]; omega) (Ev.ite_pos (by omega) ?_)
    rw [rd_pre]
    have hb := H.qin x List.mem_cons_self
    have hbd := H.bound x hb.1 hb.2.1
    have next : ∀ d' q', Inv (nb l) (exB first dst) n dst d' q' → neg d' + q'.length ≤ f → Ev (fun k => spec_DistancesTo.l1 k l (n : Int) first dst d' (pre ++ x :: q') ((pre.length + 1 : Nat) : Int)) (bfs (nb l) (exB first dst) n f d' q') := by
      intro d' q' H' hf'
      have h := distS_l1 hl hn f d' q' (pre ++ [x]) H' hf' (by rw [List.length_append, List.length_singleton]; omega)
      rw [List.length_append, List.length_singleton, List.append_assoc] at h
      exact h
    have go : exB first dst x = true → Ev (fun k => spec_DistancesTo.j2 k l (n : Int) first dst d (pre ++ x :: q) (pre.length : Int) x false) (bfs (nb l) (exB first dst) n (f + 1) d (x :: q)) := by
      intro hx
      have hs := H.step hx
      refine Ev.step (fun k => by rw [spec_DistancesTo.j2]) ?_
      refine Ev.ite_neg (by simp) (Ev.bind (nbS hl x) ?_)
      have hnl := nb_len l x
      refine distS_l2 (i := 0) hn ⟨hb.1, hb.2.1⟩ (c := rd d x + 1) (by omega) (by omega) (by omega) _ _ _ rfl (by omega) H.len (by omega) (by omega) ?_
      rw [List.drop_zero]
      simp only [bfs, if_pos hx]
      rw [List.length_cons] at hs
      exact next _ _ hs.1 (by omega)
    by_cases c : x = dst
    · exact Ev.ite_pos c (go (by simp [exB, c]))
    · refine Ev.ite_neg c ?_
      by_cases c2 : x < first
      · rw [decide_eq_false (by omega : ¬ x ≥ first)]
        exact go (by simp [exB, c2])
      · have hx : ¬ exB first dst x = true := by simp [exB, c]; omega
        rw [decide_eq_true (by omega : x ≥ first)]
        refine Ev.step (fun k => by rw [spec_DistancesTo.j2]) ?_
        refine Ev.ite_pos rfl ?_
        rw [w64n (by omega)]
        simp only [bfs, if_neg hx]
        exact next d q (H.skip hx) (by omega)
theorem distS_l0 {l : List S134} (hl : l.length ≤ 1048576) {n : Nat} {first dst : Int} (hn : n ≤ 12) (hd : 0 ≤ dst ∧ dst < n) : ∀ (m i : Nat), i + m = n →
    Ev (fun k => spec_DistancesTo.l0 k l (n : Int) first dst (List.replicate i (-1)) (i : Int)) (dist (nb l) (exB first dst) n dst) := by
  intro m
  induction m with
  | zero =>
    intro i hi
    obtain rfl : i = n := by omega
    refine Ev.step (fun k => by rw [spec_DistancesTo.l0]) ?_
    refine Ev.ite_neg (by omega) (Ev.ite_pos hd.1 (Ev.ite_pos (by rw [List.length_replicate]; exact hd.2) ?_))
    exact distS_l1 hl hn i _ _ [] (inv_start _ _ hd) (neg_start_le hd) (by simp; omega)
  | succ m ih =>
    intro i hi
    refine Ev.step (fun k => by rw [spec_DistancesTo.l0]) ?_
    refine Ev.ite_pos (by omega) (Ev.ite_pos (by rw [List.length_replicate]; omega) ?_)
    rw [w64n (by omega), show List.replicate i (-1 : Int) ++ [-1] = List.replicate (i + 1) (-1) from List.replicate_succ'.symm]
    exact ih (i + 1) (by omega)
theorem okP (n dst : Int) : spec_l14Ok.f n dst = some (decide ((1 ≤ n ∧ n ≤ 12) ∧ 0 ≤ dst ∧ dst < n)) := by
  unfold spec_l14Ok.f
  rw [inP, Option.bind_some]
  by_cases c : 1 ≤ n ∧ n ≤ 12
  · rw [if_pos (decide_eq_true c), inP, Option.bind_some, w64 (by omega) (by omega)]
    congr 1
    rw [decide_eq_decide]
    omega
  · rw [if_neg (by simpa using c)]
    congr 1
    rw [eq_comm, decide_eq_false_iff_not]
    exact fun h => c h.1
theorem distS {l : List S134} (hl : l.length ≤ 1048576) (n first dst : Int) : Ev (fun k => spec_DistancesTo.f k l n first dst) (dists l n first dst) := by
  unfold spec_DistancesTo.f
  refine Ev.bind0 (okP n dst) ?_
  unfold dists
  by_cases c : (1 ≤ n ∧ n ≤ 12) ∧ 0 ≤ dst ∧ dst < n
  · refine Ev.ite_pos (decide_eq_true c) ?_
    rw [if_pos c]
    have h := distS_l0 hl (n := n.toNat) (first := first) (dst := dst) (by omega) (by omega) n.toNat 0 (by omega)
    rw [Int.toNat_of_nonneg (by omega)] at h
    exact h
  · refine Ev.ite_neg (by rw [decide_eq_true_iff]; exact c) ?_
    rw [if_neg c]
    exact Ev.now _
/-! ### next nodes -/
/-- A neighbor that is a way on from a node with the distance dx. -/
def nxB (n first dst : Int) (d : List Int) (dx y : Int) : Bool := decide (dx > 0 ∧ (0 ≤ y ∧ y < n) ∧ (y < first ∨ y = dst) ∧ rd d y = dx - 1)
def nxt (l : List S134) (n first dst : Int) (d : List Int) (x : Nat) : Int := ((nb l (x : Int)).find? (nxB n first dst d (rd d (x : Int)))).getD (-1)
def nextRow (l : List S134) (n first dst : Int) (d : List Int) : List Int := (List.range d.length).map (nxt l n first dst d)
def nextsTo (l : List S134) (n first dst : Int) : List Int := nextRow l n first dst (dists l n first dst)
/-- Distances that fit a table of n nodes. -/
def Fit (n : Int) (d : List Int) : Prop := (d = [] ∨ d.length = n.toNat ∧ 0 ≤ n ∧ n ≤ 12) ∧ ∀ y : Int, 0 ≤ y → y < d.length → -1 ≤ rd d y ∧ rd d y < 100
theorem dists_fit (l : List S134) (n first dst : Int) : Fit n (dists l n first dst) := by
  by_cases c : (1 ≤ n ∧ n ≤ 12) ∧ 0 ≤ dst ∧ dst < n
  · have H := dists_inv (l := l) (first := first) c
    refine ⟨.inr ⟨H.len, by omega, by omega⟩, fun y h0 h1 => ?_⟩
    have hl := H.len
    have := H.low y h0 (by omega)
    have := H.bound y h0 (by omega)
    omega
  · have e : dists l n first dst = [] := by
      unfold dists
      rw [if_neg c]
    rw [e]
    refine ⟨.inl rfl, fun y h0 h1 => ?_⟩
    rw [List.length_nil] at h1
    omega
theorem find_step {α : Type} (p : α → Bool) (y : α) (ys : List α) (h : p y = false) : (y :: ys).find? p = ys.find? p := by rw [List.find?_cons, h]
theorem nextI_l1 {l : List S134} {n first dst : Int} {d out near r : List Int} {x : Nat} (hd : d.length = n.toNat ∧ 0 ≤ n ∧ n ≤ 12) (hf : Fit n d) (hx : x < d.length) (hnear : near.length ≤ 10000000) (hout : out.length ≤ 100)
    (hk : ∀ v : Int, v = (near.find? (nxB n first dst d (rd d (x : Int)))).getD (-1) → Ev (fun k => impl_NextTo.l0 k l n first dst (out ++ [v]) d d (d.length : Int) ((x + 1 : Nat) : Int)) r) :
    ∀ (ys : List Int) (i : Nat) (cur : Int), near.drop i = ys → i ≤ near.length → (cur = -1 ∧ (ys.find? (nxB n first dst d (rd d (x : Int)))).getD (-1) = (near.find? (nxB n first dst d (rd d (x : Int)))).getD (-1) ∨ 0 ≤ cur ∧ cur = (near.find? (nxB n first dst d (rd d (x : Int)))).getD (-1)) →
      Ev (fun k => impl_NextTo.l1 k l n first dst out d (rd d (x : Int)) cur d (d.length : Int) (x : Int) near (near.length : Int) (i : Int)) r
  | [], i, cur, hy, hi, hc => by
    have hi' : near.length ≤ i := List.drop_eq_nil_iff.1 hy
    have hd2 := hf.2 (x : Int) (by omega) (by omega)
    refine Ev.step (fun k => by rw [impl_NextTo.l1]) ?_
    refine Ev.ite_neg (by omega) (Ev.ite_pos (by omega) ?_)
    rw [w64n (by omega)]
    refine hk cur ?_
    rcases hc with ⟨e, h⟩ | ⟨_, h⟩
    · rw [← h, e]
      rfl
    · exact h
  | y :: ys, i, cur, hy, hi, hc => by
    obtain ⟨hi', hg, hy'⟩ := drop_cons (z := 0) hy
    have hd2 := hf.2 (x : Int) (by omega) (by omega)
    refine Ev.step (fun k => by rw [impl_NextTo.l1]) ?_
    refine Ev.ite_pos (by omega) (Ev.ite_pos (by omega) (Ev.ite_pos (by omega) ?_))
    rw [rd_nat near, hg, w64n (by omega), w64 (x := rd d (x : Int) - 1) (by omega) (by omega)]
    rcases hc with ⟨e, h⟩ | ⟨h0, h⟩
    · subst e
      have skip : nxB n first dst d (rd d (x : Int)) y = false → Ev (fun k => impl_NextTo.l1 k l n first dst out d (rd d (x : Int)) (-1) d (d.length : Int) (x : Int) near (near.length : Int) ((i + 1 : Nat) : Int)) r := fun hb =>
        nextI_l1 hd hf hx hnear hout hk ys (i + 1) (-1) hy' (by omega) (.inl ⟨rfl, by rw [← h, find_step _ _ _ hb]⟩)
      have hit : nxB n first dst d (rd d (x : Int)) y = true → Ev (fun k => impl_NextTo.l1 k l n first dst out d (rd d (x : Int)) y d (d.length : Int) (x : Int) near (near.length : Int) ((i + 1 : Nat) : Int)) r := fun hb =>
        nextI_l1 hd hf hx hnear hout hk ys (i + 1) y hy' (by omega) (.inr ⟨by simp [nxB] at hb; omega, by rw [← h, List.find?_cons, hb]; rfl⟩)
      refine Ev.ite_pos (by omega) ?_
      by_cases c0 : rd d (x : Int) > 0
      · refine Ev.ite_pos c0 (Ev.bind0 (ixP y n) ?_)
        by_cases c1 : 0 ≤ y ∧ y < n
        · refine Ev.ite_pos (decide_eq_true c1) ?_
          have fin : (y < first ∨ y = dst) → Ev (fun k => if 0 ≤ y then (if y < (d.length : Int) then (if rd d y = rd d (x : Int) - 1 then impl_NextTo.l1 k l n first dst out d (rd d (x : Int)) y d (d.length : Int) (x : Int) near (near.length : Int) ((i + 1 : Nat) : Int) else impl_NextTo.l1 k l n first dst out d (rd d (x : Int)) (-1) d (d.length : Int) (x : Int) near (near.length : Int) ((i + 1 : Nat) : Int)) else none) else none) r := by
            intro hfd
            refine Ev.ite_pos c1.1 (Ev.ite_pos (by omega) ?_)
            by_cases c3 : rd d y = rd d (x : Int) - 1
            · exact Ev.ite_pos c3 (hit (by simp [nxB]; omega))
            · exact Ev.ite_neg c3 (skip (by simp [nxB]; omega))
          by_cases c2 : y < first
          · exact Ev.ite_pos c2 (fin (.inl c2))
          · refine Ev.ite_neg c2 ?_
            by_cases c4 : y = dst
            · exact Ev.ite_pos c4 (fin (.inr c4))
            · exact Ev.ite_neg c4 (skip (by simp [nxB]; omega))
        · exact Ev.ite_neg (by simpa using c1) (skip (by simp [nxB]; omega))
      · exact Ev.ite_neg c0 (skip (by simp [nxB]; omega))
    · exact Ev.ite_neg (by omega) (nextI_l1 hd hf hx hnear hout hk ys (i + 1) cur hy' (by omega) (.inr ⟨h0, h⟩))
theorem nextI_l0 {l : List S134} (hl : l.length ≤ 1048576) {n first dst : Int} {d : List Int} (hf : Fit n d) : ∀ (m x : Nat), x + m = d.length →
    Ev (fun k => impl_NextTo.l0 k l n first dst ((List.range x).map (nxt l n first dst d)) d d (d.length : Int) (x : Int)) (nextRow l n first dst d) := by
  intro m
  induction m with
  | zero =>
    intro x hx
    obtain rfl : x = d.length := by omega
    refine Ev.step (fun k => by rw [impl_NextTo.l0]) ?_
    exact Ev.ite_neg (by omega) (Ev.now _)
  | succ m ih =>
    intro x hx
    have hd : d.length = n.toNat ∧ 0 ≤ n ∧ n ≤ 12 := by
      rcases hf.1 with rfl | h
      · rw [List.length_nil] at hx
        omega
      · exact h
    have hnl := nb_len l (x : Int)
    refine Ev.step (fun k => by rw [impl_NextTo.l0]) ?_
    refine Ev.ite_pos (by omega) (Ev.ite_pos (by omega) (Ev.ite_pos (by omega) (Ev.bind (nbI hl (x : Int)) ?_)))
    refine nextI_l1 hd hf (by omega) (by omega) (by simp; omega) (fun v hv => ?_) _ 0 (-1) rfl (by omega) (.inl ⟨rfl, rfl⟩)
    have h := ih (x + 1) (by omega)
    rw [List.range_succ, List.map_append] at h
    rw [hv]
    exact h
theorem nextI {l : List S134} (hl : l.length ≤ 1048576) (n first dst : Int) : Ev (fun k => impl_NextTo.f k l n first dst) (nextsTo l n first dst) := by
  unfold impl_NextTo.f
  exact Ev.bind (distI hl n first dst) (nextI_l0 hl (dists_fit l n first dst) (dists l n first dst).length 0 (by omega))
theorem nextS_l1 {l : List S134} {n first dst : Int} {d out near r : List Int} {x : Nat} (hd : d.length = n.toNat ∧ 0 ≤ n ∧ n ≤ 12) (hf : Fit n d) (hx : x < d.length) (hnear : near.length ≤ 10000000) (hout : out.length ≤ 100)
    (hk : ∀ v : Int, v = (near.find? (nxB n first dst d (rd d (x : Int)))).getD (-1) → Ev (fun k => spec_NextTo.l0 k l n first dst (out ++ [v]) d ((x + 1 : Nat) : Int)) r) :
    ∀ (ys : List Int) (i : Nat) (cur : Int), near.drop i = ys → i ≤ near.length → (cur = -1 ∧ (ys.find? (nxB n first dst d (rd d (x : Int)))).getD (-1) = (near.find? (nxB n first dst d (rd d (x : Int)))).getD (-1) ∨ 0 ≤ cur ∧ cur = (near.find? (nxB n first dst d (rd d (x : Int)))).getD (-1)) →
      Ev (fun k => spec_NextTo.l1 k l n first dst out d (x : Int) cur near (i : Int)) r := by
  have fin : ∀ (i : Nat) (v : Int), v = (near.find? (nxB n first dst d (rd d (x : Int)))).getD (-1) → Ev (fun k => spec_NextTo.j2 k l n first dst out d (x : Int) v near (i : Int) false) r := by
    intro i v hv
    refine Ev.step (fun k => by rw [spec_NextTo.j2]) ?_
    refine Ev.ite_neg (by simp) (Ev.ite_pos (by omega) ?_)
    rw [w64n (by omega)]
    exact hk v hv
  intro ys
  induction ys with
  | nil =>
    intro i cur hy hi hc
    have hi' : near.length ≤ i := List.drop_eq_nil_iff.1 hy
    refine Ev.step (fun k => by rw [spec_NextTo.l1]) ?_
    refine Ev.ite_neg (by omega) (fin i cur ?_)
    rcases hc with ⟨e, h⟩ | ⟨_, h⟩
    · rw [← h, e]
      rfl
    · exact h
  | cons y ys ih =>
    intro i cur hy hi hc
    obtain ⟨hi', hg, hy'⟩ := drop_cons (z := 0) hy
    have hd2 := hf.2 (x : Int) (by omega) (by omega)
    refine Ev.step (fun k => by rw [spec_NextTo.l1]) ?_
    refine Ev.ite_pos (by omega) (Ev.ite_pos (by omega) (Ev.ite_pos (by omega) ?_))
    by_cases c0 : rd d (x : Int) > 0
    · refine Ev.ite_pos c0 ?_
      rcases hc with ⟨e, h⟩ | ⟨h0, h⟩
      · subst e
        have skip : nxB n first dst d (rd d (x : Int)) y = false → Ev (fun k => spec_NextTo.l1 k l n first dst out d (x : Int) (-1) near ((i + 1 : Nat) : Int)) r := fun hb =>
          ih (i + 1) (-1) hy' (by omega) (.inl ⟨rfl, by rw [← h, find_step _ _ _ hb]⟩)
        have hit : nxB n first dst d (rd d (x : Int)) y = true → Ev (fun k => spec_NextTo.l1 k l n first dst out d (x : Int) y near ((i + 1 : Nat) : Int)) r := fun hb =>
          ih (i + 1) y hy' (by omega) (.inr ⟨by simp [nxB] at hb; omega, by rw [← h, List.find?_cons, hb]; rfl⟩)
        rw [decide_eq_true (by omega : (-1 : Int) < 0)]
        refine Ev.step (fun k => by rw [spec_NextTo.j2]) ?_
        refine Ev.ite_pos rfl (Ev.ite_pos (by omega) (Ev.ite_pos (by omega) ?_))
        rw [rd_nat near, hg, w64n (by omega), w64 (x := rd d (x : Int) - 1) (by omega) (by omega), w64 (x := n - 1) (by omega) (by omega)]
        refine Ev.bind0 (inP y 0 (n - 1)) ?_
        by_cases c1 : 0 ≤ y ∧ y ≤ n - 1
        · refine Ev.ite_pos (decide_eq_true c1) ?_
          have fin2 : (y < first ∨ y = dst) → Ev (fun k => if 0 ≤ y then (if y < (d.length : Int) then (if 0 ≤ (x : Int) then (if (x : Int) < (d.length : Int) then (if rd d y = rd d (x : Int) - 1 then spec_NextTo.l1 k l n first dst out d (x : Int) y near ((i + 1 : Nat) : Int) else spec_NextTo.l1 k l n first dst out d (x : Int) (-1) near ((i + 1 : Nat) : Int)) else none) else none) else none) else none) r := by
            intro hfd
            refine Ev.ite_pos c1.1 (Ev.ite_pos (by omega) (Ev.ite_pos (by omega) (Ev.ite_pos (by omega) ?_)))
            by_cases c3 : rd d y = rd d (x : Int) - 1
            · exact Ev.ite_pos c3 (hit (by simp [nxB]; omega))
            · exact Ev.ite_neg c3 (skip (by simp [nxB]; omega))
          by_cases c2 : y < first
          · exact Ev.ite_pos c2 (fin2 (.inl c2))
          · refine Ev.ite_neg c2 ?_
            by_cases c4 : y = dst
            · exact Ev.ite_pos c4 (fin2 (.inr c4))
            · exact Ev.ite_neg c4 (skip (by simp [nxB]; omega))
        · exact Ev.ite_neg (by simpa using c1) (skip (by simp [nxB]; omega))
      · rw [decide_eq_false (by omega : ¬ cur < 0)]
        exact fin i cur h
    · refine Ev.ite_neg c0 (fin i cur ?_)
      have hn : near.find? (nxB n first dst d (rd d (x : Int))) = none := by
        refine List.find?_eq_none.2 fun z _ => ?_
        simp [nxB]
        omega
      rcases hc with ⟨e, _⟩ | ⟨_, h⟩
      · rw [hn, e]
        rfl
      · exact h
theorem nextS_l0 {l : List S134} (hl : l.length ≤ 1048576) {n first dst : Int} {d : List Int} (hf : Fit n d) : ∀ (m x : Nat), x + m = d.length →
    Ev (fun k => spec_NextTo.l0 k l n first dst ((List.range x).map (nxt l n first dst d)) d (x : Int)) (nextRow l n first dst d) := by
  intro m
  induction m with
  | zero =>
    intro x hx
    obtain rfl : x = d.length := by omega
    refine Ev.step (fun k => by rw [spec_NextTo.l0]) ?_
    exact Ev.ite_neg (by omega) (Ev.now _)
  | succ m ih =>
    intro x hx
    have hd : d.length = n.toNat ∧ 0 ≤ n ∧ n ≤ 12 := by
      rcases hf.1 with rfl | h
      · rw [List.length_nil] at hx
        omega
      · exact h
    have hnl := nb_len l (x : Int)
    refine Ev.step (fun k => by rw [spec_NextTo.l0]) ?_
    refine Ev.ite_pos (by omega) (Ev.bind (nbS hl (x : Int)) ?_)
    refine nextS_l1 hd hf (by omega) (by omega) (by simp; omega) (fun v hv => ?_) _ 0 (-1) rfl (by omega) (.inl ⟨rfl, rfl⟩)
    have h := ih (x + 1) (by omega)
    rw [List.range_succ, List.map_append] at h
    rw [hv]
    exact h
theorem nextS {l : List S134} (hl : l.length ≤ 1048576) (n first dst : Int) : Ev (fun k => spec_NextTo.f k l n first dst) (nextsTo l n first dst) := by
  unfold spec_NextTo.f
  exact Ev.bind (distS hl n first dst) (nextS_l0 hl (dists_fit l n first dst) (dists l n first dst).length 0 (by omega))
theorem tableI {l : List S134} (hl : l.length ≤ 1048576) (n first dst : Int) : Ev (fun k => impl_TableOf.f k l n first dst) (dst, dists l n first dst, nextsTo l n first dst) := by
  unfold impl_TableOf.f
  exact Ev.bind (distI hl n first dst) (Ev.bind (nextI hl n first dst) (Ev.now _))
theorem tableS {l : List S134} (hl : l.length ≤ 1048576) (n first dst : Int) : Ev (fun k => spec_TableOf.f k l n first dst) (dst, dists l n first dst, nextsTo l n first dst) := by
  unfold spec_TableOf.f
  exact Ev.bind (distS hl n first dst) (Ev.bind (nextS hl n first dst) (Ev.now _))
/-- What is right of a row of distances and of next nodes. -/
structure Down (n first dst : Int) (d t : List Int) : Prop where
  dlen : d.length = n.toNat
  tlen : t.length = n.toNat
  rng : 1 ≤ n ∧ n ≤ 12
  din : 0 ≤ dst ∧ dst < n
  d0 : rd d dst = 0
  zero : ∀ x : Int, 0 ≤ x → x < n → rd d x = 0 → x = dst
  low : ∀ x : Int, 0 ≤ x → x < n → -1 ≤ rd d x ∧ rd d x < n
  stop : ∀ x : Int, 0 ≤ x → x < n → rd d x ≤ 0 → rd t x = -1
  step : ∀ x : Int, 0 ≤ x → x < n → 0 < rd d x → (0 ≤ rd t x ∧ rd t x < n) ∧ (rd t x < first ∨ rd t x = dst) ∧ rd d (rd t x) = rd d x - 1
theorem nextRow_len (l : List S134) (n first dst : Int) (d : List Int) : (nextRow l n first dst d).length = d.length := by simp [nextRow]
theorem rd_nextRow {l : List S134} {n first dst : Int} {d : List Int} {x : Int} (h0 : 0 ≤ x) (h1 : x < d.length) : rd (nextRow l n first dst d) x = nxt l n first dst d x.toNat := by
  unfold rd nextRow
  rw [getD_at (by simp; omega)]
  simp
theorem down (l : List S134) {n first dst : Int} (h : (1 ≤ n ∧ n ≤ 12) ∧ 0 ≤ dst ∧ dst < n) : Down n first dst (dists l n first dst) (nextsTo l n first dst) := by
  have H := dists_inv (l := l) (first := first) h
  have hlen := H.len
  have hN : ((n.toNat : Nat) : Int) = n := Int.toNat_of_nonneg (by omega)
  refine ⟨hlen, by rw [nextsTo, nextRow_len]; exact hlen, h.1, h.2, H.d0, fun x h0 h1 => H.zero x h0 (by omega), fun x h0 h1 => ⟨H.low x h0 (by omega), by have := H.bound x h0 (by omega); omega⟩, ?_, ?_⟩
  · intro x h0 h1 hx
    rw [nextsTo, rd_nextRow h0 (by omega), nxt, Int.toNat_of_nonneg h0, List.find?_eq_none.2]
    · rfl
    · intro y _
      simp [nxB]
      omega
  · intro x h0 h1 hx
    rw [nextsTo, rd_nextRow h0 (by omega), nxt, Int.toNat_of_nonneg h0]
    obtain ⟨u, hu0, hun, hex, hm, hd⟩ := H.pred x h0 (by omega) hx
    have hmu : u ∈ nb l x := nb_sym.1 hm
    cases hfd : (nb l x).find? (nxB n first dst (dists l n first dst) (rd (dists l n first dst) x)) with
    | none =>
      have := List.find?_eq_none.1 hfd u hmu
      simp only [exB, decide_eq_true_iff] at hex
      simp [nxB] at this
      omega
    | some y =>
      have := List.find?_some hfd
      simp only [nxB, decide_eq_true_iff] at this
      exact this.2
end Go.Proofs.Ytiihaabhjphaeaa.fnExactIsProgram
/- What plans, links at a tick, pieces and programs come to, in the program and in the reference. Conditions: none. -/
namespace Go.Proofs.Ytiihaabhjphaeaa.fnExactIsProgram
open Go.RowKit Go.Proofs.YtiihaabhjphaeaaW.PrintWords Go.Proofs.YtiihaabhjphaeaaW.PrintLast Go.Proofs.YtiihaabhjphaeaaW.PrintMore Go.Proofs.Ytiihaabhjphaeaa.QFnExactIsProgram Go.Proofs.Ytiihaabhjphaeaa.Open Go.Proofs.Ytiihaabhjphaeaa.Kit Go.Proofs.Ytiihaabhjphaeaa.Bfs
/-! ### spans -/
def spanQ (a b : Int) : Bool := decide (0 ≤ a ∧ b ≤ 1000 ∧ a < b)
def inQ (a b t : Int) : Bool := decide ((0 ≤ a ∧ b ≤ 1000 ∧ a < b) ∧ a ≤ t ∧ t < b)
theorem spanS (a b : Int) : spec_IsSpan.f a b = some (spanQ a b) := by
  unfold spec_IsSpan.f spanQ
  by_cases h : a ≥ 0
  · rw [if_pos h]
    by_cases h2 : b ≤ 1000
    · rw [if_pos h2]
      simp [h, h2]
    · rw [if_neg h2]
      simp [h2]
  · rw [if_neg h]
    simp [h]
theorem spanI (a b : Int) : impl_IsSpan.f a b = some (spanQ a b) := by
  unfold impl_IsSpan.f spanQ
  by_cases h : a ≥ 0
  · rw [if_pos h]
    by_cases h2 : b ≤ 1000
    · rw [if_pos h2]
      simp [h, h2]
    · rw [if_neg h2]
      simp [h2]
  · rw [if_neg h]
    simp [h]
theorem inQ_def (a b t : Int) : inQ a b t = (spanQ a b && decide (a ≤ t ∧ t < b)) := by
  unfold inQ spanQ
  rw [← Bool.decide_and]
def hasL (out : List S134) (a b : Int) : Bool := out.any fun x => x.f0 == a && x.f1 == b
noncomputable def sameL (a b : List S134) : Bool := @decide (a = b) (Classical.propDecidable _)
theorem sameL_iff {a b : List S134} : sameL a b = true ↔ a = b := @decide_eq_true_iff _ (Classical.propDecidable _)
theorem sameL_no {a b : List S134} (h : a ≠ b) : sameL a b = false := Bool.eq_false_iff.2 fun e => h (sameL_iff.1 e)
theorem sameL_symm (a b : List S134) : sameL a b = sameL b a := by
  rw [Bool.eq_iff_iff, sameL_iff, sameL_iff]
  exact eq_comm
theorem link_ext {x y : S134} (h0 : x.f0 = y.f0) (h1 : x.f1 = y.f1) : x = y := by
  cases x
  cases y
  simp at h0 h1
  rw [h0, h1]
theorem same_of {a b : List S134} (hlen : a.length = b.length) {r : Bool} (h : r = true ↔ ∀ j : Nat, 0 ≤ j → j < a.length → a.getD j z134 = b.getD j z134) : r = sameL a b := by
  rw [Bool.eq_iff_iff, h, sameL_iff]
  constructor
  · intro hh
    apply List.ext_getElem hlen
    intro i h1 h2
    have := hh i (by omega) h1
    rw [getD_at h1, getD_at h2] at this
    exact this
  · intro e j _ _
    rw [e]
theorem same_step {a b : List S134} {i : Nat} {r : Bool} (h : a.getD i z134 = b.getD i z134) (hr : r = true ↔ ∀ j : Nat, i + 1 ≤ j → j < a.length → a.getD j z134 = b.getD j z134) :
    r = true ↔ ∀ j : Nat, i ≤ j → j < a.length → a.getD j z134 = b.getD j z134 := by
  rw [hr]
  constructor
  · intro hh j h1 h2
    by_cases e : j = i
    · rw [e]
      exact h
    · exact hh j (by omega) h2
  · exact fun hh j h1 h2 => hh j (by omega) h2
theorem ne_link {x y : S134} (c : (!(x.f0 == y.f0) || !(x.f1 == y.f1)) = true) : x ≠ y := by
  intro e
  rw [e] at c
  simp at c
theorem eq_link {x y : S134} (c : ¬ (!(x.f0 == y.f0) || !(x.f1 == y.f1)) = true) : x = y := by
  simp at c
  exact link_ext c.1 c.2
def spansOf (a : Int) : List Int → List S102
  | [] => []
  | c :: cs => ⟨a, c⟩ :: spansOf c cs
theorem spansOf_len : ∀ (a : Int) (cs : List Int), (spansOf a cs).length = cs.length
  | _, [] => rfl
  | _, c :: cs => by rw [spansOf, List.length_cons, List.length_cons, spansOf_len c cs]
def tabOf (l : List S134) (n first d : Int) : S55 := ⟨d, dists l n first d, nextsTo l n first d⟩
def tabs (l : List S134) (n first : Int) : List S55 := (List.range n.toNat).map fun d : Nat => tabOf l n first (d : Int)
theorem tabsI {l : List S134} (hl : l.length ≤ 1048576) {n : Int} (hn : 0 ≤ n ∧ n ≤ 100) (first : Int) : Ev (fun k => impl_tablesOf.f k l n first) (tabs l n first) := by
  have key : ∀ m i : Nat, i + m = n.toNat → Ev (fun k => impl_tablesOf.l0 k l n first ((List.range i).map fun d => tabOf l n first ((d : Nat) : Int)) n (i : Int)) (tabs l n first) := by
    intro m
    induction m with
    | zero =>
      intro i hi
      obtain rfl : i = n.toNat := by omega
      refine Ev.step (fun k => by rw [impl_tablesOf.l0]) ?_
      exact Ev.ite_neg (by omega) (Ev.now _)
    | succ m ih =>
      intro i hi
      have h := ih (i + 1) (by omega)
      rw [List.range_succ, List.map_append] at h
      refine Ev.step (fun k => by rw [impl_tablesOf.l0]) ?_
      refine Ev.ite_pos (by omega) (Ev.bind (tableI hl n first (i : Int)) (Ev.ite_pos (by simp; omega) ?_))
      rw [w64n (by omega)]
      exact h
  exact key n.toNat 0 (by omega)
def Frame (n first skew : Int) : Prop := (1 ≤ n ∧ n ≤ 12) ∧ (0 ≤ first ∧ first ≤ n) ∧ 0 ≤ skew ∧ skew ≤ 5
instance (n first skew : Int) : Decidable (Frame n first skew) := by unfold Frame; infer_instance
theorem frameS (n first skew : Int) : spec_l17Frame.f n first skew = some (decide (Frame n first skew)) := by
  unfold spec_l17Frame.f
  rw [inP, Option.bind_some, inP, Option.bind_some, inP, Option.bind_some]
  by_cases c1 : 1 ≤ n ∧ n ≤ 12
  · rw [if_pos (decide_eq_true c1)]
    by_cases c2 : 0 ≤ first ∧ first ≤ n
    · rw [if_pos (decide_eq_true c2)]
      congr 1
      rw [decide_eq_decide]
      unfold Frame
      exact ⟨fun h => ⟨c1, c2, h⟩, fun h => h.2.2⟩
    · rw [if_neg (by simpa using c2), eq_comm]
      congr 1
      rw [decide_eq_false_iff_not]
      exact fun h => c2 h.2.1
  · rw [if_neg (by simpa using c1), eq_comm]
    congr 1
    rw [decide_eq_false_iff_not]
    exact fun h => c1 h.1
theorem frameI (n first skew : Int) : impl_isFrame.f n first skew = some (decide (Frame n first skew)) := by
  unfold impl_isFrame.f impl_isNumber.f
  rw [rgP, Option.bind_some, Option.bind_some, rgP, Option.bind_some, rgP, Option.bind_some]
  by_cases c1 : 1 ≤ n ∧ n ≤ 12
  · rw [if_pos (decide_eq_true c1)]
    by_cases c2 : 0 ≤ first ∧ first ≤ n
    · rw [if_pos (decide_eq_true c2)]
      congr 1
      rw [decide_eq_decide]
      unfold Frame
      exact ⟨fun h => ⟨c1, c2, h⟩, fun h => h.2.2⟩
    · rw [if_neg (by simpa using c2), eq_comm]
      congr 1
      rw [decide_eq_false_iff_not]
      exact fun h => c2 h.2.1
  · rw [if_neg (by simpa using c1), eq_comm]
    congr 1
    rw [decide_eq_false_iff_not]
    exact fun h => c1 h.1
theorem rdSp (l : List S102) (i : Nat) : rd_T102 l (i : Int) = l.getD i z102 := rfl
end Go.Proofs.Ytiihaabhjphaeaa.fnExactIsProgram
/- The helpers of the law FnExactIsProgram: sizes, conversions, equality with itself. Conditions: none. -/
namespace Go.Proofs.Ytiihaabhjphaeaa.fnExactIsProgram
open Go.RowKit Go.Proofs.YtiihaabhjphaeaaW.PrintWords Go.Proofs.YtiihaabhjphaeaaW.PrintLast Go.Proofs.YtiihaabhjphaeaaW.PrintMore Go.Proofs.Ytiihaabhjphaeaa.QFnExactIsProgram Go.Proofs.Ytiihaabhjphaeaa.Open Go.Proofs.Ytiihaabhjphaeaa.Kit
def cSpan (x : S164) : S102 := ⟨x.f0, x.f1⟩
def cLink (x : S205) : S134 := ⟨x.f0, x.f1⟩
def n203 (x : S203) : Nat := x.f1.length + x.f2.length
def b203 (x : S203) : Prop := x.f1.length ≤ 140737488351232 ∧ x.f2.length ≤ 140737488351232
def cTable (x : S203) : S55 := ⟨x.f0, x.f1, x.f2⟩
def n168 (x : S168) : Nat := x.f1.length + (x.f2.length + (x.f2.map n203).sum)
def b168 (x : S168) : Prop := x.f1.length ≤ 140737488351232 ∧ x.f2.length ≤ 140737488351232 ∧ (∀ y ∈ x.f2, b203 y)
def cPiece (x : S168) : S105 := ⟨(cSpan x.f0), (x.f1.map cLink), (x.f2.map cTable)⟩
def n55 (x : S55) : Nat := x.f1.length + x.f2.length
def n105 (x : S105) : Nat := x.f1.length + (x.f2.length + (x.f2.map n55).sum)
theorem n_cTable (x : S203) : n55 (cTable x) = n203 x := by
  simp [cTable, n203, n55]
theorem n_cPiece (x : S168) : n105 (cPiece x) = n168 x := by
  simp [cPiece, n105, n168, Function.comp_def, n_cTable]
theorem sz_IntS (l : List Int) (left : Int) (hb : l.length ≤ 140737488351232) (h0 : 0 ≤ left) (h1 : left ≤ 1048576) : laws_szIntS.f l left = some (szOf left l.length) := by
  unfold laws_szIntS.f szOf
  rw [w64 (by omega) (by omega)]
  by_cases h : (l.length : Int) ≤ left
  · rw [if_neg (by omega), if_pos h]
  · rw [if_pos (by omega), if_neg h]
theorem sz_LinkS (l : List S205) (left : Int) (hb : l.length ≤ 140737488351232) (h0 : 0 ≤ left) (h1 : left ≤ 1048576) : laws_szLinkS.f l left = some (szOf left l.length) := by
  unfold laws_szLinkS.f szOf
  rw [w64 (by omega) (by omega)]
  by_cases h : (l.length : Int) ≤ left
  · rw [if_neg (by omega), if_pos h]
  · rw [if_pos (by omega), if_neg h]
theorem sz_Table (x : S203) (left : Int) (hb : b203 x) (h0 : 0 ≤ left) (h1 : left ≤ 1048576) : laws_szTable.f (x.f0) (x.f1) (x.f2) left = some (szOf left (n203 x)) := by
  obtain ⟨hba1, hba2⟩ := hb
  unfold laws_szTable.f n203
  rw [(sz_IntS x.f1 left hba1 (by omega) (by omega)), Option.bind_some]
  by_cases hc0 : ((x.f1.length : Nat) : Int) ≤ left
  · have e0 : szOf left (x.f1.length) = left - ((x.f1.length : Nat) : Int) := by
      unfold szOf
      rw [if_pos (by omega)]
    rw [e0]
    rw [if_neg (by omega)]
    rw [(sz_IntS x.f2 _ hba2 (by omega) (by omega)), Option.bind_some]
    by_cases hc1 : ((x.f1.length + x.f2.length : Nat) : Int) ≤ left
    · have e1 : szOf (left - ((x.f1.length : Nat) : Int)) (x.f2.length) = left - ((x.f1.length + x.f2.length : Nat) : Int) := by
        unfold szOf
        rw [if_pos (by omega)]
        omega
      rw [e1]
      rw [if_neg (by omega)]
      unfold szOf
      rw [if_pos (by omega)]
    · have e1 : szOf (left - ((x.f1.length : Nat) : Int)) (x.f2.length) = -1 := by
        unfold szOf
        rw [if_neg (by omega)]
      rw [e1]
      rw [if_pos (by omega)]
      unfold szOf
      rw [if_neg (by omega)]
  · have e0 : szOf left (x.f1.length) = -1 := by
      unfold szOf
      rw [if_neg (by omega)]
    rw [e0]
    rw [if_pos (by omega)]
    unfold szOf
    rw [if_neg (by omega)]
theorem sz_TableS (l : List S203) (left : Int) (hb : l.length ≤ 140737488351232 ∧ (∀ y ∈ l, b203 y)) (h0 : 0 ≤ left) (h1 : left ≤ 1048576) : Ev (fun k => laws_szTableS.f k l left) (szOf left (l.length + (l.map n203).sum)) := by
  obtain ⟨hl, hb⟩ := hb
  unfold laws_szTableS.f
  rw [w64 (by omega) (by omega)]
  by_cases hn : left - (l.length : Int) < 0
  · refine Ev.ite_pos hn (Ev.some ?_)
    unfold szOf
    rw [if_neg (by omega)]
  · refine Ev.ite_neg hn ?_
    have hs0 : sumTo n203 l 0 = 0 := by simp [sumTo]
    have e0 : left - (l.length : Int) = left - (l.length : Int) - (sumTo n203 l 0 : Nat) := by rw [hs0]; omega
    rw [e0]
    refine Ev.upIf (n := l.length) (fun i => (l.length : Int) + (sumTo n203 l i : Nat) ≤ left) (g := fun i k => laws_szTableS.l0 k l (left - (l.length : Int) - (sumTo n203 l i : Nat)) (i : Int)) ?_ ?_ (by rw [hs0]; omega)
    · intro i hi hp ih
      have hm := hb _ (getD_mem hi z203)
      have hS := sumTo_succ n203 hi z203
      have hA := sumTo_le n203 l (i + 1)
      refine Ev.step (fun k => by rw [laws_szTableS.l0]) ?_
      repeat (first | (with_reducible refine Ev.ite_pos (by omega) ?_) | (with_reducible refine Ev.ite_neg (by omega) ?_))
      refine Ev.bind0 (sz_Table (l.getD i z203) _ hm (by omega) (by omega)) ?_
      by_cases hc : (l.length : Int) + (sumTo n203 l (i + 1) : Nat) ≤ left
      · have e1 : szOf (left - (l.length : Int) - (sumTo n203 l i : Nat)) (n203 (l.getD i z203)) = left - (l.length : Int) - (sumTo n203 l (i + 1) : Nat) := by
          unfold szOf
          rw [if_pos (by omega)]
          omega
        rw [e1, w64n (by omega)]
        exact Ev.ite_neg (by omega) (ih hc)
      · have e1 : szOf (left - (l.length : Int) - (sumTo n203 l i : Nat)) (n203 (l.getD i z203)) = -1 := by
          unfold szOf
          rw [if_neg (by omega)]
        rw [e1]
        refine Ev.ite_pos (by omega) (Ev.some ?_)
        unfold szOf
        rw [if_neg]
        have : sumTo n203 l l.length = (l.map n203).sum := sumTo_all _ _
        have hA2 := sumTo_le n203 l (i + 1)
        omega
    · intro hp
      refine Ev.step (fun k => by rw [laws_szTableS.l0]) ?_
      repeat (first | (with_reducible refine Ev.ite_pos (by omega) ?_) | (with_reducible refine Ev.ite_neg (by omega) ?_))
      refine Ev.some ?_
      rw [sumTo_all] at hp ⊢
      unfold szOf
      rw [if_pos (by omega)]
      omega
theorem sz_Piece (x : S168) (left : Int) (hb : b168 x) (h0 : 0 ≤ left) (h1 : left ≤ 1048576) : Ev (fun k => laws_szPiece.f k (x.f0.f0) (x.f0.f1) (x.f1) (x.f2) left) (szOf left (n168 x)) := by
  unfold b168 at hb
  unfold laws_szPiece.f n168
  refine Ev.bind0 (sz_LinkS x.f1 left (by first | exact hb.1 | exact hb.2 | exact ⟨hb.1, hb.2.1⟩ | exact ⟨hb.2.2.1, hb.2.2.2⟩ | exact hb.2.2 | exact ⟨hb.2.1, hb.2.2⟩) (by omega) (by omega)) ?_
  by_cases hc0 : ((x.f1.length : Nat) : Int) ≤ left
  · have e0 : szOf left (x.f1.length) = left - ((x.f1.length : Nat) : Int) := by
      unfold szOf
      rw [if_pos (by omega)]
    rw [e0]
    refine Ev.ite_neg (by omega) ?_
    refine Ev.bind (sz_TableS x.f2 _ (by first | exact hb.1 | exact hb.2 | exact ⟨hb.1, hb.2.1⟩ | exact ⟨hb.2.2.1, hb.2.2.2⟩ | exact hb.2.2 | exact ⟨hb.2.1, hb.2.2⟩) (by omega) (by omega)) ?_
    by_cases hc1 : ((x.f1.length + (x.f2.length + (x.f2.map n203).sum) : Nat) : Int) ≤ left
    · have e1 : szOf (left - ((x.f1.length : Nat) : Int)) ((x.f2.length + (x.f2.map n203).sum)) = left - ((x.f1.length + (x.f2.length + (x.f2.map n203).sum) : Nat) : Int) := by
        unfold szOf
        rw [if_pos (by omega)]
        omega
      rw [e1]
      refine Ev.ite_neg (by omega) ?_
      refine Ev.some ?_
      unfold szOf
      rw [if_pos (by omega)]
    · have e1 : szOf (left - ((x.f1.length : Nat) : Int)) ((x.f2.length + (x.f2.map n203).sum)) = -1 := by
        unfold szOf
        rw [if_neg (by omega)]
      rw [e1]
      refine Ev.ite_pos (by omega) (Ev.some ?_)
      unfold szOf
      rw [if_neg (by omega)]
  · have e0 : szOf left (x.f1.length) = -1 := by
      unfold szOf
      rw [if_neg (by omega)]
    rw [e0]
    refine Ev.ite_pos (by omega) (Ev.some ?_)
    unfold szOf
    rw [if_neg (by omega)]
theorem sz_PieceS (l : List S168) (left : Int) (hb : l.length ≤ 140737488351232 ∧ (∀ y ∈ l, b168 y)) (h0 : 0 ≤ left) (h1 : left ≤ 1048576) : Ev (fun k => laws_szPieceS.f k l left) (szOf left (l.length + (l.map n168).sum)) := by
  obtain ⟨hl, hb⟩ := hb
  unfold laws_szPieceS.f
  rw [w64 (by omega) (by omega)]
  by_cases hn : left - (l.length : Int) < 0
  · refine Ev.ite_pos hn (Ev.some ?_)
    unfold szOf
    rw [if_neg (by omega)]
  · refine Ev.ite_neg hn ?_
    have hs0 : sumTo n168 l 0 = 0 := by simp [sumTo]
    have e0 : left - (l.length : Int) = left - (l.length : Int) - (sumTo n168 l 0 : Nat) := by rw [hs0]; omega
    rw [e0]
    refine Ev.upIf (n := l.length) (fun i => (l.length : Int) + (sumTo n168 l i : Nat) ≤ left) (g := fun i k => laws_szPieceS.l0 k l (left - (l.length : Int) - (sumTo n168 l i : Nat)) (i : Int)) ?_ ?_ (by rw [hs0]; omega)
    · intro i hi hp ih
      have hm := hb _ (getD_mem hi z168)
      have hS := sumTo_succ n168 hi z168
      have hA := sumTo_le n168 l (i + 1)
      refine Ev.step (fun k => by rw [laws_szPieceS.l0]) ?_
      repeat (first | (with_reducible refine Ev.ite_pos (by omega) ?_) | (with_reducible refine Ev.ite_neg (by omega) ?_))
      refine Ev.bind (sz_Piece (l.getD i z168) _ hm (by omega) (by omega)) ?_
      by_cases hc : (l.length : Int) + (sumTo n168 l (i + 1) : Nat) ≤ left
      · have e1 : szOf (left - (l.length : Int) - (sumTo n168 l i : Nat)) (n168 (l.getD i z168)) = left - (l.length : Int) - (sumTo n168 l (i + 1) : Nat) := by
          unfold szOf
          rw [if_pos (by omega)]
          omega
        rw [e1, w64n (by omega)]
        exact Ev.ite_neg (by omega) (ih hc)
      · have e1 : szOf (left - (l.length : Int) - (sumTo n168 l i : Nat)) (n168 (l.getD i z168)) = -1 := by
          unfold szOf
          rw [if_neg (by omega)]
        rw [e1]
        refine Ev.ite_pos (by omega) (Ev.some ?_)
        unfold szOf
        rw [if_neg]
        have : sumTo n168 l l.length = (l.map n168).sum := sumTo_all _ _
        have hA2 := sumTo_le n168 l (i + 1)
        omega
    · intro hp
      refine Ev.step (fun k => by rw [laws_szPieceS.l0]) ?_
      repeat (first | (with_reducible refine Ev.ite_pos (by omega) ?_) | (with_reducible refine Ev.ite_neg (by omega) ?_))
      refine Ev.some ?_
      rw [sumTo_all] at hp ⊢
      unfold szOf
      rw [if_pos (by omega)]
      omega
theorem sz_Program (a0 : Int) (a1 : Int) (a2 : Int) (a3 : (List S168)) (left : Int) (hba3 : a3.length ≤ 140737488351232 ∧ (∀ y ∈ a3, b168 y)) (h0 : 0 ≤ left) (h1 : left ≤ 1048576) : Ev (fun k => laws_szProgram.f k a0 a1 a2 a3 left) (szOf left ((a3.length + (a3.map n168).sum))) := by
  unfold laws_szProgram.f
  refine Ev.bind (sz_PieceS a3 left hba3 (by omega) (by omega)) ?_
  by_cases hc0 : (((a3.length + (a3.map n168).sum) : Nat) : Int) ≤ left
  · have e0 : szOf left ((a3.length + (a3.map n168).sum)) = left - (((a3.length + (a3.map n168).sum) : Nat) : Int) := by
      unfold szOf
      rw [if_pos (by omega)]
    rw [e0]
    exact Ev.ite_neg (by omega) (Ev.now _)
  · have e0 : szOf left ((a3.length + (a3.map n168).sum)) = -1 := by
      unfold szOf
      rw [if_neg (by omega)]
    rw [e0]
    exact Ev.ite_pos (by omega) (Ev.now _)
theorem to_IntS (l : List Int) (hn : l.length ≤ 1048576) : Ev (fun k => laws_toIntS.f k l) l := by
  unfold laws_toIntS.f
  repeat (first | (with_reducible refine Ev.ite_pos (by omega) ?_) | (with_reducible refine Ev.ite_neg (by omega) ?_))
  rw [Int.toNat_natCast, ← fillTo_zero (fun x => x) 0 l]
  refine Ev.up (n := l.length) (g := fun i k => laws_toIntS.l0 k l (fillTo (fun x => x) 0 l i) (i : Int)) ?_ ?_
  · intro i hi ih
    have hlen := fillTo_length (fun x => x) 0 l (Nat.le_of_lt hi)
    rw [← fillTo_set (fun x => x) 0 l hi 0] at ih
    refine Ev.step (fun k => by rw [laws_toIntS.l0]) ?_
    repeat (first | (with_reducible refine Ev.ite_pos (by omega) ?_) | (with_reducible refine Ev.ite_neg (by omega) ?_))
    rw [Int.toNat_natCast, w64n (by omega)]
    exact ih
  · refine Ev.step (fun k => by rw [laws_toIntS.l0]) ?_
    repeat (first | (with_reducible refine Ev.ite_pos (by omega) ?_) | (with_reducible refine Ev.ite_neg (by omega) ?_))
    refine Ev.some ?_
    rw [fillTo_all]
    simp
theorem to_Link (x : S205) : laws_toLink.f (x.f0) (x.f1) = some (x.f0, x.f1) := by
  unfold laws_toLink.f
  rfl
theorem to_LinkS (l : List S205) (hn : l.length ≤ 1048576) : Ev (fun k => laws_toLinkS.f k l) (l.map cLink) := by
  unfold laws_toLinkS.f
  repeat (first | (with_reducible refine Ev.ite_pos (by omega) ?_) | (with_reducible refine Ev.ite_neg (by omega) ?_))
  rw [Int.toNat_natCast, ← fillTo_zero cLink z134 l]
  refine Ev.up (n := l.length) (g := fun i k => laws_toLinkS.l0 k l (fillTo cLink z134 l i) (i : Int)) ?_ ?_
  · intro i hi ih
    have hlen := fillTo_length cLink z134 l (Nat.le_of_lt hi)
    rw [← fillTo_set cLink z134 l hi z205] at ih
    refine Ev.step (fun k => by rw [laws_toLinkS.l0]) ?_
    repeat (first | (with_reducible refine Ev.ite_pos (by omega) ?_) | (with_reducible refine Ev.ite_neg (by omega) ?_))
    refine Ev.bind0 (to_Link (l.getD i z205)) ?_
    repeat (first | (with_reducible refine Ev.ite_pos (by omega) ?_) | (with_reducible refine Ev.ite_neg (by omega) ?_))
    rw [Int.toNat_natCast, w64n (by omega)]
    exact ih
  · refine Ev.step (fun k => by rw [laws_toLinkS.l0]) ?_
    repeat (first | (with_reducible refine Ev.ite_pos (by omega) ?_) | (with_reducible refine Ev.ite_neg (by omega) ?_))
    refine Ev.some ?_
    rw [fillTo_all]
theorem to_Table (x : S203) (hn : n203 x ≤ 1048576) : Ev (fun k => laws_toTable.f k (x.f0) (x.f1) (x.f2)) (x.f0, x.f1, x.f2) := by
  unfold n203 at hn
  unfold laws_toTable.f
  refine Ev.bind (to_IntS (x.f1) (by omega)) ?_
  refine Ev.bind (to_IntS (x.f2) (by omega)) ?_
  exact Ev.now _
theorem to_TableS (l : List S203) (hn : (l.length + (l.map n203).sum) ≤ 1048576) : Ev (fun k => laws_toTableS.f k l) (l.map cTable) := by
  unfold laws_toTableS.f
  repeat (first | (with_reducible refine Ev.ite_pos (by omega) ?_) | (with_reducible refine Ev.ite_neg (by omega) ?_))
  rw [Int.toNat_natCast, ← fillTo_zero cTable z55 l]
  refine Ev.up (n := l.length) (g := fun i k => laws_toTableS.l0 k l (fillTo cTable z55 l i) (i : Int)) ?_ ?_
  · intro i hi ih
    have hlen := fillTo_length cTable z55 l (Nat.le_of_lt hi)
    rw [← fillTo_set cTable z55 l hi z203] at ih
    refine Ev.step (fun k => by rw [laws_toTableS.l0]) ?_
    repeat (first | (with_reducible refine Ev.ite_pos (by omega) ?_) | (with_reducible refine Ev.ite_neg (by omega) ?_))
    have hm := le_sum n203 (getD_mem hi z203)
    refine Ev.bind (to_Table (l.getD i z203) (by omega)) ?_
    repeat (first | (with_reducible refine Ev.ite_pos (by omega) ?_) | (with_reducible refine Ev.ite_neg (by omega) ?_))
    rw [Int.toNat_natCast, w64n (by omega)]
    exact ih
  · refine Ev.step (fun k => by rw [laws_toTableS.l0]) ?_
    repeat (first | (with_reducible refine Ev.ite_pos (by omega) ?_) | (with_reducible refine Ev.ite_neg (by omega) ?_))
    refine Ev.some ?_
    rw [fillTo_all]
theorem to_Span (x : S164) : laws_toSpan.f (x.f0) (x.f1) = some (x.f0, x.f1) := by
  unfold laws_toSpan.f
  rfl
theorem to_Piece (x : S168) (hn : n168 x ≤ 1048576) : Ev (fun k => laws_toPiece.f k (x.f0.f0) (x.f0.f1) (x.f1) (x.f2)) (x.f0.f0, x.f0.f1, (x.f1.map cLink), (x.f2.map cTable)) := by
  unfold n168 at hn
  unfold laws_toPiece.f
  refine Ev.bind0 (to_Span (x.f0)) ?_
  refine Ev.bind (to_LinkS (x.f1) (by omega)) ?_
  refine Ev.bind (to_TableS (x.f2) (by omega)) ?_
  exact Ev.now _
theorem to_PieceS (l : List S168) (hn : (l.length + (l.map n168).sum) ≤ 1048576) : Ev (fun k => laws_toPieceS.f k l) (l.map cPiece) := by
  unfold laws_toPieceS.f
  repeat (first | (with_reducible refine Ev.ite_pos (by omega) ?_) | (with_reducible refine Ev.ite_neg (by omega) ?_))
  rw [Int.toNat_natCast, ← fillTo_zero cPiece z105 l]
  refine Ev.up (n := l.length) (g := fun i k => laws_toPieceS.l0 k l (fillTo cPiece z105 l i) (i : Int)) ?_ ?_
  · intro i hi ih
    have hlen := fillTo_length cPiece z105 l (Nat.le_of_lt hi)
    rw [← fillTo_set cPiece z105 l hi z168] at ih
    refine Ev.step (fun k => by rw [laws_toPieceS.l0]) ?_
    repeat (first | (with_reducible refine Ev.ite_pos (by omega) ?_) | (with_reducible refine Ev.ite_neg (by omega) ?_))
    have hm := le_sum n168 (getD_mem hi z168)
    refine Ev.bind (to_Piece (l.getD i z168) (by omega)) ?_
    repeat (first | (with_reducible refine Ev.ite_pos (by omega) ?_) | (with_reducible refine Ev.ite_neg (by omega) ?_))
    rw [Int.toNat_natCast, w64n (by omega)]
    exact ih
  · refine Ev.step (fun k => by rw [laws_toPieceS.l0]) ?_
    repeat (first | (with_reducible refine Ev.ite_pos (by omega) ?_) | (with_reducible refine Ev.ite_neg (by omega) ?_))
    refine Ev.some ?_
    rw [fillTo_all]
theorem to_Program (a0 : Int) (a1 : Int) (a2 : Int) (a3 : (List S168)) (hn : (a3.length + (a3.map n168).sum) ≤ 1048576) : Ev (fun k => laws_toProgram.f k a0 a1 a2 a3) (a0, a1, a2, (a3.map cPiece)) := by
  unfold laws_toProgram.f
  refine Ev.bind (to_PieceS (a3) (by omega)) ?_
  exact Ev.now _
theorem eq_IntS (l : List Int) (hn : l.length ≤ 2097152) : Ev (fun k => laws_eqIntS.f k l l) true := by
  unfold laws_eqIntS.f
  refine Ev.ite_pos rfl ?_
  refine Ev.up (n := l.length) (g := fun i k => laws_eqIntS.l0 k l l (i : Int)) ?_ ?_
  · intro i hi ih
    refine Ev.step (fun k => by rw [laws_eqIntS.l0]) ?_
    repeat (first | (with_reducible refine Ev.ite_pos (by omega) ?_) | (with_reducible refine Ev.ite_neg (by omega) ?_))
    rw [w64n (by omega)]
    exact ih
  · refine Ev.step (fun k => by rw [laws_eqIntS.l0]) ?_
    repeat (first | (with_reducible refine Ev.ite_pos (by omega) ?_) | (with_reducible refine Ev.ite_neg (by omega) ?_))
    exact Ev.now _
theorem eq_Span (x : S102) : laws_eqSpan.f (x.f0) (x.f1) (x.f0) (x.f1) = some true := by
  unfold laws_eqSpan.f
  simp
theorem eq_Link (x : S134) : laws_eqLink.f (x.f0) (x.f1) (x.f0) (x.f1) = some true := by
  unfold laws_eqLink.f
  simp
theorem eq_LinkS (l : List S134) (hn : l.length ≤ 1048576) : Ev (fun k => laws_eqLinkS.f k l l) true := by
  unfold laws_eqLinkS.f
  refine Ev.ite_pos rfl ?_
  refine Ev.up (n := l.length) (g := fun i k => laws_eqLinkS.l0 k l l (i : Int)) ?_ ?_
  · intro i hi ih
    refine Ev.step (fun k => by rw [laws_eqLinkS.l0]) ?_
    repeat (first | (with_reducible refine Ev.ite_pos (by omega) ?_) | (with_reducible refine Ev.ite_neg (by omega) ?_))
    refine Ev.bind0 (eq_Link (l.getD i z134)) ?_
    refine Ev.ite_pos rfl ?_
    rw [w64n (by omega)]
    exact ih
  · refine Ev.step (fun k => by rw [laws_eqLinkS.l0]) ?_
    repeat (first | (with_reducible refine Ev.ite_pos (by omega) ?_) | (with_reducible refine Ev.ite_neg (by omega) ?_))
    exact Ev.now _
theorem eq_Table (x : S55) (hn : n55 x ≤ 1048576) : Ev (fun k => laws_eqTable.f k (x.f0) (x.f1) (x.f2) (x.f0) (x.f1) (x.f2)) true := by
  unfold n55 at hn
  unfold laws_eqTable.f
  refine Ev.ite_pos rfl ?_
  refine Ev.bind (eq_IntS (x.f1) (by omega)) ?_
  refine Ev.ite_pos rfl ?_
  refine Ev.bind (eq_IntS (x.f2) (by omega)) ?_
  refine Ev.ite_pos rfl ?_
  exact Ev.now _
theorem eq_TableS (l : List S55) (hn : (l.length + (l.map n55).sum) ≤ 1048576) : Ev (fun k => laws_eqTableS.f k l l) true := by
  unfold laws_eqTableS.f
  refine Ev.ite_pos rfl ?_
  refine Ev.up (n := l.length) (g := fun i k => laws_eqTableS.l0 k l l (i : Int)) ?_ ?_
  · intro i hi ih
    refine Ev.step (fun k => by rw [laws_eqTableS.l0]) ?_
    repeat (first | (with_reducible refine Ev.ite_pos (by omega) ?_) | (with_reducible refine Ev.ite_neg (by omega) ?_))
    have hm := le_sum n55 (getD_mem hi z55)
    refine Ev.bind (eq_Table (l.getD i z55) (by omega)) ?_
    refine Ev.ite_pos rfl ?_
    rw [w64n (by omega)]
    exact ih
  · refine Ev.step (fun k => by rw [laws_eqTableS.l0]) ?_
    repeat (first | (with_reducible refine Ev.ite_pos (by omega) ?_) | (with_reducible refine Ev.ite_neg (by omega) ?_))
    exact Ev.now _
theorem eq_Piece (x : S105) (hn : n105 x ≤ 1048576) : Ev (fun k => laws_eqPiece.f k (x.f0.f0) (x.f0.f1) (x.f1) (x.f2) (x.f0.f0) (x.f0.f1) (x.f1) (x.f2)) true := by
  unfold n105 at hn
  unfold laws_eqPiece.f
  refine Ev.bind0 (eq_Span (x.f0)) ?_
  refine Ev.ite_pos rfl ?_
  refine Ev.bind (eq_LinkS (x.f1) (by omega)) ?_
  refine Ev.ite_pos rfl ?_
  refine Ev.bind (eq_TableS (x.f2) (by omega)) ?_
  refine Ev.ite_pos rfl ?_
  exact Ev.now _
theorem eq_PieceS (l : List S105) (hn : (l.length + (l.map n105).sum) ≤ 1048576) : Ev (fun k => laws_eqPieceS.f k l l) true := by
  unfold laws_eqPieceS.f
  refine Ev.ite_pos rfl ?_
  refine Ev.up (n := l.length) (g := fun i k => laws_eqPieceS.l0 k l l (i : Int)) ?_ ?_
  · intro i hi ih
    refine Ev.step (fun k => by rw [laws_eqPieceS.l0]) ?_
    repeat (first | (with_reducible refine Ev.ite_pos (by omega) ?_) | (with_reducible refine Ev.ite_neg (by omega) ?_))
    have hm := le_sum n105 (getD_mem hi z105)
    refine Ev.bind (eq_Piece (l.getD i z105) (by omega)) ?_
    refine Ev.ite_pos rfl ?_
    rw [w64n (by omega)]
    exact ih
  · refine Ev.step (fun k => by rw [laws_eqPieceS.l0]) ?_
    repeat (first | (with_reducible refine Ev.ite_pos (by omega) ?_) | (with_reducible refine Ev.ite_neg (by omega) ?_))
    exact Ev.now _
theorem eq_Program (a0 : Int) (a1 : Int) (a2 : Int) (a3 : (List S105)) (hn : (a3.length + (a3.map n105).sum) ≤ 1048576) : Ev (fun k => laws_eqProgram.f k a0 a1 a2 a3 a0 a1 a2 a3) true := by
  unfold laws_eqProgram.f
  refine Ev.ite_pos rfl ?_
  refine Ev.ite_pos rfl ?_
  refine Ev.ite_pos rfl ?_
  refine Ev.bind (eq_PieceS a3 (by omega)) ?_
  refine Ev.ite_pos rfl ?_
  exact Ev.now _
end Go.Proofs.Ytiihaabhjphaeaa.fnExactIsProgram
/- Bounds on programs that a law is handed. Conditions: none. -/
namespace Go.Proofs.Ytiihaabhjphaeaa.fnExactIsProgram
open Go.RowKit Go.Proofs.YtiihaabhjphaeaaW.PrintWords Go.Proofs.YtiihaabhjphaeaaW.PrintMore Go.Proofs.Ytiihaabhjphaeaa.QFnExactIsProgram Go.Proofs.Ytiihaabhjphaeaa.Open Go.Proofs.Ytiihaabhjphaeaa.Kit
theorem bTable {x : S203} (h : g203 x) : b203 x := ⟨Len.le h.2.1.1 (by omega), Len.le h.2.2.1 (by omega)⟩
theorem bPiece {x : S168} (h : g168 x) : b168 x := ⟨Len.le h.2.1.1 (by omega), Len.le h.2.2.1 (by omega), fun y hy => bTable (h.2.2.2 y hy)⟩
/-- How many elements a program has in all. -/
def nPg (l : List S168) : Nat := l.length + (l.map n168).sum
def nPgI (l : List S105) : Nat := l.length + (l.map n105).sum
theorem nPgI_c (l : List S168) : nPgI (l.map cPiece) = nPg l := by
  unfold nPgI nPg
  rw [List.length_map, List.map_map]
  congr 2
  exact List.map_congr_left fun x _ => n_cPiece x
end Go.Proofs.Ytiihaabhjphaeaa.fnExactIsProgram
/- Whether what a law is handed is a program, in the program and in the reference. Conditions: none. -/
namespace Go.Proofs.Ytiihaabhjphaeaa.fnExactIsProgram
open Go.RowKit Go.Proofs.YtiihaabhjphaeaaW.PrintWords Go.Proofs.YtiihaabhjphaeaaW.PrintLast Go.Proofs.YtiihaabhjphaeaaW.PrintMore Go.Proofs.Ytiihaabhjphaeaa.QFnExactIsProgram Go.Proofs.Ytiihaabhjphaeaa.Open Go.Proofs.Ytiihaabhjphaeaa.Kit Go.Proofs.Ytiihaabhjphaeaa.Bfs
theorem all_step {α : Type} {a b : List α} {z : α} {i : Nat} {r : Bool} (h : a.getD i z = b.getD i z) (hr : r = true ↔ ∀ j : Nat, i + 1 ≤ j → j < a.length → a.getD j z = b.getD j z) : r = true ↔ ∀ j : Nat, i ≤ j → j < a.length → a.getD j z = b.getD j z := by
  rw [hr]
  constructor
  · intro hh j h1 h2
    by_cases e : j = i
    · rw [e]
      exact h
    · exact hh j (by omega) h2
  · exact fun hh j h1 h2 => hh j (by omega) h2
theorem all_bad {α : Type} {a b : List α} {z : α} {i : Nat} (hi : i < a.length) (h : a.getD i z ≠ b.getD i z) : false = true ↔ ∀ j : Nat, i ≤ j → j < a.length → a.getD j z = b.getD j z := by
  constructor
  · intro e
    cases e
  · exact fun hh => absurd (hh i (Nat.le_refl _) hi) h
theorem all_end {α : Type} {a b : List α} {z : α} {i : Nat} (hi : a.length ≤ i) : true = true ↔ ∀ j : Nat, i ≤ j → j < a.length → a.getD j z = b.getD j z := by
  simp only [true_iff]
  intro j h1 h2
  omega
theorem all_eq {α : Type} {a b : List α} {z : α} (hlen : a.length = b.length) {r : Bool} (h : r = true ↔ ∀ j : Nat, 0 ≤ j → j < a.length → a.getD j z = b.getD j z) : r = true ↔ a = b := by
  rw [h]
  constructor
  · intro hh
    apply List.ext_getElem hlen
    intro i h1 h2
    have := hh i (by omega) h1
    rw [getD_at h1, getD_at h2] at this
    exact this
  · intro e j _ _
    rw [e]
theorem no_eq {α : Type} {a b : List α} (hlen : a.length ≠ b.length) : false = true ↔ a = b := by
  constructor
  · intro e
    cases e
  · exact fun e => absurd (by rw [e]) hlen
theorem intsS {a b : List Int} (ha : a.length ≤ 2000000) : ∃ r, Ev (fun k => spec_EqualInts.f k a b) r ∧ (r = true ↔ a = b) := by
  unfold spec_EqualInts.f
  by_cases hlen : a.length = b.length
  · have key : ∀ m i : Nat, i + m = a.length → ∃ r, Ev (fun k => spec_EqualInts.l0 k a b (i : Int)) r ∧ (r = true ↔ ∀ j : Nat, i ≤ j → j < a.length → a.getD j 0 = b.getD j 0) := by
      intro m
      induction m with
      | zero =>
        intro i hi
        refine ⟨true, ?_, all_end (by omega)⟩
        refine Ev.step (fun k => by rw [spec_EqualInts.l0]) ?_
        exact Ev.ite_neg (by omega) (Ev.now _)
      | succ m ih =>
        intro i hi
        obtain ⟨r, hr, hri⟩ := ih (i + 1) (by omega)
        by_cases c : rd a (i : Int) = rd b (i : Int)
        · refine ⟨r, ?_, all_step c hri⟩
          refine Ev.step (fun k => by rw [spec_EqualInts.l0]) ?_
          refine Ev.ite_pos (by omega) (Ev.ite_pos (by omega) (Ev.ite_pos (by omega) (Ev.ite_pos c ?_)))
          rw [w64n (by omega)]
          exact hr
        · refine ⟨false, ?_, all_bad (by omega) c⟩
          refine Ev.step (fun k => by rw [spec_EqualInts.l0]) ?_
          exact Ev.ite_pos (by omega) (Ev.ite_pos (by omega) (Ev.ite_pos (by omega) (Ev.ite_neg c (Ev.now _))))
    obtain ⟨r, hr, hri⟩ := key a.length 0 (by omega)
    exact ⟨r, Ev.ite_pos (by omega) hr, all_eq hlen hri⟩
  · exact ⟨false, Ev.ite_neg (by omega) (Ev.now _), no_eq hlen⟩
theorem intsI {a b : List Int} (ha : a.length ≤ 2000000) : ∃ r, Ev (fun k => slices_Equal_int_int.f k a b) r ∧ (r = true ↔ a = b) := by
  unfold slices_Equal_int_int.f
  by_cases hlen : a.length = b.length
  · have key : ∀ m i : Nat, i + m = a.length → ∃ r, Ev (fun k => slices_Equal_int_int.l0 k a b (a.length : Int) (i : Int)) r ∧ (r = true ↔ ∀ j : Nat, i ≤ j → j < a.length → a.getD j 0 = b.getD j 0) := by
      intro m
      induction m with
      | zero =>
        intro i hi
        refine ⟨true, ?_, all_end (by omega)⟩
        refine Ev.step (fun k => by rw [slices_Equal_int_int.l0]) ?_
        exact Ev.ite_neg (by omega) (Ev.now _)
      | succ m ih =>
        intro i hi
        obtain ⟨r, hr, hri⟩ := ih (i + 1) (by omega)
        by_cases c : rd a (i : Int) = rd b (i : Int)
        · refine ⟨r, ?_, all_step c hri⟩
          refine Ev.step (fun k => by rw [slices_Equal_int_int.l0]) ?_
          refine Ev.ite_pos (by omega) (Ev.ite_pos (by omega) (Ev.ite_pos (by omega) (Ev.ite_pos (by omega) (Ev.ite_pos c ?_))))
          rw [w64n (by omega)]
          exact hr
        · refine ⟨false, ?_, all_bad (by omega) c⟩
          refine Ev.step (fun k => by rw [slices_Equal_int_int.l0]) ?_
          exact Ev.ite_pos (by omega) (Ev.ite_pos (by omega) (Ev.ite_pos (by omega) (Ev.ite_pos (by omega) (Ev.ite_neg c (Ev.now _)))))
    obtain ⟨r, hr, hri⟩ := key a.length 0 (by omega)
    exact ⟨r, Ev.ite_pos (by omega) hr, all_eq hlen hri⟩
  · exact ⟨false, Ev.ite_neg (by omega) (Ev.now _), no_eq hlen⟩
theorem tab_ext {x y : S55} (h0 : x.f0 = y.f0) (h1 : x.f1 = y.f1) (h2 : x.f2 = y.f2) : x = y := by
  cases x
  cases y
  simp at h0 h1 h2
  rw [h0, h1, h2]
theorem eqTabS {x y : S55} (h1 : x.f1.length ≤ 2000000) (h2 : x.f2.length ≤ 2000000) : ∃ r, Ev (fun k => spec_EqualTables.f k x.f0 x.f1 x.f2 y.f0 y.f1 y.f2) r ∧ (r = true ↔ x = y) := by
  unfold spec_EqualTables.f
  by_cases c0 : x.f0 = y.f0
  · obtain ⟨r1, e1, i1⟩ := intsS (b := y.f1) h1
    obtain ⟨r2, e2, i2⟩ := intsS (b := y.f2) h2
    by_cases c1 : r1 = true
    · refine ⟨r2, Ev.ite_pos c0 (Ev.bind e1 (Ev.ite_pos c1 (Ev.bind e2 (Ev.now _)))), ?_⟩
      rw [i2]
      exact ⟨fun h => tab_ext c0 (i1.1 c1) h, fun h => by rw [h]⟩
    · refine ⟨false, Ev.ite_pos c0 (Ev.bind e1 (Ev.ite_neg c1 (Ev.now _))), ?_⟩
      constructor
      · intro e
        cases e
      · exact fun h => absurd (i1.2 (by rw [h])) c1
  · refine ⟨false, Ev.ite_neg c0 (Ev.now _), ?_⟩
    constructor
    · intro e
      cases e
    · exact fun h => absurd (by rw [h]) c0
theorem eqTabI {x y : S55} (h1 : x.f1.length ≤ 2000000) (h2 : x.f2.length ≤ 2000000) : ∃ r, Ev (fun k => impl_EqualTables.f k x.f0 x.f1 x.f2 y.f0 y.f1 y.f2) r ∧ (r = true ↔ x = y) := by
  unfold impl_EqualTables.f
  by_cases c0 : x.f0 = y.f0
  · obtain ⟨r1, e1, i1⟩ := intsI (b := y.f1) h1
    obtain ⟨r2, e2, i2⟩ := intsI (b := y.f2) h2
    by_cases c1 : r1 = true
    · refine ⟨r2, Ev.ite_pos c0 (Ev.bind e1 (Ev.ite_pos c1 (Ev.bind e2 (Ev.now _)))), ?_⟩
      rw [i2]
      exact ⟨fun h => tab_ext c0 (i1.1 c1) h, fun h => by rw [h]⟩
    · refine ⟨false, Ev.ite_pos c0 (Ev.bind e1 (Ev.ite_neg c1 (Ev.now _))), ?_⟩
      constructor
      · intro e
        cases e
      · exact fun h => absurd (i1.2 (by rw [h])) c1
  · refine ⟨false, Ev.ite_neg c0 (Ev.now _), ?_⟩
    constructor
    · intro e
      cases e
    · exact fun h => absurd (by rw [h]) c0
/-- Tables none of which is large. -/
def TabsLe (l : List S55) : Prop := l.length ≤ 2000000 ∧ ∀ y ∈ l, y.f1.length ≤ 2000000 ∧ y.f2.length ≤ 2000000
theorem tablesEqI {a b : List S55} (ha : TabsLe a) : ∃ r, Ev (fun k => impl_Table.f k a b 0) r ∧ (r = true ↔ a = b) := by
  unfold impl_Table.f
  have ha1 := ha.1
  by_cases hlen : a.length = b.length
  · have key : ∀ m i : Nat, i + m = a.length → ∃ r, Ev (fun k => impl_Table.l0 k b a (a.length : Int) (i : Int)) r ∧ (r = true ↔ ∀ j : Nat, i ≤ j → j < a.length → a.getD j z55 = b.getD j z55) := by
      intro m
      induction m with
      | zero =>
        intro i hi
        refine ⟨true, ?_, all_end (by omega)⟩
        refine Ev.step (fun k => by rw [impl_Table.l0]) ?_
        exact Ev.ite_neg (by omega) (Ev.now _)
      | succ m ih =>
        intro i hi
        obtain ⟨r, hr, hri⟩ := ih (i + 1) (by omega)
        have hm := ha.2 _ (getD_mem (show i < a.length by omega) z55)
        obtain ⟨q, hq, hqi⟩ := eqTabI (x := rd_T55 a (i : Int)) (y := rd_T55 b (i : Int)) hm.1 hm.2
        by_cases c : q = true
        · refine ⟨r, ?_, all_step (hqi.1 c) hri⟩
          refine Ev.step (fun k => by rw [impl_Table.l0]) ?_
          refine Ev.ite_pos (by omega) (Ev.ite_pos (by omega) (Ev.ite_pos (by omega) (Ev.ite_pos (by omega) (Ev.bind hq (Ev.ite_pos c ?_)))))
          rw [w64n (by omega)]
          exact hr
        · refine ⟨false, ?_, all_bad (by omega) fun h => c (hqi.2 h)⟩
          refine Ev.step (fun k => by rw [impl_Table.l0]) ?_
          exact Ev.ite_pos (by omega) (Ev.ite_pos (by omega) (Ev.ite_pos (by omega) (Ev.ite_pos (by omega) (Ev.bind hq (Ev.ite_neg c (Ev.now _))))))
    obtain ⟨r, hr, hri⟩ := key a.length 0 (by omega)
    exact ⟨r, Ev.ite_pos (by omega) hr, all_eq hlen hri⟩
  · exact ⟨false, Ev.ite_neg (by omega) (Ev.now _), no_eq hlen⟩
/-- A piece that is right: its span, and its tables out of its links. -/
def PcOk (n first : Int) (x : S105) : Prop := (0 ≤ x.f0.f0 ∧ x.f0.f1 ≤ 1000 ∧ x.f0.f0 < x.f0.f1) ∧ x.f2 = tabs x.f1 n first
theorem tabs_get {l : List S134} {n first : Int} {i : Nat} (h : (i : Int) < n) : (tabs l n first).getD i z55 = tabOf l n first (i : Int) := map_range_getD (fun d : Nat => tabOf l n first (d : Int)) (by omega) z55
theorem tabs_len (l : List S134) (n first : Int) : (tabs l n first).length = n.toNat := by simp [tabs]
theorem pieceS {n first skew : Int} {p : List S105} {x : S105} (hn : 1 ≤ n ∧ n ≤ 12) (hl : x.f1.length ≤ 1048576) (ht : TabsLe x.f2) : ∃ r, Ev (fun k => spec_l17Piece.f k n first skew p x.f0.f0 x.f0.f1 x.f1 x.f2) r ∧ (r = true ↔ PcOk n first x) := by
  have hsp : spanQ x.f0.f0 x.f0.f1 = true ↔ (0 ≤ x.f0.f0 ∧ x.f0.f1 ≤ 1000 ∧ x.f0.f0 < x.f0.f1) := by
    unfold spanQ
    exact decide_eq_true_iff
  unfold spec_l17Piece.f
  by_cases hlen : (x.f2.length : Int) = n
  · by_cases c : spanQ x.f0.f0 x.f0.f1 = true
    · have key : ∀ m i : Nat, i + m = x.f2.length → ∃ r, Ev (fun k => spec_l17Piece.l0 k (i : Int) n first skew p x.f0.f0 x.f0.f1 x.f1 x.f2) r ∧ (r = true ↔ ∀ j : Nat, i ≤ j → j < x.f2.length → x.f2.getD j z55 = (tabs x.f1 n first).getD j z55) := by
        intro m
        induction m with
        | zero =>
          intro i hi
          refine ⟨true, ?_, all_end (by omega)⟩
          refine Ev.step (fun k => by rw [spec_l17Piece.l0]) ?_
          exact Ev.ite_neg (by omega) (Ev.now _)
        | succ m ih =>
          intro i hi
          obtain ⟨r, hr, hri⟩ := ih (i + 1) (by omega)
          have hm := ht.2 _ (getD_mem (show i < x.f2.length by omega) z55)
          have hg := tabs_get (l := x.f1) (first := first) (show (i : Int) < n by omega)
          obtain ⟨q, hq, hqi⟩ := eqTabS (x := rd_T55 x.f2 (i : Int)) (y := tabOf x.f1 n first (i : Int)) hm.1 hm.2
          by_cases c : q = true
          · refine ⟨r, ?_, all_step (by rw [hg]; exact hqi.1 c) hri⟩
            refine Ev.step (fun k => by rw [spec_l17Piece.l0]) ?_
            refine Ev.ite_pos (by omega) (Ev.ite_pos (by omega) (Ev.ite_pos (by omega) (Ev.bind (tableS hl n first (i : Int)) (Ev.bind hq (Ev.ite_pos c ?_)))))
            rw [w64n (by omega)]
            exact hr
          · refine ⟨false, ?_, all_bad (by omega) fun h => c (hqi.2 (by rw [hg] at h; exact h))⟩
            refine Ev.step (fun k => by rw [spec_l17Piece.l0]) ?_
            exact Ev.ite_pos (by omega) (Ev.ite_pos (by omega) (Ev.ite_pos (by omega) (Ev.bind (tableS hl n first (i : Int)) (Ev.bind hq (Ev.ite_neg c (Ev.now _))))))
      obtain ⟨r, hr, hri⟩ := key x.f2.length 0 (by omega)
      refine ⟨r, Ev.ite_pos hlen (Ev.bind0 (spanS _ _) ?_), ?_⟩
      · rw [c]
        refine Ev.step (fun k => by rw [spec_l17Piece.j0]) ?_
        exact Ev.ite_neg (by simp) hr
      · rw [all_eq (by rw [tabs_len]; omega) hri]
        exact ⟨fun h => ⟨hsp.1 c, h⟩, fun h => h.2⟩
    · refine ⟨false, Ev.ite_pos hlen (Ev.bind0 (spanS _ _) ?_), ?_⟩
      · rw [Bool.eq_false_iff.2 c]
        refine Ev.step (fun k => by rw [spec_l17Piece.j0]) ?_
        exact Ev.ite_pos (by simp) (Ev.now _)
      · constructor
        · intro e
          cases e
        · exact fun h => absurd (hsp.2 h.1) c
  · refine ⟨false, Ev.ite_neg hlen ?_, ?_⟩
    · refine Ev.step (fun k => by rw [spec_l17Piece.j0]) ?_
      exact Ev.ite_pos rfl (Ev.now _)
    · constructor
      · intro e
        cases e
      · intro h
        refine absurd ?_ hlen
        rw [h.2, tabs_len]
        omega
/-- What is right of the pieces from i on. -/
def FromOk (n first : Int) (p : List S105) (i : Nat) : Prop := ∀ j, i ≤ j → j < p.length → PcOk n first (p.getD j z105) ∧ (0 < j → (p.getD (j - 1) z105).f0.f1 = (p.getD j z105).f0.f0)
def ProgOk (n first skew : Int) (p : List S105) : Prop := Frame n first skew ∧ (1 ≤ p.length ∧ p.length ≤ 40) ∧ FromOk n first p 0
noncomputable def progB (n first skew : Int) (p : List S105) : Bool := @decide (ProgOk n first skew p) (Classical.propDecidable _)
theorem progB_iff {n first skew : Int} {p : List S105} : progB n first skew p = true ↔ ProgOk n first skew p := @decide_eq_true_iff _ (Classical.propDecidable _)
theorem fromOk_step {n first : Int} {p : List S105} {i : Nat} {r : Bool} (h : PcOk n first (p.getD i z105) ∧ (0 < i → (p.getD (i - 1) z105).f0.f1 = (p.getD i z105).f0.f0)) (hr : r = true ↔ FromOk n first p (i + 1)) : r = true ↔ FromOk n first p i := by
  rw [hr]
  constructor
  · intro hh j h1 h2
    by_cases e : j = i
    · rw [e]
      exact h
    · exact hh j (by omega) h2
  · exact fun hh j h1 h2 => hh j (by omega) h2
theorem fromOk_bad {n first : Int} {p : List S105} {i : Nat} (hi : i < p.length) (h : ¬ (PcOk n first (p.getD i z105) ∧ (0 < i → (p.getD (i - 1) z105).f0.f1 = (p.getD i z105).f0.f0))) : false = true ↔ FromOk n first p i := by
  constructor
  · intro e
    cases e
  · exact fun hh => absurd (hh i (Nat.le_refl _) hi) h
/-- Pieces none of which is large. -/
def PcsLe (p : List S105) : Prop := ∀ x ∈ p, x.f1.length ≤ 1048576 ∧ TabsLe x.f2
theorem pcsLe {p : List S105} (hp : nPgI p ≤ 1048576) : PcsLe p := by
  intro x hx
  have h1 := le_sum n105 hx
  have e1 : n105 x = x.f1.length + (x.f2.length + (x.f2.map n55).sum) := rfl
  unfold nPgI at hp
  refine ⟨by omega, by omega, fun y hy => ?_⟩
  have h2 := le_sum n55 hy
  have e2 : n55 y = y.f1.length + y.f2.length := rfl
  omega
theorem rdP (p : List S105) (i : Nat) : rd_T105 p (i : Int) = p.getD i z105 := rfl
theorem rdP1 (p : List S105) {i : Nat} (h : 0 < i) : rd_T105 p ((i : Int) - 1) = p.getD (i - 1) z105 := by
  rw [show ((i : Int) - 1) = ((i - 1 : Nat) : Int) by omega]
  rfl
theorem frame_n {n first skew : Int} (h : Frame n first skew) : 1 ≤ n ∧ n ≤ 12 := h.1
theorem progS {n first skew : Int} {p : List S105} (hp : PcsLe p) : Ev (fun k => spec_IsProgram.f k n first skew p) (progB n first skew p) := by
  unfold spec_IsProgram.f
  refine Ev.bind0 (frameS n first skew) ?_
  by_cases c1 : Frame n first skew
  · refine Ev.ite_pos (decide_eq_true c1) (Ev.bind0 (inP _ 1 40) ?_)
    by_cases c2 : 1 ≤ p.length ∧ p.length ≤ 40
    · rw [decide_eq_true (show (1 : Int) ≤ (p.length : Int) ∧ (p.length : Int) ≤ 40 by omega)]
      have hn := frame_n c1
      have key : ∀ m i : Nat, i + m = p.length → ∃ r, Ev (fun k => spec_IsProgram.l0 k (i : Int) n first skew p) r ∧ (r = true ↔ FromOk n first p i) := by
        intro m
        induction m with
        | zero =>
          intro i hi
          refine ⟨true, ?_, ?_⟩
          · refine Ev.step (fun k => by rw [spec_IsProgram.l0]) ?_
            exact Ev.ite_neg (by omega) (Ev.now _)
          · simp only [true_iff]
            intro j h1 h2
            omega
        | succ m ih =>
          intro i hi
          obtain ⟨r, hr, hri⟩ := ih (i + 1) (by omega)
          have hm := hp _ (getD_mem (show i < p.length by omega) z105)
          obtain ⟨q, hq, hqi⟩ := pieceS (n := n) (first := first) (skew := skew) (p := p) (x := p.getD i z105) hn hm.1 hm.2
          by_cases c : q = true
          · by_cases h0 : 0 < i
            · by_cases c3 : (p.getD (i - 1) z105).f0.f1 = (p.getD i z105).f0.f0
              · refine ⟨r, ?_, fromOk_step ⟨hqi.1 c, fun _ => c3⟩ hri⟩
                refine Ev.step (fun k => by rw [spec_IsProgram.l0]) ?_
                refine Ev.ite_pos (by omega) (Ev.ite_pos (by omega) ?_)
                rw [rdP, w64n (by omega), w64 (x := (i : Int) - 1) (by omega) (by omega), rdP1 p h0]
                exact Ev.bind hq (Ev.ite_pos c (Ev.ite_pos (by omega) (Ev.ite_pos (by omega) (Ev.ite_pos (by omega) (Ev.ite_pos c3 hr)))))
              · refine ⟨false, ?_, fromOk_bad (by omega) fun h => c3 (h.2 h0)⟩
                refine Ev.step (fun k => by rw [spec_IsProgram.l0]) ?_
                refine Ev.ite_pos (by omega) (Ev.ite_pos (by omega) ?_)
                rw [rdP, w64 (x := (i : Int) - 1) (by omega) (by omega), rdP1 p h0]
                exact Ev.bind hq (Ev.ite_pos c (Ev.ite_pos (by omega) (Ev.ite_pos (by omega) (Ev.ite_pos (by omega) (Ev.ite_neg c3 (Ev.now _))))))
            · refine ⟨r, ?_, fromOk_step ⟨hqi.1 c, fun h => absurd h h0⟩ hri⟩
              refine Ev.step (fun k => by rw [spec_IsProgram.l0]) ?_
              refine Ev.ite_pos (by omega) (Ev.ite_pos (by omega) ?_)
              rw [rdP, w64n (by omega)]
              exact Ev.bind hq (Ev.ite_pos c (Ev.ite_neg (by omega) hr))
          · refine ⟨false, ?_, fromOk_bad (by omega) fun h => c (hqi.2 h.1)⟩
            refine Ev.step (fun k => by rw [spec_IsProgram.l0]) ?_
            refine Ev.ite_pos (by omega) (Ev.ite_pos (by omega) ?_)
            rw [rdP]
            exact Ev.bind hq (Ev.ite_neg c (Ev.now _))
      obtain ⟨r, hr, hri⟩ := key p.length 0 (by omega)
      have e : r = progB n first skew p := by
        rw [Bool.eq_iff_iff, hri, progB_iff]
        exact ⟨fun h => ⟨c1, c2, h⟩, fun h => h.2.2⟩
      rw [← e]
      refine Ev.step (fun k => by rw [spec_IsProgram.j0]) ?_
      exact Ev.ite_neg (by simp) hr
    · rw [decide_eq_false (show ¬ ((1 : Int) ≤ (p.length : Int) ∧ (p.length : Int) ≤ 40) by omega), Bool.eq_false_iff.2 (fun h => c2 (progB_iff.1 h).2.1)]
      refine Ev.step (fun k => by rw [spec_IsProgram.j0]) ?_
      exact Ev.ite_pos (by simp) (Ev.now _)
  · refine Ev.ite_neg (by simpa using c1) ?_
    rw [Bool.eq_false_iff.2 (fun h => c1 (progB_iff.1 h).1)]
    refine Ev.step (fun k => by rw [spec_IsProgram.j0]) ?_
    exact Ev.ite_pos rfl (Ev.now _)
theorem progI {n first skew : Int} {p : List S105} (hp : PcsLe p) : Ev (fun k => impl_IsProgram.f k n first skew p) (progB n first skew p) := by
  unfold impl_IsProgram.f
  refine Ev.bind0 (frameI n first skew) ?_
  by_cases c1 : Frame n first skew
  · refine Ev.ite_pos (decide_eq_true c1) (Ev.bind0 (rgP _ 1 40) ?_)
    by_cases c2 : 1 ≤ p.length ∧ p.length ≤ 40
    · rw [decide_eq_true (show (1 : Int) ≤ (p.length : Int) ∧ (p.length : Int) ≤ 40 by omega)]
      have hn := frame_n c1
      have key : ∀ m i : Nat, i + m = p.length → ∃ r, Ev (fun k => impl_IsProgram.l0 k p (p.length : Int) (i : Int) n first skew p) r ∧ (r = true ↔ FromOk n first p i) := by
        intro m
        induction m with
        | zero =>
          intro i hi
          refine ⟨true, ?_, ?_⟩
          · refine Ev.step (fun k => by rw [impl_IsProgram.l0]) ?_
            exact Ev.ite_neg (by omega) (Ev.now _)
          · simp only [true_iff]
            intro j h1 h2
            omega
        | succ m ih =>
          intro i hi
          obtain ⟨r, hr, hri⟩ := ih (i + 1) (by omega)
          have hm := hp _ (getD_mem (show i < p.length by omega) z105)
          have hsp : spanQ (p.getD i z105).f0.f0 (p.getD i z105).f0.f1 = true ↔ (0 ≤ (p.getD i z105).f0.f0 ∧ (p.getD i z105).f0.f1 ≤ 1000 ∧ (p.getD i z105).f0.f0 < (p.getD i z105).f0.f1) := by
            unfold spanQ
            exact decide_eq_true_iff
          have ht := tabsI hm.1 (show 0 ≤ n ∧ n ≤ 100 by omega) first
          obtain ⟨q, hq, hqi⟩ := tablesEqI (b := tabs (p.getD i z105).f1 n first) hm.2
          by_cases c : spanQ (p.getD i z105).f0.f0 (p.getD i z105).f0.f1 = true
          · by_cases h0 : 0 < i
            · by_cases c3 : (p.getD i z105).f0.f0 = (p.getD (i - 1) z105).f0.f1
              · by_cases c4 : q = true
                · refine ⟨r, ?_, fromOk_step ⟨⟨hsp.1 c, hqi.1 c4⟩, fun _ => c3.symm⟩ hri⟩
                  refine Ev.step (fun k => by rw [impl_IsProgram.l0]) ?_
                  refine Ev.ite_pos (by omega) (Ev.ite_pos (by omega) (Ev.ite_pos (by omega) ?_))
                  rw [rdP, w64n (by omega), w64 (x := (i : Int) - 1) (by omega) (by omega), rdP1 p h0]
                  exact Ev.bind0 (spanI _ _) (Ev.ite_pos c (Ev.ite_pos (by omega) (Ev.ite_pos (by omega) (Ev.ite_pos (by omega) (Ev.ite_pos c3 (Ev.bind ht (Ev.bind hq (Ev.ite_pos c4 hr))))))))
                · refine ⟨false, ?_, fromOk_bad (by omega) fun h => c4 (hqi.2 h.1.2)⟩
                  refine Ev.step (fun k => by rw [impl_IsProgram.l0]) ?_
                  refine Ev.ite_pos (by omega) (Ev.ite_pos (by omega) (Ev.ite_pos (by omega) ?_))
                  rw [rdP, w64n (by omega), w64 (x := (i : Int) - 1) (by omega) (by omega), rdP1 p h0]
                  exact Ev.bind0 (spanI _ _) (Ev.ite_pos c (Ev.ite_pos (by omega) (Ev.ite_pos (by omega) (Ev.ite_pos (by omega) (Ev.ite_pos c3 (Ev.bind ht (Ev.bind hq (Ev.ite_neg c4 (Ev.now _)))))))))
              · refine ⟨false, ?_, fromOk_bad (by omega) fun h => c3 (h.2 h0).symm⟩
                refine Ev.step (fun k => by rw [impl_IsProgram.l0]) ?_
                refine Ev.ite_pos (by omega) (Ev.ite_pos (by omega) (Ev.ite_pos (by omega) ?_))
                rw [rdP, w64n (by omega), w64 (x := (i : Int) - 1) (by omega) (by omega), rdP1 p h0]
                exact Ev.bind0 (spanI _ _) (Ev.ite_pos c (Ev.ite_pos (by omega) (Ev.ite_pos (by omega) (Ev.ite_pos (by omega) (Ev.ite_neg c3 (Ev.now _))))))
            · by_cases c4 : q = true
              · refine ⟨r, ?_, fromOk_step ⟨⟨hsp.1 c, hqi.1 c4⟩, fun h => absurd h h0⟩ hri⟩
                refine Ev.step (fun k => by rw [impl_IsProgram.l0]) ?_
                refine Ev.ite_pos (by omega) (Ev.ite_pos (by omega) (Ev.ite_pos (by omega) ?_))
                rw [rdP, w64n (by omega)]
                exact Ev.bind0 (spanI _ _) (Ev.ite_pos c (Ev.ite_neg (by omega) (Ev.bind ht (Ev.bind hq (Ev.ite_pos c4 hr)))))
              · refine ⟨false, ?_, fromOk_bad (by omega) fun h => c4 (hqi.2 h.1.2)⟩
                refine Ev.step (fun k => by rw [impl_IsProgram.l0]) ?_
                refine Ev.ite_pos (by omega) (Ev.ite_pos (by omega) (Ev.ite_pos (by omega) ?_))
                rw [rdP, w64n (by omega)]
                exact Ev.bind0 (spanI _ _) (Ev.ite_pos c (Ev.ite_neg (by omega) (Ev.bind ht (Ev.bind hq (Ev.ite_neg c4 (Ev.now _))))))
          · refine ⟨false, ?_, fromOk_bad (by omega) fun h => c (hsp.2 h.1.1)⟩
            refine Ev.step (fun k => by rw [impl_IsProgram.l0]) ?_
            refine Ev.ite_pos (by omega) (Ev.ite_pos (by omega) (Ev.ite_pos (by omega) ?_))
            rw [rdP]
            exact Ev.bind0 (spanI _ _) (Ev.ite_neg c (Ev.now _))
      obtain ⟨r, hr, hri⟩ := key p.length 0 (by omega)
      have e : r = progB n first skew p := by
        rw [Bool.eq_iff_iff, hri, progB_iff]
        exact ⟨fun h => ⟨c1, c2, h⟩, fun h => h.2.2⟩
      rw [← e]
      refine Ev.step (fun k => by rw [impl_IsProgram.j0]) ?_
      exact Ev.ite_neg (by simp) hr
    · rw [decide_eq_false (show ¬ ((1 : Int) ≤ (p.length : Int) ∧ (p.length : Int) ≤ 40) by omega), Bool.eq_false_iff.2 (fun h => c2 (progB_iff.1 h).2.1)]
      refine Ev.step (fun k => by rw [impl_IsProgram.j0]) ?_
      exact Ev.ite_pos (by simp) (Ev.now _)
  · refine Ev.ite_neg (by simpa using c1) ?_
    rw [Bool.eq_false_iff.2 (fun h => c1 (progB_iff.1 h).1)]
    refine Ev.step (fun k => by rw [impl_IsProgram.j0]) ?_
    exact Ev.ite_pos rfl (Ev.now _)
end Go.Proofs.Ytiihaabhjphaeaa.fnExactIsProgram
namespace Go.Proofs.Ytiihaabhjphaeaa.fnExactIsProgram
open Go.RowKit Go.Proofs.YtiihaabhjphaeaaW.PrintWords Go.Proofs.YtiihaabhjphaeaaW.PrintMore Go.Proofs.Ytiihaabhjphaeaa.QFnExactIsProgram Go.Proofs.Ytiihaabhjphaeaa.Open Go.Proofs.Ytiihaabhjphaeaa.Kit
theorem pure : PureFnExactIsProgram := by
  intro n a s p _ _ _ hp
  have hb : p.length ≤ 140737488351232 ∧ (∀ y ∈ p, b168 y) := ⟨Len.le hp.1 (by omega), fun y hy => bPiece (hp.2 y hy)⟩
  refine Ev.rounds (r := true) ?_
  unfold laws_FnExactIsProgram.f
  refine Ev.bind (sz_Program n a s p 1048576 hb (by omega) (by omega)) ?_
  by_cases hn : ((nPg p : Nat) : Int) ≤ 1048576
  · have hs : szOf 1048576 (p.length + (p.map n168).sum) = 1048576 - ((nPg p : Nat) : Int) := by unfold szOf nPg; rw [if_pos (by exact hn)]
    rw [hs]
    have hq : nPg p ≤ 1048576 := by omega
    have hqi : nPgI (p.map cPiece) ≤ 1048576 := by rw [nPgI_c]; exact hq
    have hle := pcsLe hqi
    unfold nPg at hq
    unfold nPgI at hqi
    refine Ev.ite_neg (by omega) ?_
    refine Ev.bind (to_Program n a s p hq) ?_
    refine Ev.bind (progS hle) ?_
    refine Ev.bind (to_Program n a s p hq) ?_
    refine Ev.bind (progI hle) ?_
    refine Ev.ite_neg (by simp) ?_
    refine Ev.bind (to_Program n a s p hq) ?_
    refine Ev.bind (eq_Program n a s _ hqi) ?_
    exact Ev.ite_pos rfl (Ev.now _)
  · have hs : szOf 1048576 (p.length + (p.map n168).sum) = -1 := by unfold szOf; rw [if_neg (by exact hn)]
    rw [hs]
    exact Ev.ite_pos (by omega) (Ev.now _)
end Go.Proofs.Ytiihaabhjphaeaa.fnExactIsProgram
namespace Go.Proofs.Ytiihaabhjphaeaa
theorem fnExactIsProgram_holds : Rows.FnExactIsProgramSaid := fnExactIsProgram.row fnExactIsProgram.pure
end Go.Proofs.Ytiihaabhjphaeaa
