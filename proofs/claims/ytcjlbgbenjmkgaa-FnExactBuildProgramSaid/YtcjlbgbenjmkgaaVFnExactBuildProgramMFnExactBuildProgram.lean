/- FnExactBuildProgram: the program and the reference build the same programs, of memory of their own. Conditions: none. -/
import Derived.Test.YtcjlbgbenjmkgaaVFnExactBuildProgramWMore
import Derived.Test.YtcjlbgbenjmkgaaVFnExactBuildProgramOpen
import Derived.Lib.SlicesCompact
import Derived.Test.YtcjlbgbenjmkgaaVFnExactBuildProgramQFnExactBuildProgramx
import Derived.Test.YtcjlbgbenjmkgaaVFnExactBuildProgramRowFnExactBuildProgram
/- Small words on answers that come with enough rounds. Conditions: none. -/
namespace Go.Proofs.Ytcjlbgbenjmkgaa.Kit
open Go.RowKit Go.Proofs.YtcjlbgbenjmkgaaW.PrintWords Go.Proofs.YtcjlbgbenjmkgaaW.PrintLast Go.Proofs.YtcjlbgbenjmkgaaW.PrintMore Go.Proofs.Ytcjlbgbenjmkgaa.Open

theorem Ev.ite_pos {α : Type} {c : Prop} [Decidable c] {f g : Nat → Option α} {r : α} (h : c) (k : Ev f r) : Ev (fun n => if c then f n else g n) r := by simpa only [if_pos h] using k
theorem Ev.ite_neg {α : Type} {c : Prop} [Decidable c] {f g : Nat → Option α} {r : α} (h : ¬ c) (k : Ev g r) : Ev (fun n => if c then f n else g n) r := by simpa only [if_neg h] using k
theorem Ev.bind0 {α β : Type} {o : Option α} {f : Nat → α → Option β} {a : α} {r : β} (h : o = some a) (k : Ev (fun n => f n a) r) : Ev (fun n => o.bind (f n)) r := by subst h; exact k
theorem Ev.some {α : Type} {r r' : α} (h : r' = r) : Ev (fun _ => some r') r := by subst h; exact Ev.now _
theorem Ev.eq {α : Type} {o : Option α} {r : α} (h : o = Option.some r) : Ev (fun _ => o) r := ⟨0, fun _ _ => h⟩
theorem Ev.uniq {α : Type} {g : Nat → Option α} {r r' : α} (h : Ev g r) (h' : Ev g r') : r = r' := by
  obtain ⟨K, h⟩ := h
  obtain ⟨K', h'⟩ := h'
  exact Option.some.inj ((h (max K K') (Nat.le_max_left _ _)).symm.trans (h' (max K K') (Nat.le_max_right _ _)))
theorem w64 {x : Int} (h0 : -9223372036854775808 ≤ x) (h1 : x ≤ 9223372036854775807) : wrap64 x = x := by
  unfold wrap64
  omega
theorem w64s {i : Int} {n : Nat} (h0 : 0 ≤ i) (h1 : i < (n : Int)) (hn : n ≤ 140737488351232) : wrap64 (i + 1) = i + 1 := w64 (by omega) (by omega)
theorem mx_def (a b : Int) : mx a b = max a b := by unfold mx; omega
theorem mn_def (a b : Int) : mn a b = min a b := by unfold mn; omega
theorem Len.le {B : Nat} {α : Type} {l : List α} (h : Len B l) (hB : 0 < B) : l.length ≤ 140737488351232 := by
  unfold Len at h
  exact Nat.le_trans (Nat.le_mul_of_pos_right _ hB) h
/-! ### loops that count up -/
/-- A loop from 0 to n with one answer: at each i the answer behind one round is the answer, and at n it is there. p: what holds at i. -/
theorem Ev.upIf {ρ : Type} {n : Nat} (p : Nat → Prop) {g : Nat → Nat → Option ρ} {r : ρ} (hs : ∀ i, i < n → p i → (p (i + 1) → Ev (g (i + 1)) r) → Ev (g i) r) (he : p n → Ev (g n) r) (h0 : p 0) : Ev (g 0) r := by
  have key : ∀ d i, i + d = n → p i → Ev (g i) r := by
    intro d
    induction d with
    | zero => intro i hi hp; obtain rfl : i = n := by omega
              exact he hp
    | succ d ih => intro i hi hp; exact hs i (by omega) hp (fun hp' => ih (i + 1) (by omega) hp')
  exact key n 0 (by omega) h0
theorem Ev.up {ρ : Type} {n : Nat} {g : Nat → Nat → Option ρ} {r : ρ} (hs : ∀ i, i < n → Ev (g (i + 1)) r → Ev (g i) r) (he : Ev (g n) r) : Ev (g 0) r :=
  Ev.upIf (fun _ => True) (fun i hi _ h => hs i hi (h trivial)) (fun _ => he) trivial
theorem w64n {i : Nat} (h : i ≤ 140737488351232) : wrap64 ((i : Int) + 1) = ((i + 1 : Nat) : Int) := by
  rw [w64 (by omega) (by omega)]
  omega
theorem rd_nat (xs : List Int) (i : Nat) : rd xs (i : Int) = xs.getD i 0 := rfl
theorem getD_at {α : Type} {xs : List α} {i : Nat} (h : i < xs.length) (z : α) : xs.getD i z = xs[i] := by simp [List.getD, h]
theorem getD_mem {α : Type} {xs : List α} {i : Nat} (h : i < xs.length) (z : α) : xs.getD i z ∈ xs := by rw [getD_at h]; exact List.getElem_mem h
theorem take_succ_getD {α : Type} {xs : List α} {i : Nat} (h : i < xs.length) (z : α) : xs.take (i + 1) = xs.take i ++ [xs.getD i z] := by
  rw [List.take_succ_eq_append_getElem h, getD_at h]
theorem drop_getD {α : Type} {xs : List α} {i : Nat} (h : i < xs.length) (z : α) : xs.drop i = xs.getD i z :: xs.drop (i + 1) := by
  rw [List.drop_eq_getElem_cons h, getD_at h]
/-- A row of zeros that is filled from the left. -/
def fillTo {α β : Type} (c : α → β) (z : β) (xs : List α) (i : Nat) : List β := (xs.take i).map c ++ List.replicate (xs.length - i) z
theorem fillTo_zero {α β : Type} (c : α → β) (z : β) (xs : List α) : fillTo c z xs 0 = List.replicate xs.length z := by simp [fillTo]
theorem fillTo_all {α β : Type} (c : α → β) (z : β) (xs : List α) : fillTo c z xs xs.length = xs.map c := by simp [fillTo]
theorem fillTo_length {α β : Type} (c : α → β) (z : β) (xs : List α) {i : Nat} (h : i ≤ xs.length) : (fillTo c z xs i).length = xs.length := by
  simp [fillTo]
  omega
theorem fillTo_set {α β : Type} (c : α → β) (z : β) (xs : List α) {i : Nat} (h : i < xs.length) (a : α) : (fillTo c z xs i).set i (c (xs.getD i a)) = fillTo c z xs (i + 1) := by
  have hl : ((xs.take i).map c).length = i := by simp; omega
  unfold fillTo
  rw [List.set_append_right _ _ (by omega), hl, Nat.sub_self, take_succ_getD h a, List.map_append, show xs.length - i = (xs.length - (i + 1)) + 1 by omega, List.replicate_succ]
  simp
/-- What the elements from the first up to i weigh. -/
def sumTo {α : Type} (f : α → Nat) (xs : List α) (i : Nat) : Nat := ((xs.take i).map f).sum
theorem sumTo_succ {α : Type} (f : α → Nat) {xs : List α} {i : Nat} (h : i < xs.length) (z : α) : sumTo f xs (i + 1) = sumTo f xs i + f (xs.getD i z) := by
  unfold sumTo
  rw [take_succ_getD h z]
  simp
theorem sumTo_all {α : Type} (f : α → Nat) (xs : List α) : sumTo f xs xs.length = (xs.map f).sum := by simp [sumTo]
theorem sumTo_le {α : Type} (f : α → Nat) (xs : List α) (i : Nat) : sumTo f xs i ≤ (xs.map f).sum := by
  unfold sumTo
  have h := congrArg List.sum (List.take_append_drop i (xs.map f))
  rw [List.sum_append, ← List.map_take] at h
  omega
theorem le_sum {α : Type} (f : α → Nat) {xs : List α} {x : α} (h : x ∈ xs) : f x ≤ (xs.map f).sum := by
  induction xs with
  | nil => cases h
  | cons y ys ih =>
    simp only [List.map_cons, List.sum_cons]
    rcases List.mem_cons.1 h with rfl | h
    · omega
    · have := ih h
      omega
/-- 'left' behind a value of the size n: -1 where it doesn't suffice. -/
def szOf (left : Int) (n : Nat) : Int := if (n : Int) ≤ left then left - n else -1
/-- A fold over the first i elements. -/
def foldTo {α σ : Type} (f : σ → α → σ) (s : σ) (xs : List α) (i : Nat) : σ := (xs.take i).foldl f s
theorem foldTo_zero {α σ : Type} (f : σ → α → σ) (s : σ) (xs : List α) : foldTo f s xs 0 = s := by simp [foldTo]
theorem foldTo_succ {α σ : Type} (f : σ → α → σ) (s : σ) {xs : List α} {i : Nat} (h : i < xs.length) (z : α) : foldTo f s xs (i + 1) = f (foldTo f s xs i) (xs.getD i z) := by
  unfold foldTo
  rw [take_succ_getD h z, List.foldl_append]
  rfl
theorem foldTo_all {α σ : Type} (f : σ → α → σ) (s : σ) (xs : List α) : foldTo f s xs xs.length = xs.foldl f s := by simp [foldTo]
/-! ### lists told by their index -/
theorem map_range_set {β : Type} (n : Nat) (f : Nat → β) (u : Nat) (v : β) : ((List.range n).map f).set u v = (List.range n).map (fun j => if j = u then v else f j) := by
  apply List.ext_getElem
  · simp
  · intro i h1 h2
    rw [List.getElem_set]
    by_cases h : u = i
    · rw [if_pos h]
      simp [h]
    · rw [if_neg h]
      simp [Ne.symm h]
theorem map_range_getD {β : Type} {n : Nat} (f : Nat → β) {u : Nat} (h : u < n) (z : β) : ((List.range n).map f).getD u z = f u := by
  rw [getD_at (by simpa using h)]
  simp
theorem map_range_congr {β : Type} {n : Nat} {f g : Nat → β} (h : ∀ i, i < n → f i = g i) : (List.range n).map f = (List.range n).map g :=
  List.map_congr_left fun i hi => h i (List.mem_range.1 hi)
/-- A loop that counts down from t + n - 1 to t. -/
theorem Ev.down {ρ : Type} {n : Nat} {g : Nat → Nat → Option ρ} {r : ρ} (hs : ∀ m, m < n → Ev (g m) r → Ev (g (m + 1)) r) (he : Ev (g 0) r) : Ev (g n) r := by
  have key : ∀ m, m ≤ n → Ev (g m) r := by
    intro m
    induction m with
    | zero => intro _; exact he
    | succ m ih => intro hm; exact hs m (by omega) (ih (by omega))
  exact key n (Nat.le_refl _)
theorem set_mid {α : Type} (pre suf : List α) (x y : α) {i : Nat} (h : pre.length = i) : (pre ++ x :: suf).set i y = pre ++ y :: suf := by
  rw [List.set_append_right _ _ (by omega), h, Nat.sub_self]
  rfl
theorem getD_mid {α : Type} (pre suf : List α) (x z : α) {i : Nat} (h : pre.length = i) : (pre ++ x :: suf).getD i z = x := by
  subst h
  simp [List.getD]
end Go.Proofs.Ytcjlbgbenjmkgaa.Kit
/- A search in breadth from one node: what it comes to, and what holds of its answer. Conditions: none. -/
namespace Go.Proofs.Ytcjlbgbenjmkgaa.Bfs
open Go.RowKit Go.Proofs.YtcjlbgbenjmkgaaW.PrintWords Go.Proofs.Ytcjlbgbenjmkgaa.Kit
/-- The neighbors ys of a node whose distance is c - 1: those that have none yet get c and are put behind the queue. -/
def vis (n : Nat) (c : Int) : List Int → List Int → List Int → List Int × List Int
  | [], d, q => (d, q)
  | y :: ys, d, q => if 0 ≤ y ∧ y < n ∧ rd d y < 0 then vis n c ys (d.set y.toNat c) (q ++ [y]) else vis n c ys d q
def bfs (near : Int → List Int) (ex : Int → Bool) (n : Nat) : Nat → List Int → List Int → List Int
  | 0, d, _ => d
  | _ + 1, d, [] => d
  | f + 1, d, x :: q => if ex x = true then bfs near ex n f (vis n (rd d x + 1) (near x) d q).1 (vis n (rd d x + 1) (near x) d q).2 else bfs near ex n f d q
/-- How many have no distance. -/
def neg (d : List Int) : Nat := d.countP (fun x => decide (x < 0))
theorem neg_set : ∀ (d : List Int) (i : Nat) (c : Int), i < d.length → d.getD i 0 < 0 → 0 ≤ c → neg (d.set i c) + 1 = neg d
  | [], i, c, h, _, _ => by simp at h
  | x :: d, 0, c, _, h, hc => by
    have h' : x < 0 := by simpa using h
    have hc' : ¬ c < 0 := by omega
    simp [neg, h', hc']
  | x :: d, i + 1, c, h, hx, hc => by
    have := neg_set d i c (by simpa using h) (by simpa using hx) hc
    simp only [neg, List.set_cons_succ, List.countP_cons] at this ⊢
    omega
theorem neg_le (d : List Int) : neg d ≤ d.length := List.countP_le_length
theorem neg_lt {d : List Int} {x : Int} (hx : x ∈ d) (h : 0 ≤ x) : neg d < d.length := by
  have h1 := List.length_eq_countP_add_countP (fun x : Int => decide (x < 0)) (l := d)
  have h2 : 0 < List.countP (fun a : Int => !decide (a < 0)) d := List.countP_pos_iff.2 ⟨x, hx, by simp; omega⟩
  have h3 : List.countP (fun a : Int => decide ¬ decide (a < 0) = true) d = List.countP (fun a : Int => !decide (a < 0)) d := by
    refine List.countP_congr fun a _ => ?_
    simp
  unfold neg
  omega
theorem rd_set {d : List Int} {i j c : Int} (hi : 0 ≤ i) (hj : 0 ≤ j) (h : i < d.length) : rd (d.set i.toNat c) j = if i = j then c else rd d j := by
  unfold rd
  rw [List.getD_eq_getElem?_getD, List.getElem?_set, List.getD_eq_getElem?_getD]
  by_cases e : i = j
  · subst e
    rw [if_pos rfl, if_pos rfl, if_pos (by omega)]
    rfl
  · rw [if_neg (by omega), if_neg e]
theorem rd_mem {d : List Int} {x : Int} (h0 : 0 ≤ x) (h : x < d.length) : rd d x ∈ d := getD_mem (by omega) 0
theorem vis_spec {n : Nat} {c : Int} (hc : 0 ≤ c) : ∀ (ys d q : List Int), d.length = n → ∃ a, (vis n c ys d q).2 = q ++ a ∧ (vis n c ys d q).1.length = n ∧ neg (vis n c ys d q).1 + a.length = neg d ∧
      (∀ y ∈ a, y ∈ ys ∧ 0 ≤ y ∧ y < n ∧ rd (vis n c ys d q).1 y = c) ∧ (∀ v : Int, 0 ≤ v → v < n → rd (vis n c ys d q).1 v = rd d v ∨ rd d v < 0 ∧ rd (vis n c ys d q).1 v = c ∧ v ∈ a) ∧ ∀ y ∈ ys, 0 ≤ y → y < n → 0 ≤ rd (vis n c ys d q).1 y
  | [], d, q, hd => ⟨[], by simp [vis], hd, by simp [vis], by simp, fun v _ _ => .inl rfl, by simp⟩
  | y :: ys, d, q, hd => by
    by_cases h : 0 ≤ y ∧ y < n ∧ rd d y < 0
    · obtain ⟨a, h1, h2, h3, h4, h5, h6⟩ := vis_spec hc ys (d.set y.toNat c) (q ++ [y]) (by simpa using hd)
      have hs : ∀ v : Int, 0 ≤ v → rd (d.set y.toNat c) v = if y = v then c else rd d v := fun v hv => rd_set h.1 hv (by omega)
      have hy : rd (vis n c ys (d.set y.toNat c) (q ++ [y])).1 y = c := by
        rcases h5 y h.1 h.2.1 with e | ⟨e, _⟩
        · rw [e, hs y h.1, if_pos rfl]
        · rw [hs y h.1, if_pos rfl] at e
          omega
      refine ⟨y :: a, ?_, ?_, ?_, ?_, ?_, ?_⟩
      · simp only [vis, if_pos h]
        rw [h1]
        simp
      · simp only [vis, if_pos h]
        exact h2
      · simp only [vis, if_pos h]
        have := neg_set d y.toNat c (by omega) h.2.2 hc
        rw [List.length_cons]
        omega
      · simp only [vis, if_pos h]
        intro v hv
        rcases List.mem_cons.1 hv with rfl | hv
        · exact ⟨List.mem_cons_self, h.1, h.2.1, hy⟩
        · exact ⟨List.mem_cons_of_mem _ (h4 v hv).1, (h4 v hv).2⟩
      · simp only [vis, if_pos h]
        intro v h0 hn
        by_cases e : y = v
        · subst e
          exact .inr ⟨h.2.2, hy, List.mem_cons_self⟩
        · rcases h5 v h0 hn with g | ⟨g1, g2, g3⟩
          · rw [hs v h0, if_neg e] at g
            exact .inl g
          · rw [hs v h0, if_neg e] at g1
            exact .inr ⟨g1, g2, List.mem_cons_of_mem _ g3⟩
      · simp only [vis, if_pos h]
        intro v hv h0 hn
        rcases List.mem_cons.1 hv with rfl | hv
        · rw [hy]
          exact hc
        · exact h6 v hv h0 hn
    · obtain ⟨a, h1, h2, h3, h4, h5, h6⟩ := vis_spec hc ys d q hd
      simp only [vis, if_neg h]
      refine ⟨a, h1, h2, h3, fun v hv => ⟨List.mem_cons_of_mem _ (h4 v hv).1, (h4 v hv).2⟩, h5, ?_⟩
      intro v hv h0 hn
      rcases List.mem_cons.1 hv with rfl | hv
      · rcases h5 v h0 hn with g | ⟨_, g, _⟩
        · rw [g]
          omega
        · omega
      · exact h6 v hv h0 hn
/-- What holds while the search goes on: d the distances, q the queue. -/
structure Inv (near : Int → List Int) (ex : Int → Bool) (n : Nat) (dst : Int) (d q : List Int) : Prop where
  len : d.length = n
  din : 0 ≤ dst ∧ dst < n
  d0 : rd d dst = 0
  zero : ∀ x : Int, 0 ≤ x → x < n → rd d x = 0 → x = dst
  qin : ∀ x ∈ q, 0 ≤ x ∧ x < n ∧ 0 ≤ rd d x
  low : ∀ x : Int, 0 ≤ x → x < n → -1 ≤ rd d x
  pred : ∀ v : Int, 0 ≤ v → v < n → 0 < rd d v → ∃ u : Int, 0 ≤ u ∧ u < n ∧ ex u = true ∧ v ∈ near u ∧ rd d u = rd d v - 1
  done : ∀ u : Int, 0 ≤ u → u < n → 0 ≤ rd d u → u ∈ q ∨ (ex u = true → ∀ v ∈ near u, 0 ≤ v → v < n → 0 ≤ rd d v ∧ rd d v ≤ rd d u + 1)
  sorted : q.Pairwise (fun x y => rd d x ≤ rd d y)
  head : ∀ h q', q = h :: q' → ∀ v : Int, 0 ≤ v → v < n → rd d v ≤ rd d h + 1
  bound : ∀ v : Int, 0 ≤ v → v < n → rd d v + neg d < n
theorem Inv.skip {near : Int → List Int} {ex : Int → Bool} {n : Nat} {dst x : Int} {d q : List Int} (H : Inv near ex n dst d (x :: q)) (hx : ¬ ex x = true) : Inv near ex n dst d q := by
  have hs := List.pairwise_cons.1 H.sorted
  refine ⟨H.len, H.din, H.d0, H.zero, fun y hy => H.qin y (List.mem_cons_of_mem _ hy), H.low, H.pred, ?_, hs.2, ?_, H.bound⟩
  · intro u h0 hn hu
    rcases H.done u h0 hn hu with h | h
    · rcases List.mem_cons.1 h with rfl | h
      · exact .inr fun he => absurd he hx
      · exact .inl h
    · exact .inr h
  · intro h q' e v h0 hn
    have h1 := H.head x q rfl v h0 hn
    have h2 := hs.1 h (by rw [e]; exact List.mem_cons_self)
    omega
theorem Inv.step {near : Int → List Int} {ex : Int → Bool} {n : Nat} {dst x : Int} {d q : List Int} (H : Inv near ex n dst d (x :: q)) (hx : ex x = true) :
    Inv near ex n dst (vis n (rd d x + 1) (near x) d q).1 (vis n (rd d x + 1) (near x) d q).2 ∧ neg (vis n (rd d x + 1) (near x) d q).1 + (vis n (rd d x + 1) (near x) d q).2.length + 1 = neg d + (x :: q).length := by
  have hs := List.pairwise_cons.1 H.sorted
  have hxi := H.qin x List.mem_cons_self
  obtain ⟨a, h1, h2, h3, h4, h5, h6⟩ := vis_spec (n := n) (c := rd d x + 1) (by omega) (near x) d q H.len
  generalize (vis n (rd d x + 1) (near x) d q).1 = d' at *
  generalize (vis n (rd d x + 1) (near x) d q).2 = q' at *
  subst h1
  have keep : ∀ v : Int, 0 ≤ v → v < n → 0 ≤ rd d v → rd d' v = rd d v := fun v h0 hn hv => by
    rcases h5 v h0 hn with e | ⟨e, _⟩
    · exact e
    · omega
  have up : ∀ v : Int, 0 ≤ v → v < n → rd d' v ≤ rd d x + 1 := fun v h0 hn => by
    rcases h5 v h0 hn with e | ⟨_, e, _⟩
    · rw [e]
      exact H.head x q rfl v h0 hn
    · omega
  have hbx := H.bound x hxi.1 hxi.2.1
  refine ⟨⟨h2, H.din, ?_, ?_, ?_, ?_, ?_, ?_, ?_, ?_, ?_⟩, ?_⟩
  · rw [keep _ H.din.1 H.din.2 (by rw [H.d0]; omega), H.d0]
  · intro v h0 hn e
    rcases h5 v h0 hn with g | ⟨_, g, _⟩
    · exact H.zero v h0 hn (by omega)
    · omega
  · intro v hv
    rcases List.mem_append.1 hv with hv | hv
    · have := H.qin v (List.mem_cons_of_mem _ hv)
      rw [keep v this.1 this.2.1 this.2.2]
      exact this
    · have := h4 v hv
      exact ⟨this.2.1, this.2.2.1, by omega⟩
  · intro v h0 hn
    have := H.low v h0 hn
    rcases h5 v h0 hn with g | ⟨_, g, _⟩ <;> omega
  · intro v h0 hn hv
    rcases h5 v h0 hn with g | ⟨_, g, hm⟩
    · obtain ⟨u, hu0, hun, he, hm, hd⟩ := H.pred v h0 hn (by omega)
      exact ⟨u, hu0, hun, he, hm, by rw [keep u hu0 hun (by omega)]; omega⟩
    · exact ⟨x, hxi.1, hxi.2.1, hx, (h4 v hm).1, by rw [keep x hxi.1 hxi.2.1 hxi.2.2]; omega⟩
  · intro u h0 hn hu
    rcases h5 u h0 hn with g | ⟨_, g, hm⟩
    · rcases H.done u h0 hn (by omega) with h | h
      · rcases List.mem_cons.1 h with rfl | h
        · refine .inr fun _ v hv hv0 hvn => ⟨h6 v hv hv0 hvn, ?_⟩
          have := up v hv0 hvn
          omega
        · exact .inl (List.mem_append_left _ h)
      · refine .inr fun he v hv hv0 hvn => ?_
        have := h he v hv hv0 hvn
        rw [keep v hv0 hvn this.1]
        omega
    · exact .inl (List.mem_append_right _ hm)
  · refine List.pairwise_append.2 ⟨?_, ?_, ?_⟩
    · refine List.Pairwise.imp_of_mem ?_ hs.2
      intro u v hu hv huv
      have h1 := H.qin u (List.mem_cons_of_mem _ hu)
      have h2 := H.qin v (List.mem_cons_of_mem _ hv)
      rw [keep u h1.1 h1.2.1 h1.2.2, keep v h2.1 h2.2.1 h2.2.2]
      exact huv
    · refine List.Pairwise.imp_of_mem (R := fun _ _ => True) ?_ (List.pairwise_iff_getElem.2 fun _ _ _ _ _ => trivial)
      intro u v hu hv _
      rw [(h4 u hu).2.2.2, (h4 v hv).2.2.2]
      omega
    · intro u hu v hv
      rw [(h4 v hv).2.2.2]
      have h1 := H.qin u (List.mem_cons_of_mem _ hu)
      exact up u h1.1 h1.2.1
  · intro h q'' e v h0 hn
    have h1 := up v h0 hn
    have hm : h ∈ q ++ a := by rw [e]; exact List.mem_cons_self
    rcases List.mem_append.1 hm with hm | hm
    · have h2 := hs.1 h hm
      have h3 := H.qin h (List.mem_cons_of_mem _ hm)
      rw [keep h h3.1 h3.2.1 h3.2.2]
      omega
    · rw [(h4 h hm).2.2.2]
      omega
  · intro v h0 hn
    rcases h5 v h0 hn with g | ⟨_, g, hm⟩
    · have := H.bound v h0 hn
      omega
    · have : 0 < a.length := List.length_pos_of_mem hm
      omega
  · rw [List.length_append, List.length_cons]
    omega
theorem bfs_inv {near : Int → List Int} {ex : Int → Bool} {n : Nat} {dst : Int} : ∀ (f : Nat) (d q : List Int), Inv near ex n dst d q → neg d + q.length ≤ f → Inv near ex n dst (bfs near ex n f d q) []
  | 0, d, [], H, _ => H
  | 0, d, x :: q, H, h => by simp at h
  | f + 1, d, [], H, _ => H
  | f + 1, d, x :: q, H, h => by
    simp only [bfs]
    by_cases hx : ex x = true
    · rw [if_pos hx]
      have := H.step hx
      exact bfs_inv f _ _ this.1 (by omega)
    · rw [if_neg hx]
      rw [List.length_cons] at h
      exact bfs_inv f _ _ (H.skip hx) (by omega)
/-- The start: nobody has a distance but the node itself. -/
def start (n : Nat) (dst : Int) : List Int := (List.replicate n (-1)).set dst.toNat 0
theorem rd_start {n : Nat} {dst v : Int} (hd : 0 ≤ dst ∧ dst < n) (h0 : 0 ≤ v) (hn : v < n) : rd (start n dst) v = if dst = v then 0 else -1 := by
  unfold start
  rw [rd_set hd.1 h0 (by simpa using hd.2)]
  by_cases e : dst = v
  · rw [if_pos e, if_pos e]
  · rw [if_neg e, if_neg e]
    unfold rd
    rw [List.getD_eq_getElem?_getD, List.getElem?_replicate, if_pos (by omega)]
    rfl
theorem inv_start (near : Int → List Int) (ex : Int → Bool) {n : Nat} {dst : Int} (hd : 0 ≤ dst ∧ dst < n) : Inv near ex n dst (start n dst) [dst] := by
  have hr : ∀ v : Int, 0 ≤ v → v < n → rd (start n dst) v = if dst = v then 0 else -1 := fun v h0 hn => rd_start hd h0 hn
  have h00 : rd (start n dst) dst = 0 := by rw [hr dst hd.1 hd.2, if_pos rfl]
  have hlen : (start n dst).length = n := by simp [start]
  have hneg : neg (start n dst) < n := by
    have := neg_lt (rd_mem hd.1 (by rw [hlen]; exact hd.2)) (by rw [h00]; omega : 0 ≤ rd (start n dst) dst)
    omega
  refine ⟨hlen, hd, h00, ?_, ?_, ?_, ?_, ?_, ?_, ?_, ?_⟩
  · intro x h0 hn e
    rw [hr x h0 hn] at e
    split at e
    · omega
    · omega
  · intro x hx
    rw [List.mem_singleton] at hx
    subst hx
    exact ⟨hd.1, hd.2, by omega⟩
  · intro x h0 hn
    rw [hr x h0 hn]
    split <;> omega
  · intro v h0 hn hv
    rw [hr v h0 hn] at hv
    split at hv <;> omega
  · intro u h0 hn hu
    rw [hr u h0 hn] at hu
    split at hu
    · rename_i e
      exact .inl (List.mem_singleton.2 e.symm)
    · omega
  · exact List.pairwise_singleton _ _
  · intro h q' e v h0 hn
    injection e with e1 e2
    subst e1
    rw [h00, hr v h0 hn]
    split <;> omega
  · intro v h0 hn
    rw [hr v h0 hn]
    split <;> omega
theorem neg_start_le {n : Nat} {dst : Int} (hd : 0 ≤ dst ∧ dst < n) : neg (start n dst) + 1 ≤ n := by
  have := (inv_start (fun _ => []) (fun _ => true) hd).bound dst hd.1 hd.2
  rw [rd_start hd hd.1 hd.2, if_pos rfl] at this
  omega
/-- The distances of all nodes to dst. -/
def dist (near : Int → List Int) (ex : Int → Bool) (n : Nat) (dst : Int) : List Int := bfs near ex n n (start n dst) [dst]
theorem dist_inv (near : Int → List Int) (ex : Int → Bool) {n : Nat} {dst : Int} (hd : 0 ≤ dst ∧ dst < n) : Inv near ex n dst (dist near ex n dst) [] :=
  bfs_inv n _ _ (inv_start near ex hd) (neg_start_le hd)
end Go.Proofs.Ytcjlbgbenjmkgaa.Bfs
/- Rows of numbers in order, without doubles: there is one for each set. Conditions: none. -/
namespace Go.Proofs.Ytcjlbgbenjmkgaa.Nb
/-- In order and without doubles. -/
def Up (l : List Int) : Prop := l.Pairwise (fun x y => x < y)
theorem up_uniq : ∀ {a b : List Int}, Up a → Up b → (∀ x, x ∈ a ↔ x ∈ b) → a = b
  | [], [], _, _, _ => rfl
  | [], y :: b, _, _, h => by
    have := (h y).2 List.mem_cons_self
    cases this
  | x :: a, [], _, _, h => by
    have := (h x).1 List.mem_cons_self
    cases this
  | x :: a, y :: b, ha, hb, h => by
    have h1 := List.pairwise_cons.1 ha
    have h2 := List.pairwise_cons.1 hb
    have e : x = y := by
      rcases List.mem_cons.1 ((h x).1 List.mem_cons_self) with e | m1
      · exact e
      · rcases List.mem_cons.1 ((h y).2 List.mem_cons_self) with e | m2
        · exact e.symm
        · have := h2.1 x m1
          have := h1.1 y m2
          omega
    subst e
    rw [up_uniq h1.2 h2.2 fun z => ?_]
    constructor
    · intro hz
      rcases List.mem_cons.1 ((h z).1 (List.mem_cons_of_mem _ hz)) with e | m
      · have := h1.1 z hz
        omega
      · exact m
    · intro hz
      rcases List.mem_cons.1 ((h z).2 (List.mem_cons_of_mem _ hz)) with e | m
      · have := h2.1 z hz
        omega
      · exact m
theorem compact_up {zs : List Int} (hs : zs.Pairwise (fun x y => x ≤ y)) : Up (Go.Lib.compact zs) ∧ ∀ x, x ∈ Go.Lib.compact zs ↔ x ∈ zs := by
  have hg : ∀ i j, i < j → j < zs.length → zs.toArray[i]! ≤ zs.toArray[j]! := by
    intro i j hij hj
    have := List.pairwise_iff_getElem.1 hs i j (by omega) hj hij
    rw [getElem!_pos zs.toArray i (by simp; omega), getElem!_pos zs.toArray j (by simp; omega)]
    simpa using this
  have key : ∀ m, m ≤ zs.length → Up (Go.Lib.compactUpTo zs.toArray m) ∧ ∀ x, x ∈ Go.Lib.compactUpTo zs.toArray m ↔ ∃ j, j < m ∧ zs.toArray[j]! = x := by
    intro m
    induction m with
    | zero => exact fun _ => ⟨by simp [Up, Go.Lib.compactUpTo], fun x => by simp [Go.Lib.compactUpTo]⟩
    | succ m ih =>
      intro hm
      obtain ⟨h1, h2⟩ := ih (by omega)
      rw [Go.Lib.compactUpTo_succ]
      by_cases hk : Go.Lib.keeps zs.toArray m = true
      · rw [if_pos hk]
        refine ⟨List.pairwise_append.2 ⟨h1, List.pairwise_singleton _ _, ?_⟩, ?_⟩
        · intro x hx y hy
          rw [List.mem_singleton] at hy
          subst hy
          obtain ⟨j, hj, rfl⟩ := (h2 x).1 hx
          have h3 := hg j m hj (by omega)
          have h5 : zs.toArray[m]! ≠ zs.toArray[m - 1]! := by
            intro e
            rw [Go.Lib.keeps_neg (by omega) e] at hk
            cases hk
          have h4 : zs.toArray[j]! ≤ zs.toArray[m - 1]! := by
            by_cases e : j = m - 1
            · rw [e]
              omega
            · exact hg j (m - 1) (by omega) (by omega)
          have h6 := hg (m - 1) m (by omega) (by omega)
          omega
        · intro x
          rw [List.mem_append, h2, List.mem_singleton]
          constructor
          · rintro (⟨j, hj, e⟩ | e)
            · exact ⟨j, by omega, e⟩
            · exact ⟨m, by omega, e.symm⟩
          · rintro ⟨j, hj, e⟩
            by_cases hjm : j = m
            · subst hjm
              exact .inr e.symm
            · exact .inl ⟨j, by omega, e⟩
      · rw [if_neg hk, List.append_nil]
        refine ⟨h1, fun x => ?_⟩
        rw [h2]
        have hm0 : 0 < m := by
          refine Nat.pos_of_ne_zero fun e => ?_
          subst e
          exact hk (Go.Lib.keeps_lt_one _ 0 (by omega))
        have he : zs.toArray[m]! = zs.toArray[m - 1]! := by
          refine Classical.byContradiction fun h => ?_
          exact hk (Go.Lib.keeps_pos h)
        constructor
        · rintro ⟨j, hj, e⟩
          exact ⟨j, by omega, e⟩
        · rintro ⟨j, hj, e⟩
          by_cases hjm : j = m
          · subst hjm
            exact ⟨j - 1, by omega, by rw [← he, e]⟩
          · exact ⟨j, by omega, e⟩
  obtain ⟨h1, h2⟩ := key zs.length (Nat.le_refl _)
  refine ⟨h1, fun x => ?_⟩
  show x ∈ Go.Lib.compactUpTo zs.toArray zs.length ↔ _
  rw [h2]
  constructor
  · rintro ⟨j, hj, rfl⟩
    rw [getElem!_pos zs.toArray j (by simpa using hj)]
    simp
  · intro hx
    obtain ⟨j, hj, e⟩ := List.getElem_of_mem hx
    refine ⟨j, hj, ?_⟩
    rw [getElem!_pos zs.toArray j (by simpa using hj)]
    simpa using e
theorem sorted_up (zs : List Int) : Up (Go.Lib.compact (zs.mergeSort fun x y => decide (x ≤ y))) ∧ ∀ x, x ∈ Go.Lib.compact (zs.mergeSort fun x y => decide (x ≤ y)) ↔ x ∈ zs := by
  have h1 := List.pairwise_mergeSort (le := fun x y : Int => decide (x ≤ y)) (by intro a b c; simp; omega) (by intro a b; simp; omega) zs
  have h2 := compact_up (zs := zs.mergeSort fun x y => decide (x ≤ y)) (h1.imp (by intro a b h; simpa using h))
  refine ⟨h2.1, fun x => ?_⟩
  rw [h2.2, List.mem_mergeSort]
/-- A number put into its place. -/
theorem up_put {out : List Int} {n : Int} {k : Nat} (hu : Up out) (hlt : ∀ x ∈ out.take k, x < n) (hge : ∀ x ∈ out.drop k, n < x) : Up (out.take k ++ n :: out.drop k) ∧ ∀ x, x ∈ out.take k ++ n :: out.drop k ↔ x ∈ out ∨ x = n := by
  have h0 := List.take_append_drop k out
  have hu' : Up (out.take k ++ out.drop k) := by rw [h0]; exact hu
  have h3 := List.pairwise_append.1 hu'
  refine ⟨List.pairwise_append.2 ⟨h3.1, List.pairwise_cons.2 ⟨hge, h3.2.1⟩, ?_⟩, ?_⟩
  · intro x hx y hy
    rcases List.mem_cons.1 hy with rfl | hy
    · exact hlt x hx
    · exact h3.2.2 x hx y hy
  · intro x
    have : x ∈ out ↔ x ∈ out.take k ∨ x ∈ out.drop k := by rw [← List.mem_append, h0]
    rw [this, List.mem_append, List.mem_cons]
    constructor
    · rintro (h | h | h)
      · exact .inl (.inl h)
      · exact .inr h
      · exact .inl (.inr h)
    · rintro ((h | h) | h)
      · exact .inl h
      · exact .inr (.inr h)
      · exact .inr (.inl h)
end Go.Proofs.Ytcjlbgbenjmkgaa.Nb
/- What neighbors, distances, next nodes and paths come to. Conditions: none. -/
namespace Go.Proofs.Ytcjlbgbenjmkgaa.fnExactBuildProgram
open Go.RowKit Go.Proofs.YtcjlbgbenjmkgaaW.PrintWords Go.Proofs.YtcjlbgbenjmkgaaW.PrintLast Go.Proofs.YtcjlbgbenjmkgaaW.PrintMore Go.Proofs.Ytcjlbgbenjmkgaa.QFnExactBuildProgram Go.Proofs.Ytcjlbgbenjmkgaa.Open Go.Proofs.Ytcjlbgbenjmkgaa.Kit Go.Proofs.Ytcjlbgbenjmkgaa.Nb Go.Proofs.Ytcjlbgbenjmkgaa.Bfs
theorem ixP (a n : Int) : impl_isIndex.f a n = some (decide (0 ≤ a ∧ a < n)) := by
  unfold impl_isIndex.f
  by_cases h : a ≥ 0
  · rw [if_pos h]
    simp [h]
  · rw [if_neg h]
    simp
    omega
theorem inP (a b c : Int) : spec_l1In.f a b c = some (decide (b ≤ a ∧ a ≤ c)) := by
  unfold spec_l1In.f
  by_cases h : a ≥ b
  · rw [if_pos h]
    simp [h]
  · rw [if_neg h]
    simp
    omega
theorem rgP (a b c : Int) : impl_InRange.f a b c = some (decide (b ≤ a ∧ a ≤ c)) := by
  unfold impl_InRange.f
  by_cases h : b ≤ a
  · rw [if_pos h]
    simp [h]
  · rw [if_neg h]
    simp
    omega
theorem drop_cons {α : Type} {xs ys : List α} {y z : α} {i : Nat} (h : xs.drop i = y :: ys) : i < xs.length ∧ xs.getD i z = y ∧ xs.drop (i + 1) = ys := by
  have hi : i < xs.length := by
    refine Nat.lt_of_not_le fun hn => ?_
    rw [List.drop_of_length_le hn] at h
    cases h
  rw [drop_getD hi z] at h
  injection h with h1 h2
  exact ⟨hi, h1, h2⟩
/-! ### neighbors -/
/-- The neighbors of a node that a link tells. -/
def nbOf (v : Int) (x : S60) : List Int := (if x.f0 = v then [x.f1] else []) ++ (if x.f1 = v then [x.f0] else [])
def nbRaw (l : List S60) (v : Int) : List Int := l.flatMap (nbOf v)
/-- The neighbors of a node, in order. -/
def nb (l : List S60) (v : Int) : List Int := Go.Lib.compact ((nbRaw l v).mergeSort fun x y => decide (x ≤ y))
def Links (l : List S60) (v y : Int) : Prop := ∃ x ∈ l, x.f0 = v ∧ x.f1 = y ∨ x.f1 = v ∧ x.f0 = y
theorem mem_nbOf {v y : Int} {x : S60} : y ∈ nbOf v x ↔ x.f0 = v ∧ x.f1 = y ∨ x.f1 = v ∧ x.f0 = y := by
  unfold nbOf
  rw [List.mem_append]
  constructor
  · rintro (h | h)
    · split at h
      · rename_i c
        exact .inl ⟨c, (List.mem_singleton.1 h).symm⟩
      · cases h
    · split at h
      · rename_i c
        exact .inr ⟨c, (List.mem_singleton.1 h).symm⟩
      · cases h
  · rintro (⟨h1, h2⟩ | ⟨h1, h2⟩)
    · left
      rw [if_pos h1]
      exact List.mem_singleton.2 h2.symm
    · right
      rw [if_pos h1]
      exact List.mem_singleton.2 h2.symm
theorem mem_nb {l : List S60} {v y : Int} : y ∈ nb l v ↔ Links l v y := by
  rw [nb, (sorted_up (nbRaw l v)).2 y, nbRaw, List.mem_flatMap]
  constructor
  · rintro ⟨x, hx, h⟩
    exact ⟨x, hx, mem_nbOf.1 h⟩
  · rintro ⟨x, hx, h⟩
    exact ⟨x, hx, mem_nbOf.2 h⟩
theorem nb_up (l : List S60) (v : Int) : Up (nb l v) := (sorted_up (nbRaw l v)).1
theorem nb_sym {l : List S60} {v y : Int} : y ∈ nb l v ↔ v ∈ nb l y := by
  rw [mem_nb, mem_nb]
  constructor <;>
  · rintro ⟨x, hx, ⟨h1, h2⟩ | ⟨h1, h2⟩⟩
    · exact ⟨x, hx, .inr ⟨h2, h1⟩⟩
    · exact ⟨x, hx, .inl ⟨h2, h1⟩⟩
theorem nbOf_len (v : Int) (x : S60) : (nbOf v x).length ≤ 2 := by
  unfold nbOf
  split <;> split <;> simp
theorem nbRaw_len (l : List S60) (v : Int) : (nbRaw l v).length ≤ 2 * l.length := by
  unfold nbRaw
  induction l with
  | nil => simp
  | cons x l ih =>
    rw [List.flatMap_cons, List.length_append, List.length_cons]
    have := nbOf_len v x
    omega
theorem nb_len (l : List S60) (v : Int) : (nb l v).length ≤ 2 * l.length := by
  have h1 : (nb l v).length ≤ ((nbRaw l v).mergeSort fun x y => decide (x ≤ y)).length := by
    unfold nb Go.Lib.compact Go.Lib.compactUpTo
    rw [List.length_map]
    exact Nat.le_trans (List.length_filter_le _ _) (by simp)
  rw [List.length_mergeSort] at h1
  have := nbRaw_len l v
  omega
theorem nbI_l0 {l : List S60} (hl : l.length ≤ 1048576) (v : Int) : ∀ (d i : Nat), i + d = l.length → Ev (fun k => impl_NeighborsIn.l0 k v (nbRaw (l.take i) v) l (l.length : Int) (i : Int)) (nb l v) := by
  intro d
  induction d with
  | zero =>
    intro i hi
    have hr := nbRaw_len l v
    rw [List.take_of_length_le (by omega)]
    refine Ev.step (fun k => by rw [impl_NeighborsIn.l0]) ?_
    refine Ev.ite_neg (by omega) (Ev.bind0 (a := (nbRaw l v).mergeSort fun x y => decide (x ≤ y)) ?_ (Ev.bind0 (a := nb l v) ?_ (Ev.now _)))
    · unfold slices_Sort_int_int.f
      rw [if_pos (by omega)]
    · unfold slices_Compact_int_int.f
      rw [if_pos (by rw [List.length_mergeSort]; omega)]
      rfl
  | succ d ih =>
    intro i hi
    have hr := nbRaw_len (l.take i) v
    rw [List.length_take] at hr
    have h := ih (i + 1) (by omega)
    have he : nbRaw (l.take (i + 1)) v = nbRaw (l.take i) v ++ nbOf v (rd_T60 l (i : Int)) := by
      unfold nbRaw
      rw [take_succ_getD (show i < l.length by omega) z60, List.flatMap_append]
      simp
      rfl
    rw [he] at h
    refine Ev.step (fun k => by rw [impl_NeighborsIn.l0]) ?_
    refine Ev.ite_pos (by omega) (Ev.ite_pos (by omega) (Ev.ite_pos (by omega) ?_))
    rw [w64n (by omega)]
    by_cases c1 : (rd_T60 l (i : Int)).f0 = v
    · refine Ev.ite_pos c1 (Ev.ite_pos (by omega) (Ev.bind0 rfl ?_))
      by_cases c2 : (rd_T60 l (i : Int)).f1 = v
      · refine Ev.ite_pos c2 (Ev.ite_pos (by rw [List.length_append, List.length_singleton]; omega) ?_)
        unfold nbOf at h
        rw [if_pos c1, if_pos c2, ← List.append_assoc] at h
        exact h
      · refine Ev.ite_neg c2 ?_
        unfold nbOf at h
        rw [if_pos c1, if_neg c2, List.append_nil] at h
        exact h
    · refine Ev.ite_neg c1 ?_
      by_cases c2 : (rd_T60 l (i : Int)).f1 = v
      · refine Ev.ite_pos c2 (Ev.ite_pos (by omega) ?_)
        unfold nbOf at h
        rw [if_neg c1, if_pos c2, List.nil_append] at h
        exact h
      · refine Ev.ite_neg c2 ?_
        unfold nbOf at h
        rw [if_neg c1, if_neg c2, List.append_nil, List.append_nil] at h
        exact h
theorem nbI {l : List S60} (hl : l.length ≤ 1048576) (v : Int) : Ev (fun k => impl_NeighborsIn.f k l v) (nb l v) := nbI_l0 hl v l.length 0 (by omega)
/-- The row is that of the neighbors which the first i links tell. -/
def NbTo (l : List S60) (v : Int) (i : Nat) (out : List Int) : Prop := Up out ∧ out.length ≤ i ∧ ∀ y, y ∈ out ↔ Links (l.take i) v y
theorem nbS_l1 {l : List S60} {v n : Int} {i : Nat} {out r : List Int} (hl : l.length ≤ 1048576) (hi : i < l.length) (hu : Up out) (ho : out.length ≤ i)
    (hk : ∀ out', Up out' → out'.length ≤ i + 1 → (∀ x, x ∈ out' ↔ x ∈ out ∨ x = n) → Ev (fun k => spec_NeighborsIn.l0 k l v out' ((i + 1 : Nat) : Int)) r) :
    ∀ (d q : Nat), q + d = out.length → (∀ x ∈ out.take q, x < n) → Ev (fun k => spec_NeighborsIn.l1 k l v out (i : Int) n (q : Int)) r := by
  intro d
  induction d with
  | zero =>
    intro q hq hlt
    have hp := up_put (k := q) hu hlt (by rw [List.drop_of_length_le (by omega)]; simp)
    have hlen : (out.take q ++ n :: out.drop q).length = out.length + 1 := by
      rw [List.length_append, List.length_cons, List.length_take, List.length_drop]
      omega
    have h := hk _ hp.1 (by omega) hp.2
    refine Ev.step (fun k => by rw [spec_NeighborsIn.l1]) ?_
    refine Ev.ite_neg (by omega) (Ev.ite_pos (by omega) (Ev.bind0 rfl (Ev.ite_pos (by omega) (Ev.ite_pos (by omega) ?_))))
    rw [Int.toNat_natCast, w64n (by omega)]
    refine Ev.bind0 rfl (Ev.ite_pos ?_ (Ev.bind0 rfl (Ev.bind0 rfl (Ev.ite_pos ?_ (Ev.bind0 rfl (Ev.bind0 rfl (Ev.ite_pos ?_ ?_)))))))
    · simp only [List.length_nil, List.length_take]
      omega
    · simp only [List.length_append, List.length_nil, List.length_take, List.length_cons]
      omega
    · simp only [List.length_append, List.length_nil, List.length_take, List.length_cons, List.length_drop]
      omega
    · rw [List.nil_append, List.append_assoc]
      exact h
  | succ d ih =>
    intro q hq hlt
    have hql : q < out.length := by omega
    refine Ev.step (fun k => by rw [spec_NeighborsIn.l1]) ?_
    refine Ev.ite_pos (by omega) (Ev.ite_pos (by omega) ?_)
    rw [rd_nat]
    by_cases c : out.getD q 0 < n
    · refine Ev.ite_pos c ?_
      rw [w64n (by omega)]
      refine ih (q + 1) (by omega) ?_
      intro x hx
      rw [take_succ_getD hql 0, List.mem_append, List.mem_singleton] at hx
      rcases hx with hx | rfl
      · exact hlt x hx
      · exact c
    · refine Ev.ite_neg c (Ev.ite_neg (by omega) ?_)
      rw [w64n (by omega)]
      by_cases c2 : out.getD q 0 = n
      · refine Ev.ite_pos c2 (hk out hu (by omega) fun x => ⟨.inl, ?_⟩)
        rintro (h | rfl)
        · exact h
        · rw [← c2]
          exact getD_mem hql 0
      · have hge : ∀ x ∈ out.drop q, n < x := by
          intro x hx
          have h1 : Up (out.drop q) := List.Pairwise.sublist (List.drop_sublist q out) hu
          rw [drop_getD hql 0] at h1 hx
          rcases List.mem_cons.1 hx with rfl | hx
          · omega
          · have := (List.pairwise_cons.1 h1).1 x hx
            omega
        have hp := up_put (k := q) hu hlt hge
        have hlen : (out.take q ++ n :: out.drop q).length = out.length + 1 := by
          rw [List.length_append, List.length_cons, List.length_take, List.length_drop]
          omega
        have h := hk _ hp.1 (by omega) hp.2
        refine Ev.ite_neg c2 (Ev.bind0 rfl (Ev.ite_pos (by omega) ?_))
        rw [Int.toNat_natCast]
        refine Ev.bind0 rfl (Ev.ite_pos ?_ (Ev.bind0 rfl (Ev.bind0 rfl (Ev.ite_pos ?_ (Ev.bind0 rfl (Ev.bind0 rfl (Ev.ite_pos ?_ ?_)))))))
        · simp only [List.length_nil, List.length_take]
          omega
        · simp only [List.length_append, List.length_nil, List.length_take, List.length_cons]
          omega
        · simp only [List.length_append, List.length_nil, List.length_take, List.length_cons, List.length_drop]
          omega
        · rw [List.nil_append, List.append_assoc]
          exact h
theorem nbS_l0 {l : List S60} (hl : l.length ≤ 1048576) (v : Int) : ∀ (d i : Nat) (out : List Int), i + d = l.length → NbTo l v i out → Ev (fun k => spec_NeighborsIn.l0 k l v out (i : Int)) (nb l v) := by
  intro d
  induction d with
  | zero =>
    intro i out hi ho
    refine Ev.step (fun k => by rw [spec_NeighborsIn.l0]) ?_
    refine Ev.ite_neg (by omega) (Ev.some (up_uniq ho.1 (nb_up l v) fun x => ?_))
    rw [ho.2.2 x, mem_nb, List.take_of_length_le (by omega)]
  | succ d ih =>
    intro i out hi ho
    have hL : ∀ y, Links (l.take (i + 1)) v y ↔ Links (l.take i) v y ∨ ((rd_T60 l (i : Int)).f0 = v ∧ (rd_T60 l (i : Int)).f1 = y ∨ (rd_T60 l (i : Int)).f1 = v ∧ (rd_T60 l (i : Int)).f0 = y) := by
      intro y
      unfold Links
      rw [take_succ_getD (show i < l.length by omega) z60]
      constructor
      · rintro ⟨x, hx, h⟩
        rcases List.mem_append.1 hx with hx | hx
        · exact .inl ⟨x, hx, h⟩
        · rw [List.mem_singleton.1 hx] at h
          exact .inr h
      · rintro (⟨x, hx, h⟩ | h)
        · exact ⟨x, List.mem_append_left _ hx, h⟩
        · exact ⟨_, List.mem_append_right _ (List.mem_singleton.2 rfl), h⟩
    refine Ev.step (fun k => by rw [spec_NeighborsIn.l0]) ?_
    refine Ev.ite_pos (by omega) (Ev.ite_pos (by omega) ?_)
    by_cases c1 : (rd_T60 l (i : Int)).f0 = v
    · refine Ev.ite_pos c1 ?_
      refine Ev.step (fun k => by rw [spec_NeighborsIn.j1]) ?_
      refine nbS_l1 (i := i) hl (by omega) ho.1 ho.2.1 (fun out' hu hlen hm => ih (i + 1) out' (by omega) ⟨hu, hlen, fun y => ?_⟩) out.length 0 (by omega) (by simp)
      rw [hm, hL, ho.2.2 y]
      constructor
      · rintro (h | h)
        · exact .inl h
        · exact .inr (.inl ⟨c1, h.symm⟩)
      · rintro (h | ⟨_, h⟩ | ⟨h1, h2⟩)
        · exact .inl h
        · exact .inr h.symm
        · exact .inr (by omega)
    · refine Ev.ite_neg c1 ?_
      by_cases c2 : (rd_T60 l (i : Int)).f1 = v
      · refine Ev.ite_pos c2 ?_
        refine Ev.step (fun k => by rw [spec_NeighborsIn.j1]) ?_
        refine nbS_l1 (i := i) hl (by omega) ho.1 ho.2.1 (fun out' hu hlen hm => ih (i + 1) out' (by omega) ⟨hu, hlen, fun y => ?_⟩) out.length 0 (by omega) (by simp)
        rw [hm, hL, ho.2.2 y]
        constructor
        · rintro (h | h)
          · exact .inl h
          · exact .inr (.inr ⟨c2, h.symm⟩)
        · rintro (h | ⟨h, _⟩ | ⟨_, h⟩)
          · exact .inl h
          · exact absurd h c1
          · exact .inr h.symm
      · refine Ev.ite_neg c2 ?_
        rw [w64n (by omega)]
        refine ih (i + 1) out (by omega) ⟨ho.1, by have := ho.2.1; omega, fun y => ?_⟩
        rw [hL, ho.2.2 y]
        constructor
        · exact .inl
        · rintro (h | ⟨h, _⟩ | ⟨h, _⟩)
          · exact h
          · exact absurd h c1
          · exact absurd h c2
theorem nbS {l : List S60} (hl : l.length ≤ 1048576) (v : Int) : Ev (fun k => spec_NeighborsIn.f k l v) (nb l v) := by
  refine nbS_l0 hl v l.length 0 [] (by omega) ⟨List.Pairwise.nil, by simp, fun y => ?_⟩
  simp [Links]
/-! ### distances -/
def exB (first dst x : Int) : Bool := decide (x = dst ∨ x < first)
/-- The distances to dst. -/
def dists (l : List S60) (n first dst : Int) : List Int := if (1 ≤ n ∧ n ≤ 12) ∧ 0 ≤ dst ∧ dst < n then dist (nb l) (exB first dst) n.toNat dst else []
theorem dists_inv {l : List S60} {n first dst : Int} (h : (1 ≤ n ∧ n ≤ 12) ∧ 0 ≤ dst ∧ dst < n) : Inv (nb l) (exB first dst) n.toNat dst (dists l n first dst) [] := by
  unfold dists
  rw [if_pos h]
  exact dist_inv _ _ ⟨h.2.1, by omega⟩
theorem vis_len {n : Nat} {c : Int} (hc : 0 ≤ c) {ys d q : List Int} (hd : d.length = n) : (vis n c ys d q).1.length = n := by
  obtain ⟨_, _, h, _⟩ := vis_spec hc ys d q hd
  exact h
theorem distI_l2 {l : List S60} {n : Nat} {first dst x c : Int} {near r : List Int} (hn : n ≤ 12) (hx : 0 ≤ x ∧ x < n) (hc : 1 ≤ c ∧ c ≤ 100) (hnear : near.length ≤ 10000000) :
    ∀ (ys : List Int) (i : Nat) (d q : List Int), near.drop i = ys → i ≤ near.length → d.length = n → rd d x = c - 1 → q.length + neg d ≤ 100 →
      Ev (fun k => impl_DistancesTo.l1 k l (n : Int) first dst (vis n c ys d q).1 (vis n c ys d q).2) r → Ev (fun k => impl_DistancesTo.l2 k l (n : Int) first dst d (x :: q) x near (near.length : Int) (i : Int)) r
  | [], i, d, q, hy, hi, hd, hr, hq, h => by
    have hi' : near.length ≤ i := List.drop_eq_nil_iff.1 hy
    refine Ev.step (fun k => by rw [impl_DistancesTo.l2]) ?_
    refine Ev.ite_neg (by omega) (Ev.ite_pos ?_ h)
    rw [List.length_cons]
    omega
  | y :: ys, i, d, q, hy, hi, hd, hr, hq, h => by
    obtain ⟨hi', hg, hy'⟩ := drop_cons (z := 0) hy
    refine Ev.step (fun k => by rw [impl_DistancesTo.l2]) ?_
    refine Ev.ite_pos (by omega) (Ev.ite_pos (by omega) (Ev.ite_pos (by omega) ?_))
    rw [rd_nat, hg, w64n (by omega)]
    refine Ev.bind0 (ixP y n) ?_
    by_cases c1 : 0 ≤ y ∧ y < n
    · refine Ev.ite_pos (decide_eq_true c1) (Ev.ite_pos c1.1 (Ev.ite_pos (by omega) ?_))
      by_cases c2 : rd d y < 0
      · refine Ev.ite_pos c2 (Ev.ite_pos hx.1 (Ev.ite_pos (by omega) (Ev.ite_pos (by rw [List.length_cons]; omega) ?_)))
        have hng := neg_set d y.toNat c (by omega) c2 (by omega)
        rw [hr, show c - 1 + 1 = c by omega, w64 (by omega) (by omega)]
        have hxy : y ≠ x := by
          intro e
          subst e
          omega
        refine distI_l2 hn hx hc hnear ys (i + 1) (d.set y.toNat c) (q ++ [y]) hy' (by omega) (by rw [List.length_set]; exact hd) ?_ ?_ ?_
        · rw [rd_set c1.1 hx.1 (by omega), if_neg hxy, hr]
        · rw [List.length_append, List.length_singleton]
          omega
        · simp only [vis, if_pos (show 0 ≤ y ∧ y < n ∧ rd d y < 0 from ⟨c1.1, c1.2, c2⟩)] at h
          exact h
      · refine Ev.ite_neg c2 (distI_l2 hn hx hc hnear ys (i + 1) d q hy' (by omega) hd hr hq ?_)
        simp only [vis, if_neg (show ¬ (0 ≤ y ∧ y < n ∧ rd d y < 0) from fun h => c2 h.2.2)] at h
        exact h
    · refine Ev.ite_neg (by simpa using c1) (distI_l2 hn hx hc hnear ys (i + 1) d q hy' (by omega) hd hr hq ?_)
      simp only [vis, if_neg (show ¬ (0 ≤ y ∧ y < n ∧ rd d y < 0) from fun h => c1 ⟨h.1, h.2.1⟩)] at h
      exact h
theorem distI_l1 {l : List S60} (hl : l.length ≤ 1048576) {n : Nat} {first dst : Int} (hn : n ≤ 12) : ∀ (f : Nat) (d q : List Int), Inv (nb l) (exB first dst) n dst d q → neg d + q.length ≤ f → f ≤ 100 →
    Ev (fun k => impl_DistancesTo.l1 k l (n : Int) first dst d q) (bfs (nb l) (exB first dst) n f d q)
  | 0, d, [], _, _, _ => by
    refine Ev.step (fun k => by rw [impl_DistancesTo.l1]) ?_
    exact Ev.ite_neg (by simp) (Ev.now _)
  | 0, d, x :: q, _, h, _ => by simp at h
  | f + 1, d, [], _, _, _ => by
    refine Ev.step (fun k => by rw [impl_DistancesTo.l1]) ?_
    exact Ev.ite_neg (by simp) (Ev.now _)
  | f + 1, d, x :: q, H, hf, hf1 => by
    rw [List.length_cons] at hf
    have hrd : rd (x :: q) 0 = x := rfl
    refine Ev.step (fun k => by rw [impl_DistancesTo.l1]) ?_
    refine Ev.ite_pos (by rw [List.length_cons]; omega) (Ev.ite_pos (by rw [List.length_cons]; omega) ?_)
    rw [hrd]
    have hb := H.qin x List.mem_cons_self
    have hbd := H.bound x hb.1 hb.2.1
    have go : exB first dst x = true → Ev (fun k => impl_DistancesTo.j3 k l (n : Int) first dst d (x :: q) x false) (bfs (nb l) (exB first dst) n (f + 1) d (x :: q)) := by
      intro hx
      have hs := H.step hx
      refine Ev.step (fun k => by rw [impl_DistancesTo.j3]) ?_
      refine Ev.ite_neg (by simp) (Ev.bind (nbI hl x) ?_)
      have hnl := nb_len l x
      refine distI_l2 (i := 0) hn ⟨hb.1, hb.2.1⟩ (c := rd d x + 1) (by omega) (by omega) _ _ _ rfl (by omega) H.len (by omega) (by omega) ?_
      rw [List.drop_zero]
      simp only [bfs, if_pos hx]
      rw [List.length_cons] at hs
      exact distI_l1 hl hn f _ _ hs.1 (by omega) (by omega)
    by_cases c : x = dst
    · exact Ev.ite_pos c (go (by simp [exB, c]))
    · refine Ev.ite_neg c ?_
      by_cases c2 : x < first
      · rw [decide_eq_false (by omega : ¬ x ≥ first)]
        exact go (by simp [exB, c2])
      · have hx : ¬ exB first dst x = true := by simp [exB, c]; omega
        rw [decide_eq_true (by omega : x ≥ first)]
        refine Ev.step (fun k => by rw [impl_DistancesTo.j3]) ?_
        refine Ev.ite_pos rfl (Ev.ite_pos (by rw [List.length_cons]; omega) ?_)
        simp only [bfs, if_neg hx]
        exact distI_l1 hl hn f d q (H.skip hx) (by omega) (by omega)
theorem distI_l0 {l : List S60} (hl : l.length ≤ 1048576) {n : Nat} {first dst : Int} (hn : n ≤ 12) (hd : 0 ≤ dst ∧ dst < n) : ∀ (m i : Nat), i + m = n →
    Ev (fun k => impl_DistancesTo.l0 k l (n : Int) first dst (List.replicate i (-1)) (n : Int) (i : Int)) (dist (nb l) (exB first dst) n dst) := by
  intro m
  induction m with
  | zero =>
    intro i hi
    obtain rfl : i = n := by omega
    refine Ev.step (fun k => by rw [impl_DistancesTo.l0]) ?_
    refine Ev.ite_neg (by omega) (Ev.ite_pos hd.1 (Ev.ite_pos (by rw [List.length_replicate]; exact hd.2) ?_))
    exact distI_l1 hl hn i _ _ (inv_start _ _ hd) (neg_start_le hd) (by omega)
  | succ m ih =>
    intro i hi
    refine Ev.step (fun k => by rw [impl_DistancesTo.l0]) ?_
    refine Ev.ite_pos (by omega) (Ev.ite_pos (by rw [List.length_replicate]; omega) ?_)
    rw [w64n (by omega), show List.replicate i (-1 : Int) ++ [-1] = List.replicate (i + 1) (-1) from List.replicate_succ'.symm]
    exact ih (i + 1) (by omega)
theorem distI {l : List S60} (hl : l.length ≤ 1048576) (n first dst : Int) : Ev (fun k => impl_DistancesTo.f k l n first dst) (dists l n first dst) := by
  unfold impl_DistancesTo.f
  refine Ev.bind0 rfl (Ev.bind0 (a := decide (1 ≤ n ∧ n ≤ 12)) ?_ ?_)
  · unfold impl_isNumber.f
    rw [rgP]
    rfl
  · unfold dists
    by_cases c1 : 1 ≤ n ∧ n ≤ 12
    · refine Ev.ite_pos (decide_eq_true c1) (Ev.bind0 (ixP dst n) ?_)
      by_cases c2 : 0 ≤ dst ∧ dst < n
      · rw [decide_eq_true c2, if_pos ⟨c1, c2⟩]
        refine Ev.step (fun k => by rw [impl_DistancesTo.j0]) ?_
        refine Ev.ite_neg (by simp) ?_
        have h := distI_l0 hl (n := n.toNat) (first := first) (dst := dst) (by omega) (by omega) n.toNat 0 (by omega)
        rw [Int.toNat_of_nonneg (by omega)] at h
        exact h
      · rw [decide_eq_false c2, if_neg (fun h => c2 h.2)]
        refine Ev.step (fun k => by rw [impl_DistancesTo.j0]) ?_
        exact Ev.ite_pos rfl (Ev.now _)
    · refine Ev.ite_neg (by simpa using c1) ?_
      rw [if_neg (fun h => c1 h.1)]
      refine Ev.step (fun k => by rw [impl_DistancesTo.j0]) ?_
      exact Ev.ite_pos rfl (Ev.now _)
theorem distS_l2 {l : List S60} {n : Nat} {first dst x c : Int} {near r pre : List Int} (hn : n ≤ 12) (hx : 0 ≤ x ∧ x < n) (hc : 1 ≤ c ∧ c ≤ 100) (hnear : near.length ≤ 10000000) (hp : pre.length ≤ 1000) :
    ∀ (ys : List Int) (i : Nat) (d q : List Int), near.drop i = ys → i ≤ near.length → d.length = n → rd d x = c - 1 → q.length + neg d ≤ 100 →
      Ev (fun k => spec_DistancesTo.l1 k l (n : Int) first dst (vis n c ys d q).1 (pre ++ x :: (vis n c ys d q).2) ((pre.length + 1 : Nat) : Int)) r → Ev (fun k => spec_DistancesTo.l2 k l (n : Int) first dst d (pre ++ x :: q) (pre.length : Int) x near (i : Int)) r
  | [], i, d, q, hy, hi, hd, hr, hq, h => by
    have hi' : near.length ≤ i := List.drop_eq_nil_iff.1 hy
    refine Ev.step (fun k => by rw [spec_DistancesTo.l2]) ?_
    refine Ev.ite_neg (by omega) ?_
    rw [w64n (by omega)]
    exact h
  | y :: ys, i, d, q, hy, hi, hd, hr, hq, h => by
    obtain ⟨hi', hg, hy'⟩ := drop_cons (z := 0) hy
    refine Ev.step (fun k => by rw [spec_DistancesTo.l2]) ?_
    refine Ev.ite_pos (by omega) (Ev.ite_pos (by omega) ?_)
    rw [rd_nat, hg, w64n (by omega), w64 (x := (n : Int) - 1) (by omega) (by omega)]
    refine Ev.bind0 (inP y 0 ((n : Int) - 1)) ?_
    by_cases c1 : 0 ≤ y ∧ y ≤ (n : Int) - 1
    · refine Ev.ite_pos (decide_eq_true c1) (Ev.ite_pos c1.1 (Ev.ite_pos (by omega) ?_))
      by_cases c2 : rd d y < 0
      · refine Ev.ite_pos c2 (Ev.ite_pos hx.1 (Ev.ite_pos (by omega) (Ev.ite_pos (by rw [List.length_append, List.length_cons]; omega) ?_)))
        have hng := neg_set d y.toNat c (by omega) c2 (by omega)
        rw [hr, show c - 1 + 1 = c by omega, w64 (x := c) (by omega) (by omega)]
        have hxy : y ≠ x := by
          intro e
          subst e
          omega
        rw [List.append_assoc, List.cons_append]
        refine distS_l2 hn hx hc hnear hp ys (i + 1) (d.set y.toNat c) (q ++ [y]) hy' (by omega) (by rw [List.length_set]; exact hd) ?_ ?_ ?_
        · rw [rd_set c1.1 hx.1 (by omega), if_neg hxy, hr]
        · rw [List.length_append, List.length_singleton]
          omega
        · simp only [vis, if_pos (show 0 ≤ y ∧ y < n ∧ rd d y < 0 from ⟨c1.1, by omega, c2⟩)] at h
          exact h
      · refine Ev.ite_neg c2 (distS_l2 hn hx hc hnear hp ys (i + 1) d q hy' (by omega) hd hr hq ?_)
        simp only [vis, if_neg (show ¬ (0 ≤ y ∧ y < n ∧ rd d y < 0) from fun h => c2 h.2.2)] at h
        exact h
    · refine Ev.ite_neg (by simpa using c1) (distS_l2 hn hx hc hnear hp ys (i + 1) d q hy' (by omega) hd hr hq ?_)
      simp only [vis, if_neg (show ¬ (0 ≤ y ∧ y < n ∧ rd d y < 0) from fun h => c1 ⟨h.1, by have := h.2.1; omega⟩)] at h
      exact h
theorem rd_pre (pre q : List Int) (x : Int) : rd (pre ++ x :: q) (pre.length : Int) = x := by
  rw [rd_nat]
  exact getD_mid pre q x 0 rfl
theorem distS_l1 {l : List S60} (hl : l.length ≤ 1048576) {n : Nat} {first dst : Int} (hn : n ≤ 12) : ∀ (f : Nat) (d q pre : List Int), Inv (nb l) (exB first dst) n dst d q → neg d + q.length ≤ f → f + pre.length ≤ 100 →
    Ev (fun k => spec_DistancesTo.l1 k l (n : Int) first dst d (pre ++ q) (pre.length : Int)) (bfs (nb l) (exB first dst) n f d q)
  | 0, d, [], pre, _, _, _ => by
    refine Ev.step (fun k => by rw [spec_DistancesTo.l1]) ?_
    exact Ev.ite_neg (by simp) (Ev.now _)
  | 0, d, x :: q, pre, _, h, _ => by simp at h
  | f + 1, d, [], pre, _, _, _ => by
    refine Ev.step (fun k => by rw [spec_DistancesTo.l1]) ?_
    exact Ev.ite_neg (by simp) (Ev.now _)
  | f + 1, d, x :: q, pre, H, hf, hf1 => by
    rw [List.length_cons] at hf
    refine Ev.step (fun k => by rw [spec_DistancesTo.l1]) ?_
    refine Ev.ite_pos (by rw [List.length_append, List.length_cons]; omega) (Ev.ite_pos (by omega) ?_)
    rw [rd_pre]
    have hb := H.qin x List.mem_cons_self
    have hbd := H.bound x hb.1 hb.2.1
    have next : ∀ d' q', Inv (nb l) (exB first dst) n dst d' q' → neg d' + q'.length ≤ f → Ev (fun k => spec_DistancesTo.l1 k l (n : Int) first dst d' (pre ++ x :: q') ((pre.length + 1 : Nat) : Int)) (bfs (nb l) (exB first dst) n f d' q') := by
      intro d' q' H' hf'
      have h := distS_l1 hl hn f d' q' (pre ++ [x]) H' hf' (by rw [List.length_append, List.length_singleton]; omega)
      rw [List.length_append, List.length_singleton, List.append_assoc] at h
      exact h
    have go : exB first dst x = true → Ev (fun k => spec_DistancesTo.j2 k l (n : Int) first dst d (pre ++ x :: q) (pre.length : Int) x false) (bfs (nb l) (exB first dst) n (f + 1) d (x :: q)) := by
      intro hx
      have hs := H.step hx
      refine Ev.step (fun k => by rw [spec_DistancesTo.j2]) ?_
      refine Ev.ite_neg (by simp) (Ev.bind (nbS hl x) ?_)
      have hnl := nb_len l x
      refine distS_l2 (i := 0) hn ⟨hb.1, hb.2.1⟩ (c := rd d x + 1) (by omega) (by omega) (by omega) _ _ _ rfl (by omega) H.len (by omega) (by omega) ?_
      rw [List.drop_zero]
      simp only [bfs, if_pos hx]
      rw [List.length_cons] at hs
      exact next _ _ hs.1 (by omega)
    by_cases c : x = dst
    · exact Ev.ite_pos c (go (by simp [exB, c]))
    · refine Ev.ite_neg c ?_
      by_cases c2 : x < first
      · rw [decide_eq_false (by omega : ¬ x ≥ first)]
        exact go (by simp [exB, c2])
      · have hx : ¬ exB first dst x = true := by simp [exB, c]; omega
        rw [decide_eq_true (by omega : x ≥ first)]
        refine Ev.step (fun k => by rw [spec_DistancesTo.j2]) ?_
        refine Ev.ite_pos rfl ?_
        rw [w64n (by omega)]
        simp only [bfs, if_neg hx]
        exact next d q (H.skip hx) (by omega)
theorem distS_l0 {l : List S60} (hl : l.length ≤ 1048576) {n : Nat} {first dst : Int} (hn : n ≤ 12) (hd : 0 ≤ dst ∧ dst < n) : ∀ (m i : Nat), i + m = n →
    Ev (fun k => spec_DistancesTo.l0 k l (n : Int) first dst (List.replicate i (-1)) (i : Int)) (dist (nb l) (exB first dst) n dst) := by
  intro m
  induction m with
  | zero =>
    intro i hi
    obtain rfl : i = n := by omega
    refine Ev.step (fun k => by rw [spec_DistancesTo.l0]) ?_
    refine Ev.ite_neg (by omega) (Ev.ite_pos hd.1 (Ev.ite_pos (by rw [List.length_replicate]; exact hd.2) ?_))
    exact distS_l1 hl hn i _ _ [] (inv_start _ _ hd) (neg_start_le hd) (by simp; omega)
  | succ m ih =>
    intro i hi
    refine Ev.step (fun k => by rw [spec_DistancesTo.l0]) ?_
    refine Ev.ite_pos (by omega) (Ev.ite_pos (by rw [List.length_replicate]; omega) ?_)
    rw [w64n (by omega), show List.replicate i (-1 : Int) ++ [-1] = List.replicate (i + 1) (-1) from List.replicate_succ'.symm]
    exact ih (i + 1) (by omega)
theorem okP (n dst : Int) : spec_l14Ok.f n dst = some (decide ((1 ≤ n ∧ n ≤ 12) ∧ 0 ≤ dst ∧ dst < n)) := by
  unfold spec_l14Ok.f
  rw [inP, Option.bind_some]
  by_cases c : 1 ≤ n ∧ n ≤ 12
  · rw [if_pos (decide_eq_true c), inP, Option.bind_some, w64 (by omega) (by omega)]
    congr 1
    rw [decide_eq_decide]
    omega
  · rw [if_neg (by simpa using c)]
    congr 1
    rw [eq_comm, decide_eq_false_iff_not]
    exact fun h => c h.1
theorem distS {l : List S60} (hl : l.length ≤ 1048576) (n first dst : Int) : Ev (fun k => spec_DistancesTo.f k l n first dst) (dists l n first dst) := by
  unfold spec_DistancesTo.f
  refine Ev.bind0 (okP n dst) ?_
  unfold dists
  by_cases c : (1 ≤ n ∧ n ≤ 12) ∧ 0 ≤ dst ∧ dst < n
  · refine Ev.ite_pos (decide_eq_true c) ?_
    rw [if_pos c]
    have h := distS_l0 hl (n := n.toNat) (first := first) (dst := dst) (by omega) (by omega) n.toNat 0 (by omega)
    rw [Int.toNat_of_nonneg (by omega)] at h
    exact h
  · refine Ev.ite_neg (by rw [decide_eq_true_iff]; exact c) ?_
    rw [if_neg c]
    exact Ev.now _
/-! ### next nodes -/
/-- A neighbor that is a way on from a node with the distance dx. -/
def nxB (n first dst : Int) (d : List Int) (dx y : Int) : Bool := decide (dx > 0 ∧ (0 ≤ y ∧ y < n) ∧ (y < first ∨ y = dst) ∧ rd d y = dx - 1)
def nxt (l : List S60) (n first dst : Int) (d : List Int) (x : Nat) : Int := ((nb l (x : Int)).find? (nxB n first dst d (rd d (x : Int)))).getD (-1)
def nextRow (l : List S60) (n first dst : Int) (d : List Int) : List Int := (List.range d.length).map (nxt l n first dst d)
def nextsTo (l : List S60) (n first dst : Int) : List Int := nextRow l n first dst (dists l n first dst)
/-- Distances that fit a table of n nodes. -/
def Fit (n : Int) (d : List Int) : Prop := (d = [] ∨ d.length = n.toNat ∧ 0 ≤ n ∧ n ≤ 12) ∧ ∀ y : Int, 0 ≤ y → y < d.length → -1 ≤ rd d y ∧ rd d y < 100
theorem dists_fit (l : List S60) (n first dst : Int) : Fit n (dists l n first dst) := by
  by_cases c : (1 ≤ n ∧ n ≤ 12) ∧ 0 ≤ dst ∧ dst < n
  · have H := dists_inv (l := l) (first := first) c
    refine ⟨.inr ⟨H.len, by omega, by omega⟩, fun y h0 h1 => ?_⟩
    have hl := H.len
    have := H.low y h0 (by omega)
    have := H.bound y h0 (by omega)
    omega
  · have e : dists l n first dst = [] := by
      unfold dists
      rw [if_neg c]
    rw [e]
    refine ⟨.inl rfl, fun y h0 h1 => ?_⟩
    rw [List.length_nil] at h1
    omega
theorem find_step {α : Type} (p : α → Bool) (y : α) (ys : List α) (h : p y = false) : (y :: ys).find? p = ys.find? p := by rw [List.find?_cons, h]
theorem nextI_l1 {l : List S60} {n first dst : Int} {d out near r : List Int} {x : Nat} (hd : d.length = n.toNat ∧ 0 ≤ n ∧ n ≤ 12) (hf : Fit n d) (hx : x < d.length) (hnear : near.length ≤ 10000000) (hout : out.length ≤ 100)
    (hk : ∀ v : Int, v = (near.find? (nxB n first dst d (rd d (x : Int)))).getD (-1) → Ev (fun k => impl_NextTo.l0 k l n first dst (out ++ [v]) d d (d.length : Int) ((x + 1 : Nat) : Int)) r) :
    ∀ (ys : List Int) (i : Nat) (cur : Int), near.drop i = ys → i ≤ near.length → (cur = -1 ∧ (ys.find? (nxB n first dst d (rd d (x : Int)))).getD (-1) = (near.find? (nxB n first dst d (rd d (x : Int)))).getD (-1) ∨ 0 ≤ cur ∧ cur = (near.find? (nxB n first dst d (rd d (x : Int)))).getD (-1)) →
      Ev (fun k => impl_NextTo.l1 k l n first dst out d (rd d (x : Int)) cur d (d.length : Int) (x : Int) near (near.length : Int) (i : Int)) r
  | [], i, cur, hy, hi, hc => by
    have hi' : near.length ≤ i := List.drop_eq_nil_iff.1 hy
    have hd2 := hf.2 (x : Int) (by omega) (by omega)
    refine Ev.step (fun k => by rw [impl_NextTo.l1]) ?_
    refine Ev.ite_neg (by omega) (Ev.ite_pos (by omega) ?_)
    rw [w64n (by omega)]
    refine hk cur ?_
    rcases hc with ⟨e, h⟩ | ⟨_, h⟩
    · rw [← h, e]
      rfl
    · exact h
  | y :: ys, i, cur, hy, hi, hc => by
    obtain ⟨hi', hg, hy'⟩ := drop_cons (z := 0) hy
    have hd2 := hf.2 (x : Int) (by omega) (by omega)
    refine Ev.step (fun k => by rw [impl_NextTo.l1]) ?_
    refine Ev.ite_pos (by omega) (Ev.ite_pos (by omega) (Ev.ite_pos (by omega) ?_))
    rw [rd_nat near, hg, w64n (by omega), w64 (x := rd d (x : Int) - 1) (by omega) (by omega)]
    rcases hc with ⟨e, h⟩ | ⟨h0, h⟩
    · subst e
      have skip : nxB n first dst d (rd d (x : Int)) y = false → Ev (fun k => impl_NextTo.l1 k l n first dst out d (rd d (x : Int)) (-1) d (d.length : Int) (x : Int) near (near.length : Int) ((i + 1 : Nat) : Int)) r := fun hb =>
        nextI_l1 hd hf hx hnear hout hk ys (i + 1) (-1) hy' (by omega) (.inl ⟨rfl, by rw [← h, find_step _ _ _ hb]⟩)
      have hit : nxB n first dst d (rd d (x : Int)) y = true → Ev (fun k => impl_NextTo.l1 k l n first dst out d (rd d (x : Int)) y d (d.length : Int) (x : Int) near (near.length : Int) ((i + 1 : Nat) : Int)) r := fun hb =>
        nextI_l1 hd hf hx hnear hout hk ys (i + 1) y hy' (by omega) (.inr ⟨by simp [nxB] at hb; omega, by rw [← h, List.find?_cons, hb]; rfl⟩)
      refine Ev.ite_pos (by omega) ?_
      by_cases c0 : rd d (x : Int) > 0
      · refine Ev.ite_pos c0 (Ev.bind0 (ixP y n) ?_)
        by_cases c1 : 0 ≤ y ∧ y < n
        · refine Ev.ite_pos (decide_eq_true c1) ?_
          have fin : (y < first ∨ y = dst) → Ev (fun k => if 0 ≤ y then (if y < (d.length : Int) then (if rd d y = rd d (x : Int) - 1 then impl_NextTo.l1 k l n first dst out d (rd d (x : Int)) y d (d.length : Int) (x : Int) near (near.length : Int) ((i + 1 : Nat) : Int) else impl_NextTo.l1 k l n first dst out d (rd d (x : Int)) (-1) d (d.length : Int) (x : Int) near (near.length : Int) ((i + 1 : Nat) : Int)) else none) else none) r := by
            intro hfd
            refine Ev.ite_pos c1.1 (Ev.ite_pos (by omega) ?_)
            by_cases c3 : rd d y = rd d (x : Int) - 1
            · exact Ev.ite_pos c3 (hit (by simp [nxB]; omega))
            · exact Ev.ite_neg c3 (skip (by simp [nxB]; omega))
          by_cases c2 : y < first
          · exact Ev.ite_pos c2 (fin (.inl c2))
          · refine Ev.ite_neg c2 ?_
            by_cases c4 : y = dst
            · exact Ev.ite_pos c4 (fin (.inr c4))
            · exact Ev.ite_neg c4 (skip (by simp [nxB]; omega))
        · exact Ev.ite_neg (by simpa using c1) (skip (by simp [nxB]; omega))
      · exact Ev.ite_neg c0 (skip (by simp [nxB]; omega))
    · exact Ev.ite_neg (by omega) (nextI_l1 hd hf hx hnear hout hk ys (i + 1) cur hy' (by omega) (.inr ⟨h0, h⟩))
theorem nextI_l0 {l : List S60} (hl : l.length ≤ 1048576) {n first dst : Int} {d : List Int} (hf : Fit n d) : ∀ (m x : Nat), x + m = d.length →
    Ev (fun k => impl_NextTo.l0 k l n first dst ((List.range x).map (nxt l n first dst d)) d d (d.length : Int) (x : Int)) (nextRow l n first dst d) := by
  intro m
  induction m with
  | zero =>
    intro x hx
    obtain rfl : x = d.length := by omega
    refine Ev.step (fun k => by rw [impl_NextTo.l0]) ?_
    exact Ev.ite_neg (by omega) (Ev.now _)
  | succ m ih =>
    intro x hx
    have hd : d.length = n.toNat ∧ 0 ≤ n ∧ n ≤ 12 := by
      rcases hf.1 with rfl | h
      · rw [List.length_nil] at hx
        omega
      · exact h
    have hnl := nb_len l (x : Int)
    refine Ev.step (fun k => by rw [impl_NextTo.l0]) ?_
    refine Ev.ite_pos (by omega) (Ev.ite_pos (by omega) (Ev.ite_pos (by omega) (Ev.bind (nbI hl (x : Int)) ?_)))
    refine nextI_l1 hd hf (by omega) (by omega) (by simp; omega) (fun v hv => ?_) _ 0 (-1) rfl (by omega) (.inl ⟨rfl, rfl⟩)
    have h := ih (x + 1) (by omega)
    rw [List.range_succ, List.map_append] at h
    rw [hv]
    exact h
theorem nextI {l : List S60} (hl : l.length ≤ 1048576) (n first dst : Int) : Ev (fun k => impl_NextTo.f k l n first dst) (nextsTo l n first dst) := by
  unfold impl_NextTo.f
  exact Ev.bind (distI hl n first dst) (nextI_l0 hl (dists_fit l n first dst) (dists l n first dst).length 0 (by omega))
theorem nextS_l1 {l : List S60} {n first dst : Int} {d out near r : List Int} {x : Nat} (hd : d.length = n.toNat ∧ 0 ≤ n ∧ n ≤ 12) (hf : Fit n d) (hx : x < d.length) (hnear : near.length ≤ 10000000) (hout : out.length ≤ 100)
    (hk : ∀ v : Int, v = (near.find? (nxB n first dst d (rd d (x : Int)))).getD (-1) → Ev (fun k => spec_NextTo.l0 k l n first dst (out ++ [v]) d ((x + 1 : Nat) : Int)) r) :
    ∀ (ys : List Int) (i : Nat) (cur : Int), near.drop i = ys → i ≤ near.length → (cur = -1 ∧ (ys.find? (nxB n first dst d (rd d (x : Int)))).getD (-1) = (near.find? (nxB n first dst d (rd d (x : Int)))).getD (-1) ∨ 0 ≤ cur ∧ cur = (near.find? (nxB n first dst d (rd d (x : Int)))).getD (-1)) →
      Ev (fun k => spec_NextTo.l1 k l n first dst out d (x : Int) cur near (i : Int)) r := by
  have fin : ∀ (i : Nat) (v : Int), v = (near.find? (nxB n first dst d (rd d (x : Int)))).getD (-1) → Ev (fun k => spec_NextTo.j2 k l n first dst out d (x : Int) v near (i : Int) false) r := by
    intro i v hv
    refine Ev.step (fun k => by rw [spec_NextTo.j2]) ?_
    refine Ev.ite_neg (by simp) (Ev.ite_pos (by omega) ?_)
    rw [w64n (by omega)]
    exact hk v hv
  intro ys
  induction ys with
  | nil =>
    intro i cur hy hi hc
    have hi' : near.length ≤ i := List.drop_eq_nil_iff.1 hy
    refine Ev.step (fun k => by rw [spec_NextTo.l1]) ?_
    refine Ev.ite_neg (by omega) (fin i cur ?_)
    rcases hc with ⟨e, h⟩ | ⟨_, h⟩
    · rw [← h, e]
      rfl
    · exact h
  | cons y ys ih =>
    intro i cur hy hi hc
    obtain ⟨hi', hg, hy'⟩ := drop_cons (z := 0) hy
    have hd2 := hf.2 (x : Int) (by omega) (by omega)
    refine Ev.step (fun k => by rw [spec_NextTo.l1]) ?_
    refine Ev.ite_pos (by omega) (Ev.ite_pos (by omega) (Ev.ite_pos (by omega) ?_))
    by_cases c0 : rd d (x : Int) > 0
    · refine Ev.ite_pos c0 ?_
      rcases hc with ⟨e, h⟩ | ⟨h0, h⟩
      · subst e
        have skip : nxB n first dst d (rd d (x : Int)) y = false → Ev (fun k => spec_NextTo.l1 k l n first dst out d (x : Int) (-1) near ((i + 1 : Nat) : Int)) r := fun hb =>
          ih (i + 1) (-1) hy' (by omega) (.inl ⟨rfl, by rw [← h, find_step _ _ _ hb]⟩)
        have hit : nxB n first dst d (rd d (x : Int)) y = true → Ev (fun k => spec_NextTo.l1 k l n first dst out d (x : Int) y near ((i + 1 : Nat) : Int)) r := fun hb =>
          ih (i + 1) y hy' (by omega) (.inr ⟨by simp [nxB] at hb; omega, by rw [← h, List.find?_cons, hb]; rfl⟩)
        rw [decide_eq_true (by omega : (-1 : Int) < 0)]
        refine Ev.step (fun k => by rw [spec_NextTo.j2]) ?_
        refine Ev.ite_pos rfl (Ev.ite_pos (by omega) (Ev.ite_pos (by omega) ?_))
        rw [rd_nat near, hg, w64n (by omega), w64 (x := rd d (x : Int) - 1) (by omega) (by omega), w64 (x := n - 1) (by omega) (by omega)]
        refine Ev.bind0 (inP y 0 (n - 1)) ?_
        by_cases c1 : 0 ≤ y ∧ y ≤ n - 1
        · refine Ev.ite_pos (decide_eq_true c1) ?_
          have fin2 : (y < first ∨ y = dst) → Ev (fun k => if 0 ≤ y then (if y < (d.length : Int) then (if 0 ≤ (x : Int) then (if (x : Int) < (d.length : Int) then (if rd d y = rd d (x : Int) - 1 then spec_NextTo.l1 k l n first dst out d (x : Int) y near ((i + 1 : Nat) : Int) else spec_NextTo.l1 k l n first dst out d (x : Int) (-1) near ((i + 1 : Nat) : Int)) else none) else none) else none) else none) r := by
            intro hfd
            refine Ev.ite_pos c1.1 (Ev.ite_pos (by omega) (Ev.ite_pos (by omega) (Ev.ite_pos (by omega) ?_)))
            by_cases c3 : rd d y = rd d (x : Int) - 1
            · exact Ev.ite_pos c3 (hit (by simp [nxB]; omega))
            · exact Ev.ite_neg c3 (skip (by simp [nxB]; omega))
          by_cases c2 : y < first
          · exact Ev.ite_pos c2 (fin2 (.inl c2))
          · refine Ev.ite_neg c2 ?_
            by_cases c4 : y = dst
            · exact Ev.ite_pos c4 (fin2 (.inr c4))
            · exact Ev.ite_neg c4 (skip (by simp [nxB]; omega))
        · exact Ev.ite_neg (by simpa using c1) (skip (by simp [nxB]; omega))
      · rw [decide_eq_false (by omega : ¬ cur < 0)]
        exact fin i cur h
    · refine Ev.ite_neg c0 (fin i cur ?_)
      have hn : near.find? (nxB n first dst d (rd d (x : Int))) = none := by
        refine List.find?_eq_none.2 fun z _ => ?_
        simp [nxB]
        omega
      rcases hc with ⟨e, _⟩ | ⟨_, h⟩
      · rw [hn, e]
        rfl
      · exact h
theorem nextS_l0 {l : List S60} (hl : l.length ≤ 1048576) {n first dst : Int} {d : List Int} (hf : Fit n d) : ∀ (m x : Nat), x + m = d.length →
    Ev (fun k => spec_NextTo.l0 k l n first dst ((List.range x).map (nxt l n first dst d)) d (x : Int)) (nextRow l n first dst d) := by
  intro m
  induction m with
  | zero =>
    intro x hx
    obtain rfl : x = d.length := by omega
    refine Ev.step (fun k => by rw [spec_NextTo.l0]) ?_
    exact Ev.ite_neg (by omega) (Ev.now _)
  | succ m ih =>
    intro x hx
    have hd : d.length = n.toNat ∧ 0 ≤ n ∧ n ≤ 12 := by
      rcases hf.1 with rfl | h
      · rw [List.length_nil] at hx
        omega
      · exact h
    have hnl := nb_len l (x : Int)
    refine Ev.step (fun k => by rw [spec_NextTo.l0]) ?_
    refine Ev.ite_pos (by omega) (Ev.bind (nbS hl (x : Int)) ?_)
    refine nextS_l1 hd hf (by omega) (by omega) (by simp; omega) (fun v hv => ?_) _ 0 (-1) rfl (by omega) (.inl ⟨rfl, rfl⟩)
    have h := ih (x + 1) (by omega)
    rw [List.range_succ, List.map_append] at h
    rw [hv]
    exact h
theorem nextS {l : List S60} (hl : l.length ≤ 1048576) (n first dst : Int) : Ev (fun k => spec_NextTo.f k l n first dst) (nextsTo l n first dst) := by
  unfold spec_NextTo.f
  exact Ev.bind (distS hl n first dst) (nextS_l0 hl (dists_fit l n first dst) (dists l n first dst).length 0 (by omega))
theorem tableI {l : List S60} (hl : l.length ≤ 1048576) (n first dst : Int) : Ev (fun k => impl_TableOf.f k l n first dst) (dst, dists l n first dst, nextsTo l n first dst) := by
  unfold impl_TableOf.f
  exact Ev.bind (distI hl n first dst) (Ev.bind (nextI hl n first dst) (Ev.now _))
theorem tableS {l : List S60} (hl : l.length ≤ 1048576) (n first dst : Int) : Ev (fun k => spec_TableOf.f k l n first dst) (dst, dists l n first dst, nextsTo l n first dst) := by
  unfold spec_TableOf.f
  exact Ev.bind (distS hl n first dst) (Ev.bind (nextS hl n first dst) (Ev.now _))
/-- What is right of a row of distances and of next nodes. -/
structure Down (n first dst : Int) (d t : List Int) : Prop where
  dlen : d.length = n.toNat
  tlen : t.length = n.toNat
  rng : 1 ≤ n ∧ n ≤ 12
  din : 0 ≤ dst ∧ dst < n
  d0 : rd d dst = 0
  zero : ∀ x : Int, 0 ≤ x → x < n → rd d x = 0 → x = dst
  low : ∀ x : Int, 0 ≤ x → x < n → -1 ≤ rd d x ∧ rd d x < n
  stop : ∀ x : Int, 0 ≤ x → x < n → rd d x ≤ 0 → rd t x = -1
  step : ∀ x : Int, 0 ≤ x → x < n → 0 < rd d x → (0 ≤ rd t x ∧ rd t x < n) ∧ (rd t x < first ∨ rd t x = dst) ∧ rd d (rd t x) = rd d x - 1
theorem nextRow_len (l : List S60) (n first dst : Int) (d : List Int) : (nextRow l n first dst d).length = d.length := by simp [nextRow]
theorem rd_nextRow {l : List S60} {n first dst : Int} {d : List Int} {x : Int} (h0 : 0 ≤ x) (h1 : x < d.length) : rd (nextRow l n first dst d) x = nxt l n first dst d x.toNat := by
  unfold rd nextRow
  rw [getD_at (by simp; omega)]
  simp
theorem down (l : List S60) {n first dst : Int} (h : (1 ≤ n ∧ n ≤ 12) ∧ 0 ≤ dst ∧ dst < n) : Down n first dst (dists l n first dst) (nextsTo l n first dst) := by
  have H := dists_inv (l := l) (first := first) h
  have hlen := H.len
  have hN : ((n.toNat : Nat) : Int) = n := Int.toNat_of_nonneg (by omega)
  refine ⟨hlen, by rw [nextsTo, nextRow_len]; exact hlen, h.1, h.2, H.d0, fun x h0 h1 => H.zero x h0 (by omega), fun x h0 h1 => ⟨H.low x h0 (by omega), by have := H.bound x h0 (by omega); omega⟩, ?_, ?_⟩
  · intro x h0 h1 hx
    rw [nextsTo, rd_nextRow h0 (by omega), nxt, Int.toNat_of_nonneg h0, List.find?_eq_none.2]
    · rfl
    · intro y _
      simp [nxB]
      omega
  · intro x h0 h1 hx
    rw [nextsTo, rd_nextRow h0 (by omega), nxt, Int.toNat_of_nonneg h0]
    obtain ⟨u, hu0, hun, hex, hm, hd⟩ := H.pred x h0 (by omega) hx
    have hmu : u ∈ nb l x := nb_sym.1 hm
    cases hfd : (nb l x).find? (nxB n first dst (dists l n first dst) (rd (dists l n first dst) x)) with
    | none =>
      have := List.find?_eq_none.1 hfd u hmu
      simp only [exB, decide_eq_true_iff] at hex
      simp [nxB] at this
      omega
    | some y =>
      have := List.find?_some hfd
      simp only [nxB, decide_eq_true_iff] at this
      exact this.2
end Go.Proofs.Ytcjlbgbenjmkgaa.fnExactBuildProgram
/- What plans, links at a tick, pieces and programs come to, in the program and in the reference. Conditions: none. -/
namespace Go.Proofs.Ytcjlbgbenjmkgaa.fnExactBuildProgram
open Go.RowKit Go.Proofs.YtcjlbgbenjmkgaaW.PrintWords Go.Proofs.YtcjlbgbenjmkgaaW.PrintLast Go.Proofs.YtcjlbgbenjmkgaaW.PrintMore Go.Proofs.Ytcjlbgbenjmkgaa.QFnExactBuildProgram Go.Proofs.Ytcjlbgbenjmkgaa.Open Go.Proofs.Ytcjlbgbenjmkgaa.Kit Go.Proofs.Ytcjlbgbenjmkgaa.Bfs
/-! ### spans -/
def spanQ (a b : Int) : Bool := decide (0 ≤ a ∧ b ≤ 1000 ∧ a < b)
def inQ (a b t : Int) : Bool := decide ((0 ≤ a ∧ b ≤ 1000 ∧ a < b) ∧ a ≤ t ∧ t < b)
theorem spanS (a b : Int) : spec_IsSpan.f a b = some (spanQ a b) := by
  unfold spec_IsSpan.f spanQ
  by_cases h : a ≥ 0
  · rw [if_pos h]
    by_cases h2 : b ≤ 1000
    · rw [if_pos h2]
      simp [h, h2]
    · rw [if_neg h2]
      simp [h2]
  · rw [if_neg h]
    simp [h]
theorem spanI (a b : Int) : impl_IsSpan.f a b = some (spanQ a b) := by
  unfold impl_IsSpan.f spanQ
  by_cases h : a ≥ 0
  · rw [if_pos h]
    by_cases h2 : b ≤ 1000
    · rw [if_pos h2]
      simp [h, h2]
    · rw [if_neg h2]
      simp [h2]
  · rw [if_neg h]
    simp [h]
theorem inQ_def (a b t : Int) : inQ a b t = (spanQ a b && decide (a ≤ t ∧ t < b)) := by
  unfold inQ spanQ
  rw [← Bool.decide_and]
theorem inSpanS (a b t : Int) : spec_InSpan.f a b t = some (inQ a b t) := by
  unfold spec_InSpan.f
  rw [spanS, Option.bind_some, inQ_def]
  cases spanQ a b with
  | true =>
    rw [if_pos rfl, Bool.true_and]
    by_cases h : a ≤ t
    · rw [if_pos h]
      simp [h]
    · rw [if_neg h]
      simp [h]
  | false =>
    rw [if_neg (by simp), Bool.false_and]
theorem inSpanI (a b t : Int) : impl_InSpan.f a b t = some (inQ a b t) := by
  unfold impl_InSpan.f
  rw [spanI, Option.bind_some, inQ_def]
  cases spanQ a b with
  | true =>
    rw [if_pos rfl, Bool.true_and]
    by_cases h : a ≤ t
    · rw [if_pos h]
      simp [h]
    · rw [if_neg h]
      simp [h]
  | false =>
    rw [if_neg (by simp), Bool.false_and]
/-! ### plans -/
/-- A contact between two of n nodes. -/
def CtOk (n : Int) (x : S49) : Prop := (0 ≤ x.f0 ∧ x.f0 < x.f1 ∧ x.f1 < n) ∧ 0 ≤ x.f2 ∧ x.f3 ≤ 1000 ∧ x.f2 < x.f3
def Bef (x y : S49) : Prop := x.f0 < y.f0 ∨ x.f0 = y.f0 ∧ (x.f1 < y.f1 ∨ x.f1 = y.f1 ∧ x.f3 < y.f2)
def PlanOk (n : Int) (l : List S49) : Prop := ∀ i, i < l.length → CtOk n (l.getD i z49) ∧ (0 < i → Bef (l.getD (i - 1) z49) (l.getD i z49))
noncomputable def planB (n : Int) (l : List S49) : Bool := @decide (PlanOk n l) (Classical.propDecidable _)
theorem planB_iff {n : Int} {l : List S49} : planB n l = true ↔ PlanOk n l := @decide_eq_true_iff _ (Classical.propDecidable _)
theorem contactS (x : S49) (n : Int) : ∃ r, spec_IsContact.f x.f0 x.f1 x.f2 x.f3 n = some r ∧ (r = true ↔ CtOk n x) := by
  unfold spec_IsContact.f CtOk
  rw [spanS, Option.bind_some]
  by_cases h1 : x.f0 ≥ 0
  · rw [if_pos h1]
    by_cases h2 : x.f0 < x.f1
    · rw [if_pos h2]
      by_cases h3 : x.f1 < n
      · rw [if_pos h3]
        refine ⟨_, rfl, ?_⟩
        unfold spanQ
        rw [decide_eq_true_iff]
        omega
      · rw [if_neg h3]
        exact ⟨false, rfl, by simp [h3]⟩
    · rw [if_neg h2]
      exact ⟨false, rfl, by simp [h2]⟩
  · rw [if_neg h1]
    exact ⟨false, rfl, by simp [h1]⟩
theorem contactI (x : S49) (n : Int) : ∃ r, impl_IsContact.f x.f0 x.f1 x.f2 x.f3 n = some r ∧ (r = true ↔ CtOk n x) := by
  unfold impl_IsContact.f CtOk impl_spanOf.f
  rw [Option.bind_some, spanI, Option.bind_some]
  by_cases h1 : x.f0 ≥ 0
  · rw [if_pos h1]
    by_cases h2 : x.f0 < x.f1
    · rw [if_pos h2]
      by_cases h3 : x.f1 < n
      · rw [if_pos h3]
        refine ⟨_, rfl, ?_⟩
        unfold spanQ
        rw [decide_eq_true_iff]
        omega
      · rw [if_neg h3]
        exact ⟨false, rfl, by simp [h3]⟩
    · rw [if_neg h2]
      exact ⟨false, rfl, by simp [h2]⟩
  · rw [if_neg h1]
    exact ⟨false, rfl, by simp [h1]⟩
theorem beforeS (x y : S49) : ∃ r, spec_l11Before.f x.f0 x.f1 x.f2 x.f3 y.f0 y.f1 y.f2 y.f3 = some r ∧ (r = true ↔ Bef x y) := by
  unfold spec_l11Before.f Bef
  by_cases h1 : x.f0 = y.f0
  · rw [if_pos h1]
    by_cases h2 : x.f1 = y.f1
    · rw [if_pos h2]
      refine ⟨_, rfl, ?_⟩
      rw [decide_eq_true_iff]
      omega
    · rw [if_neg h2]
      refine ⟨_, rfl, ?_⟩
      rw [decide_eq_true_iff]
      omega
  · rw [if_neg h1]
    refine ⟨_, rfl, ?_⟩
    rw [decide_eq_true_iff]
    omega
theorem plan_step {n : Int} {l : List S49} {i : Nat} {r : Bool} (h : CtOk n (l.getD i z49) ∧ (0 < i → Bef (l.getD (i - 1) z49) (l.getD i z49)))
    (hr : r = true ↔ ∀ j, i + 1 ≤ j → j < l.length → CtOk n (l.getD j z49) ∧ (0 < j → Bef (l.getD (j - 1) z49) (l.getD j z49))) :
    r = true ↔ ∀ j, i ≤ j → j < l.length → CtOk n (l.getD j z49) ∧ (0 < j → Bef (l.getD (j - 1) z49) (l.getD j z49)) := by
  rw [hr]
  constructor
  · intro hh j h1 h2
    by_cases e : j = i
    · rw [e]
      exact h
    · exact hh j (by omega) h2
  · exact fun hh j h1 h2 => hh j (by omega) h2
theorem plan_bad {n : Int} {l : List S49} {i : Nat} (hi : i < l.length) (h : ¬ (CtOk n (l.getD i z49) ∧ (0 < i → Bef (l.getD (i - 1) z49) (l.getD i z49)))) :
    false = true ↔ ∀ j, i ≤ j → j < l.length → CtOk n (l.getD j z49) ∧ (0 < j → Bef (l.getD (j - 1) z49) (l.getD j z49)) := by
  constructor
  · intro e
    cases e
  · exact fun hh => absurd (hh i (Nat.le_refl _) hi) h
theorem rdC (l : List S49) (i : Nat) : rd_T49 l (i : Int) = l.getD i z49 := rfl
theorem rdC1 (l : List S49) {i : Nat} (h : 0 < i) : rd_T49 l ((i : Int) - 1) = l.getD (i - 1) z49 := by
  rw [show ((i : Int) - 1) = ((i - 1 : Nat) : Int) by omega]
  rfl
theorem planS {n : Int} {l : List S49} (hl : l.length ≤ 1048576) : Ev (fun k => spec_IsPlan.f k l n) (planB n l) := by
  have key : ∀ m i : Nat, i + m = l.length → ∃ r, Ev (fun k => spec_IsPlan.l0 k l n (i : Int)) r ∧ (r = true ↔ ∀ j, i ≤ j → j < l.length → CtOk n (l.getD j z49) ∧ (0 < j → Bef (l.getD (j - 1) z49) (l.getD j z49))) := by
    intro m
    induction m with
    | zero =>
      intro i hi
      refine ⟨true, ?_, ?_⟩
      · refine Ev.step (fun k => by rw [spec_IsPlan.l0]) ?_
        exact Ev.ite_neg (by omega) (Ev.now _)
      · simp only [true_iff]
        intro j h1 h2
        omega
    | succ m ih =>
      intro i hi
      obtain ⟨r, hr, hri⟩ := ih (i + 1) (by omega)
      obtain ⟨c, hc, hci⟩ := contactS (l.getD i z49) n
      by_cases h1 : CtOk n (l.getD i z49)
      · by_cases h0 : 0 < i
        · obtain ⟨b, hb, hbi⟩ := beforeS (l.getD (i - 1) z49) (l.getD i z49)
          by_cases h2 : Bef (l.getD (i - 1) z49) (l.getD i z49)
          · refine ⟨r, ?_, plan_step ⟨h1, fun _ => h2⟩ hri⟩
            refine Ev.step (fun k => by rw [spec_IsPlan.l0]) ?_
            refine Ev.ite_pos (by omega) (Ev.ite_pos (by omega) ?_)
            rw [rdC, w64n (by omega), w64 (x := (i : Int) - 1) (by omega) (by omega), rdC1 l h0]
            exact Ev.bind0 hc (Ev.ite_pos (hci.2 h1) (Ev.ite_pos (by omega) (Ev.ite_pos (by omega) (Ev.ite_pos (by omega) (Ev.bind0 hb (Ev.ite_pos (hbi.2 h2) hr))))))
          · refine ⟨false, ?_, plan_bad (by omega) fun h => h2 (h.2 h0)⟩
            refine Ev.step (fun k => by rw [spec_IsPlan.l0]) ?_
            refine Ev.ite_pos (by omega) (Ev.ite_pos (by omega) ?_)
            rw [rdC, w64 (x := (i : Int) - 1) (by omega) (by omega), rdC1 l h0]
            exact Ev.bind0 hc (Ev.ite_pos (hci.2 h1) (Ev.ite_pos (by omega) (Ev.ite_pos (by omega) (Ev.ite_pos (by omega) (Ev.bind0 hb (Ev.ite_neg (fun h => h2 (hbi.1 h)) (Ev.now _)))))))
        · refine ⟨r, ?_, plan_step ⟨h1, fun h => absurd h h0⟩ hri⟩
          refine Ev.step (fun k => by rw [spec_IsPlan.l0]) ?_
          refine Ev.ite_pos (by omega) (Ev.ite_pos (by omega) ?_)
          rw [rdC, w64n (by omega)]
          exact Ev.bind0 hc (Ev.ite_pos (hci.2 h1) (Ev.ite_neg (by omega) hr))
      · refine ⟨false, ?_, plan_bad (by omega) fun h => h1 h.1⟩
        refine Ev.step (fun k => by rw [spec_IsPlan.l0]) ?_
        refine Ev.ite_pos (by omega) (Ev.ite_pos (by omega) ?_)
        rw [rdC]
        exact Ev.bind0 hc (Ev.ite_neg (fun h => h1 (hci.1 h)) (Ev.now _))
  obtain ⟨r, hr, hri⟩ := key l.length 0 (by omega)
  have e : r = planB n l := by
    rw [Bool.eq_iff_iff, hri, planB_iff]
    exact ⟨fun h i hi => h i (by omega) hi, fun h i _ hi => h i hi⟩
  rw [← e]
  exact hr
theorem compareI (a b : Int) : cmp_Compare_int.f a b = some (if a < b then -1 else if a > b then 1 else 0) := by
  unfold cmp_Compare_int.f cmp_isNaN_int.f
  simp only [Option.bind_some, bne_self_eq_false]
  rw [if_neg (by simp), if_neg (by simp)]
  split
  · rfl
  · split <;> rfl
theorem orI (a b : Int) : Ev (fun k => cmp_Or_int.f k [a, b]) (if a = 0 then b else a) := by
  unfold cmp_Or_int.f
  refine Ev.step (fun k => by rw [cmp_Or_int.l0]) ?_
  refine Ev.ite_pos (by simp) (Ev.ite_pos (by omega) (Ev.ite_pos (by simp) ?_))
  show Ev (fun k => if a = 0 then cmp_Or_int.l0 k 0 [a, b] (([a, b] : List Int).length : Int) (wrap64 (0 + 1)) else some a) _
  by_cases h : a = 0
  · rw [if_pos h]
    refine Ev.ite_pos h ?_
    rw [w64 (x := 0 + 1) (by omega) (by omega)]
    refine Ev.step (fun k => by rw [cmp_Or_int.l0]) ?_
    refine Ev.ite_pos (by simp) (Ev.ite_pos (by omega) (Ev.ite_pos (by simp) ?_))
    show Ev (fun k => if b = 0 then cmp_Or_int.l0 k 0 [a, b] (([a, b] : List Int).length : Int) (wrap64 (0 + 1 + 1)) else some b) _
    by_cases h2 : b = 0
    · refine Ev.ite_pos h2 ?_
      rw [w64 (x := 0 + 1 + 1) (by omega) (by omega), h2]
      refine Ev.step (fun k => by rw [cmp_Or_int.l0]) ?_
      exact Ev.ite_neg (by simp) (Ev.now _)
    · exact Ev.ite_neg h2 (Ev.now _)
  · rw [if_neg h]
    exact Ev.ite_neg h (Ev.now _)
theorem planI {n : Int} {l : List S49} (hl : l.length ≤ 1048576) : Ev (fun k => impl_IsPlan.f k l n) (planB n l) := by
  have key : ∀ m i : Nat, i + m = l.length → ∃ r, Ev (fun k => impl_IsPlan.l0 k l n l (l.length : Int) (i : Int)) r ∧ (r = true ↔ ∀ j, i ≤ j → j < l.length → CtOk n (l.getD j z49) ∧ (0 < j → Bef (l.getD (j - 1) z49) (l.getD j z49))) := by
    intro m
    induction m with
    | zero =>
      intro i hi
      refine ⟨true, ?_, ?_⟩
      · refine Ev.step (fun k => by rw [impl_IsPlan.l0]) ?_
        exact Ev.ite_neg (by omega) (Ev.now _)
      · simp only [true_iff]
        intro j h1 h2
        omega
    | succ m ih =>
      intro i hi
      obtain ⟨r, hr, hri⟩ := ih (i + 1) (by omega)
      obtain ⟨c, hc, hci⟩ := contactI (l.getD i z49) n
      by_cases h1 : CtOk n (l.getD i z49)
      · by_cases h0 : 0 < i
        · by_cases h2 : Bef (l.getD (i - 1) z49) (l.getD i z49)
          · refine ⟨r, ?_, plan_step ⟨h1, fun _ => h2⟩ hri⟩
            refine Ev.step (fun k => by rw [impl_IsPlan.l0]) ?_
            refine Ev.ite_pos (by omega) (Ev.ite_pos (by omega) (Ev.ite_pos (by omega) ?_))
            rw [rdC, w64n (by omega), w64 (x := (i : Int) - 1) (by omega) (by omega), rdC1 l h0]
            refine Ev.bind0 hc (Ev.ite_pos (hci.2 h1) (Ev.ite_neg (by omega) (Ev.ite_pos (by omega) (Ev.ite_pos (by omega) (Ev.bind0 (compareI _ _) (Ev.bind0 (compareI _ _) (Ev.bind (orI _ _) ?_)))))))
            unfold Bef at h2
            refine Ev.ite_neg (by split <;> split <;> (try split) <;> (try split) <;> omega) ?_
            by_cases e : (l.getD (i - 1) z49).f0 = (l.getD i z49).f0 ∧ (l.getD (i - 1) z49).f1 = (l.getD i z49).f1
            · rw [e.1, e.2]
              exact Ev.ite_pos (by simp) (Ev.ite_neg (by omega) hr)
            · exact Ev.ite_neg (by split <;> split <;> (try split) <;> (try split) <;> omega) hr
          · refine ⟨false, ?_, plan_bad (by omega) fun h => h2 (h.2 h0)⟩
            refine Ev.step (fun k => by rw [impl_IsPlan.l0]) ?_
            refine Ev.ite_pos (by omega) (Ev.ite_pos (by omega) (Ev.ite_pos (by omega) ?_))
            rw [rdC, w64n (by omega), w64 (x := (i : Int) - 1) (by omega) (by omega), rdC1 l h0]
            refine Ev.bind0 hc (Ev.ite_pos (hci.2 h1) (Ev.ite_neg (by omega) (Ev.ite_pos (by omega) (Ev.ite_pos (by omega) (Ev.bind0 (compareI _ _) (Ev.bind0 (compareI _ _) (Ev.bind (orI _ _) ?_)))))))
            unfold Bef at h2
            by_cases e : (l.getD (i - 1) z49).f0 = (l.getD i z49).f0 ∧ (l.getD (i - 1) z49).f1 = (l.getD i z49).f1
            · rw [e.1, e.2]
              exact Ev.ite_neg (by simp) (Ev.ite_pos (by simp) (Ev.ite_pos (by omega) (Ev.now _)))
            · exact Ev.ite_pos (by split <;> split <;> (try split) <;> (try split) <;> omega) (Ev.now _)
        · refine ⟨r, ?_, plan_step ⟨h1, fun h => absurd h h0⟩ hri⟩
          refine Ev.step (fun k => by rw [impl_IsPlan.l0]) ?_
          refine Ev.ite_pos (by omega) (Ev.ite_pos (by omega) (Ev.ite_pos (by omega) ?_))
          rw [rdC, w64n (by omega)]
          exact Ev.bind0 hc (Ev.ite_pos (hci.2 h1) (Ev.ite_pos (by omega) hr))
      · refine ⟨false, ?_, plan_bad (by omega) fun h => h1 h.1⟩
        refine Ev.step (fun k => by rw [impl_IsPlan.l0]) ?_
        refine Ev.ite_pos (by omega) (Ev.ite_pos (by omega) (Ev.ite_pos (by omega) ?_))
        rw [rdC]
        exact Ev.bind0 hc (Ev.ite_neg (fun h => h1 (hci.1 h)) (Ev.now _))
  obtain ⟨r, hr, hri⟩ := key l.length 0 (by omega)
  have e : r = planB n l := by
    rw [Bool.eq_iff_iff, hri, planB_iff]
    exact ⟨fun h i hi => h i (by omega) hi, fun h i _ hi => h i hi⟩
  rw [← e]
  exact hr
/-! ### links at a tick -/
def hasL (out : List S60) (a b : Int) : Bool := out.any fun x => x.f0 == a && x.f1 == b
def addL (t : Int) (out : List S60) (x : S49) : List S60 := if hasL out x.f0 x.f1 = true then out else if inQ x.f2 x.f3 t = true then out ++ [⟨x.f0, x.f1⟩] else out
/-- The links that a plan tells for a tick, each once. -/
def linksAt (l : List S49) (t : Int) : List S60 := l.foldl (addL t) []
theorem addL_len (t : Int) (out : List S60) (x : S49) : (addL t out x).length ≤ out.length + 1 := by
  unfold addL
  split
  · omega
  · split
    · simp
    · omega
theorem foldTo_addL_len (t : Int) (l : List S49) : ∀ i, i ≤ l.length → (foldTo (addL t) [] l i).length ≤ i
  | 0, _ => by simp [foldTo]
  | i + 1, h => by
    rw [foldTo_succ _ _ (show i < l.length by omega) z49]
    have h1 := foldTo_addL_len t l i (by omega)
    have h2 := addL_len t (foldTo (addL t) [] l i) (l.getD i z49)
    omega
theorem linksAt_len (l : List S49) (t : Int) : (linksAt l t).length ≤ l.length := by
  have := foldTo_addL_len t l l.length (Nat.le_refl _)
  rw [foldTo_all] at this
  exact this
theorem linksS_l1 {l : List S49} {t a b : Int} {i : Nat} {out r : List S60} (ho : out.length ≤ 2000000)
    (hk : ∀ q : Bool, q = hasL out a b → Ev (fun k => if q = true then (spec_LinksAt.l0 k l t out (wrap64 ((i : Int) + 1))) else (if 0 ≤ (i : Int) then (if (i : Int) < (l.length : Int) then ((spec_InSpan.f ((rd_T49 l (i : Int)).f2) ((rd_T49 l (i : Int)).f3) t).bind fun t182 => (if t182 = true then (if out.length < 8796093022208 then (spec_LinksAt.l0 k l t (out ++ [(⟨a, b⟩ : S60)]) (wrap64 ((i : Int) + 1))) else (none)) else (spec_LinksAt.l0 k l t out (wrap64 ((i : Int) + 1))))) else (none)) else (none))) r) :
    ∀ (m j : Nat) (q : Bool), j + m = out.length → q = hasL (out.take j) a b → Ev (fun k => spec_LinksAt.l1 k l t out (i : Int) q (j : Int) a b) r := by
  intro m
  induction m with
  | zero =>
    intro j q hj hq
    rw [List.take_of_length_le (by omega)] at hq
    refine Ev.step (fun k => by rw [spec_LinksAt.l1]) ?_
    exact Ev.ite_neg (by omega) (hk q hq)
  | succ m ih =>
    intro j q hj hq
    have hjl : j < out.length := by omega
    have hs : hasL (out.take (j + 1)) a b = (hasL (out.take j) a b || ((rd_T60 out (j : Int)).f0 == a && (rd_T60 out (j : Int)).f1 == b)) := by
      unfold hasL
      rw [take_succ_getD hjl z60, List.any_append]
      simp
      rfl
    refine Ev.step (fun k => by rw [spec_LinksAt.l1]) ?_
    refine Ev.ite_pos (by omega) ?_
    rw [w64n (by omega)]
    by_cases c : q = true
    · refine Ev.ite_pos c (ih (j + 1) true (by omega) ?_)
      rw [hs, ← hq, c]
      rfl
    · refine Ev.ite_neg c (Ev.ite_pos (by omega) (ih (j + 1) _ (by omega) ?_))
      rw [hs, ← hq, Bool.eq_false_iff.2 c]
      rfl
theorem linksS {l : List S49} (hl : l.length ≤ 1048576) (t : Int) : Ev (fun k => spec_LinksAt.f k l t) (linksAt l t) := by
  have key : ∀ m i : Nat, i + m = l.length → Ev (fun k => spec_LinksAt.l0 k l t (foldTo (addL t) [] l i) (i : Int)) (linksAt l t) := by
    intro m
    induction m with
    | zero =>
      intro i hi
      obtain rfl : i = l.length := by omega
      rw [foldTo_all]
      refine Ev.step (fun k => by rw [spec_LinksAt.l0]) ?_
      exact Ev.ite_neg (by omega) (Ev.now _)
    | succ m ih =>
      intro i hi
      have hlen := foldTo_addL_len t l i (show i ≤ l.length by omega)
      have h := ih (i + 1) (by omega)
      rw [foldTo_succ _ _ (show i < l.length by omega) z49] at h
      generalize foldTo (addL t) [] l i = out at *
      refine Ev.step (fun k => by rw [spec_LinksAt.l0]) ?_
      refine Ev.ite_pos (by omega) (Ev.ite_pos (by omega) ?_)
      refine linksS_l1 (by omega) ?_ out.length 0 false (by omega) rfl
      intro q hq
      rw [rdC] at *
      rw [w64n (by omega)]
      unfold addL at h
      by_cases c : q = true
      · rw [if_pos (hq ▸ c)] at h
        exact Ev.ite_pos c h
      · rw [if_neg (fun e => c (hq.trans e))] at h
        refine Ev.ite_neg c (Ev.ite_pos (by omega) (Ev.ite_pos (by omega) (Ev.bind0 (inSpanS _ _ _) ?_)))
        by_cases c2 : inQ (l.getD i z49).f2 (l.getD i z49).f3 t = true
        · rw [if_pos c2] at h
          exact Ev.ite_pos c2 (Ev.ite_pos (by omega) h)
        · rw [if_neg c2] at h
          exact Ev.ite_neg c2 h
  exact key l.length 0 (by omega)
theorem hasI {out : List S60} (ho : out.length ≤ 2000000) (a b : Int) : Ev (fun k => impl_Link_44.f k out a b) (hasL out a b) := by
  have key : ∀ m j : Nat, j + m = out.length → hasL (out.take j) a b = false → ∃ r, Ev (fun k => impl_Link_58.l0 k out (out.length : Int) (j : Int) a b) r ∧ decide (r ≥ 0) = hasL out a b := by
    intro m
    induction m with
    | zero =>
      intro j hj hq
      rw [List.take_of_length_le (by omega)] at hq
      refine ⟨-1, ?_, by rw [hq]; rfl⟩
      refine Ev.step (fun k => by rw [impl_Link_58.l0]) ?_
      exact Ev.ite_neg (by omega) (Ev.now _)
    | succ m ih =>
      intro j hj hq
      have hjl : j < out.length := by omega
      have hs : hasL (out.take (j + 1)) a b = (hasL (out.take j) a b || ((rd_T60 out (j : Int)).f0 == a && (rd_T60 out (j : Int)).f1 == b)) := by
        unfold hasL
        rw [take_succ_getD hjl z60, List.any_append]
        simp
        rfl
      rw [hq, Bool.false_or] at hs
      by_cases c : (a == (rd_T60 out (j : Int)).f0 && b == (rd_T60 out (j : Int)).f1) = true
      · refine ⟨(j : Int), ?_, ?_⟩
        · refine Ev.step (fun k => by rw [impl_Link_58.l0]) ?_
          exact Ev.ite_pos (by omega) (Ev.ite_pos (by omega) (Ev.ite_pos (by omega) (Ev.ite_pos c (Ev.now _))))
        · rw [decide_eq_true (by omega), eq_comm]
          unfold hasL
          rw [List.any_eq_true]
          refine ⟨rd_T60 out (j : Int), getD_mem hjl z60, ?_⟩
          simp at c ⊢
          exact ⟨c.1.symm, c.2.symm⟩
      · obtain ⟨r, hr, hri⟩ := ih (j + 1) (by omega) (by
          rw [hs, Bool.eq_false_iff]
          intro e
          apply c
          simp at e ⊢
          exact ⟨e.1.symm, e.2.symm⟩)
        refine ⟨r, ?_, hri⟩
        refine Ev.step (fun k => by rw [impl_Link_58.l0]) ?_
        refine Ev.ite_pos (by omega) (Ev.ite_pos (by omega) (Ev.ite_pos (by omega) (Ev.ite_neg c ?_)))
        rw [w64n (by omega)]
        exact hr
  obtain ⟨r, hr, hri⟩ := key out.length 0 (by omega) rfl
  unfold impl_Link_44.f
  exact Ev.bind hr (Ev.some hri)
theorem linksI {l : List S49} (hl : l.length ≤ 1048576) (t : Int) : Ev (fun k => impl_LinksAt.f k l t) (linksAt l t) := by
  have key : ∀ m i : Nat, i + m = l.length → Ev (fun k => impl_LinksAt.l0 k t (foldTo (addL t) [] l i) l (l.length : Int) (i : Int)) (linksAt l t) := by
    intro m
    induction m with
    | zero =>
      intro i hi
      obtain rfl : i = l.length := by omega
      rw [foldTo_all]
      refine Ev.step (fun k => by rw [impl_LinksAt.l0]) ?_
      exact Ev.ite_neg (by omega) (Ev.now _)
    | succ m ih =>
      intro i hi
      have hlen := foldTo_addL_len t l i (show i ≤ l.length by omega)
      have h := ih (i + 1) (by omega)
      rw [foldTo_succ _ _ (show i < l.length by omega) z49] at h
      generalize foldTo (addL t) [] l i = out at *
      refine Ev.step (fun k => by rw [impl_LinksAt.l0]) ?_
      refine Ev.ite_pos (by omega) (Ev.ite_pos (by omega) (Ev.ite_pos (by omega) (Ev.bind0 rfl ?_)))
      rw [rdC, w64n (by omega)]
      refine Ev.bind0 (inSpanI _ _ _) ?_
      unfold addL at h
      by_cases c2 : inQ (l.getD i z49).f2 (l.getD i z49).f3 t = true
      · refine Ev.ite_pos c2 (Ev.bind (hasI (by omega) _ _) ?_)
        by_cases c : hasL out (l.getD i z49).f0 (l.getD i z49).f1 = true
        · rw [if_pos c] at h
          exact Ev.ite_pos c h
        · rw [if_neg c, if_pos c2] at h
          exact Ev.ite_neg c (Ev.ite_pos (by omega) h)
      · refine Ev.ite_neg c2 ?_
        by_cases c : hasL out (l.getD i z49).f0 (l.getD i z49).f1 = true
        · rw [if_pos c] at h
          exact h
        · rw [if_neg c, if_neg c2] at h
          exact h
  exact key l.length 0 (by omega)
/-! ### changes -/
noncomputable def sameL (a b : List S60) : Bool := @decide (a = b) (Classical.propDecidable _)
theorem sameL_iff {a b : List S60} : sameL a b = true ↔ a = b := @decide_eq_true_iff _ (Classical.propDecidable _)
theorem sameL_no {a b : List S60} (h : a ≠ b) : sameL a b = false := Bool.eq_false_iff.2 fun e => h (sameL_iff.1 e)
theorem sameL_symm (a b : List S60) : sameL a b = sameL b a := by
  rw [Bool.eq_iff_iff, sameL_iff, sameL_iff]
  exact eq_comm
theorem link_ext {x y : S60} (h0 : x.f0 = y.f0) (h1 : x.f1 = y.f1) : x = y := by
  cases x
  cases y
  simp at h0 h1
  rw [h0, h1]
theorem same_of {a b : List S60} (hlen : a.length = b.length) {r : Bool} (h : r = true ↔ ∀ j : Nat, 0 ≤ j → j < a.length → a.getD j z60 = b.getD j z60) : r = sameL a b := by
  rw [Bool.eq_iff_iff, h, sameL_iff]
  constructor
  · intro hh
    apply List.ext_getElem hlen
    intro i h1 h2
    have := hh i (by omega) h1
    rw [getD_at h1, getD_at h2] at this
    exact this
  · intro e j _ _
    rw [e]
theorem same_step {a b : List S60} {i : Nat} {r : Bool} (h : a.getD i z60 = b.getD i z60) (hr : r = true ↔ ∀ j : Nat, i + 1 ≤ j → j < a.length → a.getD j z60 = b.getD j z60) :
    r = true ↔ ∀ j : Nat, i ≤ j → j < a.length → a.getD j z60 = b.getD j z60 := by
  rw [hr]
  constructor
  · intro hh j h1 h2
    by_cases e : j = i
    · rw [e]
      exact h
    · exact hh j (by omega) h2
  · exact fun hh j h1 h2 => hh j (by omega) h2
theorem ne_link {x y : S60} (c : (!(x.f0 == y.f0) || !(x.f1 == y.f1)) = true) : x ≠ y := by
  intro e
  rw [e] at c
  simp at c
theorem eq_link {x y : S60} (c : ¬ (!(x.f0 == y.f0) || !(x.f1 == y.f1)) = true) : x = y := by
  simp at c
  exact link_ext c.1 c.2
theorem sameS {a b : List S60} (ha : a.length ≤ 2000000) : Ev (fun k => spec_SameLinks.f k a b) (sameL a b) := by
  unfold spec_SameLinks.f
  by_cases hlen : a.length = b.length
  · refine Ev.ite_pos (by omega) ?_
    have key : ∀ m i : Nat, i + m = a.length → ∃ r, Ev (fun k => spec_SameLinks.l0 k a b (i : Int)) r ∧ (r = true ↔ ∀ j : Nat, i ≤ j → j < a.length → a.getD j z60 = b.getD j z60) := by
      intro m
      induction m with
      | zero =>
        intro i hi
        refine ⟨true, ?_, ?_⟩
        · refine Ev.step (fun k => by rw [spec_SameLinks.l0]) ?_
          exact Ev.ite_neg (by omega) (Ev.now _)
        · simp only [true_iff]
          intro j h1 h2
          omega
      | succ m ih =>
        intro i hi
        obtain ⟨r, hr, hri⟩ := ih (i + 1) (by omega)
        by_cases c : (!((rd_T60 a (i : Int)).f0 == (rd_T60 b (i : Int)).f0) || !((rd_T60 a (i : Int)).f1 == (rd_T60 b (i : Int)).f1)) = true
        · refine ⟨false, ?_, Iff.intro (fun h => by cases h) (fun h => absurd (h i (by omega) (by omega)) (ne_link c))⟩
          refine Ev.step (fun k => by rw [spec_SameLinks.l0]) ?_
          exact Ev.ite_pos (by omega) (Ev.ite_pos (by omega) (Ev.ite_pos (by omega) (Ev.ite_pos c (Ev.now _))))
        · refine ⟨r, ?_, same_step (eq_link c) hri⟩
          refine Ev.step (fun k => by rw [spec_SameLinks.l0]) ?_
          refine Ev.ite_pos (by omega) (Ev.ite_pos (by omega) (Ev.ite_pos (by omega) (Ev.ite_neg c ?_)))
          rw [w64n (by omega)]
          exact hr
    obtain ⟨r, hr, hri⟩ := key a.length 0 (by omega)
    rw [← same_of hlen hri]
    exact hr
  · refine Ev.ite_neg (by omega) (Ev.some ?_)
    exact (sameL_no fun e => hlen (by rw [e])).symm
theorem sameI {a b : List S60} (ha : a.length ≤ 2000000) : Ev (fun k => impl_SameLinks.f k a b) (sameL a b) := by
  unfold impl_SameLinks.f
  refine Ev.bind (a := sameL a b) ?_ (Ev.now _)
  unfold impl_Link_68.f
  by_cases hlen : a.length = b.length
  · refine Ev.ite_pos (by omega) ?_
    have key : ∀ m i : Nat, i + m = a.length → ∃ r, Ev (fun k => impl_Link_68.l0 k a b (a.length : Int) (i : Int)) r ∧ (r = true ↔ ∀ j : Nat, i ≤ j → j < a.length → a.getD j z60 = b.getD j z60) := by
      intro m
      induction m with
      | zero =>
        intro i hi
        refine ⟨true, ?_, ?_⟩
        · refine Ev.step (fun k => by rw [impl_Link_68.l0]) ?_
          exact Ev.ite_neg (by omega) (Ev.now _)
        · simp only [true_iff]
          intro j h1 h2
          omega
      | succ m ih =>
        intro i hi
        obtain ⟨r, hr, hri⟩ := ih (i + 1) (by omega)
        by_cases c : (!((rd_T60 a (i : Int)).f0 == (rd_T60 b (i : Int)).f0) || !((rd_T60 a (i : Int)).f1 == (rd_T60 b (i : Int)).f1)) = true
        · refine ⟨false, ?_, Iff.intro (fun h => by cases h) (fun h => absurd (h i (by omega) (by omega)) (ne_link c))⟩
          refine Ev.step (fun k => by rw [impl_Link_68.l0]) ?_
          exact Ev.ite_pos (by omega) (Ev.ite_pos (by omega) (Ev.ite_pos (by omega) (Ev.ite_pos (by omega) (Ev.ite_pos c (Ev.now _)))))
        · refine ⟨r, ?_, same_step (eq_link c) hri⟩
          refine Ev.step (fun k => by rw [impl_Link_68.l0]) ?_
          refine Ev.ite_pos (by omega) (Ev.ite_pos (by omega) (Ev.ite_pos (by omega) (Ev.ite_pos (by omega) (Ev.ite_neg c ?_))))
          rw [w64n (by omega)]
          exact hr
    obtain ⟨r, hr, hri⟩ := key a.length 0 (by omega)
    rw [← same_of hlen hri]
    exact hr
  · refine Ev.ite_neg (by omega) (Ev.some ?_)
    exact (sameL_no fun e => hlen (by rw [e])).symm
/-- At a tick the links change. -/
noncomputable def chP (l : List S49) (a b t : Int) : Bool := decide (1 ≤ t ∧ a < t ∧ t < b) && !(sameL (linksAt l (t - 1)) (linksAt l t))
/-- The ticks below m at which the links change. -/
noncomputable def chTo (l : List S49) (a b : Int) (m : Nat) : List Int := ((List.range m).filter fun t : Nat => chP l a b (t : Int)).map fun t : Nat => (t : Int)
noncomputable def changes (l : List S49) (a b : Int) : List Int := chTo l a b 1000
theorem chTo_succ (l : List S49) (a b : Int) (m : Nat) : chTo l a b (m + 1) = if chP l a b (m : Int) = true then chTo l a b m ++ [(m : Int)] else chTo l a b m := by
  unfold chTo
  rw [List.range_succ, List.filter_append, List.map_append]
  by_cases c : chP l a b (m : Int) = true
  · simp [c]
  · simp [c]
theorem chTo_len (l : List S49) (a b : Int) (m : Nat) : (chTo l a b m).length ≤ m := by
  unfold chTo
  rw [List.length_map]
  exact Nat.le_trans (List.length_filter_le _ _) (by simp)
theorem changes_le (l : List S49) (a b : Int) : (changes l a b).length ≤ 1000 := by
  unfold changes
  exact chTo_len l a b 1000
theorem chTo_skip {l : List S49} {a b : Int} {m : Nat} : ∀ d, (∀ t : Nat, m ≤ t → t < m + d → chP l a b (t : Int) = false) → chTo l a b (m + d) = chTo l a b m
  | 0, _ => rfl
  | d + 1, h => by
    rw [← Nat.add_assoc, chTo_succ, if_neg (by rw [h (m + d) (by omega) (by omega)]; simp)]
    exact chTo_skip d fun t h1 h2 => h t h1 (by omega)
theorem chTo_none {l : List S49} {a b : Int} {m : Nat} (h : ∀ t : Nat, t < m → chP l a b (t : Int) = false) : chTo l a b m = [] := by
  have := chTo_skip (l := l) (a := a) (b := b) (m := 0) m fun t _ h2 => h t (by omega)
  rw [Nat.zero_add] at this
  rw [this]
  rfl
theorem chTo_all {l : List S49} {a b : Int} {m : Nat} (hm : m ≤ 1000) (h : ∀ t : Nat, m ≤ t → t < 1000 → chP l a b (t : Int) = false) : chTo l a b m = changes l a b := by
  have := chTo_skip (l := l) (a := a) (b := b) (m := m) (1000 - m) fun t h1 h2 => h t h1 (by omega)
  rw [show m + (1000 - m) = 1000 by omega] at this
  exact this.symm
theorem chP_out {l : List S49} {a b t : Int} (h : ¬ (1 ≤ t ∧ a < t ∧ t < b)) : chP l a b t = false := by
  unfold chP
  rw [decide_eq_false h]
  rfl
theorem chP_in {l : List S49} {a b t : Int} (h : 1 ≤ t ∧ a < t ∧ t < b) : chP l a b t = !(sameL (linksAt l (t - 1)) (linksAt l t)) := by
  unfold chP
  rw [decide_eq_true h]
  rfl
theorem changesS {l : List S49} (hl : l.length ≤ 1048576) (a b : Int) : Ev (fun k => spec_ChangesOf.f k l a b) (changes l a b) := by
  have mxS : ∀ x y : Int, spec_Max.f x y = some (max x y) := by
    intro x y
    unfold spec_Max.f
    split
    · congr 1
      omega
    · congr 1
      omega
  have mnS : ∀ x y : Int, spec_Min.f x y = some (min x y) := by
    intro x y
    unfold spec_Min.f
    split
    · congr 1
      omega
    · congr 1
      omega
  have key : ∀ m i : Nat, 1 ≤ i → a < i → (i : Int) ≤ 1000 → (min 1000 b : Int) ≤ i + m → Ev (fun k => spec_ChangesOf.l0 k l (chTo l a b i) (min 1000 b) (i : Int)) (changes l a b) := by
    intro m
    induction m with
    | zero =>
      intro i h1 h2 h3 h4
      refine Ev.step (fun k => by rw [spec_ChangesOf.l0]) ?_
      exact Ev.ite_neg (by omega) (Ev.some (chTo_all (by omega) fun t _ _ => chP_out (by omega)))
    | succ m ih =>
      intro i h1 h2 h3 h4
      by_cases c : (i : Int) < min 1000 b
      · have h := ih (i + 1) (by omega) (by omega) (by omega) (by omega)
        rw [chTo_succ, chP_in ⟨by omega, h2, by omega⟩] at h
        have hlen := chTo_len l a b i
        refine Ev.step (fun k => by rw [spec_ChangesOf.l0]) ?_
        refine Ev.ite_pos c ?_
        rw [w64 (x := (i : Int) - 1) (by omega) (by omega), w64n (by omega)]
        refine Ev.bind (linksS hl _) (Ev.bind (linksS hl _) (Ev.bind (sameS (by have := linksAt_len l ((i : Int) - 1); omega)) ?_))
        by_cases s : sameL (linksAt l ((i : Int) - 1)) (linksAt l (i : Int)) = true
        · rw [s, if_neg (by simp)] at h
          exact Ev.ite_pos s h
        · rw [Bool.eq_false_iff.2 s, if_pos (show (!false) = true from rfl)] at h
          exact Ev.ite_neg s (Ev.ite_pos (by omega) h)
      · refine Ev.step (fun k => by rw [spec_ChangesOf.l0]) ?_
        exact Ev.ite_neg c (Ev.some (chTo_all (by omega) fun t _ _ => chP_out (by omega)))
  unfold spec_ChangesOf.f
  refine Ev.bind0 (mxS 0 a) (Ev.bind0 (mnS 1000 _) (Ev.bind0 (mnS 1000 b) ?_))
  rw [w64 (x := min 1000 (max 0 a) + 1) (by omega) (by omega)]
  by_cases c : a ≤ 999
  · have h := key 1000 ((min 1000 (max 0 a)).toNat + 1) (by omega) (by omega) (by omega) (by omega)
    rw [chTo_none (fun t ht => chP_out (by omega)), show (((min 1000 (max 0 a)).toNat + 1 : Nat) : Int) = min 1000 (max 0 a) + 1 by omega] at h
    exact h
  · refine Ev.step (fun k => by rw [spec_ChangesOf.l0]) ?_
    refine Ev.ite_neg (by omega) (Ev.some ?_)
    unfold changes
    rw [chTo_none]
    exact fun t ht => chP_out (by omega)
theorem changesI {l : List S49} (hl : l.length ≤ 1048576) (a b : Int) : Ev (fun k => impl_ChangesOf.f k l a b) (changes l a b) := by
  have key : ∀ m i : Nat, 1 ≤ i → (i : Int) ≤ 1000 → (min b 1000 : Int) ≤ i + m → Ev (fun k => impl_ChangesOf.l0 k l a b (chTo l a b i) (i : Int)) (changes l a b) := by
    intro m
    induction m with
    | zero =>
      intro i h1 h3 h4
      refine Ev.step (fun k => by rw [impl_ChangesOf.l0]) ?_
      rw [mn_def]
      exact Ev.ite_neg (by omega) (Ev.some (chTo_all (by omega) fun t _ _ => chP_out (by omega)))
    | succ m ih =>
      intro i h1 h3 h4
      by_cases c : (i : Int) < min b 1000
      · have h := ih (i + 1) (by omega) (by omega) (by omega)
        have hlen := chTo_len l a b i
        rw [chTo_succ] at h
        refine Ev.step (fun k => by rw [impl_ChangesOf.l0]) ?_
        rw [mn_def, w64n (by omega), w64 (x := (i : Int) - 1) (by omega) (by omega)]
        refine Ev.ite_pos c ?_
        by_cases c2 : (i : Int) > a
        · rw [chP_in ⟨by omega, c2, by omega⟩] at h
          refine Ev.ite_pos c2 (Ev.bind (linksI hl _) (Ev.bind (linksI hl _) (Ev.bind (sameI (by have := linksAt_len l (i : Int); omega)) ?_)))
          by_cases s : sameL (linksAt l (i : Int)) (linksAt l ((i : Int) - 1)) = true
          · rw [sameL_symm, s, if_neg (by simp)] at h
            exact Ev.ite_pos s h
          · rw [sameL_symm, Bool.eq_false_iff.2 s, if_pos (show (!false) = true from rfl)] at h
            exact Ev.ite_neg s (Ev.ite_pos (by omega) h)
        · rw [chP_out (by omega), if_neg (by simp)] at h
          exact Ev.ite_neg c2 h
      · refine Ev.step (fun k => by rw [impl_ChangesOf.l0]) ?_
        rw [mn_def]
        exact Ev.ite_neg c (Ev.some (chTo_all (by omega) fun t _ _ => chP_out (by omega)))
  have h := key 1000 1 (by omega) (by omega) (by omega)
  rw [chTo_none (fun t ht => chP_out (by omega))] at h
  exact h
/-! ### pieces -/
def spansOf (a : Int) : List Int → List S43
  | [] => []
  | c :: cs => ⟨a, c⟩ :: spansOf c cs
theorem spansOf_len : ∀ (a : Int) (cs : List Int), (spansOf a cs).length = cs.length
  | _, [] => rfl
  | _, c :: cs => by rw [spansOf, List.length_cons, List.length_cons, spansOf_len c cs]
noncomputable def pieces (l : List S49) (a b : Int) : List S43 := if spanQ a b = true then spansOf a (changes l a b ++ [b]) else []
theorem piecesS {l : List S49} (hl : l.length ≤ 1048576) (a b : Int) : Ev (fun k => spec_PiecesOf.f k l a b) (pieces l a b) := by
  have key : ∀ (ys cs : List Int) (i : Nat) (x : Int) (acc : List S43), cs.drop i = ys → i ≤ cs.length → cs.length ≤ 2000 → acc.length ≤ i → Ev (fun k => spec_PiecesOf.l0 k acc x cs (i : Int)) (acc ++ spansOf x ys) := by
    intro ys
    induction ys with
    | nil =>
      intro cs i x acc hy hi hc ha
      have := List.drop_eq_nil_iff.1 hy
      refine Ev.step (fun k => by rw [spec_PiecesOf.l0]) ?_
      refine Ev.ite_neg (by omega) (Ev.some ?_)
      simp [spansOf]
    | cons y ys ih =>
      intro cs i x acc hy hi hc ha
      obtain ⟨hi', hg, hy'⟩ := drop_cons (z := 0) hy
      have h := ih cs (i + 1) y (acc ++ [⟨x, y⟩]) hy' (by omega) hc (by rw [List.length_append, List.length_singleton]; omega)
      rw [List.append_assoc] at h
      refine Ev.step (fun k => by rw [spec_PiecesOf.l0]) ?_
      refine Ev.ite_pos (by omega) (Ev.ite_pos (by omega) (Ev.ite_pos (by omega) ?_))
      rw [rd_nat, hg, w64n (by omega)]
      exact h
  unfold spec_PiecesOf.f pieces
  refine Ev.bind0 rfl (Ev.bind0 (spanS a b) ?_)
  have hlen := changes_le l a b
  by_cases c : spanQ a b = true
  · rw [if_pos c]
    have h := key (changes l a b ++ [b]) (changes l a b ++ [b]) 0 a [] (List.drop_zero) (Nat.zero_le _) (by rw [List.length_append, List.length_singleton]; omega) (Nat.le_refl _)
    rw [List.nil_append] at h
    exact Ev.ite_pos c (Ev.bind (changesS hl a b) (Ev.ite_pos (by omega) h))
  · rw [if_neg c]
    exact Ev.ite_neg c (Ev.now _)
theorem piecesI {l : List S49} (hl : l.length ≤ 1048576) (a b : Int) : Ev (fun k => impl_PiecesOf.f k l a b) (pieces l a b) := by
  have key : ∀ (ys cs : List Int) (i : Nat) (x : Int) (acc : List S43), cs.drop i = ys → i ≤ cs.length → cs.length ≤ 2000 → acc.length ≤ i → Ev (fun k => impl_PiecesOf.l0 k x acc cs (cs.length : Int) (i : Int)) (acc ++ spansOf x ys) := by
    intro ys
    induction ys with
    | nil =>
      intro cs i x acc hy hi hc ha
      have := List.drop_eq_nil_iff.1 hy
      refine Ev.step (fun k => by rw [impl_PiecesOf.l0]) ?_
      refine Ev.ite_neg (by omega) (Ev.some ?_)
      simp [spansOf]
    | cons y ys ih =>
      intro cs i x acc hy hi hc ha
      obtain ⟨hi', hg, hy'⟩ := drop_cons (z := 0) hy
      have h := ih cs (i + 1) y (acc ++ [⟨x, y⟩]) hy' (by omega) hc (by rw [List.length_append, List.length_singleton]; omega)
      rw [List.append_assoc] at h
      refine Ev.step (fun k => by rw [impl_PiecesOf.l0]) ?_
      refine Ev.ite_pos (by omega) (Ev.ite_pos (by omega) (Ev.ite_pos (by omega) (Ev.ite_pos (by omega) ?_)))
      rw [rd_nat, hg, w64n (by omega)]
      exact h
  unfold impl_PiecesOf.f pieces
  refine Ev.bind0 rfl (Ev.bind0 (spanI a b) ?_)
  have hlen := changes_le l a b
  by_cases c : spanQ a b = true
  · rw [if_pos c]
    have h := key (changes l a b ++ [b]) (changes l a b ++ [b]) 0 a [] (List.drop_zero) (Nat.zero_le _) (by rw [List.length_append, List.length_singleton]; omega) (Nat.le_refl _)
    rw [List.nil_append] at h
    exact Ev.ite_pos c (Ev.bind (changesI hl a b) (Ev.ite_pos (by omega) (Ev.bind0 rfl h)))
  · rw [if_neg c]
    exact Ev.ite_neg c (Ev.now _)
/-! ### tables and programs -/
def tabOf (l : List S60) (n first d : Int) : S63 := ⟨d, dists l n first d, nextsTo l n first d⟩
def tabs (l : List S60) (n first : Int) : List S63 := (List.range n.toNat).map fun d : Nat => tabOf l n first (d : Int)
theorem tabsS {l : List S60} (hl : l.length ≤ 1048576) {n : Int} (hn : 0 ≤ n ∧ n ≤ 100) (first : Int) : Ev (fun k => spec_l17Tables.f k l n first) (tabs l n first) := by
  have key : ∀ m i : Nat, i + m = n.toNat → Ev (fun k => spec_l17Tables.l0 k l n first ((List.range i).map fun d => tabOf l n first ((d : Nat) : Int)) (i : Int)) (tabs l n first) := by
    intro m
    induction m with
    | zero =>
      intro i hi
      obtain rfl : i = n.toNat := by omega
      refine Ev.step (fun k => by rw [spec_l17Tables.l0]) ?_
      exact Ev.ite_neg (by omega) (Ev.now _)
    | succ m ih =>
      intro i hi
      have h := ih (i + 1) (by omega)
      rw [List.range_succ, List.map_append] at h
      refine Ev.step (fun k => by rw [spec_l17Tables.l0]) ?_
      refine Ev.ite_pos (by omega) (Ev.bind (tableS hl n first (i : Int)) (Ev.ite_pos (by simp; omega) ?_))
      rw [w64n (by omega)]
      exact h
  exact key n.toNat 0 (by omega)
theorem tabsI {l : List S60} (hl : l.length ≤ 1048576) {n : Int} (hn : 0 ≤ n ∧ n ≤ 100) (first : Int) : Ev (fun k => impl_tablesOf.f k l n first) (tabs l n first) := by
  have key : ∀ m i : Nat, i + m = n.toNat → Ev (fun k => impl_tablesOf.l0 k l n first ((List.range i).map fun d => tabOf l n first ((d : Nat) : Int)) n (i : Int)) (tabs l n first) := by
    intro m
    induction m with
    | zero =>
      intro i hi
      obtain rfl : i = n.toNat := by omega
      refine Ev.step (fun k => by rw [impl_tablesOf.l0]) ?_
      exact Ev.ite_neg (by omega) (Ev.now _)
    | succ m ih =>
      intro i hi
      have h := ih (i + 1) (by omega)
      rw [List.range_succ, List.map_append] at h
      refine Ev.step (fun k => by rw [impl_tablesOf.l0]) ?_
      refine Ev.ite_pos (by omega) (Ev.bind (tableI hl n first (i : Int)) (Ev.ite_pos (by simp; omega) ?_))
      rw [w64n (by omega)]
      exact h
  exact key n.toNat 0 (by omega)
def pcOf (plan : List S49) (n first : Int) (s : S43) : S47 := ⟨⟨s.f0, s.f1⟩, linksAt plan s.f0, tabs (linksAt plan s.f0) n first⟩
def Frame (n first skew : Int) : Prop := (1 ≤ n ∧ n ≤ 12) ∧ (0 ≤ first ∧ first ≤ n) ∧ 0 ≤ skew ∧ skew ≤ 5
instance (n first skew : Int) : Decidable (Frame n first skew) := by unfold Frame; infer_instance
theorem frameS (n first skew : Int) : spec_l17Frame.f n first skew = some (decide (Frame n first skew)) := by
  unfold spec_l17Frame.f
  rw [inP, Option.bind_some, inP, Option.bind_some, inP, Option.bind_some]
  by_cases c1 : 1 ≤ n ∧ n ≤ 12
  · rw [if_pos (decide_eq_true c1)]
    by_cases c2 : 0 ≤ first ∧ first ≤ n
    · rw [if_pos (decide_eq_true c2)]
      congr 1
      rw [decide_eq_decide]
      unfold Frame
      exact ⟨fun h => ⟨c1, c2, h⟩, fun h => h.2.2⟩
    · rw [if_neg (by simpa using c2), eq_comm]
      congr 1
      rw [decide_eq_false_iff_not]
      exact fun h => c2 h.2.1
  · rw [if_neg (by simpa using c1), eq_comm]
    congr 1
    rw [decide_eq_false_iff_not]
    exact fun h => c1 h.1
theorem frameI (n first skew : Int) : impl_isFrame.f n first skew = some (decide (Frame n first skew)) := by
  unfold impl_isFrame.f impl_isNumber.f
  rw [rgP, Option.bind_some, Option.bind_some, rgP, Option.bind_some, rgP, Option.bind_some]
  by_cases c1 : 1 ≤ n ∧ n ≤ 12
  · rw [if_pos (decide_eq_true c1)]
    by_cases c2 : 0 ≤ first ∧ first ≤ n
    · rw [if_pos (decide_eq_true c2)]
      congr 1
      rw [decide_eq_decide]
      unfold Frame
      exact ⟨fun h => ⟨c1, c2, h⟩, fun h => h.2.2⟩
    · rw [if_neg (by simpa using c2), eq_comm]
      congr 1
      rw [decide_eq_false_iff_not]
      exact fun h => c2 h.2.1
  · rw [if_neg (by simpa using c1), eq_comm]
    congr 1
    rw [decide_eq_false_iff_not]
    exact fun h => c1 h.1
def BuildOk (plan : List S49) (n first a b skew : Int) : Prop := Frame n first skew ∧ PlanOk n plan ∧ 1 ≤ (pieces plan a b).length ∧ (pieces plan a b).length ≤ 40
/-- The program of a plan. -/
noncomputable def build (plan : List S49) (n first a b skew : Int) : Int × Int × Int × List S47 × Bool :=
  @ite _ (BuildOk plan n first a b skew) (Classical.propDecidable _) (n, first, skew, (pieces plan a b).map (pcOf plan n first), true) (0, 0, 0, [], false)
theorem build_yes {plan : List S49} {n first a b skew : Int} (h : BuildOk plan n first a b skew) : build plan n first a b skew = (n, first, skew, (pieces plan a b).map (pcOf plan n first), true) := @if_pos _ (Classical.propDecidable _) h _ _ _
theorem build_no {plan : List S49} {n first a b skew : Int} (h : ¬ BuildOk plan n first a b skew) : build plan n first a b skew = (0, 0, 0, [], false) := @if_neg _ (Classical.propDecidable _) h _ _ _
theorem rdSp (l : List S43) (i : Nat) : rd_T43 l (i : Int) = l.getD i z43 := rfl
theorem buildS {plan : List S49} (hl : plan.length ≤ 1048576) (n first a b skew : Int) : Ev (fun k => spec_BuildProgram.f k plan n first a b skew) (build plan n first a b skew) := by
  unfold spec_BuildProgram.f
  refine Ev.bind0 (frameS n first skew) ?_
  by_cases c1 : Frame n first skew
  · refine Ev.ite_pos (decide_eq_true c1) (Ev.bind (planS hl) ?_)
    by_cases c2 : PlanOk n plan
    · rw [planB_iff.2 c2]
      refine Ev.step (fun k => by rw [spec_BuildProgram.j0]) ?_
      refine Ev.ite_neg (by simp) (Ev.bind (piecesS hl a b) (Ev.bind0 (inP _ 1 40) ?_))
      by_cases c3 : 1 ≤ (pieces plan a b).length ∧ (pieces plan a b).length ≤ 40
      · refine Ev.ite_pos (decide_eq_true (by omega)) ?_
        rw [build_yes ⟨c1, c2, c3⟩]
        have hn : 0 ≤ n ∧ n ≤ 100 := by unfold Frame at c1; omega
        have key : ∀ m i : Nat, i + m = (pieces plan a b).length → Ev (fun k => spec_BuildProgram.l0 k plan n first (pieces plan a b) (i : Int) n first skew (((pieces plan a b).take i).map (pcOf plan n first))) (n, first, skew, (pieces plan a b).map (pcOf plan n first), true) := by
          intro m
          induction m with
          | zero =>
            intro i hi
            rw [List.take_of_length_le (by omega)]
            refine Ev.step (fun k => by rw [spec_BuildProgram.l0]) ?_
            exact Ev.ite_neg (by omega) (Ev.now _)
          | succ m ih =>
            intro i hi
            have h := ih (i + 1) (by omega)
            rw [take_succ_getD (show i < (pieces plan a b).length by omega) z43, List.map_append] at h
            refine Ev.step (fun k => by rw [spec_BuildProgram.l0]) ?_
            refine Ev.ite_pos (by omega) (Ev.ite_pos (by omega) ?_)
            rw [rdSp, w64n (by omega)]
            refine Ev.bind (linksS hl _) (Ev.bind (tabsS (by have := linksAt_len plan ((pieces plan a b).getD i z43).f0; omega) hn first) (Ev.ite_pos (by simp; omega) h))
        exact key (pieces plan a b).length 0 (by omega)
      · refine Ev.ite_neg (by rw [decide_eq_true_iff]; omega) ?_
        rw [build_no fun h => c3 h.2.2]
        exact Ev.now _
    · rw [Bool.eq_false_iff.2 (fun h => c2 (planB_iff.1 h)), build_no fun h => c2 h.2.1]
      refine Ev.step (fun k => by rw [spec_BuildProgram.j0]) ?_
      exact Ev.ite_pos (by simp) (Ev.now _)
  · refine Ev.ite_neg (by simpa using c1) ?_
    rw [build_no fun h => c1 h.1]
    refine Ev.step (fun k => by rw [spec_BuildProgram.j0]) ?_
    exact Ev.ite_pos rfl (Ev.now _)
theorem buildI {plan : List S49} (hl : plan.length ≤ 1048576) (n first a b skew : Int) : Ev (fun k => impl_BuildProgram.f k plan n first a b skew) (build plan n first a b skew) := by
  unfold impl_BuildProgram.f
  refine Ev.bind0 (frameI n first skew) ?_
  by_cases c1 : Frame n first skew
  · refine Ev.ite_pos (decide_eq_true c1) (Ev.bind (planI hl) ?_)
    by_cases c2 : PlanOk n plan
    · rw [planB_iff.2 c2]
      refine Ev.step (fun k => by rw [impl_BuildProgram.j0]) ?_
      refine Ev.ite_neg (by simp) (Ev.bind (piecesI hl a b) (Ev.bind0 (rgP _ 1 40) ?_))
      by_cases c3 : 1 ≤ (pieces plan a b).length ∧ (pieces plan a b).length ≤ 40
      · refine Ev.ite_pos (decide_eq_true (by omega)) ?_
        rw [build_yes ⟨c1, c2, c3⟩]
        have hn : 0 ≤ n ∧ n ≤ 100 := by unfold Frame at c1; omega
        have key : ∀ m i : Nat, i + m = (pieces plan a b).length → Ev (fun k => impl_BuildProgram.l0 k plan n first (pieces plan a b) ((pieces plan a b).length : Int) (i : Int) n first skew (((pieces plan a b).take i).map (pcOf plan n first))) (n, first, skew, (pieces plan a b).map (pcOf plan n first), true) := by
          intro m
          induction m with
          | zero =>
            intro i hi
            rw [List.take_of_length_le (by omega)]
            refine Ev.step (fun k => by rw [impl_BuildProgram.l0]) ?_
            exact Ev.ite_neg (by omega) (Ev.now _)
          | succ m ih =>
            intro i hi
            have h := ih (i + 1) (by omega)
            rw [take_succ_getD (show i < (pieces plan a b).length by omega) z43, List.map_append] at h
            refine Ev.step (fun k => by rw [impl_BuildProgram.l0]) ?_
            refine Ev.ite_pos (by omega) (Ev.ite_pos (by omega) (Ev.ite_pos (by omega) ?_))
            rw [rdSp, w64n (by omega)]
            refine Ev.bind (linksI hl _) (Ev.bind (tabsI (by have := linksAt_len plan ((pieces plan a b).getD i z43).f0; omega) hn first) (Ev.ite_pos (by simp; omega) h))
        exact key (pieces plan a b).length 0 (by omega)
      · refine Ev.ite_neg (by rw [decide_eq_true_iff]; omega) ?_
        rw [build_no fun h => c3 h.2.2]
        exact Ev.now _
    · rw [Bool.eq_false_iff.2 (fun h => c2 (planB_iff.1 h)), build_no fun h => c2 h.2.1]
      refine Ev.step (fun k => by rw [impl_BuildProgram.j0]) ?_
      exact Ev.ite_pos (by simp) (Ev.now _)
  · refine Ev.ite_neg (by simpa using c1) ?_
    rw [build_no fun h => c1 h.1]
    refine Ev.step (fun k => by rw [impl_BuildProgram.j0]) ?_
    exact Ev.ite_pos rfl (Ev.now _)
end Go.Proofs.Ytcjlbgbenjmkgaa.fnExactBuildProgram
/- The helpers of the law FnExactBuildProgram: sizes, conversions, equality with itself. Conditions: none. -/
namespace Go.Proofs.Ytcjlbgbenjmkgaa.fnExactBuildProgram
open Go.RowKit Go.Proofs.YtcjlbgbenjmkgaaW.PrintWords Go.Proofs.YtcjlbgbenjmkgaaW.PrintLast Go.Proofs.YtcjlbgbenjmkgaaW.PrintMore Go.Proofs.Ytcjlbgbenjmkgaa.QFnExactBuildProgram Go.Proofs.Ytcjlbgbenjmkgaa.Open Go.Proofs.Ytcjlbgbenjmkgaa.Kit
def cContact (x : S51) : S49 := ⟨x.f0, x.f1, x.f2, x.f3⟩
theorem sz_ContactS (l : List S51) (left : Int) (hb : l.length ≤ 140737488351232) (h0 : 0 ≤ left) (h1 : left ≤ 1048576) : laws_szContactS.f l left = some (szOf left l.length) := by
  unfold laws_szContactS.f szOf
  rw [w64 (by omega) (by omega)]
  by_cases h : (l.length : Int) ≤ left
  · rw [if_neg (by omega), if_pos h]
  · rw [if_pos (by omega), if_neg h]
theorem to_Contact (x : S51) : laws_toContact.f (x.f0) (x.f1) (x.f2) (x.f3) = some (x.f0, x.f1, x.f2, x.f3) := by
  unfold laws_toContact.f
  rfl
theorem to_ContactS (l : List S51) (hn : l.length ≤ 1048576) : Ev (fun k => laws_toContactS.f k l) (l.map cContact) := by
  unfold laws_toContactS.f
  repeat (first | (with_reducible refine Ev.ite_pos (by omega) ?_) | (with_reducible refine Ev.ite_neg (by omega) ?_))
  rw [Int.toNat_natCast, ← fillTo_zero cContact z49 l]
  refine Ev.up (n := l.length) (g := fun i k => laws_toContactS.l0 k l (fillTo cContact z49 l i) (i : Int)) ?_ ?_
  · intro i hi ih
    have hlen := fillTo_length cContact z49 l (Nat.le_of_lt hi)
    rw [← fillTo_set cContact z49 l hi z51] at ih
    refine Ev.step (fun k => by rw [laws_toContactS.l0]) ?_
    repeat (first | (with_reducible refine Ev.ite_pos (by omega) ?_) | (with_reducible refine Ev.ite_neg (by omega) ?_))
    refine Ev.bind0 (to_Contact (l.getD i z51)) ?_
    repeat (first | (with_reducible refine Ev.ite_pos (by omega) ?_) | (with_reducible refine Ev.ite_neg (by omega) ?_))
    rw [Int.toNat_natCast, w64n (by omega)]
    exact ih
  · refine Ev.step (fun k => by rw [laws_toContactS.l0]) ?_
    repeat (first | (with_reducible refine Ev.ite_pos (by omega) ?_) | (with_reducible refine Ev.ite_neg (by omega) ?_))
    refine Ev.some ?_
    rw [fillTo_all]
theorem eq_Span (x : S43) : laws_eqSpan.f (x.f0) (x.f1) (x.f0) (x.f1) = some true := by
  unfold laws_eqSpan.f
  simp
theorem eq_Link (x : S60) : laws_eqLink.f (x.f0) (x.f1) (x.f0) (x.f1) = some true := by
  unfold laws_eqLink.f
  simp
theorem eq_LinkS (l : List S60) (hn : l.length ≤ 1048576) : Ev (fun k => laws_eqLinkS.f k l l) true := by
  unfold laws_eqLinkS.f
  refine Ev.ite_pos rfl ?_
  refine Ev.up (n := l.length) (g := fun i k => laws_eqLinkS.l0 k l l (i : Int)) ?_ ?_
  · intro i hi ih
    refine Ev.step (fun k => by rw [laws_eqLinkS.l0]) ?_
    repeat (first | (with_reducible refine Ev.ite_pos (by omega) ?_) | (with_reducible refine Ev.ite_neg (by omega) ?_))
    refine Ev.bind0 (eq_Link (l.getD i z60)) ?_
    refine Ev.ite_pos rfl ?_
    rw [w64n (by omega)]
    exact ih
  · refine Ev.step (fun k => by rw [laws_eqLinkS.l0]) ?_
    repeat (first | (with_reducible refine Ev.ite_pos (by omega) ?_) | (with_reducible refine Ev.ite_neg (by omega) ?_))
    exact Ev.now _
theorem eq_IntS (l : List Int) (hn : l.length ≤ 2097152) : Ev (fun k => laws_eqIntS.f k l l) true := by
  unfold laws_eqIntS.f
  refine Ev.ite_pos rfl ?_
  refine Ev.up (n := l.length) (g := fun i k => laws_eqIntS.l0 k l l (i : Int)) ?_ ?_
  · intro i hi ih
    refine Ev.step (fun k => by rw [laws_eqIntS.l0]) ?_
    repeat (first | (with_reducible refine Ev.ite_pos (by omega) ?_) | (with_reducible refine Ev.ite_neg (by omega) ?_))
    rw [w64n (by omega)]
    exact ih
  · refine Ev.step (fun k => by rw [laws_eqIntS.l0]) ?_
    repeat (first | (with_reducible refine Ev.ite_pos (by omega) ?_) | (with_reducible refine Ev.ite_neg (by omega) ?_))
    exact Ev.now _
def n63 (x : S63) : Nat := x.f1.length + x.f2.length
def n47 (x : S47) : Nat := x.f1.length + (x.f2.length + (x.f2.map n63).sum)
theorem eq_Table (x : S63) (hn : n63 x ≤ 1048576) : Ev (fun k => laws_eqTable.f k (x.f0) (x.f1) (x.f2) (x.f0) (x.f1) (x.f2)) true := by
  unfold n63 at hn
  unfold laws_eqTable.f
  refine Ev.ite_pos rfl ?_
  refine Ev.bind (eq_IntS (x.f1) (by omega)) ?_
  refine Ev.ite_pos rfl ?_
  refine Ev.bind (eq_IntS (x.f2) (by omega)) ?_
  refine Ev.ite_pos rfl ?_
  exact Ev.now _
theorem eq_TableS (l : List S63) (hn : (l.length + (l.map n63).sum) ≤ 1048576) : Ev (fun k => laws_eqTableS.f k l l) true := by
  unfold laws_eqTableS.f
  refine Ev.ite_pos rfl ?_
  refine Ev.up (n := l.length) (g := fun i k => laws_eqTableS.l0 k l l (i : Int)) ?_ ?_
  · intro i hi ih
    refine Ev.step (fun k => by rw [laws_eqTableS.l0]) ?_
    repeat (first | (with_reducible refine Ev.ite_pos (by omega) ?_) | (with_reducible refine Ev.ite_neg (by omega) ?_))
    have hm := le_sum n63 (getD_mem hi z63)
    refine Ev.bind (eq_Table (l.getD i z63) (by omega)) ?_
    refine Ev.ite_pos rfl ?_
    rw [w64n (by omega)]
    exact ih
  · refine Ev.step (fun k => by rw [laws_eqTableS.l0]) ?_
    repeat (first | (with_reducible refine Ev.ite_pos (by omega) ?_) | (with_reducible refine Ev.ite_neg (by omega) ?_))
    exact Ev.now _
theorem eq_Piece (x : S47) (hn : n47 x ≤ 1048576) : Ev (fun k => laws_eqPiece.f k (x.f0.f0) (x.f0.f1) (x.f1) (x.f2) (x.f0.f0) (x.f0.f1) (x.f1) (x.f2)) true := by
  unfold n47 at hn
  unfold laws_eqPiece.f
  refine Ev.bind0 (eq_Span (x.f0)) ?_
  refine Ev.ite_pos rfl ?_
  refine Ev.bind (eq_LinkS (x.f1) (by omega)) ?_
  refine Ev.ite_pos rfl ?_
  refine Ev.bind (eq_TableS (x.f2) (by omega)) ?_
  refine Ev.ite_pos rfl ?_
  exact Ev.now _
theorem eq_PieceS (l : List S47) (hn : (l.length + (l.map n47).sum) ≤ 1048576) : Ev (fun k => laws_eqPieceS.f k l l) true := by
  unfold laws_eqPieceS.f
  refine Ev.ite_pos rfl ?_
  refine Ev.up (n := l.length) (g := fun i k => laws_eqPieceS.l0 k l l (i : Int)) ?_ ?_
  · intro i hi ih
    refine Ev.step (fun k => by rw [laws_eqPieceS.l0]) ?_
    repeat (first | (with_reducible refine Ev.ite_pos (by omega) ?_) | (with_reducible refine Ev.ite_neg (by omega) ?_))
    have hm := le_sum n47 (getD_mem hi z47)
    refine Ev.bind (eq_Piece (l.getD i z47) (by omega)) ?_
    refine Ev.ite_pos rfl ?_
    rw [w64n (by omega)]
    exact ih
  · refine Ev.step (fun k => by rw [laws_eqPieceS.l0]) ?_
    repeat (first | (with_reducible refine Ev.ite_pos (by omega) ?_) | (with_reducible refine Ev.ite_neg (by omega) ?_))
    exact Ev.now _
theorem eq_Contact (x : S49) : laws_eqContact.f (x.f0) (x.f1) (x.f2) (x.f3) (x.f0) (x.f1) (x.f2) (x.f3) = some true := by
  unfold laws_eqContact.f
  simp
theorem eq_ContactS (l : List S49) (hn : l.length ≤ 1048576) : Ev (fun k => laws_eqContactS.f k l l) true := by
  unfold laws_eqContactS.f
  refine Ev.ite_pos rfl ?_
  refine Ev.up (n := l.length) (g := fun i k => laws_eqContactS.l0 k l l (i : Int)) ?_ ?_
  · intro i hi ih
    refine Ev.step (fun k => by rw [laws_eqContactS.l0]) ?_
    repeat (first | (with_reducible refine Ev.ite_pos (by omega) ?_) | (with_reducible refine Ev.ite_neg (by omega) ?_))
    refine Ev.bind0 (eq_Contact (l.getD i z49)) ?_
    refine Ev.ite_pos rfl ?_
    rw [w64n (by omega)]
    exact ih
  · refine Ev.step (fun k => by rw [laws_eqContactS.l0]) ?_
    repeat (first | (with_reducible refine Ev.ite_pos (by omega) ?_) | (with_reducible refine Ev.ite_neg (by omega) ?_))
    exact Ev.now _
theorem eq_Program (a0 : Int) (a1 : Int) (a2 : Int) (a3 : (List S47)) (hn : (a3.length + (a3.map n47).sum) ≤ 1048576) : Ev (fun k => laws_eqProgram.f k a0 a1 a2 a3 a0 a1 a2 a3) true := by
  unfold laws_eqProgram.f
  refine Ev.ite_pos rfl ?_
  refine Ev.ite_pos rfl ?_
  refine Ev.ite_pos rfl ?_
  refine Ev.bind (eq_PieceS a3 (by omega)) ?_
  refine Ev.ite_pos rfl ?_
  exact Ev.now _
def mkContact (b : Int) : S49 := ⟨b, b + 1, b + 1 + 1, b + 1 + 1 + 1⟩
def cntContact (a : Int) (n : Nat) : List S49 := (List.range n).map fun j : Nat => mkContact (a + 4 * (j : Int))
theorem mark_ContactS (l : List S49) (a : Int) (h0 : 0 ≤ a) (h1 : a ≤ 1000000000) (hl : l.length ≤ 2097152) : Ev (fun k => laws_markContactS.f k l a) (a + 4 * (l.length : Int), cntContact a l.length) := by
  have e1 : cntContact a 0 ++ l.drop 0 = l := by simp [cntContact]
  have e2 : a + 4 * ((0 : Nat) : Int) = a := by omega
  show Ev (fun k => laws_markContactS.l0 k l a 0) _
  rw [show (fun k => laws_markContactS.l0 k l a 0) = (fun k => laws_markContactS.l0 k (cntContact a 0 ++ l.drop 0) (a + 4 * ((0 : Nat) : Int)) ((0 : Nat) : Int)) by rw [e1, e2]; rfl]
  refine Ev.up (n := l.length) (g := fun i k => laws_markContactS.l0 k (cntContact a i ++ l.drop i) (a + 4 * (i : Int)) (i : Int)) ?_ ?_
  · intro i hi ih
    have hlen : (cntContact a i).length = i := by simp [cntContact]
    have hlen2 : (cntContact a i ++ l.drop i).length = l.length := by rw [List.length_append, hlen, List.length_drop]; omega
    refine Ev.step (fun k => by rw [laws_markContactS.l0]) ?_
    repeat (first | (with_reducible refine Ev.ite_pos (by omega) ?_) | (with_reducible refine Ev.ite_neg (by omega) ?_))
    rw [drop_getD hi z49]
    have w0 : wrap64 (a + 4 * (i : Int) + 1) = a + 4 * (i : Int) + 1 := w64 (by omega) (by omega)
    have w1 : wrap64 (a + 4 * (i : Int) + 1 + 1) = a + 4 * (i : Int) + 1 + 1 := w64 (by omega) (by omega)
    have w2 : wrap64 (a + 4 * (i : Int) + 1 + 1 + 1) = a + 4 * (i : Int) + 1 + 1 + 1 := w64 (by omega) (by omega)
    have w3 : wrap64 (a + 4 * (i : Int) + 1 + 1 + 1 + 1) = a + 4 * (i : Int) + 1 + 1 + 1 + 1 := w64 (by omega) (by omega)
    simp only [rd_T49, getD_mid _ _ _ _ hlen, Option.bind_some, Int.toNat_natCast, set_mid _ _ _ _ hlen, w0, w1, w2, w3, w64n (by omega : i ≤ 140737488351232)]
    have e3 : cntContact a (i + 1) ++ l.drop (i + 1) = cntContact a i ++ mkContact (a + 4 * (i : Int)) :: l.drop (i + 1) := by
      simp [cntContact, List.range_succ]
    have e4 : a + 4 * ((i + 1 : Nat) : Int) = a + 4 * (i : Int) + 1 + 1 + 1 + 1 := by omega
    rw [e3, e4] at ih
    exact ih
  · have hlen2 : (cntContact a l.length ++ l.drop l.length).length = l.length := by simp [cntContact]
    refine Ev.step (fun k => by rw [laws_markContactS.l0]) ?_
    repeat (first | (with_reducible refine Ev.ite_pos (by omega) ?_) | (with_reducible refine Ev.ite_neg (by omega) ?_))
    refine Ev.some ?_
    simp
def mkLink (b : Int) : S60 := ⟨b, b + 1⟩
def cntLink (a : Int) (n : Nat) : List S60 := (List.range n).map fun j : Nat => mkLink (a + 2 * (j : Int))
theorem mark_LinkS (l : List S60) (a : Int) (h0 : 0 ≤ a) (h1 : a ≤ 1000000000) (hl : l.length ≤ 2097152) : Ev (fun k => laws_markLinkS.f k l a) (a + 2 * (l.length : Int), cntLink a l.length) := by
  have e1 : cntLink a 0 ++ l.drop 0 = l := by simp [cntLink]
  have e2 : a + 2 * ((0 : Nat) : Int) = a := by omega
  show Ev (fun k => laws_markLinkS.l0 k l a 0) _
  rw [show (fun k => laws_markLinkS.l0 k l a 0) = (fun k => laws_markLinkS.l0 k (cntLink a 0 ++ l.drop 0) (a + 2 * ((0 : Nat) : Int)) ((0 : Nat) : Int)) by rw [e1, e2]; rfl]
  refine Ev.up (n := l.length) (g := fun i k => laws_markLinkS.l0 k (cntLink a i ++ l.drop i) (a + 2 * (i : Int)) (i : Int)) ?_ ?_
  · intro i hi ih
    have hlen : (cntLink a i).length = i := by simp [cntLink]
    have hlen2 : (cntLink a i ++ l.drop i).length = l.length := by rw [List.length_append, hlen, List.length_drop]; omega
    refine Ev.step (fun k => by rw [laws_markLinkS.l0]) ?_
    repeat (first | (with_reducible refine Ev.ite_pos (by omega) ?_) | (with_reducible refine Ev.ite_neg (by omega) ?_))
    rw [drop_getD hi z60]
    have w0 : wrap64 (a + 2 * (i : Int) + 1) = a + 2 * (i : Int) + 1 := w64 (by omega) (by omega)
    have w1 : wrap64 (a + 2 * (i : Int) + 1 + 1) = a + 2 * (i : Int) + 1 + 1 := w64 (by omega) (by omega)
    simp only [rd_T60, getD_mid _ _ _ _ hlen, Option.bind_some, Int.toNat_natCast, set_mid _ _ _ _ hlen, w0, w1, w64n (by omega : i ≤ 140737488351232)]
    have e3 : cntLink a (i + 1) ++ l.drop (i + 1) = cntLink a i ++ mkLink (a + 2 * (i : Int)) :: l.drop (i + 1) := by
      simp [cntLink, List.range_succ]
    have e4 : a + 2 * ((i + 1 : Nat) : Int) = a + 2 * (i : Int) + 1 + 1 := by omega
    rw [e3, e4] at ih
    exact ih
  · have hlen2 : (cntLink a l.length ++ l.drop l.length).length = l.length := by simp [cntLink]
    refine Ev.step (fun k => by rw [laws_markLinkS.l0]) ?_
    repeat (first | (with_reducible refine Ev.ite_pos (by omega) ?_) | (with_reducible refine Ev.ite_neg (by omega) ?_))
    refine Ev.some ?_
    simp
theorem held_LinkS (n : Nat) (a : Int) (h0 : 0 ≤ a) (h1 : a ≤ 1000000000) (hl : n ≤ 2097152) : Ev (fun k => laws_heldLinkS.f k (cntLink a n) a) (a + 2 * (n : Int)) := by
  have hlen : (cntLink a n).length = n := by simp [cntLink]
  have e2 : a + 2 * ((0 : Nat) : Int) = a := by omega
  show Ev (fun k => laws_heldLinkS.l0 k (cntLink a n) a 0) _
  rw [show (fun k => laws_heldLinkS.l0 k (cntLink a n) a 0) = (fun k => laws_heldLinkS.l0 k (cntLink a n) (a + 2 * ((0 : Nat) : Int)) ((0 : Nat) : Int)) by rw [e2]; rfl]
  refine Ev.up (n := n) (g := fun i k => laws_heldLinkS.l0 k (cntLink a n) (a + 2 * (i : Int)) (i : Int)) ?_ ?_
  · intro i hi ih
    have hg : rd_T60 (cntLink a n) (i : Int) = mkLink (a + 2 * (i : Int)) := map_range_getD _ hi _
    refine Ev.step (fun k => by rw [laws_heldLinkS.l0]) ?_
    repeat (first | (with_reducible refine Ev.ite_pos (by omega) ?_) | (with_reducible refine Ev.ite_neg (by omega) ?_))
    rw [hg]
    have w0 : wrap64 (a + 2 * (i : Int) + 1) = a + 2 * (i : Int) + 1 := w64 (by omega) (by omega)
    have w1 : wrap64 (a + 2 * (i : Int) + 1 + 1) = a + 2 * (i : Int) + 1 + 1 := w64 (by omega) (by omega)
    simp only [w0, w1, w64n (by omega : i ≤ 140737488351232)]
    refine Ev.ite_pos rfl ?_
    refine Ev.ite_pos rfl ?_
    have e4 : a + 2 * ((i + 1 : Nat) : Int) = a + 2 * (i : Int) + 1 + 1 := by omega
    rw [e4] at ih
    exact ih
  · refine Ev.step (fun k => by rw [laws_heldLinkS.l0]) ?_
    repeat (first | (with_reducible refine Ev.ite_pos (by omega) ?_) | (with_reducible refine Ev.ite_neg (by omega) ?_))
    exact Ev.now _
def cntInt (a : Int) (n : Nat) : List Int := (List.range n).map fun j : Nat => a + (j : Int)
theorem mark_IntS (l : List Int) (a : Int) (h0 : 0 ≤ a) (h1 : a ≤ 1000000000) (hl : l.length ≤ 2097152) : Ev (fun k => laws_markIntS.f k l a) (a + (l.length : Int), cntInt a l.length) := by
  have e1 : cntInt a 0 ++ l.drop 0 = l := by simp [cntInt]
  have e2 : a + ((0 : Nat) : Int) = a := by omega
  show Ev (fun k => laws_markIntS.l0 k l a 0) _
  rw [show (fun k => laws_markIntS.l0 k l a 0) = (fun k => laws_markIntS.l0 k (cntInt a 0 ++ l.drop 0) (a + ((0 : Nat) : Int)) ((0 : Nat) : Int)) by rw [e1, e2]; rfl]
  refine Ev.up (n := l.length) (g := fun i k => laws_markIntS.l0 k (cntInt a i ++ l.drop i) (a + (i : Int)) (i : Int)) ?_ ?_
  · intro i hi ih
    have hlen : (cntInt a i).length = i := by simp [cntInt]
    have hlen2 : (cntInt a i ++ l.drop i).length = l.length := by rw [List.length_append, hlen, List.length_drop]; omega
    refine Ev.step (fun k => by rw [laws_markIntS.l0]) ?_
    repeat (first | (with_reducible refine Ev.ite_pos (by omega) ?_) | (with_reducible refine Ev.ite_neg (by omega) ?_))
    rw [drop_getD hi 0]
    have w0 : wrap64 (a + (i : Int) + 1) = a + (i : Int) + 1 := w64 (by omega) (by omega)
    simp only [Int.toNat_natCast, set_mid _ _ _ _ hlen, w0, w64n (by omega : i ≤ 140737488351232)]
    have e3 : cntInt a (i + 1) ++ l.drop (i + 1) = cntInt a i ++ (a + (i : Int)) :: l.drop (i + 1) := by
      simp [cntInt, List.range_succ]
    have e4 : a + ((i + 1 : Nat) : Int) = a + (i : Int) + 1 := by omega
    rw [e3, e4] at ih
    exact ih
  · have hlen2 : (cntInt a l.length ++ l.drop l.length).length = l.length := by simp [cntInt]
    refine Ev.step (fun k => by rw [laws_markIntS.l0]) ?_
    repeat (first | (with_reducible refine Ev.ite_pos (by omega) ?_) | (with_reducible refine Ev.ite_neg (by omega) ?_))
    refine Ev.some ?_
    simp
theorem held_IntS (n : Nat) (a : Int) (h0 : 0 ≤ a) (h1 : a ≤ 1000000000) (hl : n ≤ 2097152) : Ev (fun k => laws_heldIntS.f k (cntInt a n) a) (a + (n : Int)) := by
  have hlen : (cntInt a n).length = n := by simp [cntInt]
  have e2 : a + ((0 : Nat) : Int) = a := by omega
  show Ev (fun k => laws_heldIntS.l0 k (cntInt a n) a 0) _
  rw [show (fun k => laws_heldIntS.l0 k (cntInt a n) a 0) = (fun k => laws_heldIntS.l0 k (cntInt a n) (a + ((0 : Nat) : Int)) ((0 : Nat) : Int)) by rw [e2]; rfl]
  refine Ev.up (n := n) (g := fun i k => laws_heldIntS.l0 k (cntInt a n) (a + (i : Int)) (i : Int)) ?_ ?_
  · intro i hi ih
    have hg : rd (cntInt a n) (i : Int) = a + (i : Int) := map_range_getD _ hi _
    refine Ev.step (fun k => by rw [laws_heldIntS.l0]) ?_
    repeat (first | (with_reducible refine Ev.ite_pos (by omega) ?_) | (with_reducible refine Ev.ite_neg (by omega) ?_))
    have w0 : wrap64 (a + (i : Int) + 1) = a + (i : Int) + 1 := w64 (by omega) (by omega)
    simp only [w0, w64n (by omega : i ≤ 140737488351232)]
    have e4 : a + ((i + 1 : Nat) : Int) = a + (i : Int) + 1 := by omega
    rw [e4] at ih
    exact ih
  · refine Ev.step (fun k => by rw [laws_heldIntS.l0]) ?_
    repeat (first | (with_reducible refine Ev.ite_pos (by omega) ?_) | (with_reducible refine Ev.ite_neg (by omega) ?_))
    exact Ev.now _
end Go.Proofs.Ytcjlbgbenjmkgaa.fnExactBuildProgram
namespace Go.Proofs.Ytcjlbgbenjmkgaa.fnExactBuildProgram
open Go.RowKit Go.Proofs.YtcjlbgbenjmkgaaW.PrintWords Go.Proofs.YtcjlbgbenjmkgaaW.PrintMore Go.Proofs.Ytcjlbgbenjmkgaa.QFnExactBuildProgram Go.Proofs.Ytcjlbgbenjmkgaa.Open Go.Proofs.Ytcjlbgbenjmkgaa.Kit
/-! ### what is not too large -/
def TbOk (x : S63) : Prop := x.f1.length ≤ 100 ∧ x.f2.length ≤ 100
def PcOk (x : S47) : Prop := x.f1.length ≤ 1048576 ∧ x.f2.length ≤ 100 ∧ ∀ y ∈ x.f2, TbOk y
theorem sum_le {α : Type} (f : α → Nat) (B : Nat) : ∀ l : List α, (∀ x ∈ l, f x ≤ B) → (l.map f).sum ≤ l.length * B
  | [], _ => by simp
  | x :: l, h => by
    have h1 := h x List.mem_cons_self
    have h2 := sum_le f B l fun y hy => h y (List.mem_cons_of_mem _ hy)
    rw [List.map_cons, List.sum_cons, List.length_cons, Nat.succ_mul]
    omega
theorem eq_Piece' (x : S47) (hn : PcOk x) : Ev (fun k => laws_eqPiece.f k (x.f0.f0) (x.f0.f1) (x.f1) (x.f2) (x.f0.f0) (x.f0.f1) (x.f1) (x.f2)) true := by
  have hs := sum_le n63 200 x.f2 (fun y hy => by have := hn.2.2 y hy; unfold TbOk at this; unfold n63; omega)
  have h2 := hn.2.1
  unfold laws_eqPiece.f
  refine Ev.bind0 (eq_Span (x.f0)) ?_
  refine Ev.ite_pos rfl ?_
  refine Ev.bind (eq_LinkS (x.f1) hn.1) ?_
  refine Ev.ite_pos rfl ?_
  refine Ev.bind (eq_TableS (x.f2) (by omega)) ?_
  refine Ev.ite_pos rfl ?_
  exact Ev.now _
theorem eq_PieceS' (l : List S47) (hl : l.length ≤ 40) (hn : ∀ x ∈ l, PcOk x) : Ev (fun k => laws_eqPieceS.f k l l) true := by
  unfold laws_eqPieceS.f
  refine Ev.ite_pos rfl ?_
  refine Ev.up (n := l.length) (g := fun i k => laws_eqPieceS.l0 k l l (i : Int)) ?_ ?_
  · intro i hi ih
    refine Ev.step (fun k => by rw [laws_eqPieceS.l0]) ?_
    repeat (first | (with_reducible refine Ev.ite_pos (by omega) ?_) | (with_reducible refine Ev.ite_neg (by omega) ?_))
    refine Ev.bind (eq_Piece' (l.getD i z47) (hn _ (getD_mem hi _))) ?_
    refine Ev.ite_pos rfl ?_
    rw [w64n (by omega)]
    exact ih
  · refine Ev.step (fun k => by rw [laws_eqPieceS.l0]) ?_
    repeat (first | (with_reducible refine Ev.ite_pos (by omega) ?_) | (with_reducible refine Ev.ite_neg (by omega) ?_))
    exact Ev.now _
theorem eq_Program' (a0 a1 a2 : Int) (l : List S47) (hl : l.length ≤ 40) (hn : ∀ x ∈ l, PcOk x) : Ev (fun k => laws_eqProgram.f k a0 a1 a2 l a0 a1 a2 l) true := by
  unfold laws_eqProgram.f
  refine Ev.ite_pos rfl ?_
  refine Ev.ite_pos rfl ?_
  refine Ev.ite_pos rfl ?_
  refine Ev.bind (eq_PieceS' l hl hn) ?_
  refine Ev.ite_pos rfl ?_
  exact Ev.now _
/-! ### marks: numbers that count up, in the order of the walk -/
def mT (a : Int) (x : S63) : S63 := ⟨a, cntInt (a + 1) x.f1.length, cntInt (a + 1 + (x.f1.length : Int)) x.f2.length⟩
def endT : Int → List S63 → Int
  | a, [] => a
  | a, x :: l => endT (a + 1 + (x.f1.length : Int) + (x.f2.length : Int)) l
def marT : Int → List S63 → List S63
  | _, [] => []
  | a, x :: l => mT a x :: marT (a + 1 + (x.f1.length : Int) + (x.f2.length : Int)) l
theorem endT_le : ∀ (l : List S63) (a : Int), (∀ y ∈ l, TbOk y) → a ≤ endT a l ∧ endT a l ≤ a + 201 * (l.length : Int)
  | [], a, _ => by simp [endT]
  | x :: l, a, h => by
    have h1 := h x List.mem_cons_self
    have h2 := endT_le l (a + 1 + (x.f1.length : Int) + (x.f2.length : Int)) fun y hy => h y (List.mem_cons_of_mem _ hy)
    unfold TbOk at h1
    simp only [endT, List.length_cons]
    omega
theorem snoc {α : Type} (p r : List α) (x : α) : p ++ x :: r = (p ++ [x]) ++ r := by simp
theorem len1 {α : Type} (p : List α) (x : α) : ((p.length : Nat) : Int) + 1 = (((p ++ [x]).length : Nat) : Int) := by simp
theorem markT : ∀ (r p : List S63) (a : Int), 0 ≤ a → a + 201 * (r.length : Int) ≤ 900000000 → (∀ y ∈ r, TbOk y) → Ev (fun k => laws_markProgram.lt k (p ++ r) (p.length : Int) a) (endT a r, p ++ marT a r)
  | [], p, a, _, _, _ => by
    refine Ev.step (fun k => by rw [laws_markProgram.lt]) ?_
    refine Ev.ite_neg (by simp) ?_
    exact Ev.now _
  | x :: r, p, a, h0, h1, h => by
    have hx := h x List.mem_cons_self
    unfold TbOk at hx
    rw [List.length_cons] at h1
    have ih := markT r (p ++ [mT a x]) (a + 1 + (x.f1.length : Int) + (x.f2.length : Int)) (by omega) (by omega) fun y hy => h y (List.mem_cons_of_mem _ hy)
    rw [← snoc, ← snoc, ← len1] at ih
    refine Ev.step (fun k => by rw [laws_markProgram.lt]) ?_
    refine Ev.ite_pos (by simp; omega) ?_
    have hr : rd_T63 (p ++ x :: r) (p.length : Int) = x := getD_mid p r x _ rfl
    rw [hr, w64 (x := a + 1) (by omega) (by omega)]
    refine Ev.bind (mark_IntS x.f1 (a + 1) (by omega) (by omega) (by omega)) ?_
    refine Ev.bind (mark_IntS x.f2 (a + 1 + (x.f1.length : Int)) (by omega) (by omega) (by omega)) ?_
    rw [Int.toNat_natCast, set_mid p r x _ rfl]
    exact ih
theorem heldT : ∀ (r p : List S63) (a : Int), 0 ≤ a → a + 201 * (r.length : Int) ≤ 900000000 → p.length + r.length ≤ 1000 → (∀ y ∈ r, TbOk y) → Ev (fun k => laws_heldTableS.l0 k (p ++ marT a r) a (p.length : Int)) (endT a r)
  | [], p, a, _, _, _, _ => by
    refine Ev.step (fun k => by rw [laws_heldTableS.l0]) ?_
    refine Ev.ite_neg (by simp [marT]) ?_
    exact Ev.now _
  | x :: r, p, a, h0, h1, hl, h => by
    have hx := h x List.mem_cons_self
    unfold TbOk at hx
    rw [List.length_cons] at h1 hl
    have ih := heldT r (p ++ [mT a x]) (a + 1 + (x.f1.length : Int) + (x.f2.length : Int)) (by omega) (by omega) (by rw [List.length_append, List.length_singleton]; omega) fun y hy => h y (List.mem_cons_of_mem _ hy)
    rw [← snoc, ← len1] at ih
    show Ev (fun k => laws_heldTableS.l0 k (p ++ mT a x :: marT (a + 1 + (x.f1.length : Int) + (x.f2.length : Int)) r) a (p.length : Int)) _
    refine Ev.step (fun k => by rw [laws_heldTableS.l0]) ?_
    refine Ev.ite_pos (by simp; omega) ?_
    refine Ev.ite_pos (by omega) ?_
    have hr : rd_T63 (p ++ mT a x :: marT (a + 1 + (x.f1.length : Int) + (x.f2.length : Int)) r) (p.length : Int) = mT a x := getD_mid p _ (mT a x) _ rfl
    rw [hr, w64 (x := a + 1) (by omega) (by omega), w64 (x := (p.length : Int) + 1) (by omega) (by omega)]
    refine Ev.ite_pos rfl ?_
    refine Ev.bind (held_IntS x.f1.length (a + 1) (by omega) (by omega) (by omega)) ?_
    refine Ev.ite_neg (by omega) ?_
    refine Ev.bind (held_IntS x.f2.length (a + 1 + (x.f1.length : Int)) (by omega) (by omega) (by omega)) ?_
    refine Ev.ite_neg (by omega) ?_
    exact ih
def endL (a : Int) (x : S47) : Int := a + 1 + 1 + 2 * (x.f1.length : Int)
def mP (a : Int) (x : S47) : S47 := ⟨⟨a, a + 1⟩, cntLink (a + 1 + 1) x.f1.length, marT (endL a x) x.f2⟩
def endP : Int → List S47 → Int
  | a, [] => a
  | a, x :: l => endP (endT (endL a x) x.f2) l
def marP : Int → List S47 → List S47
  | _, [] => []
  | a, x :: l => mP a x :: marP (endT (endL a x) x.f2) l
theorem endL_le {x : S47} (h : PcOk x) (a : Int) : a + 2 ≤ endL a x ∧ endL a x ≤ endT (endL a x) x.f2 ∧ endT (endL a x) x.f2 ≤ a + 2200000 := by
  have h1 := endT_le x.f2 (endL a x) h.2.2
  have h2 := h.1
  have h3 := h.2.1
  refine ⟨by unfold endL; omega, h1.1, ?_⟩
  have h4 := h1.2
  have h5 : endL a x = a + 1 + 1 + 2 * (x.f1.length : Int) := rfl
  omega
theorem endP_le : ∀ (l : List S47) (a : Int), (∀ y ∈ l, PcOk y) → a ≤ endP a l
  | [], a, _ => by simp [endP]
  | x :: l, a, h => by
    have h1 := endL_le (h x List.mem_cons_self) a
    have h2 := endP_le l (endT (endL a x) x.f2) fun y hy => h y (List.mem_cons_of_mem _ hy)
    simp only [endP]
    omega
theorem markP : ∀ (r p : List S47) (a : Int), 0 ≤ a → a + 2200000 * (r.length : Int) ≤ 500000000 → (∀ y ∈ r, PcOk y) → Ev (fun k => laws_markProgram.lp k (p ++ r) (p.length : Int) a) (endP a r, p ++ marP a r)
  | [], p, a, _, _, _ => by
    refine Ev.step (fun k => by rw [laws_markProgram.lp]) ?_
    refine Ev.ite_neg (by simp) ?_
    exact Ev.now _
  | x :: r, p, a, h0, h1, h => by
    have hx := h x List.mem_cons_self
    have he := endL_le hx a
    have h2 := hx.1
    have h3 := hx.2.1
    rw [List.length_cons] at h1
    have ih := markP r (p ++ [mP a x]) (endT (endL a x) x.f2) (by omega) (by omega) fun y hy => h y (List.mem_cons_of_mem _ hy)
    rw [← snoc, ← snoc, ← len1] at ih
    refine Ev.step (fun k => by rw [laws_markProgram.lp]) ?_
    refine Ev.ite_pos (by simp; omega) ?_
    have hr : rd_T47 (p ++ x :: r) (p.length : Int) = x := getD_mid p r x _ rfl
    rw [hr, w64 (x := a + 1) (by omega) (by omega), w64 (x := a + 1 + 1) (by omega) (by omega)]
    refine Ev.bind (mark_LinkS x.f1 (a + 1 + 1) (by omega) (by omega) (by omega)) ?_
    refine Ev.bind (markT x.f2 [] (endL a x) (by omega) (by omega) hx.2.2) ?_
    rw [Int.toNat_natCast, set_mid p r x _ rfl]
    exact ih
theorem heldP : ∀ (r p : List S47) (a : Int), 0 ≤ a → a + 2200000 * (r.length : Int) ≤ 500000000 → p.length + r.length ≤ 1000 → (∀ y ∈ r, PcOk y) → Ev (fun k => laws_heldPieceS.l0 k (p ++ marP a r) a (p.length : Int)) (endP a r)
  | [], p, a, _, _, _, _ => by
    refine Ev.step (fun k => by rw [laws_heldPieceS.l0]) ?_
    refine Ev.ite_neg (by simp [marP]) ?_
    exact Ev.now _
  | x :: r, p, a, h0, h1, hl, h => by
    have hx := h x List.mem_cons_self
    have he := endL_le hx a
    have h2 := hx.1
    have h3 := hx.2.1
    rw [List.length_cons] at h1 hl
    have ih := heldP r (p ++ [mP a x]) (endT (endL a x) x.f2) (by omega) (by omega) (by rw [List.length_append, List.length_singleton]; omega) fun y hy => h y (List.mem_cons_of_mem _ hy)
    rw [← snoc, ← len1] at ih
    show Ev (fun k => laws_heldPieceS.l0 k (p ++ mP a x :: marP (endT (endL a x) x.f2) r) a (p.length : Int)) _
    refine Ev.step (fun k => by rw [laws_heldPieceS.l0]) ?_
    refine Ev.ite_pos (by simp; omega) ?_
    refine Ev.ite_pos (by omega) ?_
    have hr : rd_T47 (p ++ mP a x :: marP (endT (endL a x) x.f2) r) (p.length : Int) = mP a x := getD_mid p _ (mP a x) _ rfl
    rw [hr, w64 (x := a + 1) (by omega) (by omega), w64 (x := a + 1 + 1) (by omega) (by omega), w64 (x := (p.length : Int) + 1) (by omega) (by omega)]
    refine Ev.ite_pos rfl ?_
    refine Ev.ite_pos rfl ?_
    refine Ev.bind (held_LinkS x.f1.length (a + 1 + 1) (by omega) (by omega) (by omega)) ?_
    refine Ev.ite_neg (by omega) ?_
    have ht : Ev (fun k => laws_heldTableS.f k (marT (endL a x) x.f2) (endL a x)) (endT (endL a x) x.f2) := heldT x.f2 [] (endL a x) (by omega) (by omega) (by simp; omega) hx.2.2
    refine Ev.bind ht ?_
    refine Ev.ite_neg (by omega) ?_
    exact ih
theorem heldPg (a0 a1 a2 : Int) (l : List S47) (hl : l.length ≤ 40) (h : ∀ x ∈ l, PcOk x) : Ev (fun k => laws_heldProgram.f k a0 a1 a2 (marP 1 l) 1) (endP 1 l) := by
  have he := endP_le l 1 h
  unfold laws_heldProgram.f
  have hh : Ev (fun k => laws_heldPieceS.f k (marP 1 l) 1) (endP 1 l) := heldP l [] 1 (by omega) (by omega) (by simp; omega) h
  refine Ev.bind hh ?_
  exact Ev.ite_neg (by omega) (Ev.now _)
/-! ### what is built -/
theorem dists_len' (l : List S60) (n first d : Int) : (dists l n first d).length ≤ 100 := by
  rcases (dists_fit l n first d).1 with e | e
  · rw [e]
    simp
  · omega
theorem tabs_ok (l : List S60) (n first : Int) : ∀ y ∈ tabs l n first, TbOk y := by
  intro y hy
  unfold tabs at hy
  obtain ⟨d, _, rfl⟩ := List.mem_map.1 hy
  refine ⟨dists_len' l n first (d : Int), ?_⟩
  show (nextsTo l n first (d : Int)).length ≤ 100
  rw [nextsTo, nextRow_len]
  exact dists_len' l n first (d : Int)
theorem build_ok {plan : List S49} (hl : plan.length ≤ 1048576) (n first a b skew : Int) : (build plan n first a b skew).2.2.2.1.length ≤ 40 ∧ ∀ x ∈ (build plan n first a b skew).2.2.2.1, PcOk x := by
  by_cases h : BuildOk plan n first a b skew
  · rw [build_yes h]
    refine ⟨by simpa using h.2.2.2, fun x hx => ?_⟩
    obtain ⟨s, _, rfl⟩ := List.mem_map.1 hx
    have h1 := linksAt_len plan s.f0
    have h2 := h.1
    unfold Frame at h2
    refine ⟨by show (linksAt plan s.f0).length ≤ _; omega, ?_, tabs_ok _ _ _⟩
    show (tabs (linksAt plan s.f0) n first).length ≤ 100
    simp [tabs]
    omega
  · rw [build_no h]
    exact ⟨by simp, fun x hx => by cases hx⟩
theorem pure : PureFnExactBuildProgram := by
  intro l n f a b s hl _ _ _ _ _
  have hb : l.length ≤ 140737488351232 := Len.le hl.1 (by omega)
  have h0 := sz_ContactS l 1048576 hb (by omega) (by omega)
  by_cases hn : (l.length : Int) ≤ 1048576
  · have hs : szOf 1048576 l.length = 1048576 - ((l.length : Nat) : Int) := by unfold szOf; rw [if_pos hn]
    have h1 := to_ContactS l (by omega)
    have hL : (l.map cContact).length ≤ 1048576 := by rw [List.length_map]; omega
    generalize l.map cContact = L at h1 hL
    have h2 := buildS hL n f a b s
    have h3 := buildI hL n f a b s
    have hk := build_ok hL n f a b s
    generalize build L n f a b s = r at h2 h3 hk
    obtain ⟨n', f', s', P, q⟩ := r
    simp only [] at hk
    have h4 := eq_Program' n' f' s' P hk.1 hk.2
    have h5 := eq_ContactS L hL
    have h6 := mark_ContactS L 1 (by omega) (by omega) (by omega)
    have h7 : Ev (fun k => laws_markProgram.lp k P 0 1) (endP 1 P, marP 1 P) := markP P [] 1 (by omega) (by have := hk.1; omega) hk.2
    have h8 := heldPg n' f' s' P hk.1 hk.2
    have he := endP_le P 1 hk.2
    obtain ⟨k1, h1⟩ := h1
    obtain ⟨k2, h2⟩ := h2
    obtain ⟨k3, h3⟩ := h3
    obtain ⟨k4, h4⟩ := h4
    obtain ⟨k5, h5⟩ := h5
    obtain ⟨k6, h6⟩ := h6
    obtain ⟨k7, h7⟩ := h7
    obtain ⟨k8, h8⟩ := h8
    refine ⟨k1 + k2 + k3 + k4 + k5 + k6 + k7 + k8, .inr ⟨_, L, _, n', f', s', _, _, P, _, q, h0, by rw [hs]; omega, h1 _ (by omega), h2 _ (by omega), h3 _ (by omega), h4 _ (by omega), h5 _ (by omega), h6 _ (by omega), by omega, h7 _ (by omega), h8 _ (by omega), by omega⟩⟩
  · have hs : szOf 1048576 l.length = -1 := by unfold szOf; rw [if_neg hn]
    exact ⟨0, .inl ⟨_, h0, by rw [hs]; omega⟩⟩
end Go.Proofs.Ytcjlbgbenjmkgaa.fnExactBuildProgram
namespace Go.Proofs.Ytcjlbgbenjmkgaa
theorem fnExactBuildProgram_holds : Rows.FnExactBuildProgramSaid := fnExactBuildProgram.row fnExactBuildProgram.pure
end Go.Proofs.Ytcjlbgbenjmkgaa
