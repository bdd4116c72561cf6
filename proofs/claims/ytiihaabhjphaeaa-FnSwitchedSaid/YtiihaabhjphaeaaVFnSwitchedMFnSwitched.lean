/- FnSwitched: with clocks that are right, nobody ever waits for a switch of tables. Conditions: none. (tight). -/
import Derived.Test.YtiihaabhjphaeaaVFnSwitchedQFnSwitchedx
import Derived.Lib.SlicesCompact
import Derived.Laws.BitsLemmas
import Derived.Test.YtiihaabhjphaeaaVFnSwitchedRowFnSwitched
/- Small words on answers that come with enough rounds. Conditions: none. -/
namespace Go.Proofs.Ytiihaabhjphaeaa.Kit
open Go.RowKit Go.Proofs.YtiihaabhjphaeaaW.PrintWords Go.Proofs.YtiihaabhjphaeaaW.PrintLast Go.Proofs.YtiihaabhjphaeaaW.PrintMore Go.Proofs.Ytiihaabhjphaeaa.Open

theorem Ev.ite_pos {α : Type} {c : Prop} [Decidable c] {f g : Nat → Option α} {r : α} (h : c) (k : Ev f r) : Ev (fun n => if c then f n else g n) r := by simpa only [if_pos h] using k
theorem Ev.ite_neg {α : Type} {c : Prop} [Decidable c] {f g : Nat → Option α} {r : α} (h : ¬ c) (k : Ev g r) : Ev (fun n => if c then f n else g n) r := by simpa only [if_neg h] using k
theorem Ev.bind0 {α β : Type} {o : Option α} {f : Nat → α → Option β} {a : α} {r : β} (h : o = some a) (k : Ev (fun n => f n a) r) : Ev (fun n => o.bind (f n)) r := by subst h; exact k
theorem Ev.some {α : Type} {r r' : α} (h : r' = r) : Ev (fun _ => some r') r := by subst h; exact Ev.now _
theorem Ev.eq {α : Type} {o : Option α} {r : α} (h : o = Option.some r) : Ev (fun _ => o) r := ⟨0, fun _ _ => h⟩
theorem w64 {x : Int} (h0 : -9223372036854775808 ≤ x) (h1 : x ≤ 9223372036854775807) : wrap64 x = x := by
 unfold wrap64
 omega
theorem mx_def (a b : Int) : mx a b = max a b := by unfold mx; omega
theorem Len.le {B : Nat} {α : Type} {l : List α} (h : Len B l) (hB : 0 < B) : l.length ≤ 140737488351232 := by
 unfold Len at h
 exact Nat.le_trans (Nat.le_mul_of_pos_right _ hB) h
/-! ### loops that count up -/
theorem Ev.upIf {ρ : Type} {n : Nat} (p : Nat → Prop) {g : Nat → Nat → Option ρ} {r : ρ} (hs : ∀ i, i < n → p i → (p (i + 1) → Ev (g (i + 1)) r) → Ev (g i) r) (he : p n → Ev (g n) r) (h0 : p 0) : Ev (g 0) r := by
 have key : ∀ d i, i + d = n → p i → Ev (g i) r := by
  intro d
  induction d with
  | zero => intro i hi hp; obtain rfl : i = n := (by omega); exact he hp
  | succ d ih => intro i hi hp; exact hs i (by omega) hp (fun hp' => ih (i + 1) (by omega) hp')
 exact key n 0 (by omega) h0
theorem Ev.up {ρ : Type} {n : Nat} {g : Nat → Nat → Option ρ} {r : ρ} (hs : ∀ i, i < n → Ev (g (i + 1)) r → Ev (g i) r) (he : Ev (g n) r) : Ev (g 0) r :=
 Ev.upIf (fun _ => True) (fun i hi _ h => hs i hi (h trivial)) (fun _ => he) trivial
theorem w64n {i : Nat} (h : i ≤ 140737488351232) : wrap64 ((i : Int) + 1) = ((i + 1 : Nat) : Int) := by
 rw [w64 (by omega) (by omega)]
 omega
theorem rd_nat (xs : List Int) (i : Nat) : rd xs (i : Int) = xs.getD i 0 := rfl
theorem getD_at {α : Type} {xs : List α} {i : Nat} (h : i < xs.length) (z : α) : xs.getD i z = xs[i] := by simp [List.getD, h]
theorem getD_mem {α : Type} {xs : List α} {i : Nat} (h : i < xs.length) (z : α) : xs.getD i z ∈ xs := by rw [getD_at h]; exact List.getElem_mem h
theorem take_succ_getD {α : Type} {xs : List α} {i : Nat} (h : i < xs.length) (z : α) : xs.take (i + 1) = xs.take i ++ [xs.getD i z] := by
 rw [List.take_succ_eq_append_getElem h, getD_at h]
theorem drop_getD {α : Type} {xs : List α} {i : Nat} (h : i < xs.length) (z : α) : xs.drop i = xs.getD i z :: xs.drop (i + 1) := by
 rw [List.drop_eq_getElem_cons h, getD_at h]
theorem le_sum {α : Type} (f : α → Nat) {xs : List α} {x : α} (h : x ∈ xs) : f x ≤ (xs.map f).sum := by
 induction xs with
 | nil => cases h
 | cons y ys ih =>
  simp only [List.map_cons, List.sum_cons]
  rcases List.mem_cons.1 h with rfl | h
  ·omega
  ·have := ih h
   omega
def foldTo {α σ : Type} (f : σ → α → σ) (s : σ) (xs : List α) (i : Nat) : σ := (xs.take i).foldl f s
theorem foldTo_zero {α σ : Type} (f : σ → α → σ) (s : σ) (xs : List α) : foldTo f s xs 0 = s := by simp [foldTo]
theorem foldTo_succ {α σ : Type} (f : σ → α → σ) (s : σ) {xs : List α} {i : Nat} (h : i < xs.length) (z : α) : foldTo f s xs (i + 1) = f (foldTo f s xs i) (xs.getD i z) := by
 unfold foldTo
 rw [take_succ_getD h z, List.foldl_append]
 rfl
theorem foldTo_all {α σ : Type} (f : σ → α → σ) (s : σ) (xs : List α) : foldTo f s xs xs.length = xs.foldl f s := by simp [foldTo]
/-! ### lists told by their index -/
theorem map_range_getD {β : Type} {n : Nat} (f : Nat → β) {u : Nat} (h : u < n) (z : β) : ((List.range n).map f).getD u z = f u := by
 rw [getD_at (by simpa using h)]
 simp
theorem Ev.down {ρ : Type} {n : Nat} {g : Nat → Nat → Option ρ} {r : ρ} (hs : ∀ m, m < n → Ev (g m) r → Ev (g (m + 1)) r) (he : Ev (g 0) r) : Ev (g n) r := by
 have key : ∀ m, m ≤ n → Ev (g m) r := by
  intro m
  induction m with
  | zero => intro _; exact he
  | succ m ih => intro hm; exact hs m (by omega) (ih (by omega))
 exact key n (Nat.le_refl _)
theorem getD_mid {α : Type} (pre suf : List α) (x z : α) {i : Nat} (h : pre.length = i) : (pre ++ x :: suf).getD i z = x := by
 subst h
 simp [List.getD]
end Go.Proofs.Ytiihaabhjphaeaa.Kit
/- How many elements a program has that a draw made. Conditions: none. -/
namespace Go.Proofs.Ytiihaabhjphaeaa.fnSwitched
open Go.RowKit Go.Proofs.YtiihaabhjphaeaaW.PrintWords Go.Proofs.YtiihaabhjphaeaaW.PrintMore Go.Proofs.Ytiihaabhjphaeaa.QFnSwitched Go.Proofs.Ytiihaabhjphaeaa.Open Go.Proofs.Ytiihaabhjphaeaa.Kit
def n55 (x : S55) : Nat := x.f1.length + x.f2.length
def n105 (x : S105) : Nat := x.f1.length + (x.f2.length + (x.f2.map n55).sum)
def nPgI (l : List S105) : Nat := l.length + (l.map n105).sum
theorem sum_map_le {α : Type} (f : α → Nat) (B : Nat) : ∀ l : List α, (∀ x ∈ l, f x ≤ B) → (l.map f).sum ≤ l.length * B
 | [], _ => by simp
 | x :: l, h => by
  have h1 := h x List.mem_cons_self
  have h2 := sum_map_le f B l fun y hy => h y (List.mem_cons_of_mem _ hy)
  rw [List.map_cons, List.sum_cons, List.length_cons, Nat.succ_mul]
  omega
def Small (p : List S105) : Prop := p.length ≤ 40 ∧ ∀ x ∈ p, n105 x ≤ 1000
theorem Small.size {p : List S105} (h : Small p) : nPgI p ≤ 1048576 := by
 have h1 := sum_map_le n105 1000 p h.2
 have h2 := h.1
 unfold nPgI
 omega
end Go.Proofs.Ytiihaabhjphaeaa.fnSwitched
/- The pieces that lie in a span of ticks, in the program and in the reference. Conditions: none. -/
namespace Go.Proofs.Ytiihaabhjphaeaa.fnSwitched
open Go.RowKit Go.Proofs.YtiihaabhjphaeaaW.PrintWords Go.Proofs.YtiihaabhjphaeaaW.PrintMore Go.Proofs.Ytiihaabhjphaeaa.QFnSwitched Go.Proofs.Ytiihaabhjphaeaa.Open Go.Proofs.Ytiihaabhjphaeaa.Kit
def meets (u v : Int) (x : S105) : Bool := decide ((0 ≤ x.f0.f0 ∧ x.f0.f1 ≤ 1000 ∧ x.f0.f0 < x.f0.f1) ∧ u ≤ v ∧ x.f0.f0 ≤ v ∧ u < x.f0.f1)
def pcs (u v : Int) : List S105 → Nat → List Int
 | [], _ => []
 | x :: xs, i => if meets u v x = true then (i : Int) :: pcs u v xs (i + 1) else pcs u v xs (i + 1)
theorem pcs_len (u v : Int) : ∀ (l : List S105) (i : Nat), (pcs u v l i).length ≤ l.length
 | [], _ => Nat.le_refl _
 | x :: xs, i => by
  unfold pcs
  have := pcs_len u v xs (i + 1)
  split <;> simp only [List.length_cons] <;> omega
theorem isSpan2 (a b : Int) : impl_IsSpan.f a b = some (decide (0 ≤ a ∧ b ≤ 1000 ∧ a < b)) := by
 unfold impl_IsSpan.f
 by_cases h1 : 0 ≤ a <;> by_cases h2 : b ≤ 1000 <;> simp [h1, h2]
theorem pcs2 (p : List S105) (hl : p.length ≤ 1048576) (n a s u v : Int) : Ev (fun k => impl_PiecesIn.f k n a s p u v) (pcs u v p 0) := by
 have key : ∀ (d i : Nat) (acc : List Int), i + d = p.length → acc.length ≤ i → Ev (fun k => impl_PiecesIn.l0 k u v acc p (p.length : Int) (i : Int)) (acc ++ pcs u v (p.drop i) i) := by
  intro d
  induction d with
  | zero =>
   intro i acc hi ha
   refine Ev.step (fun k => by rw [impl_PiecesIn.l0]) ?_
   repeat (first | (with_reducible refine Ev.ite_pos (by omega) ?_) | (with_reducible refine Ev.ite_neg (by omega) ?_))
   refine Ev.some ?_
   rw [List.drop_of_length_le (by omega), pcs, List.append_nil]
  | succ d ih =>
   intro i acc hi ha
   have h0 := ih (i + 1) acc (by omega) (by omega)
   have h1 := ih (i + 1) (acc ++ [(i : Int)]) (by omega) (by simp; omega)
   rw [List.append_assoc] at h1
   refine Ev.step (fun k => by rw [impl_PiecesIn.l0]) ?_
   repeat (first | (with_reducible refine Ev.ite_pos (by omega) ?_) | (with_reducible refine Ev.ite_neg (by omega) ?_))
   rw [drop_getD (by omega : i < p.length) z105, show rd_T105 p (i : Int) = p.getD i z105 from rfl, w64n (by omega), pcs]
   generalize p.getD i z105 = x
   refine Ev.bind0 (isSpan2 x.f0.f0 x.f0.f1) ?_
   unfold meets
   by_cases c1 : 0 ≤ x.f0.f0 ∧ x.f0.f1 ≤ 1000 ∧ x.f0.f0 < x.f0.f1
   ·refine Ev.ite_pos (by simpa using c1) ?_
    by_cases c2 : u ≤ v
    ·refine Ev.ite_pos c2 ?_
     by_cases c3 : x.f0.f0 ≤ v
     ·refine Ev.ite_pos c3 ?_
      by_cases c4 : u < x.f0.f1
      ·refine Ev.ite_pos c4 ?_
       rw [if_pos (decide_eq_true ⟨c1, c2, c3, c4⟩)]
       refine Ev.ite_pos (by omega) ?_
       exact h1
      ·refine Ev.ite_neg c4 ?_
       rw [if_neg (fun h => c4 (of_decide_eq_true h).2.2.2)]
       exact h0
     ·refine Ev.ite_neg c3 ?_
      rw [if_neg (fun h => c3 (of_decide_eq_true h).2.2.1)]
      exact h0
    ·refine Ev.ite_neg c2 ?_
     rw [if_neg (fun h => c2 (of_decide_eq_true h).2.1)]
     exact h0
   ·refine Ev.ite_neg (by simpa using c1) ?_
    rw [if_neg (fun h => c1 (of_decide_eq_true h).1)]
    exact h0
 exact key p.length 0 [] (by omega) (by simp)
end Go.Proofs.Ytiihaabhjphaeaa.fnSwitched
/- The table of a piece, in the program and in the reference. Conditions: none. -/
namespace Go.Proofs.Ytiihaabhjphaeaa.fnSwitched
open Go.RowKit Go.Proofs.YtiihaabhjphaeaaW.PrintWords Go.Proofs.YtiihaabhjphaeaaW.PrintMore Go.Proofs.Ytiihaabhjphaeaa.QFnSwitched Go.Proofs.Ytiihaabhjphaeaa.Open Go.Proofs.Ytiihaabhjphaeaa.Kit
theorem isIx (i n : Int) : impl_isIndex.f i n = some (decide (0 ≤ i ∧ i < n)) := by
 unfold impl_isIndex.f
 by_cases h : 0 ≤ i <;> simp [h]
def okT (p : List S105) (k d : Int) : Prop := (0 ≤ k ∧ k < (p.length : Int)) ∧ (0 ≤ d ∧ d < ((rd_T105 p k).f2.length : Int))
instance (p : List S105) (k d : Int) : Decidable (okT p k d) := by unfold okT; infer_instance
def tab (p : List S105) (k d : Int) : S55 := rd_T55 (rd_T105 p k).f2 d
def tableIn (p : List S105) (k d : Int) : Int × List Int × List Int × Bool := if okT p k d then ((tab p k d).f0, (tab p k d).f1, (tab p k d).f2, true) else (0, [], [], false)
theorem tab_len {p : List S105} (hp : nPgI p ≤ 1048576) {k d : Int} (h : okT p k d) : (rd_T105 p k).f2.length ≤ 1048576 ∧ (tab p k d).f1.length ≤ 1048576 ∧ (tab p k d).f2.length ≤ 1048576 := by
 unfold okT at h
 have hm := le_sum n105 (getD_mem (show k.toNat < p.length by omega) z105)
 have hm2 := le_sum n55 (getD_mem (show d.toNat < (rd_T105 p k).f2.length by omega) z55)
 unfold nPgI at hp
 have e : rd_T105 p k = p.getD k.toNat z105 := rfl
 rw [← e] at hm
 have e2 : tab p k d = (rd_T105 p k).f2.getD d.toNat z55 := rfl
 rw [← e2] at hm2
 have h0 : n105 (rd_T105 p k) = (rd_T105 p k).f1.length + ((rd_T105 p k).f2.length + ((rd_T105 p k).f2.map n55).sum) := rfl
 have h3 : n55 (tab p k d) = (tab p k d).f1.length + (tab p k d).f2.length := rfl
 have h4 : (rd_T105 p k).f2.length ≤ p.length + (p.map n105).sum := by omega
 have h5 : ((rd_T105 p k).f2.map n55).sum ≤ p.length + (p.map n105).sum := by omega
 omega
theorem table2 (p : List S105) (hp : nPgI p ≤ 1048576) (n a s k d : Int) : impl_TableIn.f n a s p k d = some (tableIn p k d) := by
 unfold impl_TableIn.f tableIn
 rw [isIx, Option.bind_some]
 by_cases h1 : 0 ≤ k ∧ k < (p.length : Int)
 ·rw [if_pos (decide_eq_true h1), if_pos h1.1, if_pos h1.2, isIx, Option.bind_some]
  by_cases h2 : 0 ≤ d ∧ d < ((rd_T105 p k).f2.length : Int)
  ·have hok : okT p k d := ⟨h1, h2⟩
   have htl := tab_len hp hok
   rw [if_pos (decide_eq_true h2), if_pos h2.1, if_pos h2.2, if_pos hok]
   have e2 : rd_T55 (rd_T105 p k).f2 d = tab p k d := rfl
   unfold impl_cloneTable.f slices_Clone_int_int.f
   rw [e2, if_pos (by omega), Option.bind_some, if_pos (by omega), Option.bind_some]
   rfl
  ·rw [if_neg (by simpa using h2), if_neg (fun h : okT p k d => h2 h.2)]
 ·rw [if_neg (by simpa using h1), if_neg (fun h : okT p k d => h1 h.1)]
end Go.Proofs.Ytiihaabhjphaeaa.fnSwitched
/- Walks in a finite graph: a set of nodes each of which leads to one of the set holds a circle. Conditions: none. -/
namespace Go.Proofs.Ytiihaabhjphaeaa.Graph

def Walk (E : Int → Int → Prop) : Nat → Int → Int → Prop
 | 0, x, y => x = y
 | m + 1, x, y => ∃ z, E x z ∧ Walk E m z y

theorem Walk.append {E : Int → Int → Prop} : ∀ {a b : Nat} {x y z : Int}, Walk E a x y → Walk E b y z → Walk E (a + b) x z
 | 0, b, x, y, z, h, k => by
  cases h
  rw [Nat.zero_add]
  exact k
 | a + 1, b, x, y, z, h, k => by
  obtain ⟨u, hu, hw⟩ := h
  rw [Nat.add_right_comm]
  exact ⟨u, hu, hw.append k⟩
theorem Walk.one {E : Int → Int → Prop} {x y : Int} (h : E x y) : Walk E 1 x y := ⟨y, h, rfl⟩
theorem Walk.snoc {E : Int → Int → Prop} {m : Nat} {x y z : Int} (h : Walk E m x y) (k : E y z) : Walk E (m + 1) x z := h.append (Walk.one k)
def Cyc (E : Int → Int → Prop) : Prop := ∃ i m, 0 < m ∧ Walk E m i i

theorem nodup_le : ∀ (n : Nat) (l : List Int), l.Nodup → (∀ x ∈ l, 0 ≤ x ∧ x < n) → l.length ≤ n
 | 0, l, _, h => by
  cases l with
  | nil => simp
  | cons x xs =>
   have := h x List.mem_cons_self
   omega
 | n + 1, l, hd, h => by
  have h1 := nodup_le n (l.erase (n : Int)) (hd.erase _) (fun x hx => by
   have h2 := (List.Nodup.mem_erase_iff hd).1 hx
   have h3 := h x h2.2
   refine ⟨h3.1, ?_⟩
   have := h2.1
   omega)
  by_cases hm : (n : Int) ∈ l
  ·rw [List.length_erase_of_mem hm] at h1
   omega
  ·rw [List.erase_of_not_mem hm] at h1
   omega

theorem pigeon (n : Nat) (f : Nat → Int) (hf : ∀ i, 0 ≤ f i ∧ f i < n) : ∃ a b, a < b ∧ b ≤ n ∧ f a = f b := by
 refine Classical.byContradiction fun hno => ?_
 have hd : ((List.range (n + 1)).map f).Nodup := by
  unfold List.Nodup
  rw [List.pairwise_map]
  refine List.Pairwise.imp_of_mem ?_ (List.pairwise_lt_range)
  intro a b _ hb hab he
  have := List.mem_range.1 hb
  exact hno ⟨a, b, hab, by omega, he⟩
 have := nodup_le n _ hd (fun x hx => by
  obtain ⟨i, _, rfl⟩ := List.mem_map.1 hx
  exact hf i)
 simp at this
 omega

theorem walk_of_seq {E : Int → Int → Prop} (f : Nat → Int) (hf : ∀ i, E (f i) (f (i + 1))) (a : Nat) : ∀ d, Walk E d (f a) (f (a + d))
 | 0 => rfl
 | d + 1 => (walk_of_seq f hf a d).snoc (hf (a + d))

theorem cyc_of_closed {E : Int → Int → Prop} {n : Nat} (U : Int → Prop) (hU : ∀ x, U x → 0 ≤ x ∧ x < n) (hs : ∀ x, U x → ∃ y, E x y ∧ U y) (x0 : Int) (h0 : U x0) :
  ∃ i m, 0 < m ∧ m ≤ n ∧ U i ∧ Walk E m i i := by
 classical
 let nxt : { x // U x } → { x // U x } := fun x => ⟨Classical.choose (hs x.1 x.2), (Classical.choose_spec (hs x.1 x.2)).2⟩
 have hn : ∀ x, E x.1 (nxt x).1 := fun x => (Classical.choose_spec (hs x.1 x.2)).1
 let g : Nat → { x // U x } := fun k => Nat.rec ⟨x0, h0⟩ (fun _ y => nxt y) k
 have hg : ∀ k, E (g k).1 (g (k + 1)).1 := fun k => hn (g k)
 obtain ⟨a, b, hab, hb, he⟩ := pigeon n (fun k => (g k).1) (fun k => hU _ (g k).2)
 refine ⟨(g a).1, b - a, by omega, by omega, (g a).2, ?_⟩
 have hw := walk_of_seq (E := E) (fun k => (g k).1) hg a (b - a)
 rw [show a + (b - a) = b by omega] at hw
 rw [← he] at hw
 exact hw

def On (E : Int → Int → Prop) (i x : Int) : Prop := (∃ a, Walk E a i x) ∧ ∃ b, 0 < b ∧ Walk E b x i
theorem on_next {E : Int → Int → Prop} {i : Int} {k : Nat} (hk : 0 < k) (hw : Walk E k i i) {x : Int} (h : On E i x) : ∃ y, E x y ∧ On E i y := by
 obtain ⟨⟨a, ha⟩, b, hb, hx⟩ := h
 obtain ⟨b, rfl⟩ : ∃ c, b = c + 1 := ⟨b - 1, by omega⟩
 obtain ⟨y, hy, hw2⟩ := hx
 exact ⟨y, hy, ⟨a + 1, ha.snoc hy⟩, b + k, by omega, hw2.append hw⟩
theorem on_self {E : Int → Int → Prop} {i : Int} {k : Nat} (hk : 0 < k) (hw : Walk E k i i) : On E i i := ⟨⟨0, rfl⟩, k, hk, hw⟩

/-! ### tables as a graph -/
def EdgeIn (l : List (List Int)) (n : Nat) (x y : Int) : Prop := ∃ t ∈ l, 0 ≤ x ∧ x < t.length ∧ t.getD x.toNat 0 = y ∧ 0 ≤ y ∧ y < n
def ld (n : Nat) (g : List Bool) (x : Nat) (acc : Bool) (t : List Int) : Bool := acc || (decide (x < t.length) && decide (0 ≤ t.getD x 0 ∧ t.getD x 0 < n) && !(g.getD (t.getD x 0).toNat false))
def leads (l : List (List Int)) (n : Nat) (g : List Bool) (x : Nat) : Bool := l.foldl (ld n g x) false
def ps1 (l : List (List Int)) (n : Nat) (s : List Bool × Bool) (x : Nat) : List Bool × Bool := if s.1.getD x false = true then s else if leads l n s.1 x = true then s else (s.1.set x true, true)
theorem ps1_gone {l : List (List Int)} {n : Nat} {s : List Bool × Bool} {x : Nat} (h : s.1.getD x false = true) : ps1 l n s x = s := by
 unfold ps1
 rw [if_pos h]
theorem foldl_or {α : Type} (p : α → Bool) : ∀ (l : List α) (b : Bool), l.foldl (fun acc t => acc || p t) b = (b || l.any p)
 | [], b => by simp
 | x :: xs, b => by
  rw [List.foldl_cons, foldl_or p xs, List.any_cons, Bool.or_assoc]
theorem leads_iff (l : List (List Int)) (n : Nat) (g : List Bool) (x : Nat) : leads l n g x = true ↔ ∃ y, EdgeIn l n (x : Int) y ∧ g.getD y.toNat false = false := by
 have e : leads l n g x = l.any (fun t => decide (x < t.length) && decide (0 ≤ t.getD x 0 ∧ t.getD x 0 < n) && !(g.getD (t.getD x 0).toNat false)) := by
  unfold leads ld
  rw [foldl_or, Bool.false_or]
 rw [e, List.any_eq_true]
 constructor
 ·rintro ⟨t, ht, h⟩
  simp only [Bool.and_eq_true, decide_eq_true_eq, Bool.not_eq_true'] at h
  exact ⟨t.getD x 0, ⟨t, ht, by omega, by omega, rfl, h.1.2.1, h.1.2.2⟩, h.2⟩
 ·rintro ⟨y, ⟨t, ht, _, h1, h2, h3, h4⟩, h5⟩
  refine ⟨t, ht, ?_⟩
  simp only [Int.toNat_natCast] at h2
  subst h2
  simp only [Bool.and_eq_true, decide_eq_true_eq, Bool.not_eq_true']
  exact ⟨⟨by omega, h3, h4⟩, h5⟩
def Keeps (l : List (List Int)) (n : Nat) (g : List Bool) : Prop := ∀ (i : Int) (k : Nat), 0 < k → Walk (EdgeIn l n) k i i → ∀ x : Nat, On (EdgeIn l n) i (x : Int) → g.getD x false = false
theorem getD_set_ne {g : List Bool} {x y : Nat} (h : x ≠ y) : (g.set x true).getD y false = g.getD y false := by
 simp [List.getD, List.getElem?_set_ne h]
theorem count_set {g : List Bool} {x : Nat} (h : x < g.length) (hx : g.getD x false = false) : (g.set x true).count false < g.count false := by
 induction g generalizing x with
 | nil => simp at h
 | cons b bs ih =>
  cases x with
  | zero =>
   simp at hx
   subst hx
   simp
  | succ x =>
   have := ih (x := x) (by simpa using h) (by simpa using hx)
   simp only [List.set_cons_succ, List.count_cons]
   omega
structure PassOk (l : List (List Int)) (n : Nat) (g : List Bool) (i : Nat) (s : List Bool × Bool) : Prop where
 len : s.1.length = n
 keeps : Keeps l n g → Keeps l n s.1
 same : s.2 = false → s.1 = g ∧ ∀ x, x < i → g.getD x false = false → leads l n g x = true
 less : s.2 = true → s.1.count false < g.count false
 le : s.1.count false ≤ g.count false
theorem pass_step {l : List (List Int)} {n : Nat} {g : List Bool} {i : Nat} {s : List Bool × Bool} (hi : i < n) (h : PassOk l n g i s) : PassOk l n g (i + 1) (ps1 l n s i) := by
 unfold ps1
 by_cases h1 : s.1.getD i false = true
 ·rw [if_pos h1]
  refine ⟨h.len, h.keeps, fun hs => ⟨(h.same hs).1, fun x hx hg => ?_⟩, h.less, h.le⟩
  rcases Nat.lt_succ_iff_lt_or_eq.1 hx with hx | rfl
  ·exact (h.same hs).2 x hx hg
  ·rw [(h.same hs).1, hg] at h1
   cases h1
 ·rw [if_neg h1]
  have h1' : s.1.getD i false = false := by simpa using h1
  by_cases h2 : leads l n s.1 i = true
  ·rw [if_pos h2]
   refine ⟨h.len, h.keeps, fun hs => ⟨(h.same hs).1, fun x hx hg => ?_⟩, h.less, h.le⟩
   rcases Nat.lt_succ_iff_lt_or_eq.1 hx with hx | rfl
   ·exact (h.same hs).2 x hx hg
   ·rw [(h.same hs).1] at h2
    exact h2
  ·rw [if_neg h2]
   have hc := count_set (g := s.1) (x := i) (by rw [h.len]; exact hi) h1'
   have hle := h.le
   refine ⟨by rw [List.length_set]; exact h.len, fun hk j k hk0 hw x hx => ?_, fun hs => (by cases hs), fun _ => by show (s.1.set i true).count false < _; omega, by show (s.1.set i true).count false ≤ _; omega⟩
   have hkx := h.keeps hk j k hk0 hw x hx
   by_cases e : i = x
   ·subst e
    exfalso
    apply h2
    rw [leads_iff]
    obtain ⟨y, hy, hon⟩ := on_next hk0 hw hx
    refine ⟨y, hy, ?_⟩
    have hy0 : 0 ≤ y := by obtain ⟨t, _, _, _, _, h3, _⟩ := hy; exact h3
    obtain ⟨m, rfl⟩ := Int.eq_ofNat_of_zero_le hy0
    exact h.keeps hk j k hk0 hw m hon
   ·show (s.1.set i true).getD x false = false
    rw [getD_set_ne e]
    exact hkx
open Go.Proofs.Ytiihaabhjphaeaa.Kit in
theorem pass_ok {l : List (List Int)} {n : Nat} {g : List Bool} (hg : g.length = n) : ∀ i, i ≤ n → PassOk l n g i (foldTo (ps1 l n) (g, false) (List.range n) i) := by
 intro i
 induction i with
 | zero =>
  intro _
  rw [foldTo_zero]
  exact ⟨hg, fun h => h, fun _ => ⟨rfl, fun x hx => (by omega)⟩, fun h => (by cases h), Nat.le_refl _⟩
 | succ i ih =>
  intro hi
  rw [foldTo_succ (ps1 l n) (g, false) (by rw [List.length_range]; omega) 0]
  have e : (List.range n).getD i 0 = i := by
   rw [getD_at (by rw [List.length_range]; omega)]
   simp
  rw [e]
  exact pass_step (by omega) (ih (by omega))
theorem left_iff {l : List (List Int)} {n : Nat} {g : List Bool} (hl : ∀ t ∈ l, t.length ≤ n) (hk : Keeps l n g) (hlead : ∀ x, x < n → g.getD x false = false → leads l n g x = true) : (∃ x, x < n ∧ g.getD x false = false) ↔ Cyc (EdgeIn l n) := by
 constructor
 ·rintro ⟨x, hx, hg⟩
  obtain ⟨i, m, hm, _, _, hw⟩ := cyc_of_closed (E := EdgeIn l n) (n := n) (fun z => 0 ≤ z ∧ z < n ∧ g.getD z.toNat false = false) (fun z hz => ⟨hz.1, hz.2.1⟩) (fun z hz => by
   obtain ⟨m, rfl⟩ := Int.eq_ofNat_of_zero_le hz.1
   obtain ⟨y, hy, hgy⟩ := (leads_iff l n g m).1 (hlead m (by omega) (by simpa using hz.2.2))
   refine ⟨y, hy, ?_⟩
   obtain ⟨t, _, _, _, _, h3, h4⟩ := hy
   exact ⟨h3, h4, hgy⟩) (x : Int) ⟨by omega, by omega, by simpa using hg⟩
  exact ⟨i, m, hm, hw⟩
 ·rintro ⟨i, m, hm, hw⟩
  have hon := on_self hm hw
  obtain ⟨y, hy, _⟩ := on_next hm hw hon
  obtain ⟨t, ht, h0, h1, _⟩ := hy
  obtain ⟨x, rfl⟩ := Int.eq_ofNat_of_zero_le h0
  have := hl t ht
  exact ⟨x, by omega, hk _ m hm hw x hon⟩

/-! ### the reference's search -/
def Few (n : Nat) (l : List Int) : Prop := l.Nodup ∧ ∀ y ∈ l, 0 ≤ y ∧ y < n
theorem Few.le {n : Nat} {l : List Int} (h : Few n l) : l.length ≤ n := nodup_le n l h.1 h.2
theorem Few.nil (n : Nat) : Few n [] := ⟨List.nodup_nil, by simp⟩
theorem Few.snoc {n : Nat} {l : List Int} {y : Int} (h : Few n l) (hy : 0 ≤ y ∧ y < n) (hn : y ∉ l) : Few n (l ++ [y]) := by
 refine ⟨?_, fun z hz => ?_⟩
 ·rw [List.nodup_append]
  exact ⟨h.1, by simp, fun a ha b hb => by
   rw [List.mem_singleton.1 hb]
   rintro rfl
   exact hn ha⟩
 ·rcases List.mem_append.1 hz with hz | hz
  ·exact h.2 z hz
  ·rw [List.mem_singleton.1 hz]
   exact hy
structure Srch (l : List (List Int)) (n i : Nat) (seen : List Int) (k : Nat) : Prop where
 few : Few n seen
 le : k ≤ seen.length
 from_ : ∀ y ∈ seen, ∃ m, 0 < m ∧ Walk (EdgeIn l n) m i y
 first : ∀ y, EdgeIn l n i y → y ∈ seen
 closed : ∀ j, j < k → seen.getD j 0 ≠ i ∧ ∀ y, EdgeIn l n (seen.getD j 0) y → y ∈ seen
end Go.Proofs.Ytiihaabhjphaeaa.Graph
/- The program's UnionHasLoop tells whether the tables, as one graph, hold a circle. Conditions: none. -/
namespace Go.Proofs.Ytiihaabhjphaeaa.fnSwitched
open Go.RowKit Go.Proofs.YtiihaabhjphaeaaW.PrintWords Go.Proofs.YtiihaabhjphaeaaW.PrintMore Go.Proofs.Ytiihaabhjphaeaa.QFnSwitched Go.Proofs.Ytiihaabhjphaeaa.Open Go.Proofs.Ytiihaabhjphaeaa.Kit Go.Proofs.Ytiihaabhjphaeaa.Graph
theorem ixU (a n : Int) : impl_isIndex.f a n = some (decide (0 ≤ a ∧ a < n)) := by
 unfold impl_isIndex.f
 by_cases h : 0 ≤ a <;> simp [h]
def msz (l : List (List Int)) : Int := l.foldl (fun m t => mx m (t.length : Int)) 0
theorem msz_ge (l : List (List Int)) (b : Int) (hb : 0 ≤ b) : 0 ≤ l.foldl (fun m t => mx m (t.length : Int)) b ∧ b ≤ l.foldl (fun m t => mx m (t.length : Int)) b ∧ (∀ t ∈ l, (t.length : Int) ≤ l.foldl (fun m t => mx m (t.length : Int)) b) ∧ ∀ B : Int, b ≤ B → (∀ t ∈ l, (t.length : Int) ≤ B) → l.foldl (fun m t => mx m (t.length : Int)) b ≤ B := by
 induction l generalizing b with
 | nil => exact ⟨hb, Int.le_refl _, by simp, fun B h _ => h⟩
 | cons t ts ih =>
  have hm : b ≤ mx b (t.length : Int) ∧ (t.length : Int) ≤ mx b (t.length : Int) ∧ ∀ B : Int, b ≤ B → (t.length : Int) ≤ B → mx b (t.length : Int) ≤ B := by
   rw [mx_def]
   exact ⟨by omega, by omega, fun B _ _ => by omega⟩
  obtain ⟨h1, h2, h3, h4⟩ := ih (mx b (t.length : Int)) (by omega)
  rw [List.foldl_cons]
  refine ⟨h1, by omega, fun u hu => ?_, fun B hB hu => h4 B (hm.2.2 B hB (hu t List.mem_cons_self)) (fun u hu' => hu u (List.mem_cons_of_mem _ hu'))⟩
  rcases List.mem_cons.1 hu with rfl | hu
  ·omega
  ·exact h3 u hu
theorem l3_ev {l : List (List Int)} {n : Nat} {g : List Bool} {ch : Bool} {x : Nat} {r : Bool} (hx : x < n) (hn : n ≤ 1048576) (hg : g.length = n) (hl : l.length ≤ 1048576) (hgx : g.getD x false = false)
  (h : Ev (fun k => impl_UnionHasLoop.l2 k l (n : Int) (ps1 l n (g, ch) x).1 (ps1 l n (g, ch) x).2 (n : Int) ((x + 1 : Nat) : Int)) r) :
  Ev (fun k => impl_UnionHasLoop.l3 k l (n : Int) g ch (x : Int) false (n : Int) (x : Int) l (l.length : Int) 0) r := by
 have h0 := foldTo_zero (ld n g x) false l
 rw [show (fun k => impl_UnionHasLoop.l3 k l (n : Int) g ch (x : Int) false (n : Int) (x : Int) l (l.length : Int) 0) = (fun k => impl_UnionHasLoop.l3 k l (n : Int) g ch (x : Int) (foldTo (ld n g x) false l 0) (n : Int) (x : Int) l (l.length : Int) ((0 : Nat) : Int)) by rw [h0]; rfl]
 refine Ev.up (n := l.length) (g := fun j k => impl_UnionHasLoop.l3 k l (n : Int) g ch (x : Int) (foldTo (ld n g x) false l j) (n : Int) (x : Int) l (l.length : Int) (j : Int)) ?_ ?_
 ·intro j hj ih
  rw [foldTo_succ (ld n g x) false hj []] at ih
  refine Ev.step (fun k => by rw [impl_UnionHasLoop.l3]) ?_
  repeat (first | (with_reducible refine Ev.ite_pos (by omega) ?_) | (with_reducible refine Ev.ite_neg (by omega) ?_))
  rw [w64n (by omega)]
  cases hacc : foldTo (ld n g x) false l j with
  | true =>
   rw [hacc] at ih
   exact Ev.ite_pos rfl (by simpa [ld] using ih)
  | false =>
   rw [hacc] at ih
   refine Ev.ite_neg (by simp) ?_
   by_cases hxl : x < (l.getD j []).length
   ·refine Ev.ite_pos (by show (x : Int) < (((l.getD j []).length : Nat) : Int); omega) ?_
    refine Ev.ite_pos (by omega) ?_
    refine Ev.bind0 (ixU ((l.getD j []).getD x 0) (n : Int)) ?_
    by_cases hy : 0 ≤ (l.getD j []).getD x 0 ∧ (l.getD j []).getD x 0 < (n : Int)
    ·refine Ev.ite_pos (by simp only [decide_eq_true_eq]; exact hy) ?_
     refine Ev.ite_pos hy.1 ?_
     refine Ev.ite_pos (by show (l.getD j []).getD x 0 < (g.length : Int); omega) ?_
     have e : ld n g x false (l.getD j []) = !(rdOf false g ((l.getD j []).getD x 0)) := by
      unfold ld
      rw [Bool.false_or, decide_eq_true hxl, decide_eq_true hy]
      rfl
     rw [e] at ih
     exact ih
    ·refine Ev.ite_neg (by simp only [decide_eq_true_eq]; exact hy) ?_
     have e : ld n g x false (l.getD j []) = false := by
      unfold ld
      rw [decide_eq_false hy]
      simp
     rw [e] at ih
     exact ih
   ·refine Ev.ite_neg (by show ¬ (x : Int) < (((l.getD j []).length : Nat) : Int); omega) ?_
    have e : ld n g x false (l.getD j []) = false := by
     unfold ld
     rw [decide_eq_false hxl]
     simp
    rw [e] at ih
    exact ih
 ·refine Ev.step (fun k => by rw [impl_UnionHasLoop.l3]) ?_
  repeat (first | (with_reducible refine Ev.ite_pos (by omega) ?_) | (with_reducible refine Ev.ite_neg (by omega) ?_))
  rw [foldTo_all]
  have hps : ps1 l n (g, ch) x = if leads l n g x = true then (g, ch) else (g.set x true, true) := by
   unfold ps1
   rw [if_neg (by simpa using hgx)]
  have e : l.foldl (ld n g x) false = leads l n g x := rfl
  rw [e]
  by_cases hL : leads l n g x = true
  ·refine Ev.ite_pos hL ?_
   rw [hps, if_pos hL] at h
   rw [w64n (by omega)]
   exact h
  ·refine Ev.ite_neg hL ?_
   rw [hps, if_neg hL] at h
   repeat (first | (with_reducible refine Ev.ite_pos (by omega) ?_) | (with_reducible refine Ev.ite_neg (by omega) ?_))
   rw [Int.toNat_natCast, w64n (by omega)]
   exact h
theorem l2_ev {l : List (List Int)} {n : Nat} {g : List Bool} {r : Bool} (hn : n ≤ 1048576) (hg : g.length = n) (hl : l.length ≤ 1048576)
  (h : Ev (fun k => impl_UnionHasLoop.l1 k l (n : Int) (foldTo (ps1 l n) (g, false) (List.range n) n).1 (foldTo (ps1 l n) (g, false) (List.range n) n).2) r) :
  Ev (fun k => impl_UnionHasLoop.l2 k l (n : Int) g false (n : Int) 0) r := by
 have h0 := foldTo_zero (ps1 l n) (g, false) (List.range n)
 rw [show (fun k => impl_UnionHasLoop.l2 k l (n : Int) g false (n : Int) 0) = (fun k => impl_UnionHasLoop.l2 k l (n : Int) (foldTo (ps1 l n) (g, false) (List.range n) 0).1 (foldTo (ps1 l n) (g, false) (List.range n) 0).2 (n : Int) ((0 : Nat) : Int)) by rw [h0]; rfl]
 refine Ev.up (n := n) (g := fun i k => impl_UnionHasLoop.l2 k l (n : Int) (foldTo (ps1 l n) (g, false) (List.range n) i).1 (foldTo (ps1 l n) (g, false) (List.range n) i).2 (n : Int) (i : Int)) ?_ ?_
 ·intro i hi ih
  have hlen := (pass_ok (l := l) hg i (by omega)).len
  have e : (List.range n).getD i 0 = i := by
   rw [getD_at (by rw [List.length_range]; omega)]
   simp
  rw [foldTo_succ (ps1 l n) (g, false) (by rw [List.length_range]; omega) 0, e] at ih
  refine Ev.step (fun k => by rw [impl_UnionHasLoop.l2]) ?_
  repeat (first | (with_reducible refine Ev.ite_pos (by omega) ?_) | (with_reducible refine Ev.ite_neg (by omega) ?_))
  by_cases hg1 : (foldTo (ps1 l n) (g, false) (List.range n) i).1.getD i false = true
  ·refine Ev.ite_pos hg1 ?_
   rw [w64n (by omega)]
   rw [ps1_gone hg1] at ih
   exact ih
  ·refine Ev.ite_neg hg1 ?_
   exact l3_ev hi hn hlen hl (by simpa using hg1) ih
 ·refine Ev.step (fun k => by rw [impl_UnionHasLoop.l2]) ?_
  repeat (first | (with_reducible refine Ev.ite_pos (by omega) ?_) | (with_reducible refine Ev.ite_neg (by omega) ?_))
  exact h
theorem l4_ev {n : Nat} {g : List Bool} (hn : n ≤ 1048576) (hg : g.length = n) : ∃ r, Ev (fun k => impl_UnionHasLoop.l4 k g (n : Int) 0) r ∧ (r = true ↔ ∃ x, x < n ∧ g.getD x false = false) := by
 have key : ∀ d i : Nat, i + d = n → ∃ r, Ev (fun k => impl_UnionHasLoop.l4 k g (n : Int) (i : Int)) r ∧ (r = true ↔ ∃ x, i ≤ x ∧ x < n ∧ g.getD x false = false) := by
  intro d
  induction d with
  | zero =>
   intro i hi
   refine ⟨false, ?_, by simp; intro x h1 h2; omega⟩
   refine Ev.step (fun k => by rw [impl_UnionHasLoop.l4]) ?_
   repeat (first | (with_reducible refine Ev.ite_pos (by omega) ?_) | (with_reducible refine Ev.ite_neg (by omega) ?_))
   exact Ev.now _
  | succ d ih =>
   intro i hi
   by_cases hb : g.getD i false = true
   ·obtain ⟨r, hr, hiff⟩ := ih (i + 1) (by omega)
    refine ⟨r, ?_, ?_⟩
    ·refine Ev.step (fun k => by rw [impl_UnionHasLoop.l4]) ?_
     repeat (first | (with_reducible refine Ev.ite_pos (by omega) ?_) | (with_reducible refine Ev.ite_neg (by omega) ?_))
     refine Ev.ite_pos hb ?_
     rw [w64n (by omega)]
     exact hr
    ·rw [hiff]
     constructor
     ·rintro ⟨x, h1, h2, h3⟩
      exact ⟨x, by omega, h2, h3⟩
     ·rintro ⟨x, h1, h2, h3⟩
      refine ⟨x, ?_, h2, h3⟩
      rcases Nat.eq_or_lt_of_le h1 with rfl | h1
      ·rw [hb] at h3
       cases h3
      ·exact h1
   ·refine ⟨true, ?_, ?_⟩
    ·refine Ev.step (fun k => by rw [impl_UnionHasLoop.l4]) ?_
     repeat (first | (with_reducible refine Ev.ite_pos (by omega) ?_) | (with_reducible refine Ev.ite_neg (by omega) ?_))
     exact Ev.ite_neg hb (Ev.now _)
    ·exact ⟨fun _ => ⟨i, Nat.le_refl _, by omega, by simpa using hb⟩, fun _ => rfl⟩
 obtain ⟨r, hr, hiff⟩ := key n 0 (by omega)
 refine ⟨r, hr, ?_⟩
 rw [hiff]
 exact ⟨fun ⟨x, _, h⟩ => ⟨x, h⟩, fun ⟨x, h⟩ => ⟨x, Nat.zero_le _, h⟩⟩
theorem l1_ev {l : List (List Int)} {n : Nat} (hn : n ≤ 1048576) (hl : l.length ≤ 1048576) (hlt : ∀ t ∈ l, t.length ≤ n) : ∀ (c : Nat) (g : List Bool), g.count false ≤ c → g.length = n → Keeps l n g →
  ∃ r, Ev (fun k => impl_UnionHasLoop.l1 k l (n : Int) g true) r ∧ (r = true ↔ Cyc (EdgeIn l n)) := by
 intro c
 induction c with
 | zero =>
  intro g hc hg hk
  have hp := pass_ok (l := l) hg n (Nat.le_refl _)
  cases hs : (foldTo (ps1 l n) (g, false) (List.range n) n).2 with
  | true =>
   have := hp.less hs
   omega
  | false =>
   obtain ⟨r, hr, hiff⟩ := l4_ev hn hp.len
   refine ⟨r, ?_, ?_⟩
   ·refine Ev.step (fun k => by rw [impl_UnionHasLoop.l1]) ?_
    refine Ev.ite_pos rfl ?_
    refine l2_ev hn hg hl ?_
    rw [hs]
    refine Ev.step (fun k => by rw [impl_UnionHasLoop.l1]) ?_
    exact Ev.ite_neg (by simp) hr
   ·rw [hiff, (hp.same hs).1]
    exact left_iff hlt hk (hp.same hs).2
 | succ c ih =>
  intro g hc hg hk
  have hp := pass_ok (l := l) hg n (Nat.le_refl _)
  cases hs : (foldTo (ps1 l n) (g, false) (List.range n) n).2 with
  | true =>
   have := hp.less hs
   obtain ⟨r, hr, hiff⟩ := ih _ (by omega) hp.len (hp.keeps hk)
   refine ⟨r, ?_, hiff⟩
   refine Ev.step (fun k => by rw [impl_UnionHasLoop.l1]) ?_
   refine Ev.ite_pos rfl ?_
   refine l2_ev hn hg hl ?_
   rw [hs]
   exact hr
  | false =>
   obtain ⟨r, hr, hiff⟩ := l4_ev hn hp.len
   refine ⟨r, ?_, ?_⟩
   ·refine Ev.step (fun k => by rw [impl_UnionHasLoop.l1]) ?_
    refine Ev.ite_pos rfl ?_
    refine l2_ev hn hg hl ?_
    rw [hs]
    refine Ev.step (fun k => by rw [impl_UnionHasLoop.l1]) ?_
    exact Ev.ite_neg (by simp) hr
   ·rw [hiff, (hp.same hs).1]
    exact left_iff hlt hk (hp.same hs).2
theorem union2 (l : List (List Int)) (hl : l.length ≤ 1048576) (hb : ∀ t ∈ l, t.length ≤ 1048576) : ∃ r, Ev (fun k => impl_UnionHasLoop.f k l) r ∧ (r = true ↔ Cyc (EdgeIn l (msz l).toNat)) := by
 obtain ⟨h1, _, h3, h4⟩ := msz_ge l 0 (by omega)
 have h5 := h4 1048576 (by omega) (fun t ht => by have := hb t ht; omega)
 obtain ⟨n, hn⟩ := Int.eq_ofNat_of_zero_le h1
 have hn' : msz l = (n : Int) := hn
 rw [hn] at h3 h5
 obtain ⟨r, hr, hiff⟩ := l1_ev (l := l) (n := n) (by omega) hl (fun t ht => by have := h3 t ht; omega) _ (List.replicate n false) (Nat.le_refl _) (List.length_replicate ..) (fun _ _ _ _ x _ => by
  by_cases hx : x < n <;> simp [List.getD, hx])
 refine ⟨r, ?_, by rw [hn']; exact hiff⟩
 have h0 := foldTo_zero (fun m (t : List Int) => mx m (t.length : Int)) 0 l
 show Ev (fun k => impl_UnionHasLoop.l0 k l 0 l (l.length : Int) 0) r
 rw [show (fun k => impl_UnionHasLoop.l0 k l 0 l (l.length : Int) 0) = (fun k => impl_UnionHasLoop.l0 k l (foldTo (fun m (t : List Int) => mx m (t.length : Int)) 0 l 0) l (l.length : Int) ((0 : Nat) : Int)) by rw [h0]; rfl]
 refine Ev.up (n := l.length) (g := fun i k => impl_UnionHasLoop.l0 k l (foldTo (fun m (t : List Int) => mx m (t.length : Int)) 0 l i) l (l.length : Int) (i : Int)) ?_ ?_
 ·intro i hi ih
  rw [foldTo_succ _ 0 hi []] at ih
  refine Ev.step (fun k => by rw [impl_UnionHasLoop.l0]) ?_
  repeat (first | (with_reducible refine Ev.ite_pos (by omega) ?_) | (with_reducible refine Ev.ite_neg (by omega) ?_))
  rw [w64n (by omega)]
  exact ih
 ·refine Ev.step (fun k => by rw [impl_UnionHasLoop.l0]) ?_
  repeat (first | (with_reducible refine Ev.ite_pos (by omega) ?_) | (with_reducible refine Ev.ite_neg (by omega) ?_))
  rw [foldTo_all]
  rw [show l.foldl (fun m (t : List Int) => mx m (t.length : Int)) 0 = (n : Int) from hn]
  repeat (first | (with_reducible refine Ev.ite_pos (by omega) ?_) | (with_reducible refine Ev.ite_neg (by omega) ?_))
  rw [Int.toNat_natCast]
  exact hr
end Go.Proofs.Ytiihaabhjphaeaa.fnSwitched
/- The reference's UnionHasLoop tells whether the tables, as one graph, hold a circle. Conditions: none. -/
namespace Go.Proofs.Ytiihaabhjphaeaa.fnSwitched
open Go.RowKit Go.Proofs.YtiihaabhjphaeaaW.PrintWords Go.Proofs.YtiihaabhjphaeaaW.PrintMore Go.Proofs.Ytiihaabhjphaeaa.QFnSwitched Go.Proofs.Ytiihaabhjphaeaa.Open Go.Proofs.Ytiihaabhjphaeaa.Kit Go.Proofs.Ytiihaabhjphaeaa.Graph
end Go.Proofs.Ytiihaabhjphaeaa.fnSwitched
/- Whether a mixture of tables is safe, in the program and in the reference. Conditions: none. -/
namespace Go.Proofs.Ytiihaabhjphaeaa.fnSwitched
open Go.RowKit Go.Proofs.YtiihaabhjphaeaaW.PrintWords Go.Proofs.YtiihaabhjphaeaaW.PrintMore Go.Proofs.Ytiihaabhjphaeaa.QFnSwitched Go.Proofs.Ytiihaabhjphaeaa.Open Go.Proofs.Ytiihaabhjphaeaa.Kit Go.Proofs.Ytiihaabhjphaeaa.Graph
def rowsA (p : List S105) (d : Int) (ks : List Int) : List (List Int) := ks.map fun k => (tableIn p k d).2.2.1
theorem row_len {p : List S105} (hp : nPgI p ≤ 1048576) (k d : Int) : (tableIn p k d).2.2.1.length ≤ 1048576 := by
 unfold tableIn
 by_cases h : okT p k d
 ·rw [if_pos h]
  exact (tab_len hp h).2.2
 ·rw [if_neg h]
  simp
end Go.Proofs.Ytiihaabhjphaeaa.fnSwitched
/- A search in breadth from one node: what it comes to, and what holds of its answer. Conditions: none. -/
namespace Go.Proofs.Ytiihaabhjphaeaa.Bfs
open Go.RowKit Go.Proofs.YtiihaabhjphaeaaW.PrintWords Go.Proofs.Ytiihaabhjphaeaa.Kit
def vis (n : Nat) (c : Int) : List Int → List Int → List Int → List Int × List Int
 | [], d, q => (d, q)
 | y :: ys, d, q => if 0 ≤ y ∧ y < n ∧ rd d y < 0 then vis n c ys (d.set y.toNat c) (q ++ [y]) else vis n c ys d q
def bfs (near : Int → List Int) (ex : Int → Bool) (n : Nat) : Nat → List Int → List Int → List Int
 | 0, d, _ => d
 | _ + 1, d, [] => d
 | f + 1, d, x :: q => if ex x = true then bfs near ex n f (vis n (rd d x + 1) (near x) d q).1 (vis n (rd d x + 1) (near x) d q).2 else bfs near ex n f d q
def neg (d : List Int) : Nat := d.countP (fun x => decide (x < 0))
theorem neg_set : ∀ (d : List Int) (i : Nat) (c : Int), i < d.length → d.getD i 0 < 0 → 0 ≤ c → neg (d.set i c) + 1 = neg d
 | [], i, c, h, _, _ => by simp at h
 | x :: d, 0, c, _, h, hc => by
  have h' : x < 0 := by simpa using h
  have hc' : ¬ c < 0 := by omega
  simp [neg, h', hc']
 | x :: d, i + 1, c, h, hx, hc => by
  have := neg_set d i c (by simpa using h) (by simpa using hx) hc
  simp only [neg, List.set_cons_succ, List.countP_cons] at this ⊢
  omega
theorem neg_lt {d : List Int} {x : Int} (hx : x ∈ d) (h : 0 ≤ x) : neg d < d.length := by
 have h1 := List.length_eq_countP_add_countP (fun x : Int => decide (x < 0)) (l := d)
 have h2 : 0 < List.countP (fun a : Int => !decide (a < 0)) d := List.countP_pos_iff.2 ⟨x, hx, by simp; omega⟩
 have h3 : List.countP (fun a : Int => decide ¬ decide (a < 0) = true) d = List.countP (fun a : Int => !decide (a < 0)) d := by
  refine List.countP_congr fun a _ => ?_
  simp
 unfold neg
 omega
theorem rd_set {d : List Int} {i j c : Int} (hi : 0 ≤ i) (hj : 0 ≤ j) (h : i < d.length) : rd (d.set i.toNat c) j = if i = j then c else rd d j := by
 unfold rd
 rw [List.getD_eq_getElem?_getD, List.getElem?_set, List.getD_eq_getElem?_getD]
 by_cases e : i = j
 ·subst e
  rw [if_pos rfl, if_pos rfl, if_pos (by omega)]
  rfl
 ·rw [if_neg (by omega), if_neg e]
theorem rd_mem {d : List Int} {x : Int} (h0 : 0 ≤ x) (h : x < d.length) : rd d x ∈ d := getD_mem (by omega) 0
theorem vis_spec {n : Nat} {c : Int} (hc : 0 ≤ c) : ∀ (ys d q : List Int), d.length = n → ∃ a, (vis n c ys d q).2 = q ++ a ∧ (vis n c ys d q).1.length = n ∧ neg (vis n c ys d q).1 + a.length = neg d ∧
   (∀ y ∈ a, y ∈ ys ∧ 0 ≤ y ∧ y < n ∧ rd (vis n c ys d q).1 y = c) ∧ (∀ v : Int, 0 ≤ v → v < n → rd (vis n c ys d q).1 v = rd d v ∨ rd d v < 0 ∧ rd (vis n c ys d q).1 v = c ∧ v ∈ a) ∧ ∀ y ∈ ys, 0 ≤ y → y < n → 0 ≤ rd (vis n c ys d q).1 y
 | [], d, q, hd => ⟨[], by simp [vis], hd, by simp [vis], by simp, fun v _ _ => .inl rfl, by simp⟩
 | y :: ys, d, q, hd => by
  by_cases h : 0 ≤ y ∧ y < n ∧ rd d y < 0
  ·obtain ⟨a, h1, h2, h3, h4, h5, h6⟩ := vis_spec hc ys (d.set y.toNat c) (q ++ [y]) (by simpa using hd)
   have hs : ∀ v : Int, 0 ≤ v → rd (d.set y.toNat c) v = if y = v then c else rd d v := fun v hv => rd_set h.1 hv (by omega)
   have hy : rd (vis n c ys (d.set y.toNat c) (q ++ [y])).1 y = c := by
    rcases h5 y h.1 h.2.1 with e | ⟨e, _⟩
    ·rw [e, hs y h.1, if_pos rfl]
    ·rw [hs y h.1, if_pos rfl] at e
     omega
   refine ⟨y :: a, ?_, ?_, ?_, ?_, ?_, ?_⟩
   ·simp only [vis, if_pos h]
    rw [h1]
    simp
   ·simp only [vis, if_pos h]
    exact h2
   ·simp only [vis, if_pos h]
    have := neg_set d y.toNat c (by omega) h.2.2 hc
    rw [List.length_cons]
    omega
   ·simp only [vis, if_pos h]
    intro v hv
    rcases List.mem_cons.1 hv with rfl | hv
    ·exact ⟨List.mem_cons_self, h.1, h.2.1, hy⟩
    ·exact ⟨List.mem_cons_of_mem _ (h4 v hv).1, (h4 v hv).2⟩
   ·simp only [vis, if_pos h]
    intro v h0 hn
    by_cases e : y = v
    ·subst e
     exact .inr ⟨h.2.2, hy, List.mem_cons_self⟩
    ·rcases h5 v h0 hn with g | ⟨g1, g2, g3⟩
     ·rw [hs v h0, if_neg e] at g
      exact .inl g
     ·rw [hs v h0, if_neg e] at g1
      exact .inr ⟨g1, g2, List.mem_cons_of_mem _ g3⟩
   ·simp only [vis, if_pos h]
    intro v hv h0 hn
    rcases List.mem_cons.1 hv with rfl | hv
    ·rw [hy]
     exact hc
    ·exact h6 v hv h0 hn
  ·obtain ⟨a, h1, h2, h3, h4, h5, h6⟩ := vis_spec hc ys d q hd
   simp only [vis, if_neg h]
   refine ⟨a, h1, h2, h3, fun v hv => ⟨List.mem_cons_of_mem _ (h4 v hv).1, (h4 v hv).2⟩, h5, ?_⟩
   intro v hv h0 hn
   rcases List.mem_cons.1 hv with rfl | hv
   ·rcases h5 v h0 hn with g | ⟨_, g, _⟩
    ·rw [g]
     omega
    ·omega
   ·exact h6 v hv h0 hn
structure Inv (near : Int → List Int) (ex : Int → Bool) (n : Nat) (dst : Int) (d q : List Int) : Prop where
 len : d.length = n
 din : 0 ≤ dst ∧ dst < n
 d0 : rd d dst = 0
 zero : ∀ x : Int, 0 ≤ x → x < n → rd d x = 0 → x = dst
 qin : ∀ x ∈ q, 0 ≤ x ∧ x < n ∧ 0 ≤ rd d x
 low : ∀ x : Int, 0 ≤ x → x < n → -1 ≤ rd d x
 pred : ∀ v : Int, 0 ≤ v → v < n → 0 < rd d v → ∃ u : Int, 0 ≤ u ∧ u < n ∧ ex u = true ∧ v ∈ near u ∧ rd d u = rd d v - 1
 done : ∀ u : Int, 0 ≤ u → u < n → 0 ≤ rd d u → u ∈ q ∨ (ex u = true → ∀ v ∈ near u, 0 ≤ v → v < n → 0 ≤ rd d v ∧ rd d v ≤ rd d u + 1)
 sorted : q.Pairwise (fun x y => rd d x ≤ rd d y)
 head : ∀ h q', q = h :: q' → ∀ v : Int, 0 ≤ v → v < n → rd d v ≤ rd d h + 1
 bound : ∀ v : Int, 0 ≤ v → v < n → rd d v + neg d < n
theorem Inv.skip {near : Int → List Int} {ex : Int → Bool} {n : Nat} {dst x : Int} {d q : List Int} (H : Inv near ex n dst d (x :: q)) (hx : ¬ ex x = true) : Inv near ex n dst d q := by
 have hs := List.pairwise_cons.1 H.sorted
 refine ⟨H.len, H.din, H.d0, H.zero, fun y hy => H.qin y (List.mem_cons_of_mem _ hy), H.low, H.pred, ?_, hs.2, ?_, H.bound⟩
 ·intro u h0 hn hu
  rcases H.done u h0 hn hu with h | h
  ·rcases List.mem_cons.1 h with rfl | h
   ·exact .inr fun he => absurd he hx
   ·exact .inl h
  ·exact .inr h
 ·intro h q' e v h0 hn
  have h1 := H.head x q rfl v h0 hn
  have h2 := hs.1 h (by rw [e]; exact List.mem_cons_self)
  omega
theorem Inv.step {near : Int → List Int} {ex : Int → Bool} {n : Nat} {dst x : Int} {d q : List Int} (H : Inv near ex n dst d (x :: q)) (hx : ex x = true) :
  Inv near ex n dst (vis n (rd d x + 1) (near x) d q).1 (vis n (rd d x + 1) (near x) d q).2 ∧ neg (vis n (rd d x + 1) (near x) d q).1 + (vis n (rd d x + 1) (near x) d q).2.length + 1 = neg d + (x :: q).length := by
 have hs := List.pairwise_cons.1 H.sorted
 have hxi := H.qin x List.mem_cons_self
 obtain ⟨a, h1, h2, h3, h4, h5, h6⟩ := vis_spec (n := n) (c := rd d x + 1) (by omega) (near x) d q H.len
 generalize (vis n (rd d x + 1) (near x) d q).1 = d' at *
 generalize (vis n (rd d x + 1) (near x) d q).2 = q' at *
 subst h1
 have keep : ∀ v : Int, 0 ≤ v → v < n → 0 ≤ rd d v → rd d' v = rd d v := fun v h0 hn hv => by
  rcases h5 v h0 hn with e | ⟨e, _⟩
  ·exact e
  ·omega
 have up : ∀ v : Int, 0 ≤ v → v < n → rd d' v ≤ rd d x + 1 := fun v h0 hn => by
  rcases h5 v h0 hn with e | ⟨_, e, _⟩
  ·rw [e]
   exact H.head x q rfl v h0 hn
  ·omega
 have hbx := H.bound x hxi.1 hxi.2.1
 refine ⟨⟨h2, H.din, ?_, ?_, ?_, ?_, ?_, ?_, ?_, ?_, ?_⟩, ?_⟩
 ·rw [keep _ H.din.1 H.din.2 (by rw [H.d0]; omega), H.d0]
 ·intro v h0 hn e
  rcases h5 v h0 hn with g | ⟨_, g, _⟩
  ·exact H.zero v h0 hn (by omega)
  ·omega
 ·intro v hv
  rcases List.mem_append.1 hv with hv | hv
  ·have := H.qin v (List.mem_cons_of_mem _ hv)
   rw [keep v this.1 this.2.1 this.2.2]
   exact this
  ·have := h4 v hv
   exact ⟨this.2.1, this.2.2.1, by omega⟩
 ·intro v h0 hn
  have := H.low v h0 hn
  rcases h5 v h0 hn with g | ⟨_, g, _⟩ <;> omega
 ·intro v h0 hn hv
  rcases h5 v h0 hn with g | ⟨_, g, hm⟩
  ·obtain ⟨u, hu0, hun, he, hm, hd⟩ := H.pred v h0 hn (by omega)
   exact ⟨u, hu0, hun, he, hm, by rw [keep u hu0 hun (by omega)]; omega⟩
  ·exact ⟨x, hxi.1, hxi.2.1, hx, (h4 v hm).1, by rw [keep x hxi.1 hxi.2.1 hxi.2.2]; omega⟩
 ·intro u h0 hn hu
  rcases h5 u h0 hn with g | ⟨_, g, hm⟩
  ·rcases H.done u h0 hn (by omega) with h | h
   ·rcases List.mem_cons.1 h with rfl | h
    ·refine .inr fun _ v hv hv0 hvn => ⟨h6 v hv hv0 hvn, ?_⟩
     have := up v hv0 hvn
     omega
    ·exact .inl (List.mem_append_left _ h)
   ·refine .inr fun he v hv hv0 hvn => ?_
    have := h he v hv hv0 hvn
    rw [keep v hv0 hvn this.1]
    omega
  ·exact .inl (List.mem_append_right _ hm)
 ·refine List.pairwise_append.2 ⟨?_, ?_, ?_⟩
  ·refine List.Pairwise.imp_of_mem ?_ hs.2
   intro u v hu hv huv
   have h1 := H.qin u (List.mem_cons_of_mem _ hu)
   have h2 := H.qin v (List.mem_cons_of_mem _ hv)
   rw [keep u h1.1 h1.2.1 h1.2.2, keep v h2.1 h2.2.1 h2.2.2]
   exact huv
  ·refine List.Pairwise.imp_of_mem (R := fun _ _ => True) ?_ (List.pairwise_iff_getElem.2 fun _ _ _ _ _ => trivial)
   intro u v hu hv _
   rw [(h4 u hu).2.2.2, (h4 v hv).2.2.2]
   omega
  ·intro u hu v hv
   rw [(h4 v hv).2.2.2]
   have h1 := H.qin u (List.mem_cons_of_mem _ hu)
   exact up u h1.1 h1.2.1
 ·intro h q'' e v h0 hn
  have h1 := up v h0 hn
  have hm : h ∈ q ++ a := by rw [e]; exact List.mem_cons_self
  rcases List.mem_append.1 hm with hm | hm
  ·have h2 := hs.1 h hm
   have h3 := H.qin h (List.mem_cons_of_mem _ hm)
   rw [keep h h3.1 h3.2.1 h3.2.2]
   omega
  ·rw [(h4 h hm).2.2.2]
   omega
 ·intro v h0 hn
  rcases h5 v h0 hn with g | ⟨_, g, hm⟩
  ·have := H.bound v h0 hn
   omega
  ·have : 0 < a.length := List.length_pos_of_mem hm
   omega
 ·rw [List.length_append, List.length_cons]
  omega
theorem bfs_inv {near : Int → List Int} {ex : Int → Bool} {n : Nat} {dst : Int} : ∀ (f : Nat) (d q : List Int), Inv near ex n dst d q → neg d + q.length ≤ f → Inv near ex n dst (bfs near ex n f d q) []
 | 0, d, [], H, _ => H
 | 0, d, x :: q, H, h => by simp at h
 | f + 1, d, [], H, _ => H
 | f + 1, d, x :: q, H, h => by
  simp only [bfs]
  by_cases hx : ex x = true
  ·rw [if_pos hx]
   have := H.step hx
   exact bfs_inv f _ _ this.1 (by omega)
  ·rw [if_neg hx]
   rw [List.length_cons] at h
   exact bfs_inv f _ _ (H.skip hx) (by omega)
def start (n : Nat) (dst : Int) : List Int := (List.replicate n (-1)).set dst.toNat 0
theorem rd_start {n : Nat} {dst v : Int} (hd : 0 ≤ dst ∧ dst < n) (h0 : 0 ≤ v) (hn : v < n) : rd (start n dst) v = if dst = v then 0 else -1 := by
 unfold start
 rw [rd_set hd.1 h0 (by simpa using hd.2)]
 by_cases e : dst = v
 ·rw [if_pos e, if_pos e]
 ·rw [if_neg e, if_neg e]
  unfold rd
  rw [List.getD_eq_getElem?_getD, List.getElem?_replicate, if_pos (by omega)]
  rfl
theorem inv_start (near : Int → List Int) (ex : Int → Bool) {n : Nat} {dst : Int} (hd : 0 ≤ dst ∧ dst < n) : Inv near ex n dst (start n dst) [dst] := by
 have hr : ∀ v : Int, 0 ≤ v → v < n → rd (start n dst) v = if dst = v then 0 else -1 := fun v h0 hn => rd_start hd h0 hn
 have h00 : rd (start n dst) dst = 0 := by rw [hr dst hd.1 hd.2, if_pos rfl]
 have hlen : (start n dst).length = n := by simp [start]
 have hneg : neg (start n dst) < n := by
  have := neg_lt (rd_mem hd.1 (by rw [hlen]; exact hd.2)) (by rw [h00]; omega : 0 ≤ rd (start n dst) dst)
  omega
 refine ⟨hlen, hd, h00, ?_, ?_, ?_, ?_, ?_, ?_, ?_, ?_⟩
 ·intro x h0 hn e
  rw [hr x h0 hn] at e
  split at e
  ·omega
  ·omega
 ·intro x hx
  rw [List.mem_singleton] at hx
  subst hx
  exact ⟨hd.1, hd.2, by omega⟩
 ·intro x h0 hn
  rw [hr x h0 hn]
  split <;> omega
 ·intro v h0 hn hv
  rw [hr v h0 hn] at hv
  split at hv <;> omega
 ·intro u h0 hn hu
  rw [hr u h0 hn] at hu
  split at hu
  ·rename_i e
   exact .inl (List.mem_singleton.2 e.symm)
  ·omega
 ·exact List.pairwise_singleton _ _
 ·intro h q' e v h0 hn
  injection e with e1 e2
  subst e1
  rw [h00, hr v h0 hn]
  split <;> omega
 ·intro v h0 hn
  rw [hr v h0 hn]
  split <;> omega
theorem neg_start_le {n : Nat} {dst : Int} (hd : 0 ≤ dst ∧ dst < n) : neg (start n dst) + 1 ≤ n := by
 have := (inv_start (fun _ => []) (fun _ => true) hd).bound dst hd.1 hd.2
 rw [rd_start hd hd.1 hd.2, if_pos rfl] at this
 omega
def dist (near : Int → List Int) (ex : Int → Bool) (n : Nat) (dst : Int) : List Int := bfs near ex n n (start n dst) [dst]
theorem dist_inv (near : Int → List Int) (ex : Int → Bool) {n : Nat} {dst : Int} (hd : 0 ≤ dst ∧ dst < n) : Inv near ex n dst (dist near ex n dst) [] :=
 bfs_inv n _ _ (inv_start near ex hd) (neg_start_le hd)
end Go.Proofs.Ytiihaabhjphaeaa.Bfs
/- Rows of numbers in order, without doubles: there is one for each set. Conditions: none. -/
namespace Go.Proofs.Ytiihaabhjphaeaa.Nb
def Up (l : List Int) : Prop := l.Pairwise (fun x y => x < y)
theorem up_uniq : ∀ {a b : List Int}, Up a → Up b → (∀ x, x ∈ a ↔ x ∈ b) → a = b
 | [], [], _, _, _ => rfl
 | [], y :: b, _, _, h => by
  have := (h y).2 List.mem_cons_self
  cases this
 | x :: a, [], _, _, h => by
  have := (h x).1 List.mem_cons_self
  cases this
 | x :: a, y :: b, ha, hb, h => by
  have h1 := List.pairwise_cons.1 ha
  have h2 := List.pairwise_cons.1 hb
  have e : x = y := by
   rcases List.mem_cons.1 ((h x).1 List.mem_cons_self) with e | m1
   ·exact e
   ·rcases List.mem_cons.1 ((h y).2 List.mem_cons_self) with e | m2
    ·exact e.symm
    ·have := h2.1 x m1
     have := h1.1 y m2
     omega
  subst e
  rw [up_uniq h1.2 h2.2 fun z => ?_]
  constructor
  ·intro hz
   rcases List.mem_cons.1 ((h z).1 (List.mem_cons_of_mem _ hz)) with e | m
   ·have := h1.1 z hz
    omega
   ·exact m
  ·intro hz
   rcases List.mem_cons.1 ((h z).2 (List.mem_cons_of_mem _ hz)) with e | m
   ·have := h2.1 z hz
    omega
   ·exact m
theorem compact_up {zs : List Int} (hs : zs.Pairwise (fun x y => x ≤ y)) : Up (Go.Lib.compact zs) ∧ ∀ x, x ∈ Go.Lib.compact zs ↔ x ∈ zs := by
 have hg : ∀ i j, i < j → j < zs.length → zs.toArray[i]! ≤ zs.toArray[j]! := by
  intro i j hij hj
  have := List.pairwise_iff_getElem.1 hs i j (by omega) hj hij
  rw [getElem!_pos zs.toArray i (by simp; omega), getElem!_pos zs.toArray j (by simp; omega)]
  simpa using this
 have key : ∀ m, m ≤ zs.length → Up (Go.Lib.compactUpTo zs.toArray m) ∧ ∀ x, x ∈ Go.Lib.compactUpTo zs.toArray m ↔ ∃ j, j < m ∧ zs.toArray[j]! = x := by
  intro m
  induction m with
  | zero => exact fun _ => ⟨by simp [Up, Go.Lib.compactUpTo], fun x => by simp [Go.Lib.compactUpTo]⟩
  | succ m ih =>
   intro hm
   obtain ⟨h1, h2⟩ := ih (by omega)
   rw [Go.Lib.compactUpTo_succ]
   by_cases hk : Go.Lib.keeps zs.toArray m = true
   ·rw [if_pos hk]
    refine ⟨List.pairwise_append.2 ⟨h1, List.pairwise_singleton _ _, ?_⟩, ?_⟩
    ·intro x hx y hy
     rw [List.mem_singleton] at hy
     subst hy
     obtain ⟨j, hj, rfl⟩ := (h2 x).1 hx
     have h3 := hg j m hj (by omega)
     have h5 : zs.toArray[m]! ≠ zs.toArray[m - 1]! := by
      intro e
      rw [Go.Lib.keeps_neg (by omega) e] at hk
      cases hk
     have h4 : zs.toArray[j]! ≤ zs.toArray[m - 1]! := by
      by_cases e : j = m - 1
      ·rw [e]
       omega
      ·exact hg j (m - 1) (by omega) (by omega)
     have h6 := hg (m - 1) m (by omega) (by omega)
     omega
    ·intro x
     rw [List.mem_append, h2, List.mem_singleton]
     constructor
     ·rintro (⟨j, hj, e⟩ | e)
      ·exact ⟨j, by omega, e⟩
      ·exact ⟨m, by omega, e.symm⟩
     ·rintro ⟨j, hj, e⟩
      by_cases hjm : j = m
      ·subst hjm
       exact .inr e.symm
      ·exact .inl ⟨j, by omega, e⟩
   ·rw [if_neg hk, List.append_nil]
    refine ⟨h1, fun x => ?_⟩
    rw [h2]
    have hm0 : 0 < m := by
     refine Nat.pos_of_ne_zero fun e => ?_
     subst e
     exact hk (Go.Lib.keeps_lt_one _ 0 (by omega))
    have he : zs.toArray[m]! = zs.toArray[m - 1]! := by
     refine Classical.byContradiction fun h => ?_
     exact hk (Go.Lib.keeps_pos h)
    constructor
    ·rintro ⟨j, hj, e⟩
     exact ⟨j, by omega, e⟩
    ·rintro ⟨j, hj, e⟩
     by_cases hjm : j = m
     ·subst hjm
      exact ⟨j - 1, by omega, by rw [← he, e]⟩
     ·exact ⟨j, by omega, e⟩
 obtain ⟨h1, h2⟩ := key zs.length (Nat.le_refl _)
 refine ⟨h1, fun x => ?_⟩
 show x ∈ Go.Lib.compactUpTo zs.toArray zs.length ↔ _
 rw [h2]
 constructor
 ·rintro ⟨j, hj, rfl⟩
  rw [getElem!_pos zs.toArray j (by simpa using hj)]
  simp
 ·intro hx
  obtain ⟨j, hj, e⟩ := List.getElem_of_mem hx
  refine ⟨j, hj, ?_⟩
  rw [getElem!_pos zs.toArray j (by simpa using hj)]
  simpa using e
theorem sorted_up (zs : List Int) : Up (Go.Lib.compact (zs.mergeSort fun x y => decide (x ≤ y))) ∧ ∀ x, x ∈ Go.Lib.compact (zs.mergeSort fun x y => decide (x ≤ y)) ↔ x ∈ zs := by
 have h1 := List.pairwise_mergeSort (le := fun x y : Int => decide (x ≤ y)) (by intro a b c; simp; omega) (by intro a b; simp; omega) zs
 have h2 := compact_up (zs := zs.mergeSort fun x y => decide (x ≤ y)) (h1.imp (by intro a b h; simpa using h))
 refine ⟨h2.1, fun x => ?_⟩
 rw [h2.2, List.mem_mergeSort]
theorem up_put {out : List Int} {n : Int} {k : Nat} (hu : Up out) (hlt : ∀ x ∈ out.take k, x < n) (hge : ∀ x ∈ out.drop k, n < x) : Up (out.take k ++ n :: out.drop k) ∧ ∀ x, x ∈ out.take k ++ n :: out.drop k ↔ x ∈ out ∨ x = n := by
 have h0 := List.take_append_drop k out
 have hu' : Up (out.take k ++ out.drop k) := by rw [h0]; exact hu
 have h3 := List.pairwise_append.1 hu'
 refine ⟨List.pairwise_append.2 ⟨h3.1, List.pairwise_cons.2 ⟨hge, h3.2.1⟩, ?_⟩, ?_⟩
 ·intro x hx y hy
  rcases List.mem_cons.1 hy with rfl | hy
  ·exact hlt x hx
  ·exact h3.2.2 x hx y hy
 ·intro x
  have : x ∈ out ↔ x ∈ out.take k ∨ x ∈ out.drop k := by rw [← List.mem_append, h0]
  rw [this, List.mem_append, List.mem_cons]
  constructor
  ·rintro (h | h | h)
   ·exact .inl (.inl h)
   ·exact .inr h
   ·exact .inl (.inr h)
  ·rintro ((h | h) | h)
   ·exact .inl h
   ·exact .inr (.inr h)
   ·exact .inr (.inl h)
end Go.Proofs.Ytiihaabhjphaeaa.Nb
/- What neighbors, distances, next nodes and paths come to. Conditions: none. -/
namespace Go.Proofs.Ytiihaabhjphaeaa.fnSwitched
open Go.RowKit Go.Proofs.YtiihaabhjphaeaaW.PrintWords Go.Proofs.YtiihaabhjphaeaaW.PrintLast Go.Proofs.YtiihaabhjphaeaaW.PrintMore Go.Proofs.Ytiihaabhjphaeaa.QFnSwitched Go.Proofs.Ytiihaabhjphaeaa.Open Go.Proofs.Ytiihaabhjphaeaa.Kit Go.Proofs.Ytiihaabhjphaeaa.Nb Go.Proofs.Ytiihaabhjphaeaa.Bfs
theorem ixP (a n : Int) : impl_isIndex.f a n = some (decide (0 ≤ a ∧ a < n)) := by
 unfold impl_isIndex.f
 by_cases h : a ≥ 0
 ·rw [if_pos h]
  simp [h]
 ·rw [if_neg h]
  simp
  omega
theorem inP (a b c : Int) : spec_l1In.f a b c = some (decide (b ≤ a ∧ a ≤ c)) := by
 unfold spec_l1In.f
 by_cases h : a ≥ b
 ·rw [if_pos h]
  simp [h]
 ·rw [if_neg h]
  simp
  omega
theorem rgP (a b c : Int) : impl_InRange.f a b c = some (decide (b ≤ a ∧ a ≤ c)) := by
 unfold impl_InRange.f
 by_cases h : b ≤ a
 ·rw [if_pos h]
  simp [h]
 ·rw [if_neg h]
  simp
  omega
theorem drop_cons {α : Type} {xs ys : List α} {y z : α} {i : Nat} (h : xs.drop i = y :: ys) : i < xs.length ∧ xs.getD i z = y ∧ xs.drop (i + 1) = ys := by
 have hi : i < xs.length := by
  refine Nat.lt_of_not_le fun hn => ?_
  rw [List.drop_of_length_le hn] at h
  cases h
 rw [drop_getD hi z] at h
 injection h with h1 h2
 exact ⟨hi, h1, h2⟩
/-! ### neighbors -/
def nbOf (v : Int) (x : S134) : List Int := (if x.f0 = v then [x.f1] else []) ++ (if x.f1 = v then [x.f0] else [])
def nbRaw (l : List S134) (v : Int) : List Int := l.flatMap (nbOf v)
def nb (l : List S134) (v : Int) : List Int := Go.Lib.compact ((nbRaw l v).mergeSort fun x y => decide (x ≤ y))
def Links (l : List S134) (v y : Int) : Prop := ∃ x ∈ l, x.f0 = v ∧ x.f1 = y ∨ x.f1 = v ∧ x.f0 = y
theorem mem_nbOf {v y : Int} {x : S134} : y ∈ nbOf v x ↔ x.f0 = v ∧ x.f1 = y ∨ x.f1 = v ∧ x.f0 = y := by
 unfold nbOf
 rw [List.mem_append]
 constructor
 ·rintro (h | h)
  ·split at h
   ·rename_i c
    exact .inl ⟨c, (List.mem_singleton.1 h).symm⟩
   ·cases h
  ·split at h
   ·rename_i c
    exact .inr ⟨c, (List.mem_singleton.1 h).symm⟩
   ·cases h
 ·rintro (⟨h1, h2⟩ | ⟨h1, h2⟩)
  ·left
   rw [if_pos h1]
   exact List.mem_singleton.2 h2.symm
  ·right
   rw [if_pos h1]
   exact List.mem_singleton.2 h2.symm
theorem mem_nb {l : List S134} {v y : Int} : y ∈ nb l v ↔ Links l v y := by
 rw [nb, (sorted_up (nbRaw l v)).2 y, nbRaw, List.mem_flatMap]
 constructor
 ·rintro ⟨x, hx, h⟩
  exact ⟨x, hx, mem_nbOf.1 h⟩
 ·rintro ⟨x, hx, h⟩
  exact ⟨x, hx, mem_nbOf.2 h⟩
theorem nb_up (l : List S134) (v : Int) : Up (nb l v) := (sorted_up (nbRaw l v)).1
theorem nb_sym {l : List S134} {v y : Int} : y ∈ nb l v ↔ v ∈ nb l y := by
 rw [mem_nb, mem_nb]
 constructor <;>
 ·rintro ⟨x, hx, ⟨h1, h2⟩ | ⟨h1, h2⟩⟩
  ·exact ⟨x, hx, .inr ⟨h2, h1⟩⟩
  ·exact ⟨x, hx, .inl ⟨h2, h1⟩⟩
theorem nbOf_len (v : Int) (x : S134) : (nbOf v x).length ≤ 2 := by
 unfold nbOf
 split <;> split <;> simp
theorem nbRaw_len (l : List S134) (v : Int) : (nbRaw l v).length ≤ 2 * l.length := by
 unfold nbRaw
 induction l with
 | nil => simp
 | cons x l ih =>
  rw [List.flatMap_cons, List.length_append, List.length_cons]
  have := nbOf_len v x
  omega
theorem nb_len (l : List S134) (v : Int) : (nb l v).length ≤ 2 * l.length := by
 have h1 : (nb l v).length ≤ ((nbRaw l v).mergeSort fun x y => decide (x ≤ y)).length := by
  unfold nb Go.Lib.compact Go.Lib.compactUpTo
  rw [List.length_map]
  exact Nat.le_trans (List.length_filter_le _ _) (by simp)
 rw [List.length_mergeSort] at h1
 have := nbRaw_len l v
 omega
theorem nbI_l0 {l : List S134} (hl : l.length ≤ 1048576) (v : Int) : ∀ (d i : Nat), i + d = l.length → Ev (fun k => impl_NeighborsIn.l0 k v (nbRaw (l.take i) v) l (l.length : Int) (i : Int)) (nb l v) := by
 intro d
 induction d with
 | zero =>
  intro i hi
  have hr := nbRaw_len l v
  rw [List.take_of_length_le (by omega)]
  refine Ev.step (fun k => by rw [impl_NeighborsIn.l0]) ?_
  refine Ev.ite_neg (by omega) (Ev.bind0 (a := (nbRaw l v).mergeSort fun x y => decide (x ≤ y)) ?_ (Ev.bind0 (a := nb l v) ?_ (Ev.now _)))
  ·unfold slices_Sort_int_int.f
   rw [if_pos (by omega)]
  ·unfold slices_Compact_int_int.f
   rw [if_pos (by rw [List.length_mergeSort]; omega)]
   rfl
 | succ d ih =>
  intro i hi
  have hr := nbRaw_len (l.take i) v
  rw [List.length_take] at hr
  have h := ih (i + 1) (by omega)
  have he : nbRaw (l.take (i + 1)) v = nbRaw (l.take i) v ++ nbOf v (rd_T134 l (i : Int)) := by
   unfold nbRaw
   rw [take_succ_getD (show i < l.length by omega) z134, List.flatMap_append]
   simp
   rfl
  rw [he] at h
  refine Ev.step (fun k => by rw [impl_NeighborsIn.l0]) ?_
  refine Ev.ite_pos (by omega) (Ev.ite_pos (by omega) (Ev.ite_pos (by omega) ?_))
  rw [w64n (by omega)]
  by_cases c1 : (rd_T134 l (i : Int)).f0 = v
  ·refine Ev.ite_pos c1 (Ev.ite_pos (by omega) (Ev.bind0 rfl ?_))
   by_cases c2 : (rd_T134 l (i : Int)).f1 = v
   ·refine Ev.ite_pos c2 (Ev.ite_pos (by rw [List.length_append, List.length_singleton]; omega) ?_)
    unfold nbOf at h
    rw [if_pos c1, if_pos c2, ← List.append_assoc] at h
    exact h
   ·refine Ev.ite_neg c2 ?_
    unfold nbOf at h
    rw [if_pos c1, if_neg c2, List.append_nil] at h
    exact h
  ·refine Ev.ite_neg c1 ?_
   by_cases c2 : (rd_T134 l (i : Int)).f1 = v
   ·refine Ev.ite_pos c2 (Ev.ite_pos (by omega) ?_)
    unfold nbOf at h
    rw [if_neg c1, if_pos c2, List.nil_append] at h
    exact h
   ·refine Ev.ite_neg c2 ?_
    unfold nbOf at h
    rw [if_neg c1, if_neg c2, List.append_nil, List.append_nil] at h
    exact h
theorem nbI {l : List S134} (hl : l.length ≤ 1048576) (v : Int) : Ev (fun k => impl_NeighborsIn.f k l v) (nb l v) := nbI_l0 hl v l.length 0 (by omega)
def NbTo (l : List S134) (v : Int) (i : Nat) (out : List Int) : Prop := Up out ∧ out.length ≤ i ∧ ∀ y, y ∈ out ↔ Links (l.take i) v y
theorem nbS_l1 {l : List S134} {v n : Int} {i : Nat} {out r : List Int} (hl : l.length ≤ 1048576) (hi : i < l.length) (hu : Up out) (ho : out.length ≤ i)
  (hk : ∀ out', Up out' → out'.length ≤ i + 1 → (∀ x, x ∈ out' ↔ x ∈ out ∨ x = n) → Ev (fun k => spec_NeighborsIn.l0 k l v out' ((i + 1 : Nat) : Int)) r) :
  ∀ (d q : Nat), q + d = out.length → (∀ x ∈ out.take q, x < n) → Ev (fun k => spec_NeighborsIn.l1 k l v out (i : Int) n (q : Int)) r := by
 intro d
 induction d with
 | zero =>
  intro q hq hlt
  have hp := up_put (k := q) hu hlt (by rw [List.drop_of_length_le (by omega)]; simp)
  have hlen : (out.take q ++ n :: out.drop q).length = out.length + 1 := by
   rw [List.length_append, List.length_cons, List.length_take, List.length_drop]
   omega
  have h := hk _ hp.1 (by omega) hp.2
  refine Ev.step (fun k => by rw [spec_NeighborsIn.l1]) ?_
  refine Ev.ite_neg (by omega) (Ev.ite_pos (by omega) (Ev.bind0 rfl (Ev.ite_pos (by omega) (Ev.ite_pos (by omega) ?_))))
  rw [Int.toNat_natCast, w64n (by omega)]
  refine Ev.bind0 rfl (Ev.ite_pos ?_ (Ev.bind0 rfl (Ev.bind0 rfl (Ev.ite_pos ?_ (Ev.bind0 rfl (Ev.bind0 rfl (Ev.ite_pos ?_ ?_)))))))
  ·simp only [List.length_nil, List.length_take]
   omega
  ·simp only [List.length_append, List.length_nil, List.length_take, List.length_cons]
   omega
  ·simp only [List.length_append, List.length_nil, List.length_take, List.length_cons, List.length_drop]
   omega
  ·rw [List.nil_append, List.append_assoc]
   exact h
 | succ d ih =>
  intro q hq hlt
  have hql : q < out.length := by omega
  refine Ev.step (fun k => by rw [spec_NeighborsIn.l1]) ?_
  refine Ev.ite_pos (by omega) (Ev.ite_pos (by omega) ?_)
  rw [rd_nat]
  by_cases c : out.getD q 0 < n
  ·refine Ev.ite_pos c ?_
   rw [w64n (by omega)]
   refine ih (q + 1) (by omega) ?_
   intro x hx
   rw [take_succ_getD hql 0, List.mem_append, List.mem_singleton] at hx
   rcases hx with hx | rfl
   ·exact hlt x hx
   ·exact c
  ·refine Ev.ite_neg c (Ev.ite_neg (by omega) ?_)
   rw [w64n (by omega)]
   by_cases c2 : out.getD q 0 = n
   ·refine Ev.ite_pos c2 (hk out hu (by omega) fun x => ⟨.inl, ?_⟩)
    rintro (h | rfl)
    ·exact h
    ·rw [← c2]
     exact getD_mem hql 0
   ·have hge : ∀ x ∈ out.drop q, n < x := by
     intro x hx
     have h1 : Up (out.drop q) := List.Pairwise.sublist (List.drop_sublist q out) hu
     rw [drop_getD hql 0] at h1 hx
     rcases List.mem_cons.1 hx with rfl | hx
     ·omega
     ·have := (List.pairwise_cons.1 h1).1 x hx
      omega
    have hp := up_put (k := q) hu hlt hge
    have hlen : (out.take q ++ n :: out.drop q).length = out.length + 1 := by
     rw [List.length_append, List.length_cons, List.length_take, List.length_drop]
     omega
    have h := hk _ hp.1 (by omega) hp.2
    refine Ev.ite_neg c2 (Ev.bind0 rfl (Ev.ite_pos (by omega) ?_))
    rw [Int.toNat_natCast]
    refine Ev.bind0 rfl (Ev.ite_pos ?_ (Ev.bind0 rfl (Ev.bind0 rfl (Ev.ite_pos ?_ (Ev.bind0 rfl (Ev.bind0 rfl (Ev.ite_pos ?_ ?_)))))))
    ·simp only [List.length_nil, List.length_take]
     omega
    ·simp only [List.length_append, List.length_nil, List.length_take, List.length_cons]
     omega
    ·simp only [List.length_append, List.length_nil, List.length_take, List.length_cons, List.length_drop]
     omega
    ·rw [List.nil_append, List.append_assoc]
     exact h
theorem nbS_l0 {l : List S134} (hl : l.length ≤ 1048576) (v : Int) : ∀ (d i : Nat) (out : List Int), i + d = l.length → NbTo l v i out → Ev (fun k => spec_NeighborsIn.l0 k l v out (i : Int)) (nb l v) := by
 intro d
 induction d with
 | zero =>
  intro i out hi ho
  refine Ev.step (fun k => by rw [spec_NeighborsIn.l0]) ?_
  refine Ev.ite_neg (by omega) (Ev.some (up_uniq ho.1 (nb_up l v) fun x => ?_))
  rw [ho.2.2 x, mem_nb, List.take_of_length_le (by omega)]
 | succ d ih =>
  intro i out hi ho
  have hL : ∀ y, Links (l.take (i + 1)) v y ↔ Links (l.take i) v y ∨ ((rd_T134 l (i : Int)).f0 = v ∧ (rd_T134 l (i : Int)).f1 = y ∨ (rd_T134 l (i : Int)).f1 = v ∧ (rd_T134 l (i : Int)).f0 = y) := by
   intro y
   unfold Links
   rw [take_succ_getD (show i < l.length by omega) z134]
   constructor
   ·rintro ⟨x, hx, h⟩
    rcases List.mem_append.1 hx with hx | hx
    ·exact .inl ⟨x, hx, h⟩
    ·rw [List.mem_singleton.1 hx] at h
     exact .inr h
   ·rintro (⟨x, hx, h⟩ | h)
    ·exact ⟨x, List.mem_append_left _ hx, h⟩
    ·exact ⟨_, List.mem_append_right _ (List.mem_singleton.2 rfl), h⟩
  refine Ev.step (fun k => by rw [spec_NeighborsIn.l0]) ?_
  refine Ev.ite_pos (by omega) (Ev.ite_pos (by omega) ?_)
  by_cases c1 : (rd_T134 l (i : Int)).f0 = v
  ·refine Ev.ite_pos c1 ?_
   refine Ev.step (fun k => by rw [spec_NeighborsIn.j1]) ?_
   refine nbS_l1 (i := i) hl (by omega) ho.1 ho.2.1 (fun out' hu hlen hm => ih (i + 1) out' (by omega) ⟨hu, hlen, fun y => ?_⟩) out.length 0 (by omega) (by simp)
   rw [hm, hL, ho.2.2 y]
   constructor
   ·rintro (h | h)
    ·exact .inl h
    ·exact .inr (.inl ⟨c1, h.symm⟩)
   ·rintro (h | ⟨_, h⟩ | ⟨h1, h2⟩)
    ·exact .inl h
    ·exact .inr h.symm
    ·exact .inr (by omega)
  ·refine Ev.ite_neg c1 ?_
   by_cases c2 : (rd_T134 l (i : Int)).f1 = v
   ·refine Ev.ite_pos c2 ?_
    refine Ev.step (fun k => by rw [spec_NeighborsIn.j1]) ?_
    refine nbS_l1 (i := i) hl (by omega) ho.1 ho.2.1 (fun out' hu hlen hm => ih (i + 1) out' (by omega) ⟨hu, hlen, fun y => ?_⟩) out.length 0 (by omega) (by simp)
    rw [hm, hL, ho.2.2 y]
    constructor
    ·rintro (h | h)
     ·exact .inl h
     ·exact .inr (.inr ⟨c2, h.symm⟩)
    ·rintro (h | ⟨h, _⟩ | ⟨_, h⟩)
     ·exact .inl h
     ·exact absurd h c1
     ·exact .inr h.symm
   ·refine Ev.ite_neg c2 ?_
    rw [w64n (by omega)]
    refine ih (i + 1) out (by omega) ⟨ho.1, by have := ho.2.1; omega, fun y => ?_⟩
    rw [hL, ho.2.2 y]
    constructor
    ·exact .inl
    ·rintro (h | ⟨h, _⟩ | ⟨h, _⟩)
     ·exact h
     ·exact absurd h c1
     ·exact absurd h c2
theorem nbS {l : List S134} (hl : l.length ≤ 1048576) (v : Int) : Ev (fun k => spec_NeighborsIn.f k l v) (nb l v) := by
 refine nbS_l0 hl v l.length 0 [] (by omega) ⟨List.Pairwise.nil, by simp, fun y => ?_⟩
 simp [Links]
/-! ### distances -/
def exB (first dst x : Int) : Bool := decide (x = dst ∨ x < first)
def dists (l : List S134) (n first dst : Int) : List Int := if (1 ≤ n ∧ n ≤ 12) ∧ 0 ≤ dst ∧ dst < n then dist (nb l) (exB first dst) n.toNat dst else []
theorem dists_inv {l : List S134} {n first dst : Int} (h : (1 ≤ n ∧ n ≤ 12) ∧ 0 ≤ dst ∧ dst < n) : Inv (nb l) (exB first dst) n.toNat dst (dists l n first dst) [] := by
 unfold dists
 rw [if_pos h]
 exact dist_inv _ _ ⟨h.2.1, by omega⟩
theorem distI_l2 {l : List S134} {n : Nat} {first dst x c : Int} {near r : List Int} (hn : n ≤ 12) (hx : 0 ≤ x ∧ x < n) (hc : 1 ≤ c ∧ c ≤ 100) (hnear : near.length ≤ 10000000) :
  ∀ (ys : List Int) (i : Nat) (d q : List Int), near.drop i = ys → i ≤ near.length → d.length = n → rd d x = c - 1 → q.length + neg d ≤ 100 →
   Ev (fun k => impl_DistancesTo.l1 k l (n : Int) first dst (vis n c ys d q).1 (vis n c ys d q).2) r → Ev (fun k => impl_DistancesTo.l2 k l (n : Int) first dst d (x :: q) x near (near.length : Int) (i : Int)) r
 | [], i, d, q, hy, hi, hd, hr, hq, h => by
  have hi' : near.length ≤ i := List.drop_eq_nil_iff.1 hy
  refine Ev.step (fun k => by rw [impl_DistancesTo.l2]) ?_
  refine Ev.ite_neg (by omega) (Ev.ite_pos ?_ h)
  rw [List.length_cons]
  omega
 | y :: ys, i, d, q, hy, hi, hd, hr, hq, h => by
  obtain ⟨hi', hg, hy'⟩ := drop_cons (z := 0) hy
  refine Ev.step (fun k => by rw [impl_DistancesTo.l2]) ?_
  refine Ev.ite_pos (by omega) (Ev.ite_pos (by omega) (Ev.ite_pos (by omega) ?_))
  rw [rd_nat, hg, w64n (by omega)]
  refine Ev.bind0 (ixP y n) ?_
  by_cases c1 : 0 ≤ y ∧ y < n
  ·refine Ev.ite_pos (decide_eq_true c1) (Ev.ite_pos c1.1 (Ev.ite_pos (by omega) ?_))
   by_cases c2 : rd d y < 0
   ·refine Ev.ite_pos c2 (Ev.ite_pos hx.1 (Ev.ite_pos (by omega) (Ev.ite_pos (by rw [List.length_cons]; omega) ?_)))
    have hng := neg_set d y.toNat c (by omega) c2 (by omega)
    rw [hr, show c - 1 + 1 = c by omega, w64 (by omega) (by omega)]
    have hxy : y ≠ x := by
     intro e
     subst e
     omega
    refine distI_l2 hn hx hc hnear ys (i + 1) (d.set y.toNat c) (q ++ [y]) hy' (by omega) (by rw [List.length_set]; exact hd) ?_ ?_ ?_
    ·rw [rd_set c1.1 hx.1 (by omega), if_neg hxy, hr]
    ·rw [List.length_append, List.length_singleton]
     omega
    ·simp only [vis, if_pos (show 0 ≤ y ∧ y < n ∧ rd d y < 0 from ⟨c1.1, c1.2, c2⟩)] at h
     exact h
   ·refine Ev.ite_neg c2 (distI_l2 hn hx hc hnear ys (i + 1) d q hy' (by omega) hd hr hq ?_)
    simp only [vis, if_neg (show ¬ (0 ≤ y ∧ y < n ∧ rd d y < 0) from fun h => c2 h.2.2)] at h
    exact h
  ·refine Ev.ite_neg (by simpa using c1) (distI_l2 hn hx hc hnear ys (i + 1) d q hy' (by omega) hd hr hq ?_)
   simp only [vis, if_neg (show ¬ (0 ≤ y ∧ y < n ∧ rd d y < 0) from fun h => c1 ⟨h.1, h.2.1⟩)] at h
   exact h
theorem distI_l1 {l : List S134} (hl : l.length ≤ 1048576) {n : Nat} {first dst : Int} (hn : n ≤ 12) : ∀ (f : Nat) (d q : List Int), Inv (nb l) (exB first dst) n dst d q → neg d + q.length ≤ f → f ≤ 100 →
  Ev (fun k => impl_DistancesTo.l1 k l (n : Int) first dst d q) (bfs (nb l) (exB first dst) n f d q)
 | 0, d, [], _, _, _ => by
  refine Ev.step (fun k => by rw [impl_DistancesTo.l1]) ?_
  exact Ev.ite_neg (by simp) (Ev.now _)
 | 0, d, x :: q, _, h, _ => by simp at h
 | f + 1, d, [], _, _, _ => by
  refine Ev.step (fun k => by rw [impl_DistancesTo.l1]) ?_
  exact Ev.ite_neg (by simp) (Ev.now _)
 | f + 1, d, x :: q, H, hf, hf1 => by
  rw [List.length_cons] at hf
  have hrd : rd (x :: q) 0 = x := rfl
  refine Ev.step (fun k => by rw [impl_DistancesTo.l1]) ?_
  refine Ev.ite_pos (by rw [List.length_cons]; omega) (Ev.ite_pos (by rw [List.length_cons]; omega) ?_)
  rw [hrd]
  have hb := H.qin x List.mem_cons_self
  have hbd := H.bound x hb.1 hb.2.1
  have go : exB first dst x = true → Ev (fun k => impl_DistancesTo.j3 k l (n : Int) first dst d (x :: q) x false) (bfs (nb l) (exB first dst) n (f + 1) d (x :: q)) := by
   intro hx
   have hs := H.step hx
   refine Ev.step (fun k => by rw [impl_DistancesTo.j3]) ?_
   refine Ev.ite_neg (by simp) (Ev.bind (nbI hl x) ?_)
   have hnl := nb_len l x
   refine distI_l2 (i := 0) hn ⟨hb.1, hb.2.1⟩ (c := rd d x + 1) (by omega) (by omega) _ _ _ rfl (by omega) H.len (by omega) (by omega) ?_
   rw [List.drop_zero]
   simp only [bfs, if_pos hx]
   rw [List.length_cons] at hs
   exact distI_l1 hl hn f _ _ hs.1 (by omega) (by omega)
  by_cases c : x = dst
  ·exact Ev.ite_pos c (go (by simp [exB, c]))
  ·refine Ev.ite_neg c ?_
   by_cases c2 : x < first
   ·rw [decide_eq_false (by omega : ¬ x ≥ first)]
    exact go (by simp [exB, c2])
   ·have hx : ¬ exB first dst x = true := by simp [exB, c]; omega
    rw [decide_eq_true (by omega : x ≥ first)]
    refine Ev.step (fun k => by rw [impl_DistancesTo.j3]) ?_
    refine Ev.ite_pos rfl (Ev.ite_pos (by rw [List.length_cons]; omega) ?_)
    simp only [bfs, if_neg hx]
    exact distI_l1 hl hn f d q (H.skip hx) (by omega) (by omega)
theorem distI_l0 {l : List S134} (hl : l.length ≤ 1048576) {n : Nat} {first dst : Int} (hn : n ≤ 12) (hd : 0 ≤ dst ∧ dst < n) : ∀ (m i : Nat), i + m = n →
  Ev (fun k => impl_DistancesTo.l0 k l (n : Int) first dst (List.replicate i (-1)) (n : Int) (i : Int)) (dist (nb l) (exB first dst) n dst) := by
 intro m
 induction m with
 | zero =>
  intro i hi
  obtain rfl : i = n := by omega
  refine Ev.step (fun k => by rw [impl_DistancesTo.l0]) ?_
  refine Ev.ite_neg (by omega) (Ev.ite_pos hd.1 (Ev.ite_pos (by rw [List.length_replicate]; exact hd.2) ?_))
  exact distI_l1 hl hn i _ _ (inv_start _ _ hd) (neg_start_le hd) (by omega)
 | succ m ih =>
  intro i hi
  refine Ev.step (fun k => by rw [impl_DistancesTo.l0]) ?_
  refine Ev.ite_pos (by omega) (Ev.ite_pos (by rw [List.length_replicate]; omega) ?_)
  rw [w64n (by omega), show List.replicate i (-1 : Int) ++ [-1] = List.replicate (i + 1) (-1) from List.replicate_succ'.symm]
  exact ih (i + 1) (by omega)
theorem distI {l : List S134} (hl : l.length ≤ 1048576) (n first dst : Int) : Ev (fun k => impl_DistancesTo.f k l n first dst) (dists l n first dst) := by
 unfold impl_DistancesTo.f
 refine Ev.bind0 rfl (Ev.bind0 (a := decide (1 ≤ n ∧ n ≤ 12)) ?_ ?_)
 ·unfold impl_isNumber.f
  rw [rgP]
  rfl
 ·unfold dists
  by_cases c1 : 1 ≤ n ∧ n ≤ 12
  ·refine Ev.ite_pos (decide_eq_true c1) (Ev.bind0 (ixP dst n) ?_)
   by_cases c2 : 0 ≤ dst ∧ dst < n
   ·rw [decide_eq_true c2, if_pos ⟨c1, c2⟩]
    refine Ev.step (fun k => by rw [impl_DistancesTo.j0]) ?_
    refine Ev.ite_neg (by simp) ?_
    have h := distI_l0 hl (n := n.toNat) (first := first) (dst := dst) (by omega) (by omega) n.toNat 0 (by omega)
    rw [Int.toNat_of_nonneg (by omega)] at h
    exact h
   ·rw [decide_eq_false c2, if_neg (fun h => c2 h.2)]
    refine Ev.step (fun k => by rw [impl_DistancesTo.j0]) ?_
    exact Ev.ite_pos rfl (Ev.now _)
  ·refine Ev.ite_neg (by simpa using c1) ?_
   rw [if_neg (fun h => c1 h.1)]
   refine Ev.step (fun k => by rw [impl_DistancesTo.j0]) ?_
   exact Ev.ite_pos rfl (Ev.now _)
theorem distS_l2 {l : List S134} {n : Nat} {first dst x c : Int} {near r pre : List Int} (hn : n ≤ 12) (hx : 0 ≤ x ∧ x < n) (hc : 1 ≤ c ∧ c ≤ 100) (hnear : near.length ≤ 10000000) (hp : pre.length ≤ 1000) :
  ∀ (ys : List Int) (i : Nat) (d q : List Int), near.drop i = ys → i ≤ near.length → d.length = n → rd d x = c - 1 → q.length + neg d ≤ 100 →
   Ev (fun k => spec_DistancesTo.l1 k l (n : Int) first dst (vis n c ys d q).1 (pre ++ x :: (vis n c ys d q).2) ((pre.length + 1 : Nat) : Int)) r → Ev (fun k => spec_DistancesTo.l2 k l (n : Int) first dst d (pre ++ x :: q) (pre.length : Int) x near (i : Int)) r
 | [], i, d, q, hy, hi, hd, hr, hq, h => by
  have hi' : near.length ≤ i := List.drop_eq_nil_iff.1 hy
  refine Ev.step (fun k => by rw [spec_DistancesTo.l2]) ?_
  refine Ev.ite_neg (by omega) ?_
  rw [w64n (by omega)]
  exact h
 | y :: ys, i, d, q, hy, hi, hd, hr, hq, h => by
  obtain ⟨hi', hg, hy'⟩ := drop_cons (z := 0) hy
  refine Ev.step (fun k => by rw [spec_DistancesTo.l2]) ?_
  refine Ev.ite_pos (by omega) (Ev.ite_pos (by omega) ?_)
  rw [rd_nat, hg, w64n (by omega), w64 (x := (n : Int) - 1) (by omega) (by omega)]
  refine Ev.bind0 (inP y 0 ((n : Int) - 1)) ?_
  by_cases c1 : 0 ≤ y ∧ y ≤ (n : Int) - 1
  ·refine Ev.ite_pos (decide_eq_true c1) (Ev.ite_pos c1.1 (Ev.ite_pos (by omega) ?_))
   by_cases c2 : rd d y < 0
   ·refine Ev.ite_pos c2 (Ev.ite_pos hx.1 (Ev.ite_pos (by omega) (Ev.ite_pos (by rw [List.length_append, List.length_cons]; omega) ?_)))
    have hng := neg_set d y.toNat c (by omega) c2 (by omega)
    rw [hr, show c - 1 + 1 = c by omega, w64 (x := c) (by omega) (by omega)]
    have hxy : y ≠ x := by
     intro e
     subst e
     omega
    rw [List.append_assoc, List.cons_append]
    refine distS_l2 hn hx hc hnear hp ys (i + 1) (d.set y.toNat c) (q ++ [y]) hy' (by omega) (by rw [List.length_set]; exact hd) ?_ ?_ ?_
    ·rw [rd_set c1.1 hx.1 (by omega), if_neg hxy, hr]
    ·rw [List.length_append, List.length_singleton]
     omega
    ·simp only [vis, if_pos (show 0 ≤ y ∧ y < n ∧ rd d y < 0 from ⟨c1.1, by omega, c2⟩)] at h
     exact h
   ·refine Ev.ite_neg c2 (distS_l2 hn hx hc hnear hp ys (i + 1) d q hy' (by omega) hd hr hq ?_)
    simp only [vis, if_neg (show ¬ (0 ≤ y ∧ y < n ∧ rd d y < 0) from fun h => c2 h.2.2)] at h
    exact h
  ·refine Ev.ite_neg (by simpa using c1) (distS_l2 hn hx hc hnear hp ys (i + 1) d q hy' (by omega) hd hr hq ?_)
   simp only [vis, if_neg (show ¬ (0 ≤ y ∧ y < n ∧ rd d y < 0) from fun h => c1 ⟨h.1, by have := h.2.1; omega⟩)] at h
   exact h
theorem rd_pre (pre q : List Int) (x : Int) : rd (pre ++ x :: q) (pre.length : Int) = x := by
 rw [rd_nat]
 exact getD_mid pre q x 0 rfl
theorem distS_l1 {l : List S134} (hl : l.length ≤ 1048576) {n : Nat} {first dst : Int} (hn : n ≤ 12) : ∀ (f : Nat) (d q pre : List Int), Inv (nb l) (exB first dst) n dst d q → neg d + q.length ≤ f → f + pre.length ≤ 100 →
  Ev (fun k => spec_DistancesTo.l1 k l (n : Int) first dst d (pre ++ q) (pre.length : Int)) (bfs (nb l) (exB first dst) n f d q)
 | 0, d, [], pre, _, _, _ => by
  refine Ev.step (fun k => by rw [spec_DistancesTo.l1]) ?_
  exact Ev.ite_neg (by simp) (Ev.now _)
 | 0, d, x :: q, pre, _, h, _ => by simp at h
 | f + 1, d, [], pre, _, _, _ => by
  refine Ev.step (fun k => by rw [spec_DistancesTo.l1]) ?_
  exact Ev.ite_neg (by simp) (Ev.now _)
 | f + 1, d, x :: q, pre, H, hf, hf1 => by
  rw [List.length_cons] at hf
  refine Ev.step (fun k => by rw [spec_DistancesTo.l1]) ?_
  refine Ev.ite_pos (by rw [List.length_append, List.length_cons]; omega) (Ev.ite_pos (by omega) ?_)
  rw [rd_pre]
  have hb := H.qin x List.mem_cons_self
  have hbd := H.bound x hb.1 hb.2.1
  have next : ∀ d' q', Inv (nb l) (exB first dst) n dst d' q' → neg d' + q'.length ≤ f → Ev (fun k => spec_DistancesTo.l1 k l (n : Int) first dst d' (pre ++ x :: q') ((pre.length + 1 : Nat) : Int)) (bfs (nb l) (exB first dst) n f d' q') := by
   intro d' q' H' hf'
   have h := distS_l1 hl hn f d' q' (pre ++ [x]) H' hf' (by rw [List.length_append, List.length_singleton]; omega)
   rw [List.length_append, List.length_singleton, List.append_assoc] at h
   exact h
  have go : exB first dst x = true → Ev (fun k => spec_DistancesTo.j2 k l (n : Int) first dst d (pre ++ x :: q) (pre.length : Int) x false) (bfs (nb l) (exB first dst) n (f + 1) d (x :: q)) := by
   intro hx
   have hs := H.step hx
   refine Ev.step (fun k => by rw [spec_DistancesTo.j2]) ?_
   refine Ev.ite_neg (by simp) (Ev.bind (nbS hl x) ?_)
   have hnl := nb_len l x
   refine distS_l2 (i := 0) hn ⟨hb.1, hb.2.1⟩ (c := rd d x + 1) (by omega) (by omega) (by omega) _ _ _ rfl (by omega) H.len (by omega) (by omega) ?_
   rw [List.drop_zero]
   simp only [bfs, if_pos hx]
   rw [List.length_cons] at hs
   exact next _ _ hs.1 (by omega)
  by_cases c : x = dst
  ·exact Ev.ite_pos c (go (by simp [exB, c]))
  ·refine Ev.ite_neg c ?_
   by_cases c2 : x < first
   ·rw [decide_eq_false (by omega : ¬ x ≥ first)]
    exact go (by simp [exB, c2])
   ·have hx : ¬ exB first dst x = true := by simp [exB, c]; omega
    rw [decide_eq_true (by omega : x ≥ first)]
    refine Ev.step (fun k => by rw [spec_DistancesTo.j2]) ?_
    refine Ev.ite_pos rfl ?_
    rw [w64n (by omega)]
    simp only [bfs, if_neg hx]
    exact next d q (H.skip hx) (by omega)
theorem distS_l0 {l : List S134} (hl : l.length ≤ 1048576) {n : Nat} {first dst : Int} (hn : n ≤ 12) (hd : 0 ≤ dst ∧ dst < n) : ∀ (m i : Nat), i + m = n →
  Ev (fun k => spec_DistancesTo.l0 k l (n : Int) first dst (List.replicate i (-1)) (i : Int)) (dist (nb l) (exB first dst) n dst) := by
 intro m
 induction m with
 | zero =>
  intro i hi
  obtain rfl : i = n := by omega
  refine Ev.step (fun k => by rw [spec_DistancesTo.l0]) ?_
  refine Ev.ite_neg (by omega) (Ev.ite_pos hd.1 (Ev.ite_pos (by rw [List.length_replicate]; exact hd.2) ?_))
  exact distS_l1 hl hn i _ _ [] (inv_start _ _ hd) (neg_start_le hd) (by simp; omega)
 | succ m ih =>
  intro i hi
  refine Ev.step (fun k => by rw [spec_DistancesTo.l0]) ?_
  refine Ev.ite_pos (by omega) (Ev.ite_pos (by rw [List.length_replicate]; omega) ?_)
  rw [w64n (by omega), show List.replicate i (-1 : Int) ++ [-1] = List.replicate (i + 1) (-1) from List.replicate_succ'.symm]
  exact ih (i + 1) (by omega)
theorem okP (n dst : Int) : spec_l14Ok.f n dst = some (decide ((1 ≤ n ∧ n ≤ 12) ∧ 0 ≤ dst ∧ dst < n)) := by
 unfold spec_l14Ok.f
 rw [inP, Option.bind_some]
 by_cases c : 1 ≤ n ∧ n ≤ 12
 ·rw [if_pos (decide_eq_true c), inP, Option.bind_some, w64 (by omega) (by omega)]
  congr 1
  rw [decide_eq_decide]
  omega
 ·rw [if_neg (by simpa using c)]
  congr 1
  rw [eq_comm, decide_eq_false_iff_not]
  exact fun h => c h.1
theorem distS {l : List S134} (hl : l.length ≤ 1048576) (n first dst : Int) : Ev (fun k => spec_DistancesTo.f k l n first dst) (dists l n first dst) := by
 unfold spec_DistancesTo.f
 refine Ev.bind0 (okP n dst) ?_
 unfold dists
 by_cases c : (1 ≤ n ∧ n ≤ 12) ∧ 0 ≤ dst ∧ dst < n
 ·refine Ev.ite_pos (decide_eq_true c) ?_
  rw [if_pos c]
  have h := distS_l0 hl (n := n.toNat) (first := first) (dst := dst) (by omega) (by omega) n.toNat 0 (by omega)
  rw [Int.toNat_of_nonneg (by omega)] at h
  exact h
 ·refine Ev.ite_neg (by rw [decide_eq_true_iff]; exact c) ?_
  rw [if_neg c]
  exact Ev.now _
/-! ### next nodes -/
def nxB (n first dst : Int) (d : List Int) (dx y : Int) : Bool := decide (dx > 0 ∧ (0 ≤ y ∧ y < n) ∧ (y < first ∨ y = dst) ∧ rd d y = dx - 1)
def nxt (l : List S134) (n first dst : Int) (d : List Int) (x : Nat) : Int := ((nb l (x : Int)).find? (nxB n first dst d (rd d (x : Int)))).getD (-1)
def nextRow (l : List S134) (n first dst : Int) (d : List Int) : List Int := (List.range d.length).map (nxt l n first dst d)
def nextsTo (l : List S134) (n first dst : Int) : List Int := nextRow l n first dst (dists l n first dst)
def Fit (n : Int) (d : List Int) : Prop := (d = [] ∨ d.length = n.toNat ∧ 0 ≤ n ∧ n ≤ 12) ∧ ∀ y : Int, 0 ≤ y → y < d.length → -1 ≤ rd d y ∧ rd d y < 100
theorem dists_fit (l : List S134) (n first dst : Int) : Fit n (dists l n first dst) := by
 by_cases c : (1 ≤ n ∧ n ≤ 12) ∧ 0 ≤ dst ∧ dst < n
 ·have H := dists_inv (l := l) (first := first) c
  refine ⟨.inr ⟨H.len, by omega, by omega⟩, fun y h0 h1 => ?_⟩
  have hl := H.len
  have := H.low y h0 (by omega)
  have := H.bound y h0 (by omega)
  omega
 ·have e : dists l n first dst = [] := by
   unfold dists
   rw [if_neg c]
  rw [e]
  refine ⟨.inl rfl, fun y h0 h1 => ?_⟩
  rw [List.length_nil] at h1
  omega
theorem find_step {α : Type} (p : α → Bool) (y : α) (ys : List α) (h : p y = false) : (y :: ys).find? p = ys.find? p := by rw [List.find?_cons, h]
theorem nextI_l1 {l : List S134} {n first dst : Int} {d out near r : List Int} {x : Nat} (hd : d.length = n.toNat ∧ 0 ≤ n ∧ n ≤ 12) (hf : Fit n d) (hx : x < d.length) (hnear : near.length ≤ 10000000) (hout : out.length ≤ 100)
  (hk : ∀ v : Int, v = (near.find? (nxB n first dst d (rd d (x : Int)))).getD (-1) → Ev (fun k => impl_NextTo.l0 k l n first dst (out ++ [v]) d d (d.length : Int) ((x + 1 : Nat) : Int)) r) :
  ∀ (ys : List Int) (i : Nat) (cur : Int), near.drop i = ys → i ≤ near.length → (cur = -1 ∧ (ys.find? (nxB n first dst d (rd d (x : Int)))).getD (-1) = (near.find? (nxB n first dst d (rd d (x : Int)))).getD (-1) ∨ 0 ≤ cur ∧ cur = (near.find? (nxB n first dst d (rd d (x : Int)))).getD (-1)) →
   Ev (fun k => impl_NextTo.l1 k l n first dst out d (rd d (x : Int)) cur d (d.length : Int) (x : Int) near (near.length : Int) (i : Int)) r
 | [], i, cur, hy, hi, hc => by
  have hi' : near.length ≤ i := List.drop_eq_nil_iff.1 hy
  have hd2 := hf.2 (x : Int) (by omega) (by omega)
  refine Ev.step (fun k => by rw [impl_NextTo.l1]) ?_
  refine Ev.ite_neg (by omega) (Ev.ite_pos (by omega) ?_)
  rw [w64n (by omega)]
  refine hk cur ?_
  rcases hc with ⟨e, h⟩ | ⟨_, h⟩
  ·rw [← h, e]
   rfl
  ·exact h
 | y :: ys, i, cur, hy, hi, hc => by
  obtain ⟨hi', hg, hy'⟩ := drop_cons (z := 0) hy
  have hd2 := hf.2 (x : Int) (by omega) (by omega)
  refine Ev.step (fun k => by rw [impl_NextTo.l1]) ?_
  refine Ev.ite_pos (by omega) (Ev.ite_pos (by omega) (Ev.ite_pos (by omega) ?_))
  rw [rd_nat near, hg, w64n (by omega), w64 (x := rd d (x : Int) - 1) (by omega) (by omega)]
  rcases hc with ⟨e, h⟩ | ⟨h0, h⟩
  ·subst e
   have skip : nxB n first dst d (rd d (x : Int)) y = false → Ev (fun k => impl_NextTo.l1 k l n first dst out d (rd d (x : Int)) (-1) d (d.length : Int) (x : Int) near (near.length : Int) ((i + 1 : Nat) : Int)) r := fun hb =>
    nextI_l1 hd hf hx hnear hout hk ys (i + 1) (-1) hy' (by omega) (.inl ⟨rfl, by rw [← h, find_step _ _ _ hb]⟩)
   have hit : nxB n first dst d (rd d (x : Int)) y = true → Ev (fun k => impl_NextTo.l1 k l n first dst out d (rd d (x : Int)) y d (d.length : Int) (x : Int) near (near.length : Int) ((i + 1 : Nat) : Int)) r := fun hb =>
    nextI_l1 hd hf hx hnear hout hk ys (i + 1) y hy' (by omega) (.inr ⟨by simp [nxB] at hb; omega, by rw [← h, List.find?_cons, hb]; rfl⟩)
   refine Ev.ite_pos (by omega) ?_
   by_cases c0 : rd d (x : Int) > 0
   ·refine Ev.ite_pos c0 (Ev.bind0 (ixP y n) ?_)
    by_cases c1 : 0 ≤ y ∧ y < n
    ·refine Ev.ite_pos (decide_eq_true c1) ?_
     have fin : (y < first ∨ y = dst) → Ev (fun k => if 0 ≤ y then (if y < (d.length : Int) then (if rd d y = rd d (x : Int) - 1 then impl_NextTo.l1 k l n first dst out d (rd d (x : Int)) y d (d.length : Int) (x : Int) near (near.length : Int) ((i + 1 : Nat) : Int) else impl_NextTo.l1 k l n first dst out d (rd d (x : Int)) (-1) d (d.length : Int) (x : Int) near (near.length : Int) ((i + 1 : Nat) : Int)) else none) else none) r := by
      intro hfd
      refine Ev.ite_pos c1.1 (Ev.ite_pos (by omega) ?_)
      by_cases c3 : rd d y = rd d (x : Int) - 1
      ·exact Ev.ite_pos c3 (hit (by simp [nxB]; omega))
      ·exact Ev.ite_neg c3 (skip (by simp [nxB]; omega))
     by_cases c2 : y < first
     ·exact Ev.ite_pos c2 (fin (.inl c2))
     ·refine Ev.ite_neg c2 ?_
      by_cases c4 : y = dst
      ·exact Ev.ite_pos c4 (fin (.inr c4))
      ·exact Ev.ite_neg c4 (skip (by simp [nxB]; omega))
    ·exact Ev.ite_neg (by simpa using c1) (skip (by simp [nxB]; omega))
   ·exact Ev.ite_neg c0 (skip (by simp [nxB]; omega))
  ·exact Ev.ite_neg (by omega) (nextI_l1 hd hf hx hnear hout hk ys (i + 1) cur hy' (by omega) (.inr ⟨h0, h⟩))
theorem nextI_l0 {l : List S134} (hl : l.length ≤ 1048576) {n first dst : Int} {d : List Int} (hf : Fit n d) : ∀ (m x : Nat), x + m = d.length →
  Ev (fun k => impl_NextTo.l0 k l n first dst ((List.range x).map (nxt l n first dst d)) d d (d.length : Int) (x : Int)) (nextRow l n first dst d) := by
 intro m
 induction m with
 | zero =>
  intro x hx
  obtain rfl : x = d.length := by omega
  refine Ev.step (fun k => by rw [impl_NextTo.l0]) ?_
  exact Ev.ite_neg (by omega) (Ev.now _)
 | succ m ih =>
  intro x hx
  have hd : d.length = n.toNat ∧ 0 ≤ n ∧ n ≤ 12 := by
   rcases hf.1 with rfl | h
   ·rw [List.length_nil] at hx
    omega
   ·exact h
  have hnl := nb_len l (x : Int)
  refine Ev.step (fun k => by rw [impl_NextTo.l0]) ?_
  refine Ev.ite_pos (by omega) (Ev.ite_pos (by omega) (Ev.ite_pos (by omega) (Ev.bind (nbI hl (x : Int)) ?_)))
  refine nextI_l1 hd hf (by omega) (by omega) (by simp; omega) (fun v hv => ?_) _ 0 (-1) rfl (by omega) (.inl ⟨rfl, rfl⟩)
  have h := ih (x + 1) (by omega)
  rw [List.range_succ, List.map_append] at h
  rw [hv]
  exact h
theorem nextI {l : List S134} (hl : l.length ≤ 1048576) (n first dst : Int) : Ev (fun k => impl_NextTo.f k l n first dst) (nextsTo l n first dst) := by
 unfold impl_NextTo.f
 exact Ev.bind (distI hl n first dst) (nextI_l0 hl (dists_fit l n first dst) (dists l n first dst).length 0 (by omega))
theorem nextS_l1 {l : List S134} {n first dst : Int} {d out near r : List Int} {x : Nat} (hd : d.length = n.toNat ∧ 0 ≤ n ∧ n ≤ 12) (hf : Fit n d) (hx : x < d.length) (hnear : near.length ≤ 10000000) (hout : out.length ≤ 100)
  (hk : ∀ v : Int, v = (near.find? (nxB n first dst d (rd d (x : Int)))).getD (-1) → Ev (fun k => spec_NextTo.l0 k l n first dst (out ++ [v]) d ((x + 1 : Nat) : Int)) r) :
  ∀ (ys : List Int) (i : Nat) (cur : Int), near.drop i = ys → i ≤ near.length → (cur = -1 ∧ (ys.find? (nxB n first dst d (rd d (x : Int)))).getD (-1) = (near.find? (nxB n first dst d (rd d (x : Int)))).getD (-1) ∨ 0 ≤ cur ∧ cur = (near.find? (nxB n first dst d (rd d (x : Int)))).getD (-1)) →
   Ev (fun k => spec_NextTo.l1 k l n first dst out d (x : Int) cur near (i : Int)) r := by
 have fin : ∀ (i : Nat) (v : Int), v = (near.find? (nxB n first dst d (rd d (x : Int)))).getD (-1) → Ev (fun k => spec_NextTo.j2 k l n first dst out d (x : Int) v near (i : Int) false) r := by
  intro i v hv
  refine Ev.step (fun k => by rw [spec_NextTo.j2]) ?_
  refine Ev.ite_neg (by simp) (Ev.ite_pos (by omega) ?_)
  rw [w64n (by omega)]
  exact hk v hv
 intro ys
 induction ys with
 | nil =>
  intro i cur hy hi hc
  have hi' : near.length ≤ i := List.drop_eq_nil_iff.1 hy
  refine Ev.step (fun k => by rw [spec_NextTo.l1]) ?_
  refine Ev.ite_neg (by omega) (fin i cur ?_)
  rcases hc with ⟨e, h⟩ | ⟨_, h⟩
  ·rw [← h, e]
   rfl
  ·exact h
 | cons y ys ih =>
  intro i cur hy hi hc
  obtain ⟨hi', hg, hy'⟩ := drop_cons (z := 0) hy
  have hd2 := hf.2 (x : Int) (by omega) (by omega)
  refine Ev.step (fun k => by rw [spec_NextTo.l1]) ?_
  refine Ev.ite_pos (by omega) (Ev.ite_pos (by omega) (Ev.ite_pos (by omega) ?_))
  by_cases c0 : rd d (x : Int) > 0
  ·refine Ev.ite_pos c0 ?_
   rcases hc with ⟨e, h⟩ | ⟨h0, h⟩
   ·subst e
    have skip : nxB n first dst d (rd d (x : Int)) y = false → Ev (fun k => spec_NextTo.l1 k l n first dst out d (x : Int) (-1) near ((i + 1 : Nat) : Int)) r := fun hb =>
     ih (i + 1) (-1) hy' (by omega) (.inl ⟨rfl, by rw [← h, find_step _ _ _ hb]⟩)
    have hit : nxB n first dst d (rd d (x : Int)) y = true → Ev (fun k => spec_NextTo.l1 k l n first dst out d (x : Int) y near ((i + 1 : Nat) : Int)) r := fun hb =>
     ih (i + 1) y hy' (by omega) (.inr ⟨by simp [nxB] at hb; omega, by rw [← h, List.find?_cons, hb]; rfl⟩)
    rw [decide_eq_true (by omega : (-1 : Int) < 0)]
    refine Ev.step (fun k => by rw [spec_NextTo.j2]) ?_
    refine Ev.ite_pos rfl (Ev.ite_pos (by omega) (Ev.ite_pos (by omega) ?_))
    rw [rd_nat near, hg, w64n (by omega), w64 (x := rd d (x : Int) - 1) (by omega) (by omega), w64 (x := n - 1) (by omega) (by omega)]
    refine Ev.bind0 (inP y 0 (n - 1)) ?_
    by_cases c1 : 0 ≤ y ∧ y ≤ n - 1
    ·refine Ev.ite_pos (decide_eq_true c1) ?_
     have fin2 : (y < first ∨ y = dst) → Ev (fun k => if 0 ≤ y then (if y < (d.length : Int) then (if 0 ≤ (x : Int) then (if (x : Int) < (d.length : Int) then (if rd d y = rd d (x : Int) - 1 then spec_NextTo.l1 k l n first dst out d (x : Int) y near ((i + 1 : Nat) : Int) else spec_NextTo.l1 k l n first dst out d (x : Int) (-1) near ((i + 1 : Nat) : Int)) else none) else none) else none) else none) r := by
      intro hfd
      refine Ev.ite_pos c1.1 (Ev.ite_pos (by omega) (Ev.ite_pos (by omega) (Ev.ite_pos (by omega) ?_)))
      by_cases c3 : rd d y = rd d (x : Int) - 1
      ·exact Ev.ite_pos c3 (hit (by simp [nxB]; omega))
      ·exact Ev.ite_neg c3 (skip (by simp [nxB]; omega))
     by_cases c2 : y < first
     ·exact Ev.ite_pos c2 (fin2 (.inl c2))
     ·refine Ev.ite_neg c2 ?_
      by_cases c4 : y = dst
      ·exact Ev.ite_pos c4 (fin2 (.inr c4))
      ·exact Ev.ite_neg c4 (skip (by simp [nxB]; omega))
    ·exact Ev.ite_neg (by simpa using c1) (skip (by simp [nxB]; omega))
   ·rw [decide_eq_false (by omega : ¬ cur < 0)]
    exact fin i cur h
  ·refine Ev.ite_neg c0 (fin i cur ?_)
   have hn : near.find? (nxB n first dst d (rd d (x : Int))) = none := by
    refine List.find?_eq_none.2 fun z _ => ?_
    simp [nxB]
    omega
   rcases hc with ⟨e, _⟩ | ⟨_, h⟩
   ·rw [hn, e]
    rfl
   ·exact h
theorem nextS_l0 {l : List S134} (hl : l.length ≤ 1048576) {n first dst : Int} {d : List Int} (hf : Fit n d) : ∀ (m x : Nat), x + m = d.length →
  Ev (fun k => spec_NextTo.l0 k l n first dst ((List.range x).map (nxt l n first dst d)) d (x : Int)) (nextRow l n first dst d) := by
 intro m
 induction m with
 | zero =>
  intro x hx
  obtain rfl : x = d.length := by omega
  refine Ev.step (fun k => by rw [spec_NextTo.l0]) ?_
  exact Ev.ite_neg (by omega) (Ev.now _)
 | succ m ih =>
  intro x hx
  have hd : d.length = n.toNat ∧ 0 ≤ n ∧ n ≤ 12 := by
   rcases hf.1 with rfl | h
   ·rw [List.length_nil] at hx
    omega
   ·exact h
  have hnl := nb_len l (x : Int)
  refine Ev.step (fun k => by rw [spec_NextTo.l0]) ?_
  refine Ev.ite_pos (by omega) (Ev.bind (nbS hl (x : Int)) ?_)
  refine nextS_l1 hd hf (by omega) (by omega) (by simp; omega) (fun v hv => ?_) _ 0 (-1) rfl (by omega) (.inl ⟨rfl, rfl⟩)
  have h := ih (x + 1) (by omega)
  rw [List.range_succ, List.map_append] at h
  rw [hv]
  exact h
theorem nextS {l : List S134} (hl : l.length ≤ 1048576) (n first dst : Int) : Ev (fun k => spec_NextTo.f k l n first dst) (nextsTo l n first dst) := by
 unfold spec_NextTo.f
 exact Ev.bind (distS hl n first dst) (nextS_l0 hl (dists_fit l n first dst) (dists l n first dst).length 0 (by omega))
theorem tableI {l : List S134} (hl : l.length ≤ 1048576) (n first dst : Int) : Ev (fun k => impl_TableOf.f k l n first dst) (dst, dists l n first dst, nextsTo l n first dst) := by
 unfold impl_TableOf.f
 exact Ev.bind (distI hl n first dst) (Ev.bind (nextI hl n first dst) (Ev.now _))
theorem tableS {l : List S134} (hl : l.length ≤ 1048576) (n first dst : Int) : Ev (fun k => spec_TableOf.f k l n first dst) (dst, dists l n first dst, nextsTo l n first dst) := by
 unfold spec_TableOf.f
 exact Ev.bind (distS hl n first dst) (Ev.bind (nextS hl n first dst) (Ev.now _))
structure Down (n first dst : Int) (d t : List Int) : Prop where
 dlen : d.length = n.toNat
 tlen : t.length = n.toNat
 rng : 1 ≤ n ∧ n ≤ 12
 din : 0 ≤ dst ∧ dst < n
 d0 : rd d dst = 0
 zero : ∀ x : Int, 0 ≤ x → x < n → rd d x = 0 → x = dst
 low : ∀ x : Int, 0 ≤ x → x < n → -1 ≤ rd d x ∧ rd d x < n
 stop : ∀ x : Int, 0 ≤ x → x < n → rd d x ≤ 0 → rd t x = -1
 step : ∀ x : Int, 0 ≤ x → x < n → 0 < rd d x → (0 ≤ rd t x ∧ rd t x < n) ∧ (rd t x < first ∨ rd t x = dst) ∧ rd d (rd t x) = rd d x - 1
theorem nextRow_len (l : List S134) (n first dst : Int) (d : List Int) : (nextRow l n first dst d).length = d.length := by simp [nextRow]
theorem rd_nextRow {l : List S134} {n first dst : Int} {d : List Int} {x : Int} (h0 : 0 ≤ x) (h1 : x < d.length) : rd (nextRow l n first dst d) x = nxt l n first dst d x.toNat := by
 unfold rd nextRow
 rw [getD_at (by simp; omega)]
 simp
theorem down (l : List S134) {n first dst : Int} (h : (1 ≤ n ∧ n ≤ 12) ∧ 0 ≤ dst ∧ dst < n) : Down n first dst (dists l n first dst) (nextsTo l n first dst) := by
 have H := dists_inv (l := l) (first := first) h
 have hlen := H.len
 have hN : ((n.toNat : Nat) : Int) = n := Int.toNat_of_nonneg (by omega)
 refine ⟨hlen, by rw [nextsTo, nextRow_len]; exact hlen, h.1, h.2, H.d0, fun x h0 h1 => H.zero x h0 (by omega), fun x h0 h1 => ⟨H.low x h0 (by omega), by have := H.bound x h0 (by omega); omega⟩, ?_, ?_⟩
 ·intro x h0 h1 hx
  rw [nextsTo, rd_nextRow h0 (by omega), nxt, Int.toNat_of_nonneg h0, List.find?_eq_none.2]
  ·rfl
  ·intro y _
   simp [nxB]
   omega
 ·intro x h0 h1 hx
  rw [nextsTo, rd_nextRow h0 (by omega), nxt, Int.toNat_of_nonneg h0]
  obtain ⟨u, hu0, hun, hex, hm, hd⟩ := H.pred x h0 (by omega) hx
  have hmu : u ∈ nb l x := nb_sym.1 hm
  cases hfd : (nb l x).find? (nxB n first dst (dists l n first dst) (rd (dists l n first dst) x)) with
  | none =>
   have := List.find?_eq_none.1 hfd u hmu
   simp only [exB, decide_eq_true_iff] at hex
   simp [nxB] at this
   omega
  | some y =>
   have := List.find?_some hfd
   simp only [nxB, decide_eq_true_iff] at this
   exact this.2
end Go.Proofs.Ytiihaabhjphaeaa.fnSwitched
/- HasLoop and rows that lead downhill. Conditions: none. -/
namespace Go.Proofs.Ytiihaabhjphaeaa.fnSwitched
open Go.RowKit Go.Proofs.YtiihaabhjphaeaaW.PrintWords Go.Proofs.YtiihaabhjphaeaaW.PrintLast Go.Proofs.YtiihaabhjphaeaaW.PrintMore Go.Proofs.Ytiihaabhjphaeaa.QFnSwitched Go.Proofs.Ytiihaabhjphaeaa.Open Go.Proofs.Ytiihaabhjphaeaa.Kit Go.Proofs.Ytiihaabhjphaeaa.Graph
theorem walk_pot {E : Int → Int → Prop} (pot : Int → Int) (h : ∀ x y, E x y → pot y < pot x) : ∀ (m : Nat) (x y : Int), Walk E m x y → pot y + m ≤ pot x
 | 0, x, y, hw => by
  cases hw
  omega
 | m + 1, x, y, ⟨z, hz, hw⟩ => by
  have h1 := h x z hz
  have h2 := walk_pot pot h m z y hw
  omega
theorem fnLoop_no {E : Int → Int → Prop} (pot : Int → Int) (h : ∀ x y, E x y → pot y < pot x) : ¬ Cyc E := by
 rintro ⟨i, m, hm, hw⟩
 have := walk_pot pot h m i i hw
 omega
end Go.Proofs.Ytiihaabhjphaeaa.fnSwitched
/- Whether the tables of the pieces in a span hold, as one graph, no circle. Conditions: none. -/
namespace Go.Proofs.Ytiihaabhjphaeaa.fnSwitched
open Go.RowKit Go.Proofs.YtiihaabhjphaeaaW.PrintWords Go.Proofs.YtiihaabhjphaeaaW.PrintMore Go.Proofs.Ytiihaabhjphaeaa.QFnSwitched Go.Proofs.Ytiihaabhjphaeaa.Open Go.Proofs.Ytiihaabhjphaeaa.Kit Go.Proofs.Ytiihaabhjphaeaa.Graph
def SafeP (p : List S105) (d u v : Int) : Prop := ¬ Cyc (EdgeIn (rowsA p d (pcs u v p 0)) (msz (rowsA p d (pcs u v p 0))).toNat)
theorem safeI (p : List S105) (hp : nPgI p ≤ 1048576) (n a s d u v : Int) : ∃ r, Ev (fun k => impl_IsSafeMix.f k n a s p d u v) r ∧ (r = true ↔ SafeP p d u v) := by
 have hl : p.length ≤ 1048576 := by unfold nPgI at hp; omega
 have hks := pcs_len u v p 0
 unfold SafeP
 obtain ⟨ks, hk⟩ : ∃ ks, pcs u v p 0 = ks := ⟨_, rfl⟩
 rw [hk] at hks ⊢
 obtain ⟨r2, e2, i2⟩ := union2 (rowsA p d ks) (by unfold rowsA; rw [List.length_map]; omega) (by
  intro t ht
  unfold rowsA at ht
  obtain ⟨k, _, rfl⟩ := List.mem_map.1 ht
  exact row_len hp k d)
 refine ⟨!r2, ?_, ?_⟩
 ·unfold impl_IsSafeMix.f
  refine Ev.bind (pcs2 p hl n a s u v) ?_
  rw [hk]
  have key : ∀ (c i : Nat) (acc : List (List Int)), i + c = ks.length → acc.length ≤ i → acc ++ rowsA p d (ks.drop i) = rowsA p d ks → Ev (fun k => impl_IsSafeMix.l0 k d acc ks (ks.length : Int) (i : Int) n a s p) (!r2) := by
   intro c
   induction c with
   | zero =>
    intro i acc hi ha hacc
    refine Ev.step (fun k => by rw [impl_IsSafeMix.l0]) ?_
    repeat (first | (with_reducible refine Ev.ite_pos (by omega) ?_) | (with_reducible refine Ev.ite_neg (by omega) ?_))
    rw [List.drop_of_length_le (by omega), show rowsA p d [] = [] from rfl, List.append_nil] at hacc
    rw [hacc]
    exact Ev.bind e2 (Ev.now _)
   | succ c ih =>
    intro i acc hi ha hacc
    refine Ev.step (fun k => by rw [impl_IsSafeMix.l0]) ?_
    repeat (first | (with_reducible refine Ev.ite_pos (by omega) ?_) | (with_reducible refine Ev.ite_neg (by omega) ?_))
    rw [drop_getD (by omega : i < ks.length) 0] at hacc
    rw [rd_nat, w64n (by omega)]
    refine Ev.bind0 (table2 p hp n a s (ks.getD i 0) d) ?_
    repeat (first | (with_reducible refine Ev.ite_pos (by omega) ?_) | (with_reducible refine Ev.ite_neg (by omega) ?_))
    refine ih (i + 1) _ (by omega) (by simp; omega) ?_
    rw [← hacc, List.append_assoc]
    rfl
  exact key ks.length 0 [] (by omega) (by simp) (by simp)
 ·rw [← i2]
  cases r2 <;> simp
end Go.Proofs.Ytiihaabhjphaeaa.fnSwitched
/- What plans, links at a tick, pieces and programs come to, in the program and in the reference. Conditions: none. -/
namespace Go.Proofs.Ytiihaabhjphaeaa.fnSwitched
open Go.RowKit Go.Proofs.YtiihaabhjphaeaaW.PrintWords Go.Proofs.YtiihaabhjphaeaaW.PrintLast Go.Proofs.YtiihaabhjphaeaaW.PrintMore Go.Proofs.Ytiihaabhjphaeaa.QFnSwitched Go.Proofs.Ytiihaabhjphaeaa.Open Go.Proofs.Ytiihaabhjphaeaa.Kit Go.Proofs.Ytiihaabhjphaeaa.Bfs
/-! ### spans -/
def spanQ (a b : Int) : Bool := decide (0 ≤ a ∧ b ≤ 1000 ∧ a < b)
def inQ (a b t : Int) : Bool := decide ((0 ≤ a ∧ b ≤ 1000 ∧ a < b) ∧ a ≤ t ∧ t < b)
theorem spanS (a b : Int) : spec_IsSpan.f a b = some (spanQ a b) := by
 unfold spec_IsSpan.f spanQ
 by_cases h : a ≥ 0
 ·rw [if_pos h]
  by_cases h2 : b ≤ 1000
  ·rw [if_pos h2]
   simp [h, h2]
  ·rw [if_neg h2]
   simp [h2]
 ·rw [if_neg h]
  simp [h]
theorem spanI (a b : Int) : impl_IsSpan.f a b = some (spanQ a b) := by
 unfold impl_IsSpan.f spanQ
 by_cases h : a ≥ 0
 ·rw [if_pos h]
  by_cases h2 : b ≤ 1000
  ·rw [if_pos h2]
   simp [h, h2]
  ·rw [if_neg h2]
   simp [h2]
 ·rw [if_neg h]
  simp [h]
theorem inQ_def (a b t : Int) : inQ a b t = (spanQ a b && decide (a ≤ t ∧ t < b)) := by
 unfold inQ spanQ
 rw [← Bool.decide_and]
theorem inSpanS (a b t : Int) : spec_InSpan.f a b t = some (inQ a b t) := by
 unfold spec_InSpan.f
 rw [spanS, Option.bind_some, inQ_def]
 cases spanQ a b with
 | true =>
  rw [if_pos rfl, Bool.true_and]
  by_cases h : a ≤ t
  ·rw [if_pos h]
   simp [h]
  ·rw [if_neg h]
   simp [h]
 | false =>
  rw [if_neg (by simp), Bool.false_and]
theorem inSpanI (a b t : Int) : impl_InSpan.f a b t = some (inQ a b t) := by
 unfold impl_InSpan.f
 rw [spanI, Option.bind_some, inQ_def]
 cases spanQ a b with
 | true =>
  rw [if_pos rfl, Bool.true_and]
  by_cases h : a ≤ t
  ·rw [if_pos h]
   simp [h]
  ·rw [if_neg h]
   simp [h]
 | false =>
  rw [if_neg (by simp), Bool.false_and]
/-! ### plans -/
def CtOk (n : Int) (x : S137) : Prop := (0 ≤ x.f0 ∧ x.f0 < x.f1 ∧ x.f1 < n) ∧ 0 ≤ x.f2 ∧ x.f3 ≤ 1000 ∧ x.f2 < x.f3
def Bef (x y : S137) : Prop := x.f0 < y.f0 ∨ x.f0 = y.f0 ∧ (x.f1 < y.f1 ∨ x.f1 = y.f1 ∧ x.f3 < y.f2)
def PlanOk (n : Int) (l : List S137) : Prop := ∀ i, i < l.length → CtOk n (l.getD i z137) ∧ (0 < i → Bef (l.getD (i - 1) z137) (l.getD i z137))
noncomputable def planB (n : Int) (l : List S137) : Bool := @decide (PlanOk n l) (Classical.propDecidable _)
theorem planB_iff {n : Int} {l : List S137} : planB n l = true ↔ PlanOk n l := @decide_eq_true_iff _ (Classical.propDecidable _)
theorem contactS (x : S137) (n : Int) : ∃ r, spec_IsContact.f x.f0 x.f1 x.f2 x.f3 n = some r ∧ (r = true ↔ CtOk n x) := by
 unfold spec_IsContact.f CtOk
 rw [spanS, Option.bind_some]
 by_cases h1 : x.f0 ≥ 0
 ·rw [if_pos h1]
  by_cases h2 : x.f0 < x.f1
  ·rw [if_pos h2]
   by_cases h3 : x.f1 < n
   ·rw [if_pos h3]
    refine ⟨_, rfl, ?_⟩
    unfold spanQ
    rw [decide_eq_true_iff]
    omega
   ·rw [if_neg h3]
    exact ⟨false, rfl, by simp [h3]⟩
  ·rw [if_neg h2]
   exact ⟨false, rfl, by simp [h2]⟩
 ·rw [if_neg h1]
  exact ⟨false, rfl, by simp [h1]⟩
theorem beforeS (x y : S137) : ∃ r, spec_l11Before.f x.f0 x.f1 x.f2 x.f3 y.f0 y.f1 y.f2 y.f3 = some r ∧ (r = true ↔ Bef x y) := by
 unfold spec_l11Before.f Bef
 by_cases h1 : x.f0 = y.f0
 ·rw [if_pos h1]
  by_cases h2 : x.f1 = y.f1
  ·rw [if_pos h2]
   refine ⟨_, rfl, ?_⟩
   rw [decide_eq_true_iff]
   omega
  ·rw [if_neg h2]
   refine ⟨_, rfl, ?_⟩
   rw [decide_eq_true_iff]
   omega
 ·rw [if_neg h1]
  refine ⟨_, rfl, ?_⟩
  rw [decide_eq_true_iff]
  omega
theorem plan_step {n : Int} {l : List S137} {i : Nat} {r : Bool} (h : CtOk n (l.getD i z137) ∧ (0 < i → Bef (l.getD (i - 1) z137) (l.getD i z137)))
  (hr : r = true ↔ ∀ j, i + 1 ≤ j → j < l.length → CtOk n (l.getD j z137) ∧ (0 < j → Bef (l.getD (j - 1) z137) (l.getD j z137))) :
  r = true ↔ ∀ j, i ≤ j → j < l.length → CtOk n (l.getD j z137) ∧ (0 < j → Bef (l.getD (j - 1) z137) (l.getD j z137)) := by
 rw [hr]
 constructor
 ·intro hh j h1 h2
  by_cases e : j = i
  ·rw [e]
   exact h
  ·exact hh j (by omega) h2
 ·exact fun hh j h1 h2 => hh j (by omega) h2
theorem plan_bad {n : Int} {l : List S137} {i : Nat} (hi : i < l.length) (h : ¬ (CtOk n (l.getD i z137) ∧ (0 < i → Bef (l.getD (i - 1) z137) (l.getD i z137)))) :
  false = true ↔ ∀ j, i ≤ j → j < l.length → CtOk n (l.getD j z137) ∧ (0 < j → Bef (l.getD (j - 1) z137) (l.getD j z137)) := by
 constructor
 ·intro e
  cases e
 ·exact fun hh => absurd (hh i (Nat.le_refl _) hi) h
theorem rdC (l : List S137) (i : Nat) : rd_T137 l (i : Int) = l.getD i z137 := rfl
theorem rdC1 (l : List S137) {i : Nat} (h : 0 < i) : rd_T137 l ((i : Int) - 1) = l.getD (i - 1) z137 := by
 rw [show ((i : Int) - 1) = ((i - 1 : Nat) : Int) by omega]
 rfl
theorem planS {n : Int} {l : List S137} (hl : l.length ≤ 1048576) : Ev (fun k => spec_IsPlan.f k l n) (planB n l) := by
 have key : ∀ m i : Nat, i + m = l.length → ∃ r, Ev (fun k => spec_IsPlan.l0 k l n (i : Int)) r ∧ (r = true ↔ ∀ j, i ≤ j → j < l.length → CtOk n (l.getD j z137) ∧ (0 < j → Bef (l.getD (j - 1) z137) (l.getD j z137))) := by
  intro m
  induction m with
  | zero =>
   intro i hi
   refine ⟨true, ?_, ?_⟩
   ·refine Ev.step (fun k => by rw [spec_IsPlan.l0]) ?_
    exact Ev.ite_neg (by omega) (Ev.now _)
   ·simp only [true_iff]
    intro j h1 h2
    omega
  | succ m ih =>
   intro i hi
   obtain ⟨r, hr, hri⟩ := ih (i + 1) (by omega)
   obtain ⟨c, hc, hci⟩ := contactS (l.getD i z137) n
   by_cases h1 : CtOk n (l.getD i z137)
   ·by_cases h0 : 0 < i
    ·obtain ⟨b, hb, hbi⟩ := beforeS (l.getD (i - 1) z137) (l.getD i z137)
     by_cases h2 : Bef (l.getD (i - 1) z137) (l.getD i z137)
     ·refine ⟨r, ?_, plan_step ⟨h1, fun _ => h2⟩ hri⟩
      refine Ev.step (fun k => by rw [spec_IsPlan.l0]) ?_
      refine Ev.ite_pos (by omega) (Ev.ite_pos (by omega) ?_)
      rw [rdC, w64n (by omega), w64 (x := (i : Int) - 1) (by omega) (by omega), rdC1 l h0]
      exact Ev.bind0 hc (Ev.ite_pos (hci.2 h1) (Ev.ite_pos (by omega) (Ev.ite_pos (by omega) (Ev.ite_pos (by omega) (Ev.bind0 hb (Ev.ite_pos (hbi.2 h2) hr))))))
     ·refine ⟨false, ?_, plan_bad (by omega) fun h => h2 (h.2 h0)⟩
      refine Ev.step (fun k => by rw [spec_IsPlan.l0]) ?_
      refine Ev.ite_pos (by omega) (Ev.ite_pos (by omega) ?_)
      rw [rdC, w64 (x := (i : Int) - 1) (by omega) (by omega), rdC1 l h0]
      exact Ev.bind0 hc (Ev.ite_pos (hci.2 h1) (Ev.ite_pos (by omega) (Ev.ite_pos (by omega) (Ev.ite_pos (by omega) (Ev.bind0 hb (Ev.ite_neg (fun h => h2 (hbi.1 h)) (Ev.now _)))))))
    ·refine ⟨r, ?_, plan_step ⟨h1, fun h => absurd h h0⟩ hri⟩
     refine Ev.step (fun k => by rw [spec_IsPlan.l0]) ?_
     refine Ev.ite_pos (by omega) (Ev.ite_pos (by omega) ?_)
     rw [rdC, w64n (by omega)]
     exact Ev.bind0 hc (Ev.ite_pos (hci.2 h1) (Ev.ite_neg (by omega) hr))
   ·refine ⟨false, ?_, plan_bad (by omega) fun h => h1 h.1⟩
    refine Ev.step (fun k => by rw [spec_IsPlan.l0]) ?_
    refine Ev.ite_pos (by omega) (Ev.ite_pos (by omega) ?_)
    rw [rdC]
    exact Ev.bind0 hc (Ev.ite_neg (fun h => h1 (hci.1 h)) (Ev.now _))
 obtain ⟨r, hr, hri⟩ := key l.length 0 (by omega)
 have e : r = planB n l := by
  rw [Bool.eq_iff_iff, hri, planB_iff]
  exact ⟨fun h i hi => h i (by omega) hi, fun h i _ hi => h i hi⟩
 rw [← e]
 exact hr
def hasL (out : List S134) (a b : Int) : Bool := out.any fun x => x.f0 == a && x.f1 == b
def addL (t : Int) (out : List S134) (x : S137) : List S134 := if hasL out x.f0 x.f1 = true then out else if inQ x.f2 x.f3 t = true then out ++ [⟨x.f0, x.f1⟩] else out
def linksAt (l : List S137) (t : Int) : List S134 := l.foldl (addL t) []
theorem addL_len (t : Int) (out : List S134) (x : S137) : (addL t out x).length ≤ out.length + 1 := by
 unfold addL
 split
 ·omega
 ·split
  ·simp
  ·omega
theorem foldTo_addL_len (t : Int) (l : List S137) : ∀ i, i ≤ l.length → (foldTo (addL t) [] l i).length ≤ i
 | 0, _ => by simp [foldTo]
 | i + 1, h => by
  rw [foldTo_succ _ _ (show i < l.length by omega) z137]
  have h1 := foldTo_addL_len t l i (by omega)
  have h2 := addL_len t (foldTo (addL t) [] l i) (l.getD i z137)
  omega
theorem linksAt_len (l : List S137) (t : Int) : (linksAt l t).length ≤ l.length := by
 have := foldTo_addL_len t l l.length (Nat.le_refl _)
 rw [foldTo_all] at this
 exact this
theorem linksS_l1 {l : List S137} {t a b : Int} {i : Nat} {out r : List S134} (ho : out.length ≤ 2000000)
  (hk : ∀ q : Bool, q = hasL out a b → Ev (fun k => if q = true then (spec_LinksAt.l0 k l t out (wrap64 ((i : Int) + 1))) else (if 0 ≤ (i : Int) then (if (i : Int) < (l.length : Int) then ((spec_InSpan.f ((rd_T137 l (i : Int)).f2) ((rd_T137 l (i : Int)).f3) t).bind fun t182 => (if t182 = true then (if out.length < 8796093022208 then (spec_LinksAt.l0 k l t (out ++ [(⟨a, b⟩ : S134)]) (wrap64 ((i : Int) + 1))) else (none)) else (spec_LinksAt.l0 k l t out (wrap64 ((i : Int) + 1))))) else (none)) else (none))) r) :
  ∀ (m j : Nat) (q : Bool), j + m = out.length → q = hasL (out.take j) a b → Ev (fun k => spec_LinksAt.l1 k l t out (i : Int) q (j : Int) a b) r := by
 intro m
 induction m with
 | zero =>
  intro j q hj hq
  rw [List.take_of_length_le (by omega)] at hq
  refine Ev.step (fun k => by rw [spec_LinksAt.l1]) ?_
  exact Ev.ite_neg (by omega) (hk q hq)
 | succ m ih =>
  intro j q hj hq
  have hjl : j < out.length := by omega
  have hs : hasL (out.take (j + 1)) a b = (hasL (out.take j) a b || ((rd_T134 out (j : Int)).f0 == a && (rd_T134 out (j : Int)).f1 == b)) := by
   unfold hasL
   rw [take_succ_getD hjl z134, List.any_append]
   simp
   rfl
  refine Ev.step (fun k => by rw [spec_LinksAt.l1]) ?_
  refine Ev.ite_pos (by omega) ?_
  rw [w64n (by omega)]
  by_cases c : q = true
  ·refine Ev.ite_pos c (ih (j + 1) true (by omega) ?_)
   rw [hs, ← hq, c]
   rfl
  ·refine Ev.ite_neg c (Ev.ite_pos (by omega) (ih (j + 1) _ (by omega) ?_))
   rw [hs, ← hq, Bool.eq_false_iff.2 c]
   rfl
theorem linksS {l : List S137} (hl : l.length ≤ 1048576) (t : Int) : Ev (fun k => spec_LinksAt.f k l t) (linksAt l t) := by
 have key : ∀ m i : Nat, i + m = l.length → Ev (fun k => spec_LinksAt.l0 k l t (foldTo (addL t) [] l i) (i : Int)) (linksAt l t) := by
  intro m
  induction m with
  | zero =>
   intro i hi
   obtain rfl : i = l.length := by omega
   rw [foldTo_all]
   refine Ev.step (fun k => by rw [spec_LinksAt.l0]) ?_
   exact Ev.ite_neg (by omega) (Ev.now _)
  | succ m ih =>
   intro i hi
   have hlen := foldTo_addL_len t l i (show i ≤ l.length by omega)
   have h := ih (i + 1) (by omega)
   rw [foldTo_succ _ _ (show i < l.length by omega) z137] at h
   generalize foldTo (addL t) [] l i = out at *
   refine Ev.step (fun k => by rw [spec_LinksAt.l0]) ?_
   refine Ev.ite_pos (by omega) (Ev.ite_pos (by omega) ?_)
   refine linksS_l1 (by omega) ?_ out.length 0 false (by omega) rfl
   intro q hq
   rw [rdC] at *
   rw [w64n (by omega)]
   unfold addL at h
   by_cases c : q = true
   ·rw [if_pos (hq ▸ c)] at h
    exact Ev.ite_pos c h
   ·rw [if_neg (fun e => c (hq.trans e))] at h
    refine Ev.ite_neg c (Ev.ite_pos (by omega) (Ev.ite_pos (by omega) (Ev.bind0 (inSpanS _ _ _) ?_)))
    by_cases c2 : inQ (l.getD i z137).f2 (l.getD i z137).f3 t = true
    ·rw [if_pos c2] at h
     exact Ev.ite_pos c2 (Ev.ite_pos (by omega) h)
    ·rw [if_neg c2] at h
     exact Ev.ite_neg c2 h
 exact key l.length 0 (by omega)
noncomputable def sameL (a b : List S134) : Bool := @decide (a = b) (Classical.propDecidable _)
theorem sameL_iff {a b : List S134} : sameL a b = true ↔ a = b := @decide_eq_true_iff _ (Classical.propDecidable _)
theorem sameL_no {a b : List S134} (h : a ≠ b) : sameL a b = false := Bool.eq_false_iff.2 fun e => h (sameL_iff.1 e)
theorem link_ext {x y : S134} (h0 : x.f0 = y.f0) (h1 : x.f1 = y.f1) : x = y := by
 cases x
 cases y
 simp at h0 h1
 rw [h0, h1]
theorem same_of {a b : List S134} (hlen : a.length = b.length) {r : Bool} (h : r = true ↔ ∀ j : Nat, 0 ≤ j → j < a.length → a.getD j z134 = b.getD j z134) : r = sameL a b := by
 rw [Bool.eq_iff_iff, h, sameL_iff]
 constructor
 ·intro hh
  apply List.ext_getElem hlen
  intro i h1 h2
  have := hh i (by omega) h1
  rw [getD_at h1, getD_at h2] at this
  exact this
 ·intro e j _ _
  rw [e]
theorem same_step {a b : List S134} {i : Nat} {r : Bool} (h : a.getD i z134 = b.getD i z134) (hr : r = true ↔ ∀ j : Nat, i + 1 ≤ j → j < a.length → a.getD j z134 = b.getD j z134) :
  r = true ↔ ∀ j : Nat, i ≤ j → j < a.length → a.getD j z134 = b.getD j z134 := by
 rw [hr]
 constructor
 ·intro hh j h1 h2
  by_cases e : j = i
  ·rw [e]
   exact h
  ·exact hh j (by omega) h2
 ·exact fun hh j h1 h2 => hh j (by omega) h2
theorem ne_link {x y : S134} (c : (!(x.f0 == y.f0) || !(x.f1 == y.f1)) = true) : x ≠ y := by
 intro e
 rw [e] at c
 simp at c
theorem eq_link {x y : S134} (c : ¬ (!(x.f0 == y.f0) || !(x.f1 == y.f1)) = true) : x = y := by
 simp at c
 exact link_ext c.1 c.2
theorem sameS {a b : List S134} (ha : a.length ≤ 2000000) : Ev (fun k => spec_SameLinks.f k a b) (sameL a b) := by
 unfold spec_SameLinks.f
 by_cases hlen : a.length = b.length
 ·refine Ev.ite_pos (by omega) ?_
  have key : ∀ m i : Nat, i + m = a.length → ∃ r, Ev (fun k => spec_SameLinks.l0 k a b (i : Int)) r ∧ (r = true ↔ ∀ j : Nat, i ≤ j → j < a.length → a.getD j z134 = b.getD j z134) := by
   intro m
   induction m with
   | zero =>
    intro i hi
    refine ⟨true, ?_, ?_⟩
    ·refine Ev.step (fun k => by rw [spec_SameLinks.l0]) ?_
     exact Ev.ite_neg (by omega) (Ev.now _)
    ·simp only [true_iff]
     intro j h1 h2
     omega
   | succ m ih =>
    intro i hi
    obtain ⟨r, hr, hri⟩ := ih (i + 1) (by omega)
    by_cases c : (!((rd_T134 a (i : Int)).f0 == (rd_T134 b (i : Int)).f0) || !((rd_T134 a (i : Int)).f1 == (rd_T134 b (i : Int)).f1)) = true
    ·refine ⟨false, ?_, Iff.intro (fun h => by cases h) (fun h => absurd (h i (by omega) (by omega)) (ne_link c))⟩
     refine Ev.step (fun k => by rw [spec_SameLinks.l0]) ?_
     exact Ev.ite_pos (by omega) (Ev.ite_pos (by omega) (Ev.ite_pos (by omega) (Ev.ite_pos c (Ev.now _))))
    ·refine ⟨r, ?_, same_step (eq_link c) hri⟩
     refine Ev.step (fun k => by rw [spec_SameLinks.l0]) ?_
     refine Ev.ite_pos (by omega) (Ev.ite_pos (by omega) (Ev.ite_pos (by omega) (Ev.ite_neg c ?_)))
     rw [w64n (by omega)]
     exact hr
  obtain ⟨r, hr, hri⟩ := key a.length 0 (by omega)
  rw [← same_of hlen hri]
  exact hr
 ·refine Ev.ite_neg (by omega) (Ev.some ?_)
  exact (sameL_no fun e => hlen (by rw [e])).symm
noncomputable def chP (l : List S137) (a b t : Int) : Bool := decide (1 ≤ t ∧ a < t ∧ t < b) && !(sameL (linksAt l (t - 1)) (linksAt l t))
noncomputable def chTo (l : List S137) (a b : Int) (m : Nat) : List Int := ((List.range m).filter fun t : Nat => chP l a b (t : Int)).map fun t : Nat => (t : Int)
noncomputable def changes (l : List S137) (a b : Int) : List Int := chTo l a b 1000
theorem chTo_succ (l : List S137) (a b : Int) (m : Nat) : chTo l a b (m + 1) = if chP l a b (m : Int) = true then chTo l a b m ++ [(m : Int)] else chTo l a b m := by
 unfold chTo
 rw [List.range_succ, List.filter_append, List.map_append]
 by_cases c : chP l a b (m : Int) = true
 ·simp [c]
 ·simp [c]
theorem chTo_len (l : List S137) (a b : Int) (m : Nat) : (chTo l a b m).length ≤ m := by
 unfold chTo
 rw [List.length_map]
 exact Nat.le_trans (List.length_filter_le _ _) (by simp)
theorem changes_le (l : List S137) (a b : Int) : (changes l a b).length ≤ 1000 := by
 unfold changes
 exact chTo_len l a b 1000
theorem chTo_skip {l : List S137} {a b : Int} {m : Nat} : ∀ d, (∀ t : Nat, m ≤ t → t < m + d → chP l a b (t : Int) = false) → chTo l a b (m + d) = chTo l a b m
 | 0, _ => rfl
 | d + 1, h => by
  rw [← Nat.add_assoc, chTo_succ, if_neg (by rw [h (m + d) (by omega) (by omega)]; simp)]
  exact chTo_skip d fun t h1 h2 => h t h1 (by omega)
theorem chTo_none {l : List S137} {a b : Int} {m : Nat} (h : ∀ t : Nat, t < m → chP l a b (t : Int) = false) : chTo l a b m = [] := by
 have := chTo_skip (l := l) (a := a) (b := b) (m := 0) m fun t _ h2 => h t (by omega)
 rw [Nat.zero_add] at this
 rw [this]
 rfl
theorem chTo_all {l : List S137} {a b : Int} {m : Nat} (hm : m ≤ 1000) (h : ∀ t : Nat, m ≤ t → t < 1000 → chP l a b (t : Int) = false) : chTo l a b m = changes l a b := by
 have := chTo_skip (l := l) (a := a) (b := b) (m := m) (1000 - m) fun t h1 h2 => h t h1 (by omega)
 rw [show m + (1000 - m) = 1000 by omega] at this
 exact this.symm
theorem chP_out {l : List S137} {a b t : Int} (h : ¬ (1 ≤ t ∧ a < t ∧ t < b)) : chP l a b t = false := by
 unfold chP
 rw [decide_eq_false h]
 rfl
theorem chP_in {l : List S137} {a b t : Int} (h : 1 ≤ t ∧ a < t ∧ t < b) : chP l a b t = !(sameL (linksAt l (t - 1)) (linksAt l t)) := by
 unfold chP
 rw [decide_eq_true h]
 rfl
theorem changesS {l : List S137} (hl : l.length ≤ 1048576) (a b : Int) : Ev (fun k => spec_ChangesOf.f k l a b) (changes l a b) := by
 have mxS : ∀ x y : Int, spec_Max.f x y = some (max x y) := by
  intro x y
  unfold spec_Max.f
  split
  ·congr 1
   omega
  ·congr 1
   omega
 have mnS : ∀ x y : Int, spec_Min.f x y = some (min x y) := by
  intro x y
  unfold spec_Min.f
  split
  ·congr 1
   omega
  ·congr 1
   omega
 have key : ∀ m i : Nat, 1 ≤ i → a < i → (i : Int) ≤ 1000 → (min 1000 b : Int) ≤ i + m → Ev (fun k => spec_ChangesOf.l0 k l (chTo l a b i) (min 1000 b) (i : Int)) (changes l a b) := by
  intro m
  induction m with
  | zero =>
   intro i h1 h2 h3 h4
   refine Ev.step (fun k => by rw [spec_ChangesOf.l0]) ?_
   exact Ev.ite_neg (by omega) (Ev.some (chTo_all (by omega) fun t _ _ => chP_out (by omega)))
  | succ m ih =>
   intro i h1 h2 h3 h4
   by_cases c : (i : Int) < min 1000 b
   ·have h := ih (i + 1) (by omega) (by omega) (by omega) (by omega)
    rw [chTo_succ, chP_in ⟨by omega, h2, by omega⟩] at h
    have hlen := chTo_len l a b i
    refine Ev.step (fun k => by rw [spec_ChangesOf.l0]) ?_
    refine Ev.ite_pos c ?_
    rw [w64 (x := (i : Int) - 1) (by omega) (by omega), w64n (by omega)]
    refine Ev.bind (linksS hl _) (Ev.bind (linksS hl _) (Ev.bind (sameS (by have := linksAt_len l ((i : Int) - 1); omega)) ?_))
    by_cases s : sameL (linksAt l ((i : Int) - 1)) (linksAt l (i : Int)) = true
    ·rw [s, if_neg (by simp)] at h
     exact Ev.ite_pos s h
    ·rw [Bool.eq_false_iff.2 s, if_pos (show (!false) = true from rfl)] at h
     exact Ev.ite_neg s (Ev.ite_pos (by omega) h)
   ·refine Ev.step (fun k => by rw [spec_ChangesOf.l0]) ?_
    exact Ev.ite_neg c (Ev.some (chTo_all (by omega) fun t _ _ => chP_out (by omega)))
 unfold spec_ChangesOf.f
 refine Ev.bind0 (mxS 0 a) (Ev.bind0 (mnS 1000 _) (Ev.bind0 (mnS 1000 b) ?_))
 rw [w64 (x := min 1000 (max 0 a) + 1) (by omega) (by omega)]
 by_cases c : a ≤ 999
 ·have h := key 1000 ((min 1000 (max 0 a)).toNat + 1) (by omega) (by omega) (by omega) (by omega)
  rw [chTo_none (fun t ht => chP_out (by omega)), show (((min 1000 (max 0 a)).toNat + 1 : Nat) : Int) = min 1000 (max 0 a) + 1 by omega] at h
  exact h
 ·refine Ev.step (fun k => by rw [spec_ChangesOf.l0]) ?_
  refine Ev.ite_neg (by omega) (Ev.some ?_)
  unfold changes
  rw [chTo_none]
  exact fun t ht => chP_out (by omega)
def spansOf (a : Int) : List Int → List S102
 | [] => []
 | c :: cs => ⟨a, c⟩ :: spansOf c cs
theorem spansOf_len : ∀ (a : Int) (cs : List Int), (spansOf a cs).length = cs.length
 | _, [] => rfl
 | _, c :: cs => by rw [spansOf, List.length_cons, List.length_cons, spansOf_len c cs]
noncomputable def pieces (l : List S137) (a b : Int) : List S102 := if spanQ a b = true then spansOf a (changes l a b ++ [b]) else []
theorem piecesS {l : List S137} (hl : l.length ≤ 1048576) (a b : Int) : Ev (fun k => spec_PiecesOf.f k l a b) (pieces l a b) := by
 have key : ∀ (ys cs : List Int) (i : Nat) (x : Int) (acc : List S102), cs.drop i = ys → i ≤ cs.length → cs.length ≤ 2000 → acc.length ≤ i → Ev (fun k => spec_PiecesOf.l0 k acc x cs (i : Int)) (acc ++ spansOf x ys) := by
  intro ys
  induction ys with
  | nil =>
   intro cs i x acc hy hi hc ha
   have := List.drop_eq_nil_iff.1 hy
   refine Ev.step (fun k => by rw [spec_PiecesOf.l0]) ?_
   refine Ev.ite_neg (by omega) (Ev.some ?_)
   simp [spansOf]
  | cons y ys ih =>
   intro cs i x acc hy hi hc ha
   obtain ⟨hi', hg, hy'⟩ := drop_cons (z := 0) hy
   have h := ih cs (i + 1) y (acc ++ [⟨x, y⟩]) hy' (by omega) hc (by rw [List.length_append, List.length_singleton]; omega)
   rw [List.append_assoc] at h
   refine Ev.step (fun k => by rw [spec_PiecesOf.l0]) ?_
   refine Ev.ite_pos (by omega) (Ev.ite_pos (by omega) (Ev.ite_pos (by omega) ?_))
   rw [rd_nat, hg, w64n (by omega)]
   exact h
 unfold spec_PiecesOf.f pieces
 refine Ev.bind0 rfl (Ev.bind0 (spanS a b) ?_)
 have hlen := changes_le l a b
 by_cases c : spanQ a b = true
 ·rw [if_pos c]
  have h := key (changes l a b ++ [b]) (changes l a b ++ [b]) 0 a [] (List.drop_zero) (Nat.zero_le _) (by rw [List.length_append, List.length_singleton]; omega) (Nat.le_refl _)
  rw [List.nil_append] at h
  exact Ev.ite_pos c (Ev.bind (changesS hl a b) (Ev.ite_pos (by omega) h))
 ·rw [if_neg c]
  exact Ev.ite_neg c (Ev.now _)
def tabOf (l : List S134) (n first d : Int) : S55 := ⟨d, dists l n first d, nextsTo l n first d⟩
def tabs (l : List S134) (n first : Int) : List S55 := (List.range n.toNat).map fun d : Nat => tabOf l n first (d : Int)
theorem tabsS {l : List S134} (hl : l.length ≤ 1048576) {n : Int} (hn : 0 ≤ n ∧ n ≤ 100) (first : Int) : Ev (fun k => spec_l17Tables.f k l n first) (tabs l n first) := by
 have key : ∀ m i : Nat, i + m = n.toNat → Ev (fun k => spec_l17Tables.l0 k l n first ((List.range i).map fun d => tabOf l n first ((d : Nat) : Int)) (i : Int)) (tabs l n first) := by
  intro m
  induction m with
  | zero =>
   intro i hi
   obtain rfl : i = n.toNat := by omega
   refine Ev.step (fun k => by rw [spec_l17Tables.l0]) ?_
   exact Ev.ite_neg (by omega) (Ev.now _)
  | succ m ih =>
   intro i hi
   have h := ih (i + 1) (by omega)
   rw [List.range_succ, List.map_append] at h
   refine Ev.step (fun k => by rw [spec_l17Tables.l0]) ?_
   refine Ev.ite_pos (by omega) (Ev.bind (tableS hl n first (i : Int)) (Ev.ite_pos (by simp; omega) ?_))
   rw [w64n (by omega)]
   exact h
 exact key n.toNat 0 (by omega)
theorem tabsI {l : List S134} (hl : l.length ≤ 1048576) {n : Int} (hn : 0 ≤ n ∧ n ≤ 100) (first : Int) : Ev (fun k => impl_tablesOf.f k l n first) (tabs l n first) := by
 have key : ∀ m i : Nat, i + m = n.toNat → Ev (fun k => impl_tablesOf.l0 k l n first ((List.range i).map fun d => tabOf l n first ((d : Nat) : Int)) n (i : Int)) (tabs l n first) := by
  intro m
  induction m with
  | zero =>
   intro i hi
   obtain rfl : i = n.toNat := by omega
   refine Ev.step (fun k => by rw [impl_tablesOf.l0]) ?_
   exact Ev.ite_neg (by omega) (Ev.now _)
  | succ m ih =>
   intro i hi
   have h := ih (i + 1) (by omega)
   rw [List.range_succ, List.map_append] at h
   refine Ev.step (fun k => by rw [impl_tablesOf.l0]) ?_
   refine Ev.ite_pos (by omega) (Ev.bind (tableI hl n first (i : Int)) (Ev.ite_pos (by simp; omega) ?_))
   rw [w64n (by omega)]
   exact h
 exact key n.toNat 0 (by omega)
def pcOf (plan : List S137) (n first : Int) (s : S102) : S105 := ⟨⟨s.f0, s.f1⟩, linksAt plan s.f0, tabs (linksAt plan s.f0) n first⟩
def Frame (n first skew : Int) : Prop := (1 ≤ n ∧ n ≤ 12) ∧ (0 ≤ first ∧ first ≤ n) ∧ 0 ≤ skew ∧ skew ≤ 5
instance (n first skew : Int) : Decidable (Frame n first skew) := by unfold Frame; infer_instance
theorem frameS (n first skew : Int) : spec_l17Frame.f n first skew = some (decide (Frame n first skew)) := by
 unfold spec_l17Frame.f
 rw [inP, Option.bind_some, inP, Option.bind_some, inP, Option.bind_some]
 by_cases c1 : 1 ≤ n ∧ n ≤ 12
 ·rw [if_pos (decide_eq_true c1)]
  by_cases c2 : 0 ≤ first ∧ first ≤ n
  ·rw [if_pos (decide_eq_true c2)]
   congr 1
   rw [decide_eq_decide]
   unfold Frame
   exact ⟨fun h => ⟨c1, c2, h⟩, fun h => h.2.2⟩
  ·rw [if_neg (by simpa using c2), eq_comm]
   congr 1
   rw [decide_eq_false_iff_not]
   exact fun h => c2 h.2.1
 ·rw [if_neg (by simpa using c1), eq_comm]
  congr 1
  rw [decide_eq_false_iff_not]
  exact fun h => c1 h.1
theorem frameI (n first skew : Int) : impl_isFrame.f n first skew = some (decide (Frame n first skew)) := by
 unfold impl_isFrame.f impl_isNumber.f
 rw [rgP, Option.bind_some, Option.bind_some, rgP, Option.bind_some, rgP, Option.bind_some]
 by_cases c1 : 1 ≤ n ∧ n ≤ 12
 ·rw [if_pos (decide_eq_true c1)]
  by_cases c2 : 0 ≤ first ∧ first ≤ n
  ·rw [if_pos (decide_eq_true c2)]
   congr 1
   rw [decide_eq_decide]
   unfold Frame
   exact ⟨fun h => ⟨c1, c2, h⟩, fun h => h.2.2⟩
  ·rw [if_neg (by simpa using c2), eq_comm]
   congr 1
   rw [decide_eq_false_iff_not]
   exact fun h => c2 h.2.1
 ·rw [if_neg (by simpa using c1), eq_comm]
  congr 1
  rw [decide_eq_false_iff_not]
  exact fun h => c1 h.1
def BuildOk (plan : List S137) (n first a b skew : Int) : Prop := Frame n first skew ∧ PlanOk n plan ∧ 1 ≤ (pieces plan a b).length ∧ (pieces plan a b).length ≤ 40
noncomputable def build (plan : List S137) (n first a b skew : Int) : Int × Int × Int × List S105 × Bool :=
 @ite _ (BuildOk plan n first a b skew) (Classical.propDecidable _) (n, first, skew, (pieces plan a b).map (pcOf plan n first), true) (0, 0, 0, [], false)
theorem build_yes {plan : List S137} {n first a b skew : Int} (h : BuildOk plan n first a b skew) : build plan n first a b skew = (n, first, skew, (pieces plan a b).map (pcOf plan n first), true) := @if_pos _ (Classical.propDecidable _) h _ _ _
theorem build_no {plan : List S137} {n first a b skew : Int} (h : ¬ BuildOk plan n first a b skew) : build plan n first a b skew = (0, 0, 0, [], false) := @if_neg _ (Classical.propDecidable _) h _ _ _
theorem rdSp (l : List S102) (i : Nat) : rd_T102 l (i : Int) = l.getD i z102 := rfl
theorem buildS {plan : List S137} (hl : plan.length ≤ 1048576) (n first a b skew : Int) : Ev (fun k => spec_BuildProgram.f k plan n first a b skew) (build plan n first a b skew) := by
 unfold spec_BuildProgram.f
 refine Ev.bind0 (frameS n first skew) ?_
 by_cases c1 : Frame n first skew
 ·refine Ev.ite_pos (decide_eq_true c1) (Ev.bind (planS hl) ?_)
  by_cases c2 : PlanOk n plan
  ·rw [planB_iff.2 c2]
   refine Ev.step (fun k => by rw [spec_BuildProgram.j0]) ?_
   refine Ev.ite_neg (by simp) (Ev.bind (piecesS hl a b) (Ev.bind0 (inP _ 1 40) ?_))
   by_cases c3 : 1 ≤ (pieces plan a b).length ∧ (pieces plan a b).length ≤ 40
   ·refine Ev.ite_pos (decide_eq_true (by omega)) ?_
    rw [build_yes ⟨c1, c2, c3⟩]
    have hn : 0 ≤ n ∧ n ≤ 100 := by unfold Frame at c1; omega
    have key : ∀ m i : Nat, i + m = (pieces plan a b).length → Ev (fun k => spec_BuildProgram.l0 k plan n first (pieces plan a b) (i : Int) n first skew (((pieces plan a b).take i).map (pcOf plan n first))) (n, first, skew, (pieces plan a b).map (pcOf plan n first), true) := by
     intro m
     induction m with
     | zero =>
      intro i hi
      rw [List.take_of_length_le (by omega)]
      refine Ev.step (fun k => by rw [spec_BuildProgram.l0]) ?_
      exact Ev.ite_neg (by omega) (Ev.now _)
     | succ m ih =>
      intro i hi
      have h := ih (i + 1) (by omega)
      rw [take_succ_getD (show i < (pieces plan a b).length by omega) z102, List.map_append] at h
      refine Ev.step (fun k => by rw [spec_BuildProgram.l0]) ?_
      refine Ev.ite_pos (by omega) (Ev.ite_pos (by omega) ?_)
      rw [rdSp, w64n (by omega)]
      refine Ev.bind (linksS hl _) (Ev.bind (tabsS (by have := linksAt_len plan ((pieces plan a b).getD i z102).f0; omega) hn first) (Ev.ite_pos (by simp; omega) h))
    exact key (pieces plan a b).length 0 (by omega)
   ·refine Ev.ite_neg (by rw [decide_eq_true_iff]; omega) ?_
    rw [build_no fun h => c3 h.2.2]
    exact Ev.now _
  ·rw [Bool.eq_false_iff.2 (fun h => c2 (planB_iff.1 h)), build_no fun h => c2 h.2.1]
   refine Ev.step (fun k => by rw [spec_BuildProgram.j0]) ?_
   exact Ev.ite_pos (by simp) (Ev.now _)
 ·refine Ev.ite_neg (by simpa using c1) ?_
  rw [build_no fun h => c1 h.1]
  refine Ev.step (fun k => by rw [spec_BuildProgram.j0]) ?_
  exact Ev.ite_pos rfl (Ev.now _)
end Go.Proofs.Ytiihaabhjphaeaa.fnSwitched
/- Which pieces hold a tick. Conditions: none. -/
namespace Go.Proofs.Ytiihaabhjphaeaa.fnSwitched
open Go.RowKit Go.Proofs.YtiihaabhjphaeaaW.PrintWords Go.Proofs.YtiihaabhjphaeaaW.PrintMore Go.Proofs.Ytiihaabhjphaeaa.QFnSwitched Go.Proofs.Ytiihaabhjphaeaa.Open Go.Proofs.Ytiihaabhjphaeaa.Kit Go.Proofs.Ytiihaabhjphaeaa.Graph
theorem go_hit (t : Int) : ∀ (p : List S105) (i : Nat), impl_PieceAt.go t p i = -1 ∨ ∃ j : Nat, j < p.length ∧ impl_PieceAt.go t p i = ((i + j : Nat) : Int) ∧ inQ (p.getD j z105).f0.f0 (p.getD j z105).f0.f1 t = true
 | [], _ => .inl rfl
 | x :: xs, i => by
  unfold impl_PieceAt.go
  by_cases c : impl_PieceAt.hit x t = true
  ·rw [if_pos c]
   refine .inr ⟨0, by simp, by simp, ?_⟩
   unfold impl_PieceAt.hit at c
   rw [inSpanI] at c
   simpa using c
  ·rw [if_neg c]
   rcases go_hit t xs (i + 1) with h | ⟨j, hj, he, hq⟩
   ·exact .inl h
   ·exact .inr ⟨j + 1, by simp; omega, by rw [he]; omega, by simpa using hq⟩
theorem pcs_mem (u v : Int) : ∀ (p : List S105) (i : Nat) (k : Int), k ∈ pcs u v p i → ∃ j : Nat, j < p.length ∧ k = ((i + j : Nat) : Int) ∧ meets u v (p.getD j z105) = true
 | [], _, _, h => by cases h
 | x :: xs, i, k, h => by
  unfold pcs at h
  split at h
  ·rename_i hm
   rcases List.mem_cons.1 h with rfl | h
   ·exact ⟨0, by simp, by simp, by simpa using hm⟩
   ·obtain ⟨j, hj, he, hq⟩ := pcs_mem u v xs (i + 1) k h
    exact ⟨j + 1, by simp; omega, by rw [he]; omega, by simpa using hq⟩
  ·obtain ⟨j, hj, he, hq⟩ := pcs_mem u v xs (i + 1) k h
   exact ⟨j + 1, by simp; omega, by rw [he]; omega, by simpa using hq⟩
end Go.Proofs.Ytiihaabhjphaeaa.fnSwitched
/- Whether what a law is handed is a program, in the program and in the reference. Conditions: none. -/
namespace Go.Proofs.Ytiihaabhjphaeaa.fnSwitched
open Go.RowKit Go.Proofs.YtiihaabhjphaeaaW.PrintWords Go.Proofs.YtiihaabhjphaeaaW.PrintLast Go.Proofs.YtiihaabhjphaeaaW.PrintMore Go.Proofs.Ytiihaabhjphaeaa.QFnSwitched Go.Proofs.Ytiihaabhjphaeaa.Open Go.Proofs.Ytiihaabhjphaeaa.Kit Go.Proofs.Ytiihaabhjphaeaa.Bfs
theorem all_step {α : Type} {a b : List α} {z : α} {i : Nat} {r : Bool} (h : a.getD i z = b.getD i z) (hr : r = true ↔ ∀ j : Nat, i + 1 ≤ j → j < a.length → a.getD j z = b.getD j z) : r = true ↔ ∀ j : Nat, i ≤ j → j < a.length → a.getD j z = b.getD j z := by
 rw [hr]
 constructor
 ·intro hh j h1 h2
  by_cases e : j = i
  ·rw [e]
   exact h
  ·exact hh j (by omega) h2
 ·exact fun hh j h1 h2 => hh j (by omega) h2
theorem all_bad {α : Type} {a b : List α} {z : α} {i : Nat} (hi : i < a.length) (h : a.getD i z ≠ b.getD i z) : false = true ↔ ∀ j : Nat, i ≤ j → j < a.length → a.getD j z = b.getD j z := by
 constructor
 ·intro e
  cases e
 ·exact fun hh => absurd (hh i (Nat.le_refl _) hi) h
theorem all_end {α : Type} {a b : List α} {z : α} {i : Nat} (hi : a.length ≤ i) : true = true ↔ ∀ j : Nat, i ≤ j → j < a.length → a.getD j z = b.getD j z := by
 simp only [true_iff]
 intro j h1 h2
 omega
theorem all_eq {α : Type} {a b : List α} {z : α} (hlen : a.length = b.length) {r : Bool} (h : r = true ↔ ∀ j : Nat, 0 ≤ j → j < a.length → a.getD j z = b.getD j z) : r = true ↔ a = b := by
 rw [h]
 constructor
 ·intro hh
  apply List.ext_getElem hlen
  intro i h1 h2
  have := hh i (by omega) h1
  rw [getD_at h1, getD_at h2] at this
  exact this
 ·intro e j _ _
  rw [e]
theorem no_eq {α : Type} {a b : List α} (hlen : a.length ≠ b.length) : false = true ↔ a = b := by
 constructor
 ·intro e
  cases e
 ·exact fun e => absurd (by rw [e]) hlen
theorem intsS {a b : List Int} (ha : a.length ≤ 2000000) : ∃ r, Ev (fun k => spec_EqualInts.f k a b) r ∧ (r = true ↔ a = b) := by
 unfold spec_EqualInts.f
 by_cases hlen : a.length = b.length
 ·have key : ∀ m i : Nat, i + m = a.length → ∃ r, Ev (fun k => spec_EqualInts.l0 k a b (i : Int)) r ∧ (r = true ↔ ∀ j : Nat, i ≤ j → j < a.length → a.getD j 0 = b.getD j 0) := by
   intro m
   induction m with
   | zero =>
    intro i hi
    refine ⟨true, ?_, all_end (by omega)⟩
    refine Ev.step (fun k => by rw [spec_EqualInts.l0]) ?_
    exact Ev.ite_neg (by omega) (Ev.now _)
   | succ m ih =>
    intro i hi
    obtain ⟨r, hr, hri⟩ := ih (i + 1) (by omega)
    by_cases c : rd a (i : Int) = rd b (i : Int)
    ·refine ⟨r, ?_, all_step c hri⟩
     refine Ev.step (fun k => by rw [spec_EqualInts.l0]) ?_
     refine Ev.ite_pos (by omega) (Ev.ite_pos (by omega) (Ev.ite_pos (by omega) (Ev.ite_pos c ?_)))
     rw [w64n (by omega)]
     exact hr
    ·refine ⟨false, ?_, all_bad (by omega) c⟩
     refine Ev.step (fun k => by rw [spec_EqualInts.l0]) ?_
     exact Ev.ite_pos (by omega) (Ev.ite_pos (by omega) (Ev.ite_pos (by omega) (Ev.ite_neg c (Ev.now _))))
  obtain ⟨r, hr, hri⟩ := key a.length 0 (by omega)
  exact ⟨r, Ev.ite_pos (by omega) hr, all_eq hlen hri⟩
 ·exact ⟨false, Ev.ite_neg (by omega) (Ev.now _), no_eq hlen⟩
theorem intsI {a b : List Int} (ha : a.length ≤ 2000000) : ∃ r, Ev (fun k => slices_Equal_int_int.f k a b) r ∧ (r = true ↔ a = b) := by
 unfold slices_Equal_int_int.f
 by_cases hlen : a.length = b.length
 ·have key : ∀ m i : Nat, i + m = a.length → ∃ r, Ev (fun k => slices_Equal_int_int.l0 k a b (a.length : Int) (i : Int)) r ∧ (r = true ↔ ∀ j : Nat, i ≤ j → j < a.length → a.getD j 0 = b.getD j 0) := by
   intro m
   induction m with
   | zero =>
    intro i hi
    refine ⟨true, ?_, all_end (by omega)⟩
    refine Ev.step (fun k => by rw [slices_Equal_int_int.l0]) ?_
    exact Ev.ite_neg (by omega) (Ev.now _)
   | succ m ih =>
    intro i hi
    obtain ⟨r, hr, hri⟩ := ih (i + 1) (by omega)
    by_cases c : rd a (i : Int) = rd b (i : Int)
    ·refine ⟨r, ?_, all_step c hri⟩
     refine Ev.step (fun k => by rw [slices_Equal_int_int.l0]) ?_
     refine Ev.ite_pos (by omega) (Ev.ite_pos (by omega) (Ev.ite_pos (by omega) (Ev.ite_pos (by omega) (Ev.ite_pos c ?_))))
     rw [w64n (by omega)]
     exact hr
    ·refine ⟨false, ?_, all_bad (by omega) c⟩
     refine Ev.step (fun k => by rw [slices_Equal_int_int.l0]) ?_
     exact Ev.ite_pos (by omega) (Ev.ite_pos (by omega) (Ev.ite_pos (by omega) (Ev.ite_pos (by omega) (Ev.ite_neg c (Ev.now _)))))
  obtain ⟨r, hr, hri⟩ := key a.length 0 (by omega)
  exact ⟨r, Ev.ite_pos (by omega) hr, all_eq hlen hri⟩
 ·exact ⟨false, Ev.ite_neg (by omega) (Ev.now _), no_eq hlen⟩
theorem tab_ext {x y : S55} (h0 : x.f0 = y.f0) (h1 : x.f1 = y.f1) (h2 : x.f2 = y.f2) : x = y := by
 cases x
 cases y
 simp at h0 h1 h2
 rw [h0, h1, h2]
theorem eqTabS {x y : S55} (h1 : x.f1.length ≤ 2000000) (h2 : x.f2.length ≤ 2000000) : ∃ r, Ev (fun k => spec_EqualTables.f k x.f0 x.f1 x.f2 y.f0 y.f1 y.f2) r ∧ (r = true ↔ x = y) := by
 unfold spec_EqualTables.f
 by_cases c0 : x.f0 = y.f0
 ·obtain ⟨r1, e1, i1⟩ := intsS (b := y.f1) h1
  obtain ⟨r2, e2, i2⟩ := intsS (b := y.f2) h2
  by_cases c1 : r1 = true
  ·refine ⟨r2, Ev.ite_pos c0 (Ev.bind e1 (Ev.ite_pos c1 (Ev.bind e2 (Ev.now _)))), ?_⟩
   rw [i2]
   exact ⟨fun h => tab_ext c0 (i1.1 c1) h, fun h => by rw [h]⟩
  ·refine ⟨false, Ev.ite_pos c0 (Ev.bind e1 (Ev.ite_neg c1 (Ev.now _))), ?_⟩
   constructor
   ·intro e
    cases e
   ·exact fun h => absurd (i1.2 (by rw [h])) c1
 ·refine ⟨false, Ev.ite_neg c0 (Ev.now _), ?_⟩
  constructor
  ·intro e
   cases e
  ·exact fun h => absurd (by rw [h]) c0
theorem eqTabI {x y : S55} (h1 : x.f1.length ≤ 2000000) (h2 : x.f2.length ≤ 2000000) : ∃ r, Ev (fun k => impl_EqualTables.f k x.f0 x.f1 x.f2 y.f0 y.f1 y.f2) r ∧ (r = true ↔ x = y) := by
 unfold impl_EqualTables.f
 by_cases c0 : x.f0 = y.f0
 ·obtain ⟨r1, e1, i1⟩ := intsI (b := y.f1) h1
  obtain ⟨r2, e2, i2⟩ := intsI (b := y.f2) h2
  by_cases c1 : r1 = true
  ·refine ⟨r2, Ev.ite_pos c0 (Ev.bind e1 (Ev.ite_pos c1 (Ev.bind e2 (Ev.now _)))), ?_⟩
   rw [i2]
   exact ⟨fun h => tab_ext c0 (i1.1 c1) h, fun h => by rw [h]⟩
  ·refine ⟨false, Ev.ite_pos c0 (Ev.bind e1 (Ev.ite_neg c1 (Ev.now _))), ?_⟩
   constructor
   ·intro e
    cases e
   ·exact fun h => absurd (i1.2 (by rw [h])) c1
 ·refine ⟨false, Ev.ite_neg c0 (Ev.now _), ?_⟩
  constructor
  ·intro e
   cases e
  ·exact fun h => absurd (by rw [h]) c0
def TabsLe (l : List S55) : Prop := l.length ≤ 2000000 ∧ ∀ y ∈ l, y.f1.length ≤ 2000000 ∧ y.f2.length ≤ 2000000
theorem tablesEqI {a b : List S55} (ha : TabsLe a) : ∃ r, Ev (fun k => impl_Table.f k a b 0) r ∧ (r = true ↔ a = b) := by
 unfold impl_Table.f
 have ha1 := ha.1
 by_cases hlen : a.length = b.length
 ·have key : ∀ m i : Nat, i + m = a.length → ∃ r, Ev (fun k => impl_Table.l0 k b a (a.length : Int) (i : Int)) r ∧ (r = true ↔ ∀ j : Nat, i ≤ j → j < a.length → a.getD j z55 = b.getD j z55) := by
   intro m
   induction m with
   | zero =>
    intro i hi
    refine ⟨true, ?_, all_end (by omega)⟩
    refine Ev.step (fun k => by rw [impl_Table.l0]) ?_
    exact Ev.ite_neg (by omega) (Ev.now _)
   | succ m ih =>
    intro i hi
    obtain ⟨r, hr, hri⟩ := ih (i + 1) (by omega)
    have hm := ha.2 _ (getD_mem (show i < a.length by omega) z55)
    obtain ⟨q, hq, hqi⟩ := eqTabI (x := rd_T55 a (i : Int)) (y := rd_T55 b (i : Int)) hm.1 hm.2
    by_cases c : q = true
    ·refine ⟨r, ?_, all_step (hqi.1 c) hri⟩
     refine Ev.step (fun k => by rw [impl_Table.l0]) ?_
     refine Ev.ite_pos (by omega) (Ev.ite_pos (by omega) (Ev.ite_pos (by omega) (Ev.ite_pos (by omega) (Ev.bind hq (Ev.ite_pos c ?_)))))
     rw [w64n (by omega)]
     exact hr
    ·refine ⟨false, ?_, all_bad (by omega) fun h => c (hqi.2 h)⟩
     refine Ev.step (fun k => by rw [impl_Table.l0]) ?_
     exact Ev.ite_pos (by omega) (Ev.ite_pos (by omega) (Ev.ite_pos (by omega) (Ev.ite_pos (by omega) (Ev.bind hq (Ev.ite_neg c (Ev.now _))))))
  obtain ⟨r, hr, hri⟩ := key a.length 0 (by omega)
  exact ⟨r, Ev.ite_pos (by omega) hr, all_eq hlen hri⟩
 ·exact ⟨false, Ev.ite_neg (by omega) (Ev.now _), no_eq hlen⟩
def PcOk (n first : Int) (x : S105) : Prop := (0 ≤ x.f0.f0 ∧ x.f0.f1 ≤ 1000 ∧ x.f0.f0 < x.f0.f1) ∧ x.f2 = tabs x.f1 n first
theorem tabs_get {l : List S134} {n first : Int} {i : Nat} (h : (i : Int) < n) : (tabs l n first).getD i z55 = tabOf l n first (i : Int) := map_range_getD (fun d : Nat => tabOf l n first (d : Int)) (by omega) z55
theorem tabs_len (l : List S134) (n first : Int) : (tabs l n first).length = n.toNat := by simp [tabs]
theorem pieceS {n first skew : Int} {p : List S105} {x : S105} (hn : 1 ≤ n ∧ n ≤ 12) (hl : x.f1.length ≤ 1048576) (ht : TabsLe x.f2) : ∃ r, Ev (fun k => spec_l17Piece.f k n first skew p x.f0.f0 x.f0.f1 x.f1 x.f2) r ∧ (r = true ↔ PcOk n first x) := by
 have hsp : spanQ x.f0.f0 x.f0.f1 = true ↔ (0 ≤ x.f0.f0 ∧ x.f0.f1 ≤ 1000 ∧ x.f0.f0 < x.f0.f1) := by
  unfold spanQ
  exact decide_eq_true_iff
 unfold spec_l17Piece.f
 by_cases hlen : (x.f2.length : Int) = n
 ·by_cases c : spanQ x.f0.f0 x.f0.f1 = true
  ·have key : ∀ m i : Nat, i + m = x.f2.length → ∃ r, Ev (fun k => spec_l17Piece.l0 k (i : Int) n first skew p x.f0.f0 x.f0.f1 x.f1 x.f2) r ∧ (r = true ↔ ∀ j : Nat, i ≤ j → j < x.f2.length → x.f2.getD j z55 = (tabs x.f1 n first).getD j z55) := by
    intro m
    induction m with
    | zero =>
     intro i hi
     refine ⟨true, ?_, all_end (by omega)⟩
     refine Ev.step (fun k => by rw [spec_l17Piece.l0]) ?_
     exact Ev.ite_neg (by omega) (Ev.now _)
    | succ m ih =>
     intro i hi
     obtain ⟨r, hr, hri⟩ := ih (i + 1) (by omega)
     have hm := ht.2 _ (getD_mem (show i < x.f2.length by omega) z55)
     have hg := tabs_get (l := x.f1) (first := first) (show (i : Int) < n by omega)
     obtain ⟨q, hq, hqi⟩ := eqTabS (x := rd_T55 x.f2 (i : Int)) (y := tabOf x.f1 n first (i : Int)) hm.1 hm.2
     by_cases c : q = true
     ·refine ⟨r, ?_, all_step (by rw [hg]; exact hqi.1 c) hri⟩
      refine Ev.step (fun k => by rw [spec_l17Piece.l0]) ?_
      refine Ev.ite_pos (by omega) (Ev.ite_pos (by omega) (Ev.ite_pos (by omega) (Ev.bind (tableS hl n first (i : Int)) (Ev.bind hq (Ev.ite_pos c ?_)))))
      rw [w64n (by omega)]
      exact hr
     ·refine ⟨false, ?_, all_bad (by omega) fun h => c (hqi.2 (by rw [hg] at h; exact h))⟩
      refine Ev.step (fun k => by rw [spec_l17Piece.l0]) ?_
      exact Ev.ite_pos (by omega) (Ev.ite_pos (by omega) (Ev.ite_pos (by omega) (Ev.bind (tableS hl n first (i : Int)) (Ev.bind hq (Ev.ite_neg c (Ev.now _))))))
   obtain ⟨r, hr, hri⟩ := key x.f2.length 0 (by omega)
   refine ⟨r, Ev.ite_pos hlen (Ev.bind0 (spanS _ _) ?_), ?_⟩
   ·rw [c]
    refine Ev.step (fun k => by rw [spec_l17Piece.j0]) ?_
    exact Ev.ite_neg (by simp) hr
   ·rw [all_eq (by rw [tabs_len]; omega) hri]
    exact ⟨fun h => ⟨hsp.1 c, h⟩, fun h => h.2⟩
  ·refine ⟨false, Ev.ite_pos hlen (Ev.bind0 (spanS _ _) ?_), ?_⟩
   ·rw [Bool.eq_false_iff.2 c]
    refine Ev.step (fun k => by rw [spec_l17Piece.j0]) ?_
    exact Ev.ite_pos (by simp) (Ev.now _)
   ·constructor
    ·intro e
     cases e
    ·exact fun h => absurd (hsp.2 h.1) c
 ·refine ⟨false, Ev.ite_neg hlen ?_, ?_⟩
  ·refine Ev.step (fun k => by rw [spec_l17Piece.j0]) ?_
   exact Ev.ite_pos rfl (Ev.now _)
  ·constructor
   ·intro e
    cases e
   ·intro h
    refine absurd ?_ hlen
    rw [h.2, tabs_len]
    omega
def FromOk (n first : Int) (p : List S105) (i : Nat) : Prop := ∀ j, i ≤ j → j < p.length → PcOk n first (p.getD j z105) ∧ (0 < j → (p.getD (j - 1) z105).f0.f1 = (p.getD j z105).f0.f0)
def ProgOk (n first skew : Int) (p : List S105) : Prop := Frame n first skew ∧ (1 ≤ p.length ∧ p.length ≤ 40) ∧ FromOk n first p 0
noncomputable def progB (n first skew : Int) (p : List S105) : Bool := @decide (ProgOk n first skew p) (Classical.propDecidable _)
theorem progB_iff {n first skew : Int} {p : List S105} : progB n first skew p = true ↔ ProgOk n first skew p := @decide_eq_true_iff _ (Classical.propDecidable _)
theorem fromOk_step {n first : Int} {p : List S105} {i : Nat} {r : Bool} (h : PcOk n first (p.getD i z105) ∧ (0 < i → (p.getD (i - 1) z105).f0.f1 = (p.getD i z105).f0.f0)) (hr : r = true ↔ FromOk n first p (i + 1)) : r = true ↔ FromOk n first p i := by
 rw [hr]
 constructor
 ·intro hh j h1 h2
  by_cases e : j = i
  ·rw [e]
   exact h
  ·exact hh j (by omega) h2
 ·exact fun hh j h1 h2 => hh j (by omega) h2
theorem fromOk_bad {n first : Int} {p : List S105} {i : Nat} (hi : i < p.length) (h : ¬ (PcOk n first (p.getD i z105) ∧ (0 < i → (p.getD (i - 1) z105).f0.f1 = (p.getD i z105).f0.f0))) : false = true ↔ FromOk n first p i := by
 constructor
 ·intro e
  cases e
 ·exact fun hh => absurd (hh i (Nat.le_refl _) hi) h
def PcsLe (p : List S105) : Prop := ∀ x ∈ p, x.f1.length ≤ 1048576 ∧ TabsLe x.f2
theorem pcsLe {p : List S105} (hp : nPgI p ≤ 1048576) : PcsLe p := by
 intro x hx
 have h1 := le_sum n105 hx
 have e1 : n105 x = x.f1.length + (x.f2.length + (x.f2.map n55).sum) := rfl
 unfold nPgI at hp
 refine ⟨by omega, by omega, fun y hy => ?_⟩
 have h2 := le_sum n55 hy
 have e2 : n55 y = y.f1.length + y.f2.length := rfl
 omega
theorem rdP (p : List S105) (i : Nat) : rd_T105 p (i : Int) = p.getD i z105 := rfl
theorem rdP1 (p : List S105) {i : Nat} (h : 0 < i) : rd_T105 p ((i : Int) - 1) = p.getD (i - 1) z105 := by
 rw [show ((i : Int) - 1) = ((i - 1 : Nat) : Int) by omega]
 rfl
theorem frame_n {n first skew : Int} (h : Frame n first skew) : 1 ≤ n ∧ n ≤ 12 := h.1
theorem progS {n first skew : Int} {p : List S105} (hp : PcsLe p) : Ev (fun k => spec_IsProgram.f k n first skew p) (progB n first skew p) := by
 unfold spec_IsProgram.f
 refine Ev.bind0 (frameS n first skew) ?_
 by_cases c1 : Frame n first skew
 ·refine Ev.ite_pos (decide_eq_true c1) (Ev.bind0 (inP _ 1 40) ?_)
  by_cases c2 : 1 ≤ p.length ∧ p.length ≤ 40
  ·rw [decide_eq_true (show (1 : Int) ≤ (p.length : Int) ∧ (p.length : Int) ≤ 40 by omega)]
   have hn := frame_n c1
   have key : ∀ m i : Nat, i + m = p.length → ∃ r, Ev (fun k => spec_IsProgram.l0 k (i : Int) n first skew p) r ∧ (r = true ↔ FromOk n first p i) := by
    intro m
    induction m with
    | zero =>
     intro i hi
     refine ⟨true, ?_, ?_⟩
     ·refine Ev.step (fun k => by rw [spec_IsProgram.l0]) ?_
      exact Ev.ite_neg (by omega) (Ev.now _)
     ·simp only [true_iff]
      intro j h1 h2
      omega
    | succ m ih =>
     intro i hi
     obtain ⟨r, hr, hri⟩ := ih (i + 1) (by omega)
     have hm := hp _ (getD_mem (show i < p.length by omega) z105)
     obtain ⟨q, hq, hqi⟩ := pieceS (n := n) (first := first) (skew := skew) (p := p) (x := p.getD i z105) hn hm.1 hm.2
     by_cases c : q = true
     ·by_cases h0 : 0 < i
      ·by_cases c3 : (p.getD (i - 1) z105).f0.f1 = (p.getD i z105).f0.f0
       ·refine ⟨r, ?_, fromOk_step ⟨hqi.1 c, fun _ => c3⟩ hri⟩
        refine Ev.step (fun k => by rw [spec_IsProgram.l0]) ?_
        refine Ev.ite_pos (by omega) (Ev.ite_pos (by omega) ?_)
        rw [rdP, w64n (by omega), w64 (x := (i : Int) - 1) (by omega) (by omega), rdP1 p h0]
        exact Ev.bind hq (Ev.ite_pos c (Ev.ite_pos (by omega) (Ev.ite_pos (by omega) (Ev.ite_pos (by omega) (Ev.ite_pos c3 hr)))))
       ·refine ⟨false, ?_, fromOk_bad (by omega) fun h => c3 (h.2 h0)⟩
        refine Ev.step (fun k => by rw [spec_IsProgram.l0]) ?_
        refine Ev.ite_pos (by omega) (Ev.ite_pos (by omega) ?_)
        rw [rdP, w64 (x := (i : Int) - 1) (by omega) (by omega), rdP1 p h0]
        exact Ev.bind hq (Ev.ite_pos c (Ev.ite_pos (by omega) (Ev.ite_pos (by omega) (Ev.ite_pos (by omega) (Ev.ite_neg c3 (Ev.now _))))))
      ·refine ⟨r, ?_, fromOk_step ⟨hqi.1 c, fun h => absurd h h0⟩ hri⟩
       refine Ev.step (fun k => by rw [spec_IsProgram.l0]) ?_
       refine Ev.ite_pos (by omega) (Ev.ite_pos (by omega) ?_)
       rw [rdP, w64n (by omega)]
       exact Ev.bind hq (Ev.ite_pos c (Ev.ite_neg (by omega) hr))
     ·refine ⟨false, ?_, fromOk_bad (by omega) fun h => c (hqi.2 h.1)⟩
      refine Ev.step (fun k => by rw [spec_IsProgram.l0]) ?_
      refine Ev.ite_pos (by omega) (Ev.ite_pos (by omega) ?_)
      rw [rdP]
      exact Ev.bind hq (Ev.ite_neg c (Ev.now _))
   obtain ⟨r, hr, hri⟩ := key p.length 0 (by omega)
   have e : r = progB n first skew p := by
    rw [Bool.eq_iff_iff, hri, progB_iff]
    exact ⟨fun h => ⟨c1, c2, h⟩, fun h => h.2.2⟩
   rw [← e]
   refine Ev.step (fun k => by rw [spec_IsProgram.j0]) ?_
   exact Ev.ite_neg (by simp) hr
  ·rw [decide_eq_false (show ¬ ((1 : Int) ≤ (p.length : Int) ∧ (p.length : Int) ≤ 40) by omega), Bool.eq_false_iff.2 (fun h => c2 (progB_iff.1 h).2.1)]
   refine Ev.step (fun k => by rw [spec_IsProgram.j0]) ?_
   exact Ev.ite_pos (by simp) (Ev.now _)
 ·refine Ev.ite_neg (by simpa using c1) ?_
  rw [Bool.eq_false_iff.2 (fun h => c1 (progB_iff.1 h).1)]
  refine Ev.step (fun k => by rw [spec_IsProgram.j0]) ?_
  exact Ev.ite_pos rfl (Ev.now _)
theorem progI {n first skew : Int} {p : List S105} (hp : PcsLe p) : Ev (fun k => impl_IsProgram.f k n first skew p) (progB n first skew p) := by
 unfold impl_IsProgram.f
 refine Ev.bind0 (frameI n first skew) ?_
 by_cases c1 : Frame n first skew
 ·refine Ev.ite_pos (decide_eq_true c1) (Ev.bind0 (rgP _ 1 40) ?_)
  by_cases c2 : 1 ≤ p.length ∧ p.length ≤ 40
  ·rw [decide_eq_true (show (1 : Int) ≤ (p.length : Int) ∧ (p.length : Int) ≤ 40 by omega)]
   have hn := frame_n c1
   have key : ∀ m i : Nat, i + m = p.length → ∃ r, Ev (fun k => impl_IsProgram.l0 k p (p.length : Int) (i : Int) n first skew p) r ∧ (r = true ↔ FromOk n first p i) := by
    intro m
    induction m with
    | zero =>
     intro i hi
     refine ⟨true, ?_, ?_⟩
     ·refine Ev.step (fun k => by rw [impl_IsProgram.l0]) ?_
      exact Ev.ite_neg (by omega) (Ev.now _)
     ·simp only [true_iff]
      intro j h1 h2
      omega
    | succ m ih =>
     intro i hi
     obtain ⟨r, hr, hri⟩ := ih (i + 1) (by omega)
     have hm := hp _ (getD_mem (show i < p.length by omega) z105)
     have hsp : spanQ (p.getD i z105).f0.f0 (p.getD i z105).f0.f1 = true ↔ (0 ≤ (p.getD i z105).f0.f0 ∧ (p.getD i z105).f0.f1 ≤ 1000 ∧ (p.getD i z105).f0.f0 < (p.getD i z105).f0.f1) := by
      unfold spanQ
      exact decide_eq_true_iff
     have ht := tabsI hm.1 (show 0 ≤ n ∧ n ≤ 100 by omega) first
     obtain ⟨q, hq, hqi⟩ := tablesEqI (b := tabs (p.getD i z105).f1 n first) hm.2
     by_cases c : spanQ (p.getD i z105).f0.f0 (p.getD i z105).f0.f1 = true
     ·by_cases h0 : 0 < i
      ·by_cases c3 : (p.getD i z105).f0.f0 = (p.getD (i - 1) z105).f0.f1
       ·by_cases c4 : q = true
        ·refine ⟨r, ?_, fromOk_step ⟨⟨hsp.1 c, hqi.1 c4⟩, fun _ => c3.symm⟩ hri⟩
         refine Ev.step (fun k => by rw [impl_IsProgram.l0]) ?_
         refine Ev.ite_pos (by omega) (Ev.ite_pos (by omega) (Ev.ite_pos (by omega) ?_))
         rw [rdP, w64n (by omega), w64 (x := (i : Int) - 1) (by omega) (by omega), rdP1 p h0]
         exact Ev.bind0 (spanI _ _) (Ev.ite_pos c (Ev.ite_pos (by omega) (Ev.ite_pos (by omega) (Ev.ite_pos (by omega) (Ev.ite_pos c3 (Ev.bind ht (Ev.bind hq (Ev.ite_pos c4 hr))))))))
        ·refine ⟨false, ?_, fromOk_bad (by omega) fun h => c4 (hqi.2 h.1.2)⟩
         refine Ev.step (fun k => by rw [impl_IsProgram.l0]) ?_
         refine Ev.ite_pos (by omega) (Ev.ite_pos (by omega) (Ev.ite_pos (by omega) ?_))
         rw [rdP, w64n (by omega), w64 (x := (i : Int) - 1) (by omega) (by omega), rdP1 p h0]
         exact Ev.bind0 (spanI _ _) (Ev.ite_pos c (Ev.ite_pos (by omega) (Ev.ite_pos (by omega) (Ev.ite_pos (by omega) (Ev.ite_pos c3 (Ev.bind ht (Ev.bind hq (Ev.ite_neg c4 (Ev.now _)))))))))
       ·refine ⟨false, ?_, fromOk_bad (by omega) fun h => c3 (h.2 h0).symm⟩
        refine Ev.step (fun k => by rw [impl_IsProgram.l0]) ?_
        refine Ev.ite_pos (by omega) (Ev.ite_pos (by omega) (Ev.ite_pos (by omega) ?_))
        rw [rdP, w64n (by omega), w64 (x := (i : Int) - 1) (by omega) (by omega), rdP1 p h0]
        exact Ev.bind0 (spanI _ _) (Ev.ite_pos c (Ev.ite_pos (by omega) (Ev.ite_pos (by omega) (Ev.ite_pos (by omega) (Ev.ite_neg c3 (Ev.now _))))))
      ·by_cases c4 : q = true
       ·refine ⟨r, ?_, fromOk_step ⟨⟨hsp.1 c, hqi.1 c4⟩, fun h => absurd h h0⟩ hri⟩
        refine Ev.step (fun k => by rw [impl_IsProgram.l0]) ?_
        refine Ev.ite_pos (by omega) (Ev.ite_pos (by omega) (Ev.ite_pos (by omega) ?_))
        rw [rdP, w64n (by omega)]
        exact Ev.bind0 (spanI _ _) (Ev.ite_pos c (Ev.ite_neg (by omega) (Ev.bind ht (Ev.bind hq (Ev.ite_pos c4 hr)))))
       ·refine ⟨false, ?_, fromOk_bad (by omega) fun h => c4 (hqi.2 h.1.2)⟩
        refine Ev.step (fun k => by rw [impl_IsProgram.l0]) ?_
        refine Ev.ite_pos (by omega) (Ev.ite_pos (by omega) (Ev.ite_pos (by omega) ?_))
        rw [rdP, w64n (by omega)]
        exact Ev.bind0 (spanI _ _) (Ev.ite_pos c (Ev.ite_neg (by omega) (Ev.bind ht (Ev.bind hq (Ev.ite_neg c4 (Ev.now _))))))
     ·refine ⟨false, ?_, fromOk_bad (by omega) fun h => c (hsp.2 h.1.1)⟩
      refine Ev.step (fun k => by rw [impl_IsProgram.l0]) ?_
      refine Ev.ite_pos (by omega) (Ev.ite_pos (by omega) (Ev.ite_pos (by omega) ?_))
      rw [rdP]
      exact Ev.bind0 (spanI _ _) (Ev.ite_neg c (Ev.now _))
   obtain ⟨r, hr, hri⟩ := key p.length 0 (by omega)
   have e : r = progB n first skew p := by
    rw [Bool.eq_iff_iff, hri, progB_iff]
    exact ⟨fun h => ⟨c1, c2, h⟩, fun h => h.2.2⟩
   rw [← e]
   refine Ev.step (fun k => by rw [impl_IsProgram.j0]) ?_
   exact Ev.ite_neg (by simp) hr
  ·rw [decide_eq_false (show ¬ ((1 : Int) ≤ (p.length : Int) ∧ (p.length : Int) ≤ 40) by omega), Bool.eq_false_iff.2 (fun h => c2 (progB_iff.1 h).2.1)]
   refine Ev.step (fun k => by rw [impl_IsProgram.j0]) ?_
   exact Ev.ite_pos (by simp) (Ev.now _)
 ·refine Ev.ite_neg (by simpa using c1) ?_
  rw [Bool.eq_false_iff.2 (fun h => c1 (progB_iff.1 h).1)]
  refine Ev.step (fun k => by rw [impl_IsProgram.j0]) ?_
  exact Ev.ite_pos rfl (Ev.now _)
end Go.Proofs.Ytiihaabhjphaeaa.fnSwitched
/- The piece of a tick, in the program and in the reference. Conditions: none. -/
namespace Go.Proofs.Ytiihaabhjphaeaa.fnSwitched
open Go.RowKit Go.Proofs.YtiihaabhjphaeaaW.PrintWords Go.Proofs.YtiihaabhjphaeaaW.PrintMore Go.Proofs.Ytiihaabhjphaeaa.QFnSwitched Go.Proofs.Ytiihaabhjphaeaa.Open Go.Proofs.Ytiihaabhjphaeaa.Kit
theorem piece2 (p : List S105) (hl : p.length ≤ 1048576) (n a s t : Int) : impl_PieceAt.f n a s p t = some (impl_PieceAt.go t p 0) := by
 unfold impl_PieceAt.f
 rw [if_pos (by omega)]
end Go.Proofs.Ytiihaabhjphaeaa.fnSwitched
/- A program of the plan at a tick: one piece, whose tables hold no circle. Conditions: none. -/
namespace Go.Proofs.Ytiihaabhjphaeaa.fnSwitched
open Go.RowKit Go.Proofs.YtiihaabhjphaeaaW.PrintWords Go.Proofs.YtiihaabhjphaeaaW.PrintMore Go.Proofs.Ytiihaabhjphaeaa.QFnSwitched Go.Proofs.Ytiihaabhjphaeaa.Open Go.Proofs.Ytiihaabhjphaeaa.Kit Go.Proofs.Ytiihaabhjphaeaa.Graph Go.Proofs.Ytiihaabhjphaeaa.Bfs
theorem order {n first : Int} {p : List S105} (h : FromOk n first p 0) {i : Nat} : ∀ (d : Nat), i + d + 1 < p.length → (p.getD i z105).f0.f1 ≤ (p.getD (i + d + 1) z105).f0.f0
 | 0, hd => by
  have := (h (i + 0 + 1) (by omega) hd).2 (by omega)
  rw [show i + 0 + 1 - 1 = i by omega] at this
  omega
 | d + 1, hd => by
  have h1 := order h (i := i) d (by omega)
  have h2 := (h (i + (d + 1) + 1) (by omega) hd).2 (by omega)
  rw [show i + (d + 1) + 1 - 1 = i + d + 1 by omega] at h2
  have h3 := (h (i + d + 1) (by omega) (by omega)).1.1
  omega
theorem one_piece {n first t : Int} {p : List S105} (h : FromOk n first p 0) {i j : Nat} (hi : i < p.length) (hj : j < p.length) (h1 : (p.getD i z105).f0.f0 ≤ t ∧ t < (p.getD i z105).f0.f1) (h2 : (p.getD j z105).f0.f0 ≤ t ∧ t < (p.getD j z105).f0.f1) : i = j := by
 rcases Nat.lt_trichotomy i j with c | c | c
 ·have := order h (i := i) (j - i - 1) (by omega)
  rw [show i + (j - i - 1) + 1 = j by omega] at this
  omega
 ·exact c
 ·have := order h (i := j) (i - j - 1) (by omega)
  rw [show j + (i - j - 1) + 1 = i by omega] at this
  omega
theorem tab_of {n first : Int} {p : List S105} (h : FromOk n first p 0) {k : Nat} {d : Int} (ho : okT p (k : Int) d) : tab p (k : Int) d = tabOf (p.getD k z105).f1 n first d ∧ d < n := by
 unfold okT at ho
 have hk : k < p.length := by omega
 have ht := (h k (by omega) hk).1.2
 have hlen : ((rd_T105 p (k : Int)).f2.length : Int) = n.toNat := by
  rw [rdP, ht, tabs_len]
 have hdn : d < n := by omega
 have hg := tabs_get (l := (p.getD k z105).f1) (first := first) (i := d.toNat) (n := n) (by omega)
 rw [Int.toNat_of_nonneg ho.2.1] at hg
 refine ⟨?_, hdn⟩
 rw [← hg, ← ht]
 rfl
theorem row_no (l : List S134) {n first d : Int} {x y : Int} (h0 : 0 ≤ x) (h1 : x < (nextsTo l n first d).length) (he : rd (nextsTo l n first d) x = y) (hy : 0 ≤ y) : rd (dists l n first d) y < rd (dists l n first d) x := by
 rw [nextsTo, nextRow_len] at h1
 by_cases c : (1 ≤ n ∧ n ≤ 12) ∧ 0 ≤ d ∧ d < n
 ·have D := down l (first := first) c
  have hl := D.dlen
  rcases Int.lt_or_le 0 (rd (dists l n first d) x) with hp | hp
  ·have := (D.step x h0 (by omega) hp).2.2
   rw [he] at this
   omega
  ·have := D.stop x h0 (by omega) hp
   omega
 ·have e : dists l n first d = [] := by
   unfold dists
   rw [if_neg c]
  rw [e] at h1
  simp at h1
  omega
theorem safe_now {n first : Int} {p : List S105} (h : FromOk n first p 0) (d t : Int) : SafeP p d t t := by
 unfold SafeP
 have hrow : ∀ q ∈ rowsA p d (pcs t t p 0), ∃ k : Nat, k < p.length ∧ ((p.getD k z105).f0.f0 ≤ t ∧ t < (p.getD k z105).f0.f1) ∧ q = (tableIn p (k : Int) d).2.2.1 := by
  intro q hq
  unfold rowsA at hq
  obtain ⟨k, hk, rfl⟩ := List.mem_map.1 hq
  obtain ⟨j, hj, he, hm⟩ := pcs_mem t t p 0 k hk
  rw [Nat.zero_add] at he
  unfold meets at hm
  rw [decide_eq_true_iff] at hm
  exact ⟨j, hj, by omega, by rw [he]⟩
 by_cases hne : ∃ k : Nat, k < p.length ∧ (p.getD k z105).f0.f0 ≤ t ∧ t < (p.getD k z105).f0.f1
 ·obtain ⟨k, hk, hkt⟩ := hne
  refine fnLoop_no (fun x => rd (dists (p.getD k z105).f1 n first d) x) ?_
  rintro x y ⟨q, hq, h0, h1, he, hy, _⟩
  obtain ⟨k2, hk2, hk2t, rfl⟩ := hrow q hq
  obtain rfl := one_piece h hk hk2 hkt hk2t
  by_cases ho : okT p (k : Int) d
  ·have e : tableIn p (k : Int) d = ((tab p (k : Int) d).f0, (tab p (k : Int) d).f1, (tab p (k : Int) d).f2, true) := if_pos ho
   rw [e] at h1 he
   have et := (tab_of h ho).1
   rw [et] at h1 he
   exact row_no _ h0 h1 he hy
  ·have e : tableIn p (k : Int) d = (0, [], [], false) := if_neg ho
   rw [e] at h1
   simp at h1
   omega
 ·refine fnLoop_no (fun x => x) ?_
  rintro x y ⟨q, hq, _⟩
  obtain ⟨k, hk, hkt, _⟩ := hrow q hq
  exact absurd ⟨k, hk, hkt⟩ hne
end Go.Proofs.Ytiihaabhjphaeaa.fnSwitched
/- The draws of numbers, batteries and spans come to an end. Conditions: none. -/
namespace Go.Proofs.Ytiihaabhjphaeaa.fnSwitched
open Go.RowKit Go.Proofs.YtiihaabhjphaeaaW.PrintWords Go.Proofs.YtiihaabhjphaeaaW.PrintMore Go.Proofs.Ytiihaabhjphaeaa.QFnSwitched Go.Proofs.Ytiihaabhjphaeaa.Open Go.Proofs.Ytiihaabhjphaeaa.Kit
theorem and255 (n : Int) : Go.bits .and .i64 n 255 = n % 256 := by
 have h255 : (BitVec.ofInt 64 255).toNat = 2 ^ 8 - 1 := by decide
 have key : (BitVec.ofInt 64 n &&& BitVec.ofInt 64 255).toNat = (n % ((2 ^ 64 : Nat) : Int)).toNat % 2 ^ 8 := by
  rw [BitVec.toNat_and, BitVec.toNat_ofInt, h255, Nat.and_two_pow_sub_one_eq_mod]
 show IntKind.i64.wrap ((BitVec.ofInt 64 n &&& BitVec.ofInt 64 255).toNat : Nat) = n % 256
 rw [key, IntKind.wrap_i64]
 omega
def Cur (b : List Int) (i : Int) : Prop := 0 ≤ i ∧ i ≤ (b.length : Int) ∧ b.length ≤ 1048576
theorem byte_ends {b : List Int} {i : Int} (h : Int) (hc : Cur b i) : ∃ x i' h', spec_l1Byte.f b i h = some (x, i', h') ∧ (0 ≤ x ∧ x < 256) ∧ Cur b i' := by
 unfold spec_l1Byte.f
 unfold Cur at hc ⊢
 by_cases c : i < (b.length : Int)
 ·rw [if_pos c, if_pos hc.1]
  refine ⟨_, _, _, rfl, ?_, ?_⟩
  ·rw [and255]
   exact ⟨Int.emod_nonneg _ (by omega), Int.emod_lt_of_pos _ (by omega)⟩
  ·rw [w64 (x := i + 1) (by omega) (by omega)]
   omega
 ·rw [if_neg c]
  refine ⟨_, _, _, rfl, ?_, hc⟩
  rw [and255]
  exact ⟨Int.emod_nonneg _ (by omega), Int.emod_lt_of_pos _ (by omega)⟩
theorem below_ends {b : List Int} {i : Int} (h n : Int) (hc : Cur b i) : ∃ x i' h', spec_l1Below.f b i h n = some (x, i', h') ∧ 0 ≤ x ∧ (0 < n → x < n) ∧ Cur b i' := by
 unfold spec_l1Below.f
 by_cases c : n ≤ 0
 ·rw [if_pos c]
  exact ⟨0, i, h, rfl, by omega, by omega, hc⟩
 ·rw [if_neg c]
  obtain ⟨x, i1, h1, e1, hx, hc1⟩ := byte_ends h hc
  rw [e1]
  by_cases c2 : n ≤ 256
  ·rw [if_pos c2, Option.bind_some, if_neg (by omega)]
   exact ⟨_, _, _, rfl, Int.tmod_nonneg _ hx.1, fun h0 => Int.tmod_lt_of_pos _ h0, hc1⟩
  ·rw [if_neg c2, Option.bind_some]
   obtain ⟨y, i2, h2, e2, hy, hc2⟩ := byte_ends h1 hc1
   obtain ⟨z, i3, h3, e3, hz, hc3⟩ := byte_ends h2 hc2
   dsimp only
   rw [e2, Option.bind_some]
   dsimp only
   rw [e3, Option.bind_some, if_neg (by omega)]
   refine ⟨_, _, _, rfl, Int.tmod_nonneg _ ?_, fun h0 => Int.tmod_lt_of_pos _ h0, hc3⟩
   dsimp only
   rw [w64 (x := x * 65536) (by omega) (by omega), w64 (x := y * 256) (by omega) (by omega), w64 (x := x * 65536 + y * 256) (by omega) (by omega), w64 (by omega) (by omega)]
   omega
theorem Dr.below {β : Type} {P : β → Prop} {b : List Int} {i h n : Int} {f : Int × Int × Int → Option β} (hc : Cur b i) (k : ∀ x i' h', 0 ≤ x → (0 < n → x < n) → Cur b i' → ∃ r, f (x, i', h') = some r ∧ P r) : ∃ r, (spec_l1Below.f b i h n).bind f = some r ∧ P r := by
 obtain ⟨x, i', h', e, h0, h1, hc'⟩ := below_ends h n hc
 rw [e, Option.bind_some]
 exact k x i' h' h0 h1 hc'
theorem Dr.oneOf {β : Type} {P : β → Prop} {b : List Int} {i h : Int} {L : List Int} {f : Int × Int × Int → Option β} (hc : Cur b i) (hL : 0 < L.length) (k : ∀ x i' h', x ∈ L → Cur b i' → ∃ r, f (x, i', h') = some r ∧ P r) : ∃ r, (spec_l1Int.f b i h L).bind f = some r ∧ P r := by
 unfold spec_l1Int.f
 obtain ⟨x, i', h', e, h0, h1, hc'⟩ := below_ends h (L.length : Int) hc
 have h1' := h1 (by omega)
 rw [e, Option.bind_some]
 dsimp only
 rw [if_pos h0, if_pos h1', Option.bind_some]
 exact k _ i' h' (getD_mem (by omega) 0) hc'
theorem Dr.once {β : Type} {P : β → Prop} {b : List Int} {i h n : Int} {f : Bool × Int × Int → Option β} (hc : Cur b i) (k : ∀ x i' h', Cur b i' → ∃ r, f (x, i', h') = some r ∧ P r) : ∃ r, (spec_l1Once.f b i h n).bind f = some r ∧ P r := by
 unfold spec_l1Once.f
 obtain ⟨x, i', h', e, h0, h1, hc'⟩ := below_ends h n hc
 rw [e, Option.bind_some, Option.bind_some]
 exact k _ i' h' hc'
theorem l4Raw_ends {b : List Int} {i : Int} (h : Int) (hc : Cur b i) : ∃ r, spec_l4Raw.f b i h = some r ∧ Cur b r.2.1 := by
 unfold spec_l4Raw.f
 refine Dr.once hc fun x i2 h2 hc2 => ?_
 dsimp only
 split
 ·exact Dr.oneOf hc2 (by decide) fun y i3 h3 _ hc3 => ⟨_, rfl, hc3⟩
 ·exact Dr.below hc2 fun y i3 h3 _ _ hc3 => ⟨_, rfl, hc3⟩
theorem l1New_ends (b : List Int) (_hb : b.length ≤ 1048576) : ∃ h, Ev (fun k => spec_l1New.f k b) (b, 0, h) := by
 have key : ∀ (d i : Nat) (h : Int), i + d = b.length → ∃ h', Ev (fun k => spec_l1New.l0 k b h (i : Int)) (b, 0, h') := by
  intro d
  induction d with
  | zero =>
   intro i h hi
   refine ⟨h, ?_⟩
   refine Ev.step (fun k => by rw [spec_l1New.l0]) ?_
   exact Ev.ite_neg (by omega) (Ev.now _)
  | succ d ih =>
   intro i h hi
   by_cases c : (i : Int) < 4000
   ·obtain ⟨h', he⟩ := ih (i + 1) (Go.bits .and .i64 (wrap64 ((wrap64 ((wrap64 (h * 137)) + (wrap64 (rd b (i : Int))))) + 11)) 1073741823) (by omega)
    refine ⟨h', ?_⟩
    refine Ev.step (fun k => by rw [spec_l1New.l0]) ?_
    refine Ev.ite_pos (by omega) (Ev.ite_pos c (Ev.ite_pos (by omega) ?_))
    rw [w64n (by omega)]
    exact he
   ·refine ⟨h, ?_⟩
    refine Ev.step (fun k => by rw [spec_l1New.l0]) ?_
    exact Ev.ite_pos (by omega) (Ev.ite_neg c (Ev.now _))
 obtain ⟨h', he⟩ := key b.length 0 (wrap64 (193017 + (b.length : Int))) (by omega)
 exact ⟨h', he⟩
theorem cur0 {b : List Int} (hb : b.length ≤ 1048576) : Cur b 0 := ⟨by omega, by omega, hb⟩
end Go.Proofs.Ytiihaabhjphaeaa.fnSwitched
/- The draws of plans come to an end; what they draw is a plan. Conditions: none. -/
namespace Go.Proofs.Ytiihaabhjphaeaa.fnSwitched
open Go.RowKit Go.Proofs.YtiihaabhjphaeaaW.PrintWords Go.Proofs.YtiihaabhjphaeaaW.PrintMore Go.Proofs.Ytiihaabhjphaeaa.QFnSwitched Go.Proofs.Ytiihaabhjphaeaa.Open Go.Proofs.Ytiihaabhjphaeaa.Kit
theorem PlanOk.snoc {n : Int} {L : List S137} {y : S137} (h : PlanOk n L) (hb : ∀ x ∈ L, Bef x y) (hy : CtOk n y) : PlanOk n (L ++ [y]) := by
 intro i hi
 rw [List.length_append, List.length_singleton] at hi
 have g : ∀ j, j < L.length → (L ++ [y]).getD j z137 = L.getD j z137 := by
  intro j hj
  rw [getD_at (by rw [List.length_append]; omega), getD_at hj, List.getElem_append_left hj]
 have gl : (L ++ [y]).getD L.length z137 = y := getD_mid L [] y z137 rfl
 by_cases c : i < L.length
 ·rw [g i c]
  refine ⟨(h i c).1, fun h0 => ?_⟩
  rw [g (i - 1) (by omega)]
  exact (h i c).2 h0
 ·obtain rfl : i = L.length := by omega
  rw [gl]
  refine ⟨hy, fun h0 => ?_⟩
  rw [g (L.length - 1) (by omega)]
  exact hb _ (getD_mem (by omega) z137)
theorem PlanOk.nil (n : Int) : PlanOk n [] := by
 intro i hi
 simp at hi
def AllBef (L : List S137) (a b t : Int) : Prop := ∀ x ∈ L, x.f0 < a ∨ x.f0 = a ∧ (x.f1 < b ∨ x.f1 = b ∧ x.f3 < t)
theorem minP (a b : Int) : spec_Min.f a b = some (min a b) := by
 unfold spec_Min.f
 split
 ·congr 1
  omega
 ·congr 1
  omega
abbrev PlEnd (b : List Int) (n : Int) (g : Nat → Option (List S137 × Int × Int)) : Prop := ∃ L i' h', Ev g (L, i', h') ∧ L.length ≤ 500 ∧ PlanOk n L ∧ Cur b i'
theorem l11_l2 {b : List Int} {m a q : Nat} {last : Int} {B : Nat} (hlast : 0 ≤ last ∧ last ≤ 1000) (ha : a < q) (hq : q < m) (hm : m ≤ 6) (hB : B ≤ 500)
  (hk : ∀ L i h, L.length ≤ B → PlanOk (m : Int) L → AllBef L (a : Int) ((q + 1 : Nat) : Int) 0 → Cur b i → PlEnd b (m : Int) (fun k => spec_l11Plan.l1 k (m : Int) last L (a : Int) ((q + 1 : Nat) : Int) b i h)) :
  ∀ (c : Nat) (L : List S137) (t i h : Int), c ≤ 5 → L.length + c ≤ B → PlanOk (m : Int) L → AllBef L (a : Int) (q : Int) t → 0 ≤ t ∧ t ≤ 2000 → Cur b i → PlEnd b (m : Int) (fun k => spec_l11Plan.l2 k (m : Int) last L (a : Int) (q : Int) t (c : Int) b i h) := by
 have stop : ∀ (c : Nat) (L : List S137) (t i h : Int), L.length ≤ B → PlanOk (m : Int) L → AllBef L (a : Int) (q : Int) t → Cur b i → PlEnd b (m : Int) (fun k => spec_l11Plan.j3 k (m : Int) last L (a : Int) (q : Int) t (c : Int) false b i h) := by
  intro c L t i h hL hP hA hc
  obtain ⟨L', i', h', he, hr⟩ := hk L i h hL hP (fun x hx => by have := hA x hx; omega) hc
  refine ⟨L', i', h', ?_, hr⟩
  refine Ev.step (fun k => by rw [spec_l11Plan.j3]) ?_
  refine Ev.ite_neg (by simp) ?_
  rw [w64n (by omega)]
  exact he
 intro c
 induction c with
 | zero =>
  intro L t i h _ hL hP hA ht hc
  obtain ⟨L', i', h', he, hr⟩ := stop 0 L t i h (by omega) hP hA hc
  refine ⟨L', i', h', ?_, hr⟩
  refine Ev.step (fun k => by rw [spec_l11Plan.l2]) ?_
  exact Ev.ite_neg (by omega) he
 | succ c ih =>
  intro L t i h hc5 hL hP hA ht hc
  by_cases c1 : t < last
  ·obtain ⟨u, i1, h1, e1, hu0, hu1, hc1⟩ := below_ends h 9 hc
   obtain ⟨v, i2, h2, e2, hv0, hv1, hc2⟩ := below_ends h1 6 hc1
   have hu1 := hu1 (by omega)
   have hv1 := hv1 (by omega)
   obtain ⟨e, he⟩ : ∃ e : Int, e = min last (t + 2 + u) := ⟨_, rfl⟩
   have hte : t < e ∧ e ≤ last := by omega
   obtain ⟨L', i', h', hev, hr⟩ := ih (L ++ [(⟨(a : Int), (q : Int), t, e⟩ : S137)]) (e + 1 + v) i2 h2 (by omega) (by rw [List.length_append, List.length_singleton]; omega)
    (hP.snoc (fun x hx => by have := hA x hx; unfold Bef; dsimp only; omega) (by unfold CtOk; dsimp only; omega))
    (by
     intro x hx
     rcases List.mem_append.1 hx with hx | hx
     ·have := hA x hx
      omega
     ·rw [List.mem_singleton.1 hx]
      dsimp only
      omega) (by omega) hc2
   refine ⟨L', i', h', ?_, hr⟩
   refine Ev.step (fun k => by rw [spec_l11Plan.l2]) ?_
   refine Ev.ite_pos (by omega) ?_
   rw [decide_eq_true c1]
   refine Ev.step (fun k => by rw [spec_l11Plan.j3]) ?_
   refine Ev.ite_pos rfl (Ev.bind0 e1 ?_)
   dsimp only
   rw [w64 (x := t + 2) (by omega) (by omega), w64 (x := t + 2 + u) (by omega) (by omega)]
   refine Ev.bind0 (minP _ _) ?_
   rw [← he]
   refine Ev.ite_pos (by omega) (Ev.bind0 e2 ?_)
   dsimp only
   rw [w64 (x := e + 1) (by omega) (by omega), w64 (x := e + 1 + v) (by omega) (by omega), w64 (x := ((c + 1 : Nat) : Int) - 1) (by omega) (by omega), show ((c + 1 : Nat) : Int) - 1 = (c : Int) by omega]
   exact hev
  ·obtain ⟨L', i', h', he, hr⟩ := stop (c + 1) L t i h (by omega) hP hA hc
   refine ⟨L', i', h', ?_, hr⟩
   refine Ev.step (fun k => by rw [spec_l11Plan.l2]) ?_
   refine Ev.ite_pos (by omega) ?_
   rw [decide_eq_false c1]
   exact he
theorem l11_l1 {b : List Int} {m a : Nat} {last : Int} {B : Nat} (hlast : 0 ≤ last ∧ last ≤ 1000) (ha : a < m) (hm : m ≤ 6) (hB : B ≤ 500)
  (hk : ∀ L i h, L.length ≤ B → PlanOk (m : Int) L → AllBef L ((a + 1 : Nat) : Int) 0 0 → Cur b i → PlEnd b (m : Int) (fun k => spec_l11Plan.l0 k (m : Int) last L ((a + 1 : Nat) : Int) b i h)) :
  ∀ (d q : Nat) (L : List S137) (i h : Int), q + d = m → a < q → L.length + 2 * d ≤ B → PlanOk (m : Int) L → AllBef L (a : Int) (q : Int) 0 → Cur b i → PlEnd b (m : Int) (fun k => spec_l11Plan.l1 k (m : Int) last L (a : Int) (q : Int) b i h) := by
 intro d
 induction d with
 | zero =>
  intro q L i h hq haq hL hP hA hc
  obtain ⟨L', i', h', he, hr⟩ := hk L i h (by omega) hP (fun x hx => by have := hA x hx; omega) hc
  refine ⟨L', i', h', ?_, hr⟩
  refine Ev.step (fun k => by rw [spec_l11Plan.l1]) ?_
  refine Ev.ite_neg (by omega) ?_
  rw [w64n (by omega)]
  exact he
 | succ d ih =>
  intro q L i h hq haq hL hP hA hc
  obtain ⟨t, i1, h1, e1, ht0, ht1, hc1⟩ := below_ends h 5 hc
  obtain ⟨c, i2, h2, e2, hc0, hcc, hc2⟩ := below_ends h1 3 hc1
  have ht1 := ht1 (by omega)
  have hcc := hcc (by omega)
  obtain ⟨L', i', h', he, hr⟩ := l11_l2 (B := B - 2 * d) hlast haq (by omega) hm (by omega) (fun L i h hl hp ha hc => ih (q + 1) L i h (by omega) (by omega) (by omega) hp ha hc) c.toNat L t i2 h2 (by omega) (by omega) hP (fun x hx => by have := hA x hx; omega) ⟨ht0, by omega⟩ hc2
  rw [Int.toNat_of_nonneg hc0] at he
  refine ⟨L', i', h', ?_, hr⟩
  refine Ev.step (fun k => by rw [spec_l11Plan.l1]) ?_
  exact Ev.ite_pos (by omega) (Ev.bind0 e1 (Ev.bind0 e2 he))
theorem l11_l0 {b : List Int} {m : Nat} {last : Int} (hlast : 0 ≤ last ∧ last ≤ 1000) (hm : m ≤ 6) : ∀ (d a : Nat) (L : List S137) (i h : Int), a + d = m → L.length + d * (2 * m) ≤ 500 → PlanOk (m : Int) L → AllBef L (a : Int) 0 0 → Cur b i →
  PlEnd b (m : Int) (fun k => spec_l11Plan.l0 k (m : Int) last L (a : Int) b i h) := by
 intro d
 induction d with
 | zero =>
  intro a L i h ha hL hP hA hc
  refine ⟨L, i, h, ?_, by omega, hP, hc⟩
  refine Ev.step (fun k => by rw [spec_l11Plan.l0]) ?_
  exact Ev.ite_neg (by omega) (Ev.now _)
 | succ d ih =>
  intro a L i h ha hL hP hA hc
  rw [Nat.succ_mul] at hL
  obtain ⟨L', i', h', he, hr⟩ := l11_l1 (B := 500 - d * (2 * m)) hlast (by omega) hm (by omega) (fun L i h hl hp ha hc => ih (a + 1) L i h (by omega) (by omega) hp ha hc) (m - (a + 1)) (a + 1) L i h (by omega) (by omega) (by omega) hP (fun x hx => by have := hA x hx; omega) hc
  refine ⟨L', i', h', ?_, hr⟩
  refine Ev.step (fun k => by rw [spec_l11Plan.l0]) ?_
  refine Ev.ite_pos (by omega) ?_
  rw [w64n (by omega)]
  exact he
theorem l11Plan_ends {b : List Int} {m : Nat} (hm : m ≤ 6) {last : Int} (hlast : 0 ≤ last ∧ last ≤ 1000) {i : Int} (h : Int) (hc : Cur b i) : PlEnd b (m : Int) (fun k => spec_l11Plan.f k b i h (m : Int) last) :=
 l11_l0 hlast hm m 0 [] i h (by omega) (by have : m * (2 * m) ≤ 6 * 12 := Nat.mul_le_mul hm (by omega); simp; omega) (PlanOk.nil _) (fun x hx => by cases hx) hc
end Go.Proofs.Ytiihaabhjphaeaa.fnSwitched
/- The draws of programs come to an end. Conditions: none. -/
namespace Go.Proofs.Ytiihaabhjphaeaa.fnSwitched
open Go.RowKit Go.Proofs.YtiihaabhjphaeaaW.PrintWords Go.Proofs.YtiihaabhjphaeaaW.PrintMore Go.Proofs.Ytiihaabhjphaeaa.QFnSwitched Go.Proofs.Ytiihaabhjphaeaa.Open Go.Proofs.Ytiihaabhjphaeaa.Kit
theorem changes_len {l : List S137} {a b : Int} (h0 : 0 ≤ b) (h1 : b ≤ 1000) : (changes l a b).length ≤ b.toNat := by
 rw [← chTo_all (m := b.toNat) (by omega) fun t _ _ => chP_out (by omega)]
 exact chTo_len l a b b.toNat
theorem pieces_len {l : List S137} {a b : Int} (h : spanQ a b = true) : (pieces l a b).length = (changes l a b).length + 1 := by
 unfold pieces
 rw [if_pos h, spansOf_len, List.length_append, List.length_singleton]
theorem dists_len (l : List S134) (n first d : Int) : (dists l n first d).length ≤ 12 := by
 rcases (dists_fit l n first d).1 with e | e
 ·rw [e]
  simp
 ·omega
theorem pcOf_small {plan : List S137} (hl : plan.length ≤ 500) {n : Int} (hn : n ≤ 12) (first : Int) (s : S102) : n105 (pcOf plan n first s) ≤ 900 := by
 have h1 := linksAt_len plan s.f0
 have h2 : (tabs (linksAt plan s.f0) n first).length = n.toNat := by simp [tabs]
 have h3 := sum_map_le n55 24 (tabs (linksAt plan s.f0) n first) (by
  intro x hx
  unfold tabs at hx
  obtain ⟨d, _, rfl⟩ := List.mem_map.1 hx
  have h4 := dists_len (linksAt plan s.f0) n first (d : Int)
  show (dists (linksAt plan s.f0) n first (d : Int)).length + (nextsTo (linksAt plan s.f0) n first (d : Int)).length ≤ 24
  rw [nextsTo, nextRow_len]
  omega)
 show (linksAt plan s.f0).length + ((tabs (linksAt plan s.f0) n first).length + ((tabs (linksAt plan s.f0) n first).map n55).sum) ≤ 900
 have h5 : n.toNat * 24 ≤ 12 * 24 := Nat.mul_le_mul (by omega) (Nat.le_refl _)
 rw [h2] at h3
 omega
def Built (n first skew : Int) (p : List S105) : Prop := ∃ plan b, plan.length ≤ 500 ∧ BuildOk plan n first 0 b skew ∧ (0 ≤ b ∧ b ≤ 24) ∧ p = (pieces plan 0 b).map (pcOf plan n first)
theorem Built.of {plan : List S137} {n first skew b : Int} (hl : plan.length ≤ 500) (h : BuildOk plan n first 0 b skew) (hb : 0 ≤ b ∧ b ≤ 24) : Built n first skew ((pieces plan 0 b).map (pcOf plan n first)) := ⟨plan, b, hl, h, hb, rfl⟩
theorem Built.len {n first skew : Int} {p : List S105} (h : Built n first skew p) : 1 ≤ p.length ∧ p.length ≤ 40 := by
 obtain ⟨plan, b, _, hb, _, rfl⟩ := h
 rw [List.length_map]
 exact hb.2.2
theorem Built.small {n first skew : Int} {p : List S105} (h : Built n first skew p) : p.length ≤ 40 ∧ ∀ x ∈ p, n105 x ≤ 900 := by
 refine ⟨h.len.2, ?_⟩
 obtain ⟨plan, b, hl, hb, _, rfl⟩ := h
 intro x hx
 obtain ⟨s, _, rfl⟩ := List.mem_map.1 hx
 have := hb.1
 unfold Frame at this
 exact pcOf_small hl (by omega) first s
def Shape (n first skew : Int) : Prop := (n = 5 ∧ first = 4 ∧ 0 ≤ skew ∧ skew ≤ 2) ∨ (n = 3 ∧ first = 2 ∧ skew = 0)
theorem l17Draw_ends {b : List Int} {i : Int} (h : Int) (hc : Cur b i) : ∃ n first skew p i' h', Ev (fun k => spec_l17Draw.f k b i h) (n, first, skew, p, i', h') ∧ Shape n first skew ∧ Built n first skew p ∧ Cur b i' := by
 obtain ⟨L, i1, h1, e1, hL, hP, hc1⟩ := l11Plan_ends (m := 5) (by omega) (last := 24) (by omega) h hc
 obtain ⟨s, i2, h2, e2, hs0, hs1, hc2⟩ := below_ends h1 3 hc1
 have hs1 := hs1 (by omega)
 have hb1 := buildS (show L.length ≤ 1048576 by omega) 5 4 0 24 s
 by_cases c : BuildOk L 5 4 0 24 s
 ·rw [build_yes c] at hb1
  have hBt := Built.of hL c (by omega)
  generalize (pieces L 0 24).map (pcOf L 5 4) = P at hb1 hBt
  refine ⟨5, 4, s, P, i2, h2, ?_, .inl ⟨rfl, rfl, hs0, by omega⟩, hBt, hc2⟩
  unfold spec_l17Draw.f
  exact Ev.bind e1 (Ev.bind0 e2 (Ev.bind hb1 (Ev.ite_pos rfl (Ev.now _))))
 ·rw [build_no c] at hb1
  obtain ⟨L3, i3, h3, e3, hL3, hP3, hc3⟩ := l11Plan_ends (m := 3) (by omega) (last := 12) (by omega) h2 hc2
  have hsp : spanQ 0 12 = true := rfl
  have hok : BuildOk L3 3 2 0 12 0 := by
   have h4 := pieces_len (l := L3) hsp
   have h5 := changes_len (l := L3) (a := 0) (b := 12) (by omega) (by omega)
   refine ⟨by unfold Frame; omega, hP3, by omega, ?_⟩
   have : (12 : Int).toNat = 12 := rfl
   omega
  have hb3 := buildS (show L3.length ≤ 1048576 by omega) 3 2 0 12 0
  rw [build_yes hok] at hb3
  have hBt := Built.of hL3 hok (by omega)
  generalize (pieces L3 0 12).map (pcOf L3 3 2) = P at hb3 hBt
  refine ⟨3, 2, 0, P, i3, h3, ?_, .inr ⟨rfl, rfl, rfl⟩, hBt, hc3⟩
  unfold spec_l17Draw.f
  exact Ev.bind e1 (Ev.bind0 e2 (Ev.bind hb1 (Ev.ite_neg (by simp) (Ev.bind e3 (Ev.bind hb3 (Ev.now _))))))
theorem rdPc (l : List S105) {x : Int} (h0 : 0 ≤ x) (h1 : x < l.length) : rd_T105 l x ∈ l := getD_mem (by omega) z105
theorem l17Any_ends {b : List Int} {i : Int} (h : Int) (hc : Cur b i) : ∃ n first skew p i' h', Ev (fun k => spec_l17Any.f k b i h) (n, first, skew, p, i', h') ∧ (n = 5 ∨ n = 3) ∧ Small p ∧ Cur b i' := by
 obtain ⟨n, f, s, p, i1, h1, e1, hs, hB, hc1⟩ := l17Draw_ends h hc
 have hlen := hB.len
 have hsm := hB.small
 have hn : n = 5 ∨ n = 3 := by
  unfold Shape at hs
  omega
 have hp0 : Small p := ⟨hsm.1, fun x hx => by have := hsm.2 x hx; omega⟩
 obtain ⟨x, i2, h2, e2, hx0, hx1, hc2⟩ := below_ends h1 (p.length : Int) hc1
 have hx1 := hx1 (by omega)
 obtain ⟨y, i3, h3, e3, hy0, hy1, hc3⟩ := below_ends h2 10 hc2
 have hmem := rdPc p hx0 hx1
 have hset : ∀ z : S105, n105 z ≤ 1000 → Small (p.set x.toNat z) := by
  intro z hz
  refine ⟨by rw [List.length_set]; exact hsm.1, fun u hu => ?_⟩
  rcases List.mem_or_eq_of_mem_set hu with hu | rfl
  ·have := hsm.2 u hu
   omega
  ·exact hz
 have hr := hsm.2 _ hmem
 have key : ∃ r : Int × Int × Int × List S105 × Int × Int, Ev (fun k => spec_l17Any.j0 k x b i2 h2 n f s p) r ∧ (r.1 = 5 ∨ r.1 = 3) ∧ Small r.2.2.2.1 ∧ Cur b r.2.2.2.2.1 := by
  have lift : ∀ {o : Option (Int × Int × Int × List S105 × Int × Int)}, (∃ r, o = some r ∧ ((r.1 = 5 ∨ r.1 = 3) ∧ Small r.2.2.2.1 ∧ Cur b r.2.2.2.2.1)) → ∃ r : Int × Int × Int × List S105 × Int × Int, Ev (fun _ : Nat => o) r ∧ (r.1 = 5 ∨ r.1 = 3) ∧ Small r.2.2.2.1 ∧ Cur b r.2.2.2.2.1 := by
   rintro o ⟨r, e, h1, h2, h3⟩
   exact ⟨r, Ev.eq e, h1, h2, h3⟩
  have step : ∀ {g : Nat → Option (Int × Int × Int × List S105 × Int × Int)}, (∀ k, spec_l17Any.j0 (k + 1) x b i2 h2 n f s p = g k) → (∃ r : Int × Int × Int × List S105 × Int × Int, Ev g r ∧ (r.1 = 5 ∨ r.1 = 3) ∧ Small r.2.2.2.1 ∧ Cur b r.2.2.2.2.1) → ∃ r : Int × Int × Int × List S105 × Int × Int, Ev (fun k => spec_l17Any.j0 k x b i2 h2 n f s p) r ∧ (r.1 = 5 ∨ r.1 = 3) ∧ Small r.2.2.2.1 ∧ Cur b r.2.2.2.2.1 := by
   rintro g hg ⟨r, he, hr⟩
   exact ⟨r, Ev.step hg he, hr⟩
  refine step (fun k => by rw [spec_l17Any.j0]) (lift ?_)
  rw [e3, Option.bind_some]
  dsimp only
  split
  ·exact Dr.oneOf hc3 (by decide) fun v i4 h4 _ hc4 => ⟨_, rfl, hn, hp0, hc4⟩
  ·split
   ·exact Dr.oneOf hc3 (by decide) fun v i4 h4 _ hc4 => ⟨_, rfl, hn, hp0, hc4⟩
   ·split
    ·(try rw [if_pos hx0])
     (try rw [if_pos (show x ≤ (p.length : Int) by omega)])
     exact ⟨_, rfl, hn, ⟨by show (p.take _).length ≤ 40; rw [List.length_take]; omega, fun u hu => hp0.2 u (List.mem_of_mem_take hu)⟩, hc3⟩
    ·split
     ·obtain ⟨r, er, hcr⟩ := l4Raw_ends h3 hc3
      rw [er, Option.bind_some]
      (try rw [if_pos hx0])
      (try rw [if_pos hx1])
      exact ⟨_, rfl, hn, hset _ (by show n105 (rd_T105 p x) ≤ 1000; omega), hcr⟩
     ·split
      ·have hfl : (rd_T105 p x).f1.length ≤ n105 (rd_T105 p x) := by
        unfold n105
        omega
       (try rw [if_pos hx0])
       (try rw [if_pos hx1])
       rw [if_pos (by omega)]
       refine ⟨_, rfl, hn, hset _ ?_, hc3⟩
       show ((rd_T105 p x).f1 ++ [(⟨0, 1⟩ : S134)]).length + ((rd_T105 p x).f2.length + ((rd_T105 p x).f2.map n55).sum) ≤ 1000
       have e : n105 (rd_T105 p x) = (rd_T105 p x).f1.length + ((rd_T105 p x).f2.length + ((rd_T105 p x).f2.map n55).sum) := rfl
       rw [List.length_append, List.length_singleton]
       omega
      ·exact ⟨_, rfl, hn, hp0, hc3⟩
 obtain ⟨r, er, h5, h6, h7⟩ := key
 refine ⟨r.1, r.2.1, r.2.2.1, r.2.2.2.1, r.2.2.2.2.1, r.2.2.2.2.2, ?_, h5, h6, h7⟩
 unfold spec_l17Any.f
 exact Ev.bind e1 (Ev.ite_pos (by show (p.length : Int) > 0; omega) (Ev.bind0 e2 er))
theorem drawHopAt_ends (b : List Int) (hb : b.length ≤ 1048576) : ∃ n f s p x d t, Ev (fun k => spec_DrawHopAt.f k b) (n, f, s, p, x, d, t) ∧ Small p := by
 obtain ⟨h, hn⟩ := l1New_ends b hb
 obtain ⟨n, f, s, p, i1, h1, e1, h5, hS, hc1⟩ := l17Any_ends h (cur0 hb)
 obtain ⟨x2, i2, h2, e2, _, _, hc2⟩ := below_ends h1 7 hc1
 obtain ⟨x3, i3, h3, e3, _, _, hc3⟩ := below_ends h2 6 hc2
 obtain ⟨r, e4, hc4⟩ := l4Raw_ends h3 hc3
 refine ⟨n, f, s, p, wrap64 (x2 - 1), x3, r.1, ?_, hS⟩
 unfold spec_DrawHopAt.f
 exact Ev.bind hn (Ev.bind e1 (Ev.bind0 e2 (Ev.bind0 e3 (Ev.bind0 e4 (Ev.now _)))))
end Go.Proofs.Ytiihaabhjphaeaa.fnSwitched
namespace Go.Proofs.Ytiihaabhjphaeaa.fnSwitched
open Go.RowKit Go.Proofs.YtiihaabhjphaeaaW.PrintWords Go.Proofs.YtiihaabhjphaeaaW.PrintMore Go.Proofs.Ytiihaabhjphaeaa.QFnSwitched Go.Proofs.Ytiihaabhjphaeaa.Open Go.Proofs.Ytiihaabhjphaeaa.Kit Go.Proofs.Ytiihaabhjphaeaa.Graph
def ent (p : List S105) (k d node : Int) : Int × Bool := if okT p k d ∧ 0 ≤ node ∧ node < ((tab p k d).f2.length : Int) then (rd (tab p k d).f2 node, true) else (-1, false)
theorem next_ev (p : List S105) (hp : nPgI p ≤ 1048576) (n a s k d node : Int) : impl_nextIn.f n a s p k d node = some (ent p k d node) := by
 unfold impl_nextIn.f
 rw [table2 p hp n a s k d, Option.bind_some]
 unfold ent
 by_cases hok : okT p k d
 ·have e : tableIn p k d = ((tab p k d).f0, (tab p k d).f1, (tab p k d).f2, true) := if_pos hok
  rw [e]
  dsimp only
  rw [if_pos rfl, isIx, Option.bind_some]
  by_cases h : 0 ≤ node ∧ node < ((tab p k d).f2.length : Int)
  ·rw [if_pos (decide_eq_true h), if_pos h.1, if_pos h.2, if_pos ⟨hok, h⟩]
  ·rw [if_neg (by rw [decide_eq_false h]; decide), if_neg (fun h2 => h h2.2)]
 ·have e : tableIn p k d = (0, [], [], false) := if_neg hok
  rw [e]
  dsimp only
  rw [if_neg (by decide), if_neg (fun h2 => hok h2.1)]
theorem skew_ev (p : List S105) (n a s t : Int) : impl_isSkewed.f n a s p t = some (decide ((0 ≤ s ∧ s ≤ 5) ∧ (0 ≤ t ∧ t ≤ 1000))) := by
 unfold impl_isSkewed.f
 rw [rgP, rgP]
 by_cases h1 : 0 ≤ s ∧ s ≤ 5 <;> simp [h1]
theorem hop_ev (p : List S105) (hp : nPgI p ≤ 1048576) (n a s node d t : Int) : ∃ r, Ev (fun k => impl_HopAt.f k n a s p node d t) r ∧
  (0 ≤ r → (ent p (impl_PieceAt.go t p 0) d node).2 = true ∧ r = (ent p (impl_PieceAt.go t p 0) d node).1) ∧
  ((ent p (impl_PieceAt.go t p 0) d node).2 = true → (0 ≤ s ∧ s ≤ 5) ∧ (0 ≤ t ∧ t ≤ 1000) → SafeP p d (wrap64 (t - wrap64 (2 * s))) (wrap64 (t + wrap64 (2 * s))) → r = (ent p (impl_PieceAt.go t p 0) d node).1) := by
 have hl : p.length ≤ 1048576 := by unfold nPgI at hp; omega
 have h1 := piece2 p hl n a s t
 generalize impl_PieceAt.go t p 0 = k at *
 have h2 := next_ev p hp n a s k d node
 obtain ⟨q, hq, hqi⟩ := safeI p hp n a s d (wrap64 (t - wrap64 (2 * s))) (wrap64 (t + wrap64 (2 * s)))
 by_cases c1 : (ent p k d node).2 = true
 ·by_cases c2 : (0 ≤ s ∧ s ≤ 5) ∧ (0 ≤ t ∧ t ≤ 1000)
  ·by_cases c3 : q = true
   ·refine ⟨(ent p k d node).1, ?_, fun _ => ⟨c1, rfl⟩, fun _ _ _ => rfl⟩
    unfold impl_HopAt.f
    exact Ev.bind0 h1 (Ev.bind0 h2 (Ev.ite_pos c1 (Ev.bind0 (skew_ev p n a s t) (Ev.ite_pos (decide_eq_true c2) (Ev.bind hq (Ev.ite_pos c3 (Ev.now _)))))))
   ·refine ⟨-1, ?_, fun h => by omega, fun _ _ h => absurd (hqi.2 h) c3⟩
    unfold impl_HopAt.f
    exact Ev.bind0 h1 (Ev.bind0 h2 (Ev.ite_pos c1 (Ev.bind0 (skew_ev p n a s t) (Ev.ite_pos (decide_eq_true c2) (Ev.bind hq (Ev.ite_neg c3 (Ev.now _)))))))
  ·refine ⟨-1, ?_, fun h => by omega, fun _ h _ => absurd h c2⟩
   unfold impl_HopAt.f
   exact Ev.bind0 h1 (Ev.bind0 h2 (Ev.ite_pos c1 (Ev.bind0 (skew_ev p n a s t) (Ev.ite_neg (by rw [decide_eq_true_iff]; exact c2) (Ev.now _)))))
 ·refine ⟨-1, ?_, fun h => by omega, fun h => absurd h c1⟩
  unfold impl_HopAt.f
  exact Ev.bind0 h1 (Ev.bind0 h2 (Ev.ite_neg c1 (Ev.now _)))
theorem hold_ev (p : List S105) (hp : nPgI p ≤ 1048576) (n a s node d t r : Int) (hr : Ev (fun k => impl_HopAt.f k n a s p node d t) r) (h : r = -1 → (ent p (impl_PieceAt.go t p 0) d node).1 < 0) : Ev (fun k => impl_IsHolding.f k n a s p node d t) false := by
 have hl : p.length ≤ 1048576 := by unfold nPgI at hp; omega
 unfold impl_IsHolding.f
 refine Ev.bind0 (piece2 p hl n a s t) (Ev.bind0 (next_ev p hp n a s _ d node) (Ev.bind hr ?_))
 by_cases c : r = -1
 ·exact Ev.ite_pos c (Ev.some (decide_eq_false (by have := h c; omega)))
 ·exact Ev.ite_neg c (Ev.now _)
theorem pure : PureFnSwitched := by
 intro code hcode
 refine Ev.rounds (r := true) ?_
 unfold laws_FnSwitched.f
 refine Ev.bind0 rfl ?_
 by_cases hb : (code.length : Int) > 1048576
 ·exact Ev.ite_pos (decide_eq_true hb) (Ev.now _)
 ·refine Ev.ite_neg (by simpa using hb) ?_
  have hb' : code.length ≤ 1048576 := by omega
  obtain ⟨n, f, s, p, x, d, t, e1, hS⟩ := drawHopAt_ends code hb'
  have hp := hS.size
  have hl : p.length ≤ 1048576 := by unfold nPgI at hp; omega
  have hle := pcsLe hp
  refine Ev.bind e1 (Ev.bind (progI hle) (Ev.bind (progS hle) (Ev.ite_neg (by simp) (Ev.bind (progI hle) ?_))))
  by_cases c : progB n f s p = true
  ·have hP := progB_iff.1 c
   obtain ⟨r, hr, hr1, hr2⟩ := hop_ev p hp n f s x d t
   refine Ev.ite_pos c (Ev.bind0 (piece2 p hl n f s t) (Ev.bind0 (table2 p hp n f s _ d) (Ev.bind hr ?_)))
   dsimp only
   have hold : ¬ s > 0 → Ev (fun k => impl_IsHolding.f k n f s p x d t) false := by
    intro hs
    have hs0 : s = 0 := by
     have := hP.1
     unfold Frame at this
     omega
    refine hold_ev p hp n f s x d t r hr fun hr0 => ?_
    refine Int.lt_of_not_ge fun hpos => ?_
    have h2 : (ent p (impl_PieceAt.go t p 0) d x).2 = true := by
     unfold ent at hpos ⊢
     split at hpos
     ·rename_i ho
      rw [if_pos ho]
     ·omega
    have ht : 0 ≤ t ∧ t ≤ 1000 := by
     rcases go_hit t p 0 with hg | ⟨k, hk, hg, hq⟩
     ·rw [hg] at h2
      unfold ent okT at h2
      split at h2
      ·rename_i ho
       omega
      ·cases h2
     ·unfold inQ at hq
      rw [decide_eq_true_iff] at hq
      omega
    have := hr2 h2 ⟨by omega, ht⟩ (by
     rw [hs0, w64 (x := 2 * 0) (by omega) (by omega), w64 (by omega) (by omega), w64 (by omega) (by omega)]
     have h3 := safe_now hP.2.2 d t
     rw [show t - 2 * 0 = t by omega, show t + 2 * 0 = t by omega]
     exact h3)
    omega
   by_cases c2 : r ≥ 0
   ·obtain ⟨g1, g2⟩ := hr1 c2
    have hg : okT p (impl_PieceAt.go t p 0) d ∧ 0 ≤ x ∧ x < ((tab p (impl_PieceAt.go t p 0) d).f2.length : Int) := by
     unfold ent at g1
     split at g1
     ·assumption
     ·cases g1
    have e : tableIn p (impl_PieceAt.go t p 0) d = ((tab p (impl_PieceAt.go t p 0) d).f0, (tab p (impl_PieceAt.go t p 0) d).f1, (tab p (impl_PieceAt.go t p 0) d).f2, true) := if_pos hg.1
    have hre : rd (tab p (impl_PieceAt.go t p 0) d).f2 x = r := by
     rw [g2]
     unfold ent
     rw [if_pos hg]
    rw [e]
    refine Ev.ite_pos c2 (Ev.ite_pos rfl (Ev.ite_pos hg.2.1 (Ev.ite_pos hg.2.2 (Ev.ite_pos hre ?_))))
    by_cases c3 : s > 0
    ·exact Ev.ite_pos c3 (Ev.now _)
    ·exact Ev.ite_neg c3 (Ev.bind (hold c3) (Ev.now _))
   ·refine Ev.ite_neg c2 ?_
    by_cases c3 : s > 0
    ·exact Ev.ite_pos c3 (Ev.now _)
    ·exact Ev.ite_neg c3 (Ev.bind (hold c3) (Ev.now _))
  ·exact Ev.ite_neg c (Ev.now _)
end Go.Proofs.Ytiihaabhjphaeaa.fnSwitched
namespace Go.Proofs.Ytiihaabhjphaeaa
theorem fnSwitched_holds : Rows.FnSwitchedSaid := fnSwitched.row fnSwitched.pure
end Go.Proofs.Ytiihaabhjphaeaa
