/- FnMargins: a link that is used by a clock that is wrong within its error is there in truth. Conditions: none. (tight). -/
import Derived.Lib.SlicesCompact
import Derived.Test.YtiihaabhjphaeaaVFnMarginsQFnMarginsx
import Derived.Laws.BitsLemmas
import Derived.Test.YtiihaabhjphaeaaVFnMarginsRowFnMargins
/- Small words on answers that come with enough rounds. Conditions: none. -/
namespace Go.Proofs.Ytiihaabhjphaeaa.Kit
open Go.RowKit Go.Proofs.YtiihaabhjphaeaaW.PrintWords Go.Proofs.YtiihaabhjphaeaaW.PrintLast Go.Proofs.YtiihaabhjphaeaaW.PrintMore Go.Proofs.Ytiihaabhjphaeaa.Open

theorem Ev.ite_pos {α : Type} {c : Prop} [Decidable c] {f g : Nat → Option α} {r : α} (h : c) (k : Ev f r) : Ev (fun n => if c then f n else g n) r := by simpa only [if_pos h] using k
theorem Ev.ite_neg {α : Type} {c : Prop} [Decidable c] {f g : Nat → Option α} {r : α} (h : ¬ c) (k : Ev g r) : Ev (fun n => if c then f n else g n) r := by simpa only [if_neg h] using k
theorem Ev.bind0 {α β : Type} {o : Option α} {f : Nat → α → Option β} {a : α} {r : β} (h : o = some a) (k : Ev (fun n => f n a) r) : Ev (fun n => o.bind (f n)) r := by subst h; exact k
theorem Ev.some {α : Type} {r r' : α} (h : r' = r) : Ev (fun _ => some r') r := by subst h; exact Ev.now _
theorem Ev.eq {α : Type} {o : Option α} {r : α} (h : o = Option.some r) : Ev (fun _ => o) r := ⟨0, fun _ _ => h⟩
theorem w64 {x : Int} (h0 : -9223372036854775808 ≤ x) (h1 : x ≤ 9223372036854775807) : wrap64 x = x := by
 unfold wrap64
 omega
theorem Len.le {B : Nat} {α : Type} {l : List α} (h : Len B l) (hB : 0 < B) : l.length ≤ 140737488351232 := by
 unfold Len at h
 exact Nat.le_trans (Nat.le_mul_of_pos_right _ hB) h
/-! ### loops that count up -/
theorem Ev.upIf {ρ : Type} {n : Nat} (p : Nat → Prop) {g : Nat → Nat → Option ρ} {r : ρ} (hs : ∀ i, i < n → p i → (p (i + 1) → Ev (g (i + 1)) r) → Ev (g i) r) (he : p n → Ev (g n) r) (h0 : p 0) : Ev (g 0) r := by
 have key : ∀ d i, i + d = n → p i → Ev (g i) r := by
  intro d
  induction d with
  | zero => intro i hi hp; obtain rfl : i = n := (by omega); exact he hp
  | succ d ih => intro i hi hp; exact hs i (by omega) hp (fun hp' => ih (i + 1) (by omega) hp')
 exact key n 0 (by omega) h0
theorem Ev.up {ρ : Type} {n : Nat} {g : Nat → Nat → Option ρ} {r : ρ} (hs : ∀ i, i < n → Ev (g (i + 1)) r → Ev (g i) r) (he : Ev (g n) r) : Ev (g 0) r :=
 Ev.upIf (fun _ => True) (fun i hi _ h => hs i hi (h trivial)) (fun _ => he) trivial
theorem w64n {i : Nat} (h : i ≤ 140737488351232) : wrap64 ((i : Int) + 1) = ((i + 1 : Nat) : Int) := by
 rw [w64 (by omega) (by omega)]
 omega
theorem rd_nat (xs : List Int) (i : Nat) : rd xs (i : Int) = xs.getD i 0 := rfl
theorem getD_at {α : Type} {xs : List α} {i : Nat} (h : i < xs.length) (z : α) : xs.getD i z = xs[i] := by simp [List.getD, h]
theorem getD_mem {α : Type} {xs : List α} {i : Nat} (h : i < xs.length) (z : α) : xs.getD i z ∈ xs := by rw [getD_at h]; exact List.getElem_mem h
theorem take_succ_getD {α : Type} {xs : List α} {i : Nat} (h : i < xs.length) (z : α) : xs.take (i + 1) = xs.take i ++ [xs.getD i z] := by
 rw [List.take_succ_eq_append_getElem h, getD_at h]
theorem drop_getD {α : Type} {xs : List α} {i : Nat} (h : i < xs.length) (z : α) : xs.drop i = xs.getD i z :: xs.drop (i + 1) := by
 rw [List.drop_eq_getElem_cons h, getD_at h]
theorem le_sum {α : Type} (f : α → Nat) {xs : List α} {x : α} (h : x ∈ xs) : f x ≤ (xs.map f).sum := by
 induction xs with
 | nil => cases h
 | cons y ys ih =>
  simp only [List.map_cons, List.sum_cons]
  rcases List.mem_cons.1 h with rfl | h
  ·omega
  ·have := ih h
   omega
def foldTo {α σ : Type} (f : σ → α → σ) (s : σ) (xs : List α) (i : Nat) : σ := (xs.take i).foldl f s
theorem foldTo_succ {α σ : Type} (f : σ → α → σ) (s : σ) {xs : List α} {i : Nat} (h : i < xs.length) (z : α) : foldTo f s xs (i + 1) = f (foldTo f s xs i) (xs.getD i z) := by
 unfold foldTo
 rw [take_succ_getD h z, List.foldl_append]
 rfl
theorem foldTo_all {α σ : Type} (f : σ → α → σ) (s : σ) (xs : List α) : foldTo f s xs xs.length = xs.foldl f s := by simp [foldTo]
/-! ### lists told by their index -/
theorem map_range_set {β : Type} (n : Nat) (f : Nat → β) (u : Nat) (v : β) : ((List.range n).map f).set u v = (List.range n).map (fun j => if j = u then v else f j) := by
 apply List.ext_getElem
 ·simp
 ·intro i h1 h2
  rw [List.getElem_set]
  by_cases h : u = i
  ·rw [if_pos h]
   simp [h]
  ·rw [if_neg h]
   simp [Ne.symm h]
theorem map_range_getD {β : Type} {n : Nat} (f : Nat → β) {u : Nat} (h : u < n) (z : β) : ((List.range n).map f).getD u z = f u := by
 rw [getD_at (by simpa using h)]
 simp
theorem map_range_congr {β : Type} {n : Nat} {f g : Nat → β} (h : ∀ i, i < n → f i = g i) : (List.range n).map f = (List.range n).map g :=
 List.map_congr_left fun i hi => h i (List.mem_range.1 hi)
theorem getD_mid {α : Type} (pre suf : List α) (x z : α) {i : Nat} (h : pre.length = i) : (pre ++ x :: suf).getD i z = x := by
 subst h
 simp [List.getD]
end Go.Proofs.Ytiihaabhjphaeaa.Kit
/- A search in breadth from one node: what it comes to, and what holds of its answer. Conditions: none. -/
namespace Go.Proofs.Ytiihaabhjphaeaa.Bfs
open Go.RowKit Go.Proofs.YtiihaabhjphaeaaW.PrintWords Go.Proofs.Ytiihaabhjphaeaa.Kit
def vis (n : Nat) (c : Int) : List Int → List Int → List Int → List Int × List Int
 | [], d, q => (d, q)
 | y :: ys, d, q => if 0 ≤ y ∧ y < n ∧ rd d y < 0 then vis n c ys (d.set y.toNat c) (q ++ [y]) else vis n c ys d q
def bfs (near : Int → List Int) (ex : Int → Bool) (n : Nat) : Nat → List Int → List Int → List Int
 | 0, d, _ => d
 | _ + 1, d, [] => d
 | f + 1, d, x :: q => if ex x = true then bfs near ex n f (vis n (rd d x + 1) (near x) d q).1 (vis n (rd d x + 1) (near x) d q).2 else bfs near ex n f d q
def neg (d : List Int) : Nat := d.countP (fun x => decide (x < 0))
theorem neg_set : ∀ (d : List Int) (i : Nat) (c : Int), i < d.length → d.getD i 0 < 0 → 0 ≤ c → neg (d.set i c) + 1 = neg d
 | [], i, c, h, _, _ => by simp at h
 | x :: d, 0, c, _, h, hc => by
  have h' : x < 0 := by simpa using h
  have hc' : ¬ c < 0 := by omega
  simp [neg, h', hc']
 | x :: d, i + 1, c, h, hx, hc => by
  have := neg_set d i c (by simpa using h) (by simpa using hx) hc
  simp only [neg, List.set_cons_succ, List.countP_cons] at this ⊢
  omega
theorem neg_lt {d : List Int} {x : Int} (hx : x ∈ d) (h : 0 ≤ x) : neg d < d.length := by
 have h1 := List.length_eq_countP_add_countP (fun x : Int => decide (x < 0)) (l := d)
 have h2 : 0 < List.countP (fun a : Int => !decide (a < 0)) d := List.countP_pos_iff.2 ⟨x, hx, by simp; omega⟩
 have h3 : List.countP (fun a : Int => decide ¬ decide (a < 0) = true) d = List.countP (fun a : Int => !decide (a < 0)) d := by
  refine List.countP_congr fun a _ => ?_
  simp
 unfold neg
 omega
theorem rd_set {d : List Int} {i j c : Int} (hi : 0 ≤ i) (hj : 0 ≤ j) (h : i < d.length) : rd (d.set i.toNat c) j = if i = j then c else rd d j := by
 unfold rd
 rw [List.getD_eq_getElem?_getD, List.getElem?_set, List.getD_eq_getElem?_getD]
 by_cases e : i = j
 ·subst e
  rw [if_pos rfl, if_pos rfl, if_pos (by omega)]
  rfl
 ·rw [if_neg (by omega), if_neg e]
theorem rd_mem {d : List Int} {x : Int} (h0 : 0 ≤ x) (h : x < d.length) : rd d x ∈ d := getD_mem (by omega) 0
theorem vis_spec {n : Nat} {c : Int} (hc : 0 ≤ c) : ∀ (ys d q : List Int), d.length = n → ∃ a, (vis n c ys d q).2 = q ++ a ∧ (vis n c ys d q).1.length = n ∧ neg (vis n c ys d q).1 + a.length = neg d ∧
   (∀ y ∈ a, y ∈ ys ∧ 0 ≤ y ∧ y < n ∧ rd (vis n c ys d q).1 y = c) ∧ (∀ v : Int, 0 ≤ v → v < n → rd (vis n c ys d q).1 v = rd d v ∨ rd d v < 0 ∧ rd (vis n c ys d q).1 v = c ∧ v ∈ a) ∧ ∀ y ∈ ys, 0 ≤ y → y < n → 0 ≤ rd (vis n c ys d q).1 y
 | [], d, q, hd => ⟨[], by simp [vis], hd, by simp [vis], by simp, fun v _ _ => .inl rfl, by simp⟩
 | y :: ys, d, q, hd => by
  by_cases h : 0 ≤ y ∧ y < n ∧ rd d y < 0
  ·obtain ⟨a, h1, h2, h3, h4, h5, h6⟩ := vis_spec hc ys (d.set y.toNat c) (q ++ [y]) (by simpa using hd)
   have hs : ∀ v : Int, 0 ≤ v → rd (d.set y.toNat c) v = if y = v then c else rd d v := fun v hv => rd_set h.1 hv (by omega)
   have hy : rd (vis n c ys (d.set y.toNat c) (q ++ [y])).1 y = c := by
    rcases h5 y h.1 h.2.1 with e | ⟨e, _⟩
    ·rw [e, hs y h.1, if_pos rfl]
    ·rw [hs y h.1, if_pos rfl] at e
     omega
   refine ⟨y :: a, ?_, ?_, ?_, ?_, ?_, ?_⟩
   ·simp only [vis, if_pos h]
    rw [h1]
    simp
   ·simp only [vis, if_pos h]
    exact h2
   ·simp only [vis, if_pos h]
    have := neg_set d y.toNat c (by omega) h.2.2 hc
    rw [List.length_cons]
    omega
   ·simp only [vis, if_pos h]
    intro v hv
    rcases List.mem_cons.1 hv with rfl | hv
    ·exact ⟨List.mem_cons_self, h.1, h.2.1, hy⟩
    ·exact ⟨List.mem_cons_of_mem _ (h4 v hv).1, (h4 v hv).2⟩
   ·simp only [vis, if_pos h]
    intro v h0 hn
    by_cases e : y = v
    ·subst e
     exact .inr ⟨h.2.2, hy, List.mem_cons_self⟩
    ·rcases h5 v h0 hn with g | ⟨g1, g2, g3⟩
     ·rw [hs v h0, if_neg e] at g
      exact .inl g
     ·rw [hs v h0, if_neg e] at g1
      exact .inr ⟨g1, g2, List.mem_cons_of_mem _ g3⟩
   ·simp only [vis, if_pos h]
    intro v hv h0 hn
    rcases List.mem_cons.1 hv with rfl | hv
    ·rw [hy]
     exact hc
    ·exact h6 v hv h0 hn
  ·obtain ⟨a, h1, h2, h3, h4, h5, h6⟩ := vis_spec hc ys d q hd
   simp only [vis, if_neg h]
   refine ⟨a, h1, h2, h3, fun v hv => ⟨List.mem_cons_of_mem _ (h4 v hv).1, (h4 v hv).2⟩, h5, ?_⟩
   intro v hv h0 hn
   rcases List.mem_cons.1 hv with rfl | hv
   ·rcases h5 v h0 hn with g | ⟨_, g, _⟩
    ·rw [g]
     omega
    ·omega
   ·exact h6 v hv h0 hn
structure Inv (near : Int → List Int) (ex : Int → Bool) (n : Nat) (dst : Int) (d q : List Int) : Prop where
 len : d.length = n
 din : 0 ≤ dst ∧ dst < n
 d0 : rd d dst = 0
 zero : ∀ x : Int, 0 ≤ x → x < n → rd d x = 0 → x = dst
 qin : ∀ x ∈ q, 0 ≤ x ∧ x < n ∧ 0 ≤ rd d x
 low : ∀ x : Int, 0 ≤ x → x < n → -1 ≤ rd d x
 pred : ∀ v : Int, 0 ≤ v → v < n → 0 < rd d v → ∃ u : Int, 0 ≤ u ∧ u < n ∧ ex u = true ∧ v ∈ near u ∧ rd d u = rd d v - 1
 done : ∀ u : Int, 0 ≤ u → u < n → 0 ≤ rd d u → u ∈ q ∨ (ex u = true → ∀ v ∈ near u, 0 ≤ v → v < n → 0 ≤ rd d v ∧ rd d v ≤ rd d u + 1)
 sorted : q.Pairwise (fun x y => rd d x ≤ rd d y)
 head : ∀ h q', q = h :: q' → ∀ v : Int, 0 ≤ v → v < n → rd d v ≤ rd d h + 1
 bound : ∀ v : Int, 0 ≤ v → v < n → rd d v + neg d < n
theorem Inv.skip {near : Int → List Int} {ex : Int → Bool} {n : Nat} {dst x : Int} {d q : List Int} (H : Inv near ex n dst d (x :: q)) (hx : ¬ ex x = true) : Inv near ex n dst d q := by
 have hs := List.pairwise_cons.1 H.sorted
 refine ⟨H.len, H.din, H.d0, H.zero, fun y hy => H.qin y (List.mem_cons_of_mem _ hy), H.low, H.pred, ?_, hs.2, ?_, H.bound⟩
 ·intro u h0 hn hu
  rcases H.done u h0 hn hu with h | h
  ·rcases List.mem_cons.1 h with rfl | h
   ·exact .inr fun he => absurd he hx
   ·exact .inl h
  ·exact .inr h
 ·intro h q' e v h0 hn
  have h1 := H.head x q rfl v h0 hn
  have h2 := hs.1 h (by rw [e]; exact List.mem_cons_self)
  omega
theorem Inv.step {near : Int → List Int} {ex : Int → Bool} {n : Nat} {dst x : Int} {d q : List Int} (H : Inv near ex n dst d (x :: q)) (hx : ex x = true) :
  Inv near ex n dst (vis n (rd d x + 1) (near x) d q).1 (vis n (rd d x + 1) (near x) d q).2 ∧ neg (vis n (rd d x + 1) (near x) d q).1 + (vis n (rd d x + 1) (near x) d q).2.length + 1 = neg d + (x :: q).length := by
 have hs := List.pairwise_cons.1 H.sorted
 have hxi := H.qin x List.mem_cons_self
 obtain ⟨a, h1, h2, h3, h4, h5, h6⟩ := vis_spec (n := n) (c := rd d x + 1) (by omega) (near x) d q H.len
 generalize (vis n (rd d x + 1) (near x) d q).1 = d' at *
 generalize (vis n (rd d x + 1) (near x) d q).2 = q' at *
 subst h1
 have keep : ∀ v : Int, 0 ≤ v → v < n → 0 ≤ rd d v → rd d' v = rd d v := fun v h0 hn hv => by
  rcases h5 v h0 hn with e | ⟨e, _⟩
  ·exact e
  ·omega
 have up : ∀ v : Int, 0 ≤ v → v < n → rd d' v ≤ rd d x + 1 := fun v h0 hn => by
  rcases h5 v h0 hn with e | ⟨_, e, _⟩
  ·rw [e]
   exact H.head x q rfl v h0 hn
  ·omega
 have hbx := H.bound x hxi.1 hxi.2.1
 refine ⟨⟨h2, H.din, ?_, ?_, ?_, ?_, ?_, ?_, ?_, ?_, ?_⟩, ?_⟩
 ·rw [keep _ H.din.1 H.din.2 (by rw [H.d0]; omega), H.d0]
 ·intro v h0 hn e
  rcases h5 v h0 hn with g | ⟨_, g, _⟩
  ·exact H.zero v h0 hn (by omega)
  ·omega
 ·intro v hv
  rcases List.mem_append.1 hv with hv | hv
  ·have := H.qin v (List.mem_cons_of_mem _ hv)
   rw [keep v this.1 this.2.1 this.2.2]
   exact this
  ·have := h4 v hv
   exact ⟨this.2.1, this.2.2.1, by omega⟩
 ·intro v h0 hn
  have := H.low v h0 hn
  rcases h5 v h0 hn with g | ⟨_, g, _⟩ <;> omega
 ·intro v h0 hn hv
  rcases h5 v h0 hn with g | ⟨_, g, hm⟩
  ·obtain ⟨u, hu0, hun, he, hm, hd⟩ := H.pred v h0 hn (by omega)
   exact ⟨u, hu0, hun, he, hm, by rw [keep u hu0 hun (by omega)]; omega⟩
  ·exact ⟨x, hxi.1, hxi.2.1, hx, (h4 v hm).1, by rw [keep x hxi.1 hxi.2.1 hxi.2.2]; omega⟩
 ·intro u h0 hn hu
  rcases h5 u h0 hn with g | ⟨_, g, hm⟩
  ·rcases H.done u h0 hn (by omega) with h | h
   ·rcases List.mem_cons.1 h with rfl | h
    ·refine .inr fun _ v hv hv0 hvn => ⟨h6 v hv hv0 hvn, ?_⟩
     have := up v hv0 hvn
     omega
    ·exact .inl (List.mem_append_left _ h)
   ·refine .inr fun he v hv hv0 hvn => ?_
    have := h he v hv hv0 hvn
    rw [keep v hv0 hvn this.1]
    omega
  ·exact .inl (List.mem_append_right _ hm)
 ·refine List.pairwise_append.2 ⟨?_, ?_, ?_⟩
  ·refine List.Pairwise.imp_of_mem ?_ hs.2
   intro u v hu hv huv
   have h1 := H.qin u (List.mem_cons_of_mem _ hu)
   have h2 := H.qin v (List.mem_cons_of_mem _ hv)
   rw [keep u h1.1 h1.2.1 h1.2.2, keep v h2.1 h2.2.1 h2.2.2]
   exact huv
  ·refine List.Pairwise.imp_of_mem (R := fun _ _ => True) ?_ (List.pairwise_iff_getElem.2 fun _ _ _ _ _ => trivial)
   intro u v hu hv _
   rw [(h4 u hu).2.2.2, (h4 v hv).2.2.2]
   omega
  ·intro u hu v hv
   rw [(h4 v hv).2.2.2]
   have h1 := H.qin u (List.mem_cons_of_mem _ hu)
   exact up u h1.1 h1.2.1
 ·intro h q'' e v h0 hn
  have h1 := up v h0 hn
  have hm : h ∈ q ++ a := by rw [e]; exact List.mem_cons_self
  rcases List.mem_append.1 hm with hm | hm
  ·have h2 := hs.1 h hm
   have h3 := H.qin h (List.mem_cons_of_mem _ hm)
   rw [keep h h3.1 h3.2.1 h3.2.2]
   omega
  ·rw [(h4 h hm).2.2.2]
   omega
 ·intro v h0 hn
  rcases h5 v h0 hn with g | ⟨_, g, hm⟩
  ·have := H.bound v h0 hn
   omega
  ·have : 0 < a.length := List.length_pos_of_mem hm
   omega
 ·rw [List.length_append, List.length_cons]
  omega
theorem bfs_inv {near : Int → List Int} {ex : Int → Bool} {n : Nat} {dst : Int} : ∀ (f : Nat) (d q : List Int), Inv near ex n dst d q → neg d + q.length ≤ f → Inv near ex n dst (bfs near ex n f d q) []
 | 0, d, [], H, _ => H
 | 0, d, x :: q, H, h => by simp at h
 | f + 1, d, [], H, _ => H
 | f + 1, d, x :: q, H, h => by
  simp only [bfs]
  by_cases hx : ex x = true
  ·rw [if_pos hx]
   have := H.step hx
   exact bfs_inv f _ _ this.1 (by omega)
  ·rw [if_neg hx]
   rw [List.length_cons] at h
   exact bfs_inv f _ _ (H.skip hx) (by omega)
def start (n : Nat) (dst : Int) : List Int := (List.replicate n (-1)).set dst.toNat 0
theorem rd_start {n : Nat} {dst v : Int} (hd : 0 ≤ dst ∧ dst < n) (h0 : 0 ≤ v) (hn : v < n) : rd (start n dst) v = if dst = v then 0 else -1 := by
 unfold start
 rw [rd_set hd.1 h0 (by simpa using hd.2)]
 by_cases e : dst = v
 ·rw [if_pos e, if_pos e]
 ·rw [if_neg e, if_neg e]
  unfold rd
  rw [List.getD_eq_getElem?_getD, List.getElem?_replicate, if_pos (by omega)]
  rfl
theorem inv_start (near : Int → List Int) (ex : Int → Bool) {n : Nat} {dst : Int} (hd : 0 ≤ dst ∧ dst < n) : Inv near ex n dst (start n dst) [dst] := by
 have hr : ∀ v : Int, 0 ≤ v → v < n → rd (start n dst) v = if dst = v then 0 else -1 := fun v h0 hn => rd_start hd h0 hn
 have h00 : rd (start n dst) dst = 0 := by rw [hr dst hd.1 hd.2, if_pos rfl]
 have hlen : (start n dst).length = n := by simp [start]
 have hneg : neg (start n dst) < n := by
  have := neg_lt (rd_mem hd.1 (by rw [hlen]; exact hd.2)) (by rw [h00]; omega : 0 ≤ rd (start n dst) dst)
  omega
 refine ⟨hlen, hd, h00, ?_, ?_, ?_, ?_, ?_, ?_, ?_, ?_⟩
 ·intro x h0 hn e
  rw [hr x h0 hn] at e
  split at e
  ·omega
  ·omega
 ·intro x hx
  rw [List.mem_singleton] at hx
  subst hx
  exact ⟨hd.1, hd.2, by omega⟩
 ·intro x h0 hn
  rw [hr x h0 hn]
  split <;> omega
 ·intro v h0 hn hv
  rw [hr v h0 hn] at hv
  split at hv <;> omega
 ·intro u h0 hn hu
  rw [hr u h0 hn] at hu
  split at hu
  ·rename_i e
   exact .inl (List.mem_singleton.2 e.symm)
  ·omega
 ·exact List.pairwise_singleton _ _
 ·intro h q' e v h0 hn
  injection e with e1 e2
  subst e1
  rw [h00, hr v h0 hn]
  split <;> omega
 ·intro v h0 hn
  rw [hr v h0 hn]
  split <;> omega
theorem neg_start_le {n : Nat} {dst : Int} (hd : 0 ≤ dst ∧ dst < n) : neg (start n dst) + 1 ≤ n := by
 have := (inv_start (fun _ => []) (fun _ => true) hd).bound dst hd.1 hd.2
 rw [rd_start hd hd.1 hd.2, if_pos rfl] at this
 omega
def dist (near : Int → List Int) (ex : Int → Bool) (n : Nat) (dst : Int) : List Int := bfs near ex n n (start n dst) [dst]
theorem dist_inv (near : Int → List Int) (ex : Int → Bool) {n : Nat} {dst : Int} (hd : 0 ≤ dst ∧ dst < n) : Inv near ex n dst (dist near ex n dst) [] :=
 bfs_inv n _ _ (inv_start near ex hd) (neg_start_le hd)
end Go.Proofs.Ytiihaabhjphaeaa.Bfs
/- Rows of numbers in order, without doubles: there is one for each set. Conditions: none. -/
namespace Go.Proofs.Ytiihaabhjphaeaa.Nb
def Up (l : List Int) : Prop := l.Pairwise (fun x y => x < y)
theorem up_uniq : ∀ {a b : List Int}, Up a → Up b → (∀ x, x ∈ a ↔ x ∈ b) → a = b
 | [], [], _, _, _ => rfl
 | [], y :: b, _, _, h => by
  have := (h y).2 List.mem_cons_self
  cases this
 | x :: a, [], _, _, h => by
  have := (h x).1 List.mem_cons_self
  cases this
 | x :: a, y :: b, ha, hb, h => by
  have h1 := List.pairwise_cons.1 ha
  have h2 := List.pairwise_cons.1 hb
  have e : x = y := by
   rcases List.mem_cons.1 ((h x).1 List.mem_cons_self) with e | m1
   ·exact e
   ·rcases List.mem_cons.1 ((h y).2 List.mem_cons_self) with e | m2
    ·exact e.symm
    ·have := h2.1 x m1
     have := h1.1 y m2
     omega
  subst e
  rw [up_uniq h1.2 h2.2 fun z => ?_]
  constructor
  ·intro hz
   rcases List.mem_cons.1 ((h z).1 (List.mem_cons_of_mem _ hz)) with e | m
   ·have := h1.1 z hz
    omega
   ·exact m
  ·intro hz
   rcases List.mem_cons.1 ((h z).2 (List.mem_cons_of_mem _ hz)) with e | m
   ·have := h2.1 z hz
    omega
   ·exact m
theorem compact_up {zs : List Int} (hs : zs.Pairwise (fun x y => x ≤ y)) : Up (Go.Lib.compact zs) ∧ ∀ x, x ∈ Go.Lib.compact zs ↔ x ∈ zs := by
 have hg : ∀ i j, i < j → j < zs.length → zs.toArray[i]! ≤ zs.toArray[j]! := by
  intro i j hij hj
  have := List.pairwise_iff_getElem.1 hs i j (by omega) hj hij
  rw [getElem!_pos zs.toArray i (by simp; omega), getElem!_pos zs.toArray j (by simp; omega)]
  simpa using this
 have key : ∀ m, m ≤ zs.length → Up (Go.Lib.compactUpTo zs.toArray m) ∧ ∀ x, x ∈ Go.Lib.compactUpTo zs.toArray m ↔ ∃ j, j < m ∧ zs.toArray[j]! = x := by
  intro m
  induction m with
  | zero => exact fun _ => ⟨by simp [Up, Go.Lib.compactUpTo], fun x => by simp [Go.Lib.compactUpTo]⟩
  | succ m ih =>
   intro hm
   obtain ⟨h1, h2⟩ := ih (by omega)
   rw [Go.Lib.compactUpTo_succ]
   by_cases hk : Go.Lib.keeps zs.toArray m = true
   ·rw [if_pos hk]
    refine ⟨List.pairwise_append.2 ⟨h1, List.pairwise_singleton _ _, ?_⟩, ?_⟩
    ·intro x hx y hy
     rw [List.mem_singleton] at hy
     subst hy
     obtain ⟨j, hj, rfl⟩ := (h2 x).1 hx
     have h3 := hg j m hj (by omega)
     have h5 : zs.toArray[m]! ≠ zs.toArray[m - 1]! := by
      intro e
      rw [Go.Lib.keeps_neg (by omega) e] at hk
      cases hk
     have h4 : zs.toArray[j]! ≤ zs.toArray[m - 1]! := by
      by_cases e : j = m - 1
      ·rw [e]
       omega
      ·exact hg j (m - 1) (by omega) (by omega)
     have h6 := hg (m - 1) m (by omega) (by omega)
     omega
    ·intro x
     rw [List.mem_append, h2, List.mem_singleton]
     constructor
     ·rintro (⟨j, hj, e⟩ | e)
      ·exact ⟨j, by omega, e⟩
      ·exact ⟨m, by omega, e.symm⟩
     ·rintro ⟨j, hj, e⟩
      by_cases hjm : j = m
      ·subst hjm
       exact .inr e.symm
      ·exact .inl ⟨j, by omega, e⟩
   ·rw [if_neg hk, List.append_nil]
    refine ⟨h1, fun x => ?_⟩
    rw [h2]
    have hm0 : 0 < m := by
     refine Nat.pos_of_ne_zero fun e => ?_
     subst e
     exact hk (Go.Lib.keeps_lt_one _ 0 (by omega))
    have he : zs.toArray[m]! = zs.toArray[m - 1]! := by
     refine Classical.byContradiction fun h => ?_
     exact hk (Go.Lib.keeps_pos h)
    constructor
    ·rintro ⟨j, hj, e⟩
     exact ⟨j, by omega, e⟩
    ·rintro ⟨j, hj, e⟩
     by_cases hjm : j = m
     ·subst hjm
      exact ⟨j - 1, by omega, by rw [← he, e]⟩
     ·exact ⟨j, by omega, e⟩
 obtain ⟨h1, h2⟩ := key zs.length (Nat.le_refl _)
 refine ⟨h1, fun x => ?_⟩
 show x ∈ Go.Lib.compactUpTo zs.toArray zs.length ↔ _
 rw [h2]
 constructor
 ·rintro ⟨j, hj, rfl⟩
  rw [getElem!_pos zs.toArray j (by simpa using hj)]
  simp
 ·intro hx
  obtain ⟨j, hj, e⟩ := List.getElem_of_mem hx
  refine ⟨j, hj, ?_⟩
  rw [getElem!_pos zs.toArray j (by simpa using hj)]
  simpa using e
theorem sorted_up (zs : List Int) : Up (Go.Lib.compact (zs.mergeSort fun x y => decide (x ≤ y))) ∧ ∀ x, x ∈ Go.Lib.compact (zs.mergeSort fun x y => decide (x ≤ y)) ↔ x ∈ zs := by
 have h1 := List.pairwise_mergeSort (le := fun x y : Int => decide (x ≤ y)) (by intro a b c; simp; omega) (by intro a b; simp; omega) zs
 have h2 := compact_up (zs := zs.mergeSort fun x y => decide (x ≤ y)) (h1.imp (by intro a b h; simpa using h))
 refine ⟨h2.1, fun x => ?_⟩
 rw [h2.2, List.mem_mergeSort]
theorem up_put {out : List Int} {n : Int} {k : Nat} (hu : Up out) (hlt : ∀ x ∈ out.take k, x < n) (hge : ∀ x ∈ out.drop k, n < x) : Up (out.take k ++ n :: out.drop k) ∧ ∀ x, x ∈ out.take k ++ n :: out.drop k ↔ x ∈ out ∨ x = n := by
 have h0 := List.take_append_drop k out
 have hu' : Up (out.take k ++ out.drop k) := by rw [h0]; exact hu
 have h3 := List.pairwise_append.1 hu'
 refine ⟨List.pairwise_append.2 ⟨h3.1, List.pairwise_cons.2 ⟨hge, h3.2.1⟩, ?_⟩, ?_⟩
 ·intro x hx y hy
  rcases List.mem_cons.1 hy with rfl | hy
  ·exact hlt x hx
  ·exact h3.2.2 x hx y hy
 ·intro x
  have : x ∈ out ↔ x ∈ out.take k ∨ x ∈ out.drop k := by rw [← List.mem_append, h0]
  rw [this, List.mem_append, List.mem_cons]
  constructor
  ·rintro (h | h | h)
   ·exact .inl (.inl h)
   ·exact .inr h
   ·exact .inl (.inr h)
  ·rintro ((h | h) | h)
   ·exact .inl h
   ·exact .inr (.inr h)
   ·exact .inr (.inl h)
end Go.Proofs.Ytiihaabhjphaeaa.Nb
/- What neighbors, distances, next nodes and paths come to. Conditions: none. -/
namespace Go.Proofs.Ytiihaabhjphaeaa.fnMargins
open Go.RowKit Go.Proofs.YtiihaabhjphaeaaW.PrintWords Go.Proofs.YtiihaabhjphaeaaW.PrintLast Go.Proofs.YtiihaabhjphaeaaW.PrintMore Go.Proofs.Ytiihaabhjphaeaa.QFnMargins Go.Proofs.Ytiihaabhjphaeaa.Open Go.Proofs.Ytiihaabhjphaeaa.Kit Go.Proofs.Ytiihaabhjphaeaa.Nb Go.Proofs.Ytiihaabhjphaeaa.Bfs
theorem ixP (a n : Int) : impl_isIndex.f a n = some (decide (0 ≤ a ∧ a < n)) := by
 unfold impl_isIndex.f
 by_cases h : a ≥ 0
 ·rw [if_pos h]
  simp [h]
 ·rw [if_neg h]
  simp
  omega
theorem inP (a b c : Int) : spec_l1In.f a b c = some (decide (b ≤ a ∧ a ≤ c)) := by
 unfold spec_l1In.f
 by_cases h : a ≥ b
 ·rw [if_pos h]
  simp [h]
 ·rw [if_neg h]
  simp
  omega
theorem rgP (a b c : Int) : impl_InRange.f a b c = some (decide (b ≤ a ∧ a ≤ c)) := by
 unfold impl_InRange.f
 by_cases h : b ≤ a
 ·rw [if_pos h]
  simp [h]
 ·rw [if_neg h]
  simp
  omega
theorem drop_cons {α : Type} {xs ys : List α} {y z : α} {i : Nat} (h : xs.drop i = y :: ys) : i < xs.length ∧ xs.getD i z = y ∧ xs.drop (i + 1) = ys := by
 have hi : i < xs.length := by
  refine Nat.lt_of_not_le fun hn => ?_
  rw [List.drop_of_length_le hn] at h
  cases h
 rw [drop_getD hi z] at h
 injection h with h1 h2
 exact ⟨hi, h1, h2⟩
/-! ### neighbors -/
def nbOf (v : Int) (x : S134) : List Int := (if x.f0 = v then [x.f1] else []) ++ (if x.f1 = v then [x.f0] else [])
def nbRaw (l : List S134) (v : Int) : List Int := l.flatMap (nbOf v)
def nb (l : List S134) (v : Int) : List Int := Go.Lib.compact ((nbRaw l v).mergeSort fun x y => decide (x ≤ y))
def Links (l : List S134) (v y : Int) : Prop := ∃ x ∈ l, x.f0 = v ∧ x.f1 = y ∨ x.f1 = v ∧ x.f0 = y
theorem mem_nbOf {v y : Int} {x : S134} : y ∈ nbOf v x ↔ x.f0 = v ∧ x.f1 = y ∨ x.f1 = v ∧ x.f0 = y := by
 unfold nbOf
 rw [List.mem_append]
 constructor
 ·rintro (h | h)
  ·split at h
   ·rename_i c
    exact .inl ⟨c, (List.mem_singleton.1 h).symm⟩
   ·cases h
  ·split at h
   ·rename_i c
    exact .inr ⟨c, (List.mem_singleton.1 h).symm⟩
   ·cases h
 ·rintro (⟨h1, h2⟩ | ⟨h1, h2⟩)
  ·left
   rw [if_pos h1]
   exact List.mem_singleton.2 h2.symm
  ·right
   rw [if_pos h1]
   exact List.mem_singleton.2 h2.symm
theorem mem_nb {l : List S134} {v y : Int} : y ∈ nb l v ↔ Links l v y := by
 rw [nb, (sorted_up (nbRaw l v)).2 y, nbRaw, List.mem_flatMap]
 constructor
 ·rintro ⟨x, hx, h⟩
  exact ⟨x, hx, mem_nbOf.1 h⟩
 ·rintro ⟨x, hx, h⟩
  exact ⟨x, hx, mem_nbOf.2 h⟩
theorem nb_up (l : List S134) (v : Int) : Up (nb l v) := (sorted_up (nbRaw l v)).1
theorem nbOf_len (v : Int) (x : S134) : (nbOf v x).length ≤ 2 := by
 unfold nbOf
 split <;> split <;> simp
theorem nbRaw_len (l : List S134) (v : Int) : (nbRaw l v).length ≤ 2 * l.length := by
 unfold nbRaw
 induction l with
 | nil => simp
 | cons x l ih =>
  rw [List.flatMap_cons, List.length_append, List.length_cons]
  have := nbOf_len v x
  omega
theorem nb_len (l : List S134) (v : Int) : (nb l v).length ≤ 2 * l.length := by
 have h1 : (nb l v).length ≤ ((nbRaw l v).mergeSort fun x y => decide (x ≤ y)).length := by
  unfold nb Go.Lib.compact Go.Lib.compactUpTo
  rw [List.length_map]
  exact Nat.le_trans (List.length_filter_le _ _) (by simp)
 rw [List.length_mergeSort] at h1
 have := nbRaw_len l v
 omega
theorem nbI_l0 {l : List S134} (hl : l.length ≤ 1048576) (v : Int) : ∀ (d i : Nat), i + d = l.length → Ev (fun k => impl_NeighborsIn.l0 k v (nbRaw (l.take i) v) l (l.length : Int) (i : Int)) (nb l v) := by
 intro d
 induction d with
 | zero =>
  intro i hi
  have hr := nbRaw_len l v
  rw [List.take_of_length_le (by omega)]
  refine Ev.step (fun k => by rw [impl_NeighborsIn.l0]) ?_
  refine Ev.ite_neg (by omega) (Ev.bind0 (a := (nbRaw l v).mergeSort fun x y => decide (x ≤ y)) ?_ (Ev.bind0 (a := nb l v) ?_ (Ev.now _)))
  ·unfold slices_Sort_int_int.f
   rw [if_pos (by omega)]
  ·unfold slices_Compact_int_int.f
   rw [if_pos (by rw [List.length_mergeSort]; omega)]
   rfl
 | succ d ih =>
  intro i hi
  have hr := nbRaw_len (l.take i) v
  rw [List.length_take] at hr
  have h := ih (i + 1) (by omega)
  have he : nbRaw (l.take (i + 1)) v = nbRaw (l.take i) v ++ nbOf v (rd_T134 l (i : Int)) := by
   unfold nbRaw
   rw [take_succ_getD (show i < l.length by omega) z134, List.flatMap_append]
   simp
   rfl
  rw [he] at h
  refine Ev.step (fun k => by rw [impl_NeighborsIn.l0]) ?_
  refine Ev.ite_pos (by omega) (Ev.ite_pos (by omega) (Ev.ite_pos (by omega) ?_))
  rw [w64n (by omega)]
  by_cases c1 : (rd_T134 l (i : Int)).f0 = v
  ·refine Ev.ite_pos c1 (Ev.ite_pos (by omega) (Ev.bind0 rfl ?_))
   by_cases c2 : (rd_T134 l (i : Int)).f1 = v
   ·refine Ev.ite_pos c2 (Ev.ite_pos (by rw [List.length_append, List.length_singleton]; omega) ?_)
    unfold nbOf at h
    rw [if_pos c1, if_pos c2, ← List.append_assoc] at h
    exact h
   ·refine Ev.ite_neg c2 ?_
    unfold nbOf at h
    rw [if_pos c1, if_neg c2, List.append_nil] at h
    exact h
  ·refine Ev.ite_neg c1 ?_
   by_cases c2 : (rd_T134 l (i : Int)).f1 = v
   ·refine Ev.ite_pos c2 (Ev.ite_pos (by omega) ?_)
    unfold nbOf at h
    rw [if_neg c1, if_pos c2, List.nil_append] at h
    exact h
   ·refine Ev.ite_neg c2 ?_
    unfold nbOf at h
    rw [if_neg c1, if_neg c2, List.append_nil, List.append_nil] at h
    exact h
theorem nbI {l : List S134} (hl : l.length ≤ 1048576) (v : Int) : Ev (fun k => impl_NeighborsIn.f k l v) (nb l v) := nbI_l0 hl v l.length 0 (by omega)
def NbTo (l : List S134) (v : Int) (i : Nat) (out : List Int) : Prop := Up out ∧ out.length ≤ i ∧ ∀ y, y ∈ out ↔ Links (l.take i) v y
theorem nbS_l1 {l : List S134} {v n : Int} {i : Nat} {out r : List Int} (hl : l.length ≤ 1048576) (hi : i < l.length) (hu : Up out) (ho : out.length ≤ i)
  (hk : ∀ out', Up out' → out'.length ≤ i + 1 → (∀ x, x ∈ out' ↔ x ∈ out ∨ x = n) → Ev (fun k => spec_NeighborsIn.l0 k l v out' ((i + 1 : Nat) : Int)) r) :
  ∀ (d q : Nat), q + d = out.length → (∀ x ∈ out.take q, x < n) → Ev (fun k => spec_NeighborsIn.l1 k l v out (i : Int) n (q : Int)) r := by
 intro d
 induction d with
 | zero =>
  intro q hq hlt
  have hp := up_put (k := q) hu hlt (by rw [List.drop_of_length_le (by omega)]; simp)
  have hlen : (out.take q ++ n :: out.drop q).length = out.length + 1 := by
   rw [List.length_append, List.length_cons, List.length_take, List.length_drop]
   omega
  have h := hk _ hp.1 (by omega) hp.2
  refine Ev.step (fun k => by rw [spec_NeighborsIn.l1]) ?_
  refine Ev.ite_neg (by omega) (Ev.ite_pos (by omega) (Ev.bind0 rfl (Ev.ite_pos (by omega) (Ev.ite_pos (by omega) ?_))))
  rw [Int.toNat_natCast, w64n (by omega)]
  refine Ev.bind0 rfl (Ev.ite_pos ?_ (Ev.bind0 rfl (Ev.bind0 rfl (Ev.ite_pos ?_ (Ev.bind0 rfl (Ev.bind0 rfl (Ev.ite_pos ?_ ?_)))))))
  ·simp only [List.length_nil, List.length_take]
   omega
  ·simp only [List.length_append, List.length_nil, List.length_take, List.length_cons]
   omega
  ·simp only [List.length_append, List.length_nil, List.length_take, List.length_cons, List.length_drop]
   omega
  ·rw [List.nil_append, List.append_assoc]
   exact h
 | succ d ih =>
  intro q hq hlt
  have hql : q < out.length := by omega
  refine Ev.step (fun k => by rw [spec_NeighborsIn.l1]) ?_
  refine Ev.ite_pos (by omega) (Ev.ite_pos (by omega) ?_)
  rw [rd_nat]
  by_cases c : out.getD q 0 < n
  ·refine Ev.ite_pos c ?_
   rw [w64n (by omega)]
   refine ih (q + 1) (by omega) ?_
   intro x hx
   rw [take_succ_getD hql 0, List.mem_append, List.mem_singleton] at hx
   rcases hx with hx | rfl
   ·exact hlt x hx
   ·exact c
  ·refine Ev.ite_neg c (Ev.ite_neg (by omega) ?_)
   rw [w64n (by omega)]
   by_cases c2 : out.getD q 0 = n
   ·refine Ev.ite_pos c2 (hk out hu (by omega) fun x => ⟨.inl, ?_⟩)
    rintro (h | rfl)
    ·exact h
    ·rw [← c2]
     exact getD_mem hql 0
   ·have hge : ∀ x ∈ out.drop q, n < x := by
     intro x hx
     have h1 : Up (out.drop q) := List.Pairwise.sublist (List.drop_sublist q out) hu
     rw [drop_getD hql 0] at h1 hx
     rcases List.mem_cons.1 hx with rfl | hx
     ·omega
     ·have := (List.pairwise_cons.1 h1).1 x hx
      omega
    have hp := up_put (k := q) hu hlt hge
    have hlen : (out.take q ++ n :: out.drop q).length = out.length + 1 := by
     rw [List.length_append, List.length_cons, List.length_take, List.length_drop]
     omega
    have h := hk _ hp.1 (by omega) hp.2
    refine Ev.ite_neg c2 (Ev.bind0 rfl (Ev.ite_pos (by omega) ?_))
    rw [Int.toNat_natCast]
    refine Ev.bind0 rfl (Ev.ite_pos ?_ (Ev.bind0 rfl (Ev.bind0 rfl (Ev.ite_pos ?_ (Ev.bind0 rfl (Ev.bind0 rfl (Ev.ite_pos ?_ ?_)))))))
    ·simp only [List.length_nil, List.length_take]
     omega
    ·simp only [List.length_append, List.length_nil, List.length_take, List.length_cons]
     omega
    ·simp only [List.length_append, List.length_nil, List.length_take, List.length_cons, List.length_drop]
     omega
    ·rw [List.nil_append, List.append_assoc]
     exact h
theorem nbS_l0 {l : List S134} (hl : l.length ≤ 1048576) (v : Int) : ∀ (d i : Nat) (out : List Int), i + d = l.length → NbTo l v i out → Ev (fun k => spec_NeighborsIn.l0 k l v out (i : Int)) (nb l v) := by
 intro d
 induction d with
 | zero =>
  intro i out hi ho
  refine Ev.step (fun k => by rw [spec_NeighborsIn.l0]) ?_
  refine Ev.ite_neg (by omega) (Ev.some (up_uniq ho.1 (nb_up l v) fun x => ?_))
  rw [ho.2.2 x, mem_nb, List.take_of_length_le (by omega)]
 | succ d ih =>
  intro i out hi ho
  have hL : ∀ y, Links (l.take (i + 1)) v y ↔ Links (l.take i) v y ∨ ((rd_T134 l (i : Int)).f0 = v ∧ (rd_T134 l (i : Int)).f1 = y ∨ (rd_T134 l (i : Int)).f1 = v ∧ (rd_T134 l (i : Int)).f0 = y) := by
   intro y
   unfold Links
   rw [take_succ_getD (show i < l.length by omega) z134]
   constructor
   ·rintro ⟨x, hx, h⟩
    rcases List.mem_append.1 hx with hx | hx
    ·exact .inl ⟨x, hx, h⟩
    ·rw [List.mem_singleton.1 hx] at h
     exact .inr h
   ·rintro (⟨x, hx, h⟩ | h)
    ·exact ⟨x, List.mem_append_left _ hx, h⟩
    ·exact ⟨_, List.mem_append_right _ (List.mem_singleton.2 rfl), h⟩
  refine Ev.step (fun k => by rw [spec_NeighborsIn.l0]) ?_
  refine Ev.ite_pos (by omega) (Ev.ite_pos (by omega) ?_)
  by_cases c1 : (rd_T134 l (i : Int)).f0 = v
  ·refine Ev.ite_pos c1 ?_
   refine Ev.step (fun k => by rw [spec_NeighborsIn.j1]) ?_
   refine nbS_l1 (i := i) hl (by omega) ho.1 ho.2.1 (fun out' hu hlen hm => ih (i + 1) out' (by omega) ⟨hu, hlen, fun y => ?_⟩) out.length 0 (by omega) (by simp)
   rw [hm, hL, ho.2.2 y]
   constructor
   ·rintro (h | h)
    ·exact .inl h
    ·exact .inr (.inl ⟨c1, h.symm⟩)
   ·rintro (h | ⟨_, h⟩ | ⟨h1, h2⟩)
    ·exact .inl h
    ·exact .inr h.symm
    ·exact .inr (by omega)
  ·refine Ev.ite_neg c1 ?_
   by_cases c2 : (rd_T134 l (i : Int)).f1 = v
   ·refine Ev.ite_pos c2 ?_
    refine Ev.step (fun k => by rw [spec_NeighborsIn.j1]) ?_
    refine nbS_l1 (i := i) hl (by omega) ho.1 ho.2.1 (fun out' hu hlen hm => ih (i + 1) out' (by omega) ⟨hu, hlen, fun y => ?_⟩) out.length 0 (by omega) (by simp)
    rw [hm, hL, ho.2.2 y]
    constructor
    ·rintro (h | h)
     ·exact .inl h
     ·exact .inr (.inr ⟨c2, h.symm⟩)
    ·rintro (h | ⟨h, _⟩ | ⟨_, h⟩)
     ·exact .inl h
     ·exact absurd h c1
     ·exact .inr h.symm
   ·refine Ev.ite_neg c2 ?_
    rw [w64n (by omega)]
    refine ih (i + 1) out (by omega) ⟨ho.1, by have := ho.2.1; omega, fun y => ?_⟩
    rw [hL, ho.2.2 y]
    constructor
    ·exact .inl
    ·rintro (h | ⟨h, _⟩ | ⟨h, _⟩)
     ·exact h
     ·exact absurd h c1
     ·exact absurd h c2
theorem nbS {l : List S134} (hl : l.length ≤ 1048576) (v : Int) : Ev (fun k => spec_NeighborsIn.f k l v) (nb l v) := by
 refine nbS_l0 hl v l.length 0 [] (by omega) ⟨List.Pairwise.nil, by simp, fun y => ?_⟩
 simp [Links]
/-! ### distances -/
def exB (first dst x : Int) : Bool := decide (x = dst ∨ x < first)
def dists (l : List S134) (n first dst : Int) : List Int := if (1 ≤ n ∧ n ≤ 12) ∧ 0 ≤ dst ∧ dst < n then dist (nb l) (exB first dst) n.toNat dst else []
theorem dists_inv {l : List S134} {n first dst : Int} (h : (1 ≤ n ∧ n ≤ 12) ∧ 0 ≤ dst ∧ dst < n) : Inv (nb l) (exB first dst) n.toNat dst (dists l n first dst) [] := by
 unfold dists
 rw [if_pos h]
 exact dist_inv _ _ ⟨h.2.1, by omega⟩
theorem distI_l2 {l : List S134} {n : Nat} {first dst x c : Int} {near r : List Int} (hn : n ≤ 12) (hx : 0 ≤ x ∧ x < n) (hc : 1 ≤ c ∧ c ≤ 100) (hnear : near.length ≤ 10000000) :
  ∀ (ys : List Int) (i : Nat) (d q : List Int), near.drop i = ys → i ≤ near.length → d.length = n → rd d x = c - 1 → q.length + neg d ≤ 100 →
   Ev (fun k => impl_DistancesTo.l1 k l (n : Int) first dst (vis n c ys d q).1 (vis n c ys d q).2) r → Ev (fun k => impl_DistancesTo.l2 k l (n : Int) first dst d (x :: q) x near (near.length : Int) (i : Int)) r
 | [], i, d, q, hy, hi, hd, hr, hq, h => by
  have hi' : near.length ≤ i := List.drop_eq_nil_iff.1 hy
  refine Ev.step (fun k => by rw [impl_DistancesTo.l2]) ?_
  refine Ev.ite_neg (by omega) (Ev.ite_pos ?_ h)
  rw [List.length_cons]
  omega
 | y :: ys, i, d, q, hy, hi, hd, hr, hq, h => by
  obtain ⟨hi', hg, hy'⟩ := drop_cons (z := 0) hy
  refine Ev.step (fun k => by rw [impl_DistancesTo.l2]) ?_
  refine Ev.ite_pos (by omega) (Ev.ite_pos (by omega) (Ev.ite_pos (by omega) ?_))
  rw [rd_nat, hg, w64n (by omega)]
  refine Ev.bind0 (ixP y n) ?_
  by_cases c1 : 0 ≤ y ∧ y < n
  ·refine Ev.ite_pos (decide_eq_true c1) (Ev.ite_pos c1.1 (Ev.ite_pos (by omega) ?_))
   by_cases c2 : rd d y < 0
   ·refine Ev.ite_pos c2 (Ev.ite_pos hx.1 (Ev.ite_pos (by omega) (Ev.ite_pos (by rw [List.length_cons]; omega) ?_)))
    have hng := neg_set d y.toNat c (by omega) c2 (by omega)
    rw [hr, show c - 1 + 1 = c by omega, w64 (by omega) (by omega)]
    have hxy : y ≠ x := by
     intro e
     subst e
     omega
    refine distI_l2 hn hx hc hnear ys (i + 1) (d.set y.toNat c) (q ++ [y]) hy' (by omega) (by rw [List.length_set]; exact hd) ?_ ?_ ?_
    ·rw [rd_set c1.1 hx.1 (by omega), if_neg hxy, hr]
    ·rw [List.length_append, List.length_singleton]
     omega
    ·simp only [vis, if_pos (show 0 ≤ y ∧ y < n ∧ rd d y < 0 from ⟨c1.1, c1.2, c2⟩)] at h
     exact h
   ·refine Ev.ite_neg c2 (distI_l2 hn hx hc hnear ys (i + 1) d q hy' (by omega) hd hr hq ?_)
    simp only [vis, if_neg (show ¬ (0 ≤ y ∧ y < n ∧ rd d y < 0) from fun h => c2 h.2.2)] at h
    exact h
  ·refine Ev.ite_neg (by simpa using c1) (distI_l2 hn hx hc hnear ys (i + 1) d q hy' (by omega) hd hr hq ?_)
   simp only [vis, if_neg (show ¬ (0 ≤ y ∧ y < n ∧ rd d y < 0) from fun h => c1 ⟨h.1, h.2.1⟩)] at h
   exact h
theorem distI_l1 {l : List S134} (hl : l.length ≤ 1048576) {n : Nat} {first dst : Int} (hn : n ≤ 12) : ∀ (f : Nat) (d q : List Int), Inv (nb l) (exB first dst) n dst d q → neg d + q.length ≤ f → f ≤ 100 →
  Ev (fun k => impl_DistancesTo.l1 k l (n : Int) first dst d q) (bfs (nb l) (exB first dst) n f d q)
 | 0, d, [], _, _, _ => by
  refine Ev.step (fun k => by rw [impl_DistancesTo.l1]) ?_
  exact Ev.ite_neg (by simp) (Ev.now _)
 | 0, d, x :: q, _, h, _ => by simp at h
 | f + 1, d, [], _, _, _ => by
  refine Ev.step (fun k => by rw [impl_DistancesTo.l1]) ?_
  exact Ev.ite_neg (by simp) (Ev.now _)
 | f + 1, d, x :: q, H, hf, hf1 => by
  rw [List.length_cons] at hf
  have hrd : rd (x :: q) 0 = x := rfl
  refine Ev.step (fun k => by rw [impl_DistancesTo.l1]) ?_
  refine Ev.ite_pos (by rw [List.length_cons]; omega) (Ev.ite_pos (by rw [List.length_cons]; omega) ?_)
  rw [hrd]
  have hb := H.qin x List.mem_cons_self
  have hbd := H.bound x hb.1 hb.2.1
  have go : exB first dst x = true → Ev (fun k => impl_DistancesTo.j3 k l (n : Int) first dst d (x :: q) x false) (bfs (nb l) (exB first dst) n (f + 1) d (x :: q)) := by
   intro hx
   have hs := H.step hx
   refine Ev.step (fun k => by rw [impl_DistancesTo.j3]) ?_
   refine Ev.ite_neg (by simp) (Ev.bind (nbI hl x) ?_)
   have hnl := nb_len l x
   refine distI_l2 (i := 0) hn ⟨hb.1, hb.2.1⟩ (c := rd d x + 1) (by omega) (by omega) _ _ _ rfl (by omega) H.len (by omega) (by omega) ?_
   rw [List.drop_zero]
   simp only [bfs, if_pos hx]
   rw [List.length_cons] at hs
   exact distI_l1 hl hn f _ _ hs.1 (by omega) (by omega)
  by_cases c : x = dst
  ·exact Ev.ite_pos c (go (by simp [exB, c]))
  ·refine Ev.ite_neg c ?_
   by_cases c2 : x < first
   ·rw [decide_eq_false (by omega : ¬ x ≥ first)]
    exact go (by simp [exB, c2])
   ·have hx : ¬ exB first dst x = true := by simp [exB, c]; omega
    rw [decide_eq_true (by omega : x ≥ first)]
    refine Ev.step (fun k => by rw [impl_DistancesTo.j3]) ?_
    refine Ev.ite_pos rfl (Ev.ite_pos (by rw [List.length_cons]; omega) ?_)
    simp only [bfs, if_neg hx]
    exact distI_l1 hl hn f d q (H.skip hx) (by omega) (by omega)
theorem distI_l0 {l : List S134} (hl : l.length ≤ 1048576) {n : Nat} {first dst : Int} (hn : n ≤ 12) (hd : 0 ≤ dst ∧ dst < n) : ∀ (m i : Nat), i + m = n →
  Ev (fun k => impl_DistancesTo.l0 k l (n : Int) first dst (List.replicate i (-1)) (n : Int) (i : Int)) (dist (nb l) (exB first dst) n dst) := by
 intro m
 induction m with
 | zero =>
  intro i hi
  obtain rfl : i = n := by omega
  refine Ev.step (fun k => by rw [impl_DistancesTo.l0]) ?_
  refine Ev.ite_neg (by omega) (Ev.ite_pos hd.1 (Ev.ite_pos (by rw [List.length_replicate]; exact hd.2) ?_))
  exact distI_l1 hl hn i _ _ (inv_start _ _ hd) (neg_start_le hd) (by omega)
 | succ m ih =>
  intro i hi
  refine Ev.step (fun k => by rw [impl_DistancesTo.l0]) ?_
  refine Ev.ite_pos (by omega) (Ev.ite_pos (by rw [List.length_replicate]; omega) ?_)
  rw [w64n (by omega), show List.replicate i (-1 : Int) ++ [-1] = List.replicate (i + 1) (-1) from List.replicate_succ'.symm]
  exact ih (i + 1) (by omega)
theorem distI {l : List S134} (hl : l.length ≤ 1048576) (n first dst : Int) : Ev (fun k => impl_DistancesTo.f k l n first dst) (dists l n first dst) := by
 unfold impl_DistancesTo.f
 refine Ev.bind0 rfl (Ev.bind0 (a := decide (1 ≤ n ∧ n ≤ 12)) ?_ ?_)
 ·unfold impl_isNumber.f
  rw [rgP]
  rfl
 ·unfold dists
  by_cases c1 : 1 ≤ n ∧ n ≤ 12
  ·refine Ev.ite_pos (decide_eq_true c1) (Ev.bind0 (ixP dst n) ?_)
   by_cases c2 : 0 ≤ dst ∧ dst < n
   ·rw [decide_eq_true c2, if_pos ⟨c1, c2⟩]
    refine Ev.step (fun k => by rw [impl_DistancesTo.j0]) ?_
    refine Ev.ite_neg (by simp) ?_
    have h := distI_l0 hl (n := n.toNat) (first := first) (dst := dst) (by omega) (by omega) n.toNat 0 (by omega)
    rw [Int.toNat_of_nonneg (by omega)] at h
    exact h
   ·rw [decide_eq_false c2, if_neg (fun h => c2 h.2)]
    refine Ev.step (fun k => by rw [impl_DistancesTo.j0]) ?_
    exact Ev.ite_pos rfl (Ev.now _)
  ·refine Ev.ite_neg (by simpa using c1) ?_
   rw [if_neg (fun h => c1 h.1)]
   refine Ev.step (fun k => by rw [impl_DistancesTo.j0]) ?_
   exact Ev.ite_pos rfl (Ev.now _)
theorem distS_l2 {l : List S134} {n : Nat} {first dst x c : Int} {near r pre : List Int} (hn : n ≤ 12) (hx : 0 ≤ x ∧ x < n) (hc : 1 ≤ c ∧ c ≤ 100) (hnear : near.length ≤ 10000000) (hp : pre.length ≤ 1000) :
  ∀ (ys : List Int) (i : Nat) (d q : List Int), near.drop i = ys → i ≤ near.length → d.length = n → rd d x = c - 1 → q.length + neg d ≤ 100 →
   Ev (fun k => spec_DistancesTo.l1 k l (n : Int) first dst (vis n c ys d q).1 (pre ++ x :: (vis n c ys d q).2) ((pre.length + 1 : Nat) : Int)) r → Ev (fun k => spec_DistancesTo.l2 k l (n : Int) first dst d (pre ++ x :: q) (pre.length : Int) x near (i : Int)) r
 | [], i, d, q, hy, hi, hd, hr, hq, h => by
  have hi' : near.length ≤ i := List.drop_eq_nil_iff.1 hy
  refine Ev.step (fun k => by rw [spec_DistancesTo.l2]) ?_
  refine Ev.ite_neg (by omega) ?_
  rw [w64n (by omega)]
  exact h
 | y :: ys, i, d, q, hy, hi, hd, hr, hq, h => by
  obtain ⟨hi', hg, hy'⟩ := drop_cons (z := 0) hy
  refine Ev.step (fun k => by rw [spec_DistancesTo.l2]) ?_
  refine Ev.ite_pos (by omega) (Ev.ite_pos (by omega) ?_)
  rw [rd_nat, hg, w64n (by omega), w64 (x := (n : Int) - 1) (by omega) (by omega)]
  refine Ev.bind0 (inP y 0 ((n : Int) - 1)) ?_
  by_cases c1 : 0 ≤ y ∧ y ≤ (n : Int) - 1
  ·refine Ev.ite_pos (decide_eq_true c1) (Ev.ite_pos c1.1 (Ev.ite_pos (by omega) ?_))
   by_cases c2 : rd d y < 0
   ·refine Ev.ite_pos c2 (Ev.ite_pos hx.1 (Ev.ite_pos (by omega) (Ev.ite_pos (by rw [List.length_append, List.length_cons]; omega) ?_)))
    have hng := neg_set d y.toNat c (by omega) c2 (by omega)
    rw [hr, show c - 1 + 1 = c by omega, w64 (x := c) (by omega) (by omega)]
    have hxy : y ≠ x := by
     intro e
     subst e
     omega
    rw [List.append_assoc, List.cons_append]
    refine distS_l2 hn hx hc hnear hp ys (i + 1) (d.set y.toNat c) (q ++ [y]) hy' (by omega) (by rw [List.length_set]; exact hd) ?_ ?_ ?_
    ·rw [rd_set c1.1 hx.1 (by omega), if_neg hxy, hr]
    ·rw [List.length_append, List.length_singleton]
     omega
    ·simp only [vis, if_pos (show 0 ≤ y ∧ y < n ∧ rd d y < 0 from ⟨c1.1, by omega, c2⟩)] at h
     exact h
   ·refine Ev.ite_neg c2 (distS_l2 hn hx hc hnear hp ys (i + 1) d q hy' (by omega) hd hr hq ?_)
    simp only [vis, if_neg (show ¬ (0 ≤ y ∧ y < n ∧ rd d y < 0) from fun h => c2 h.2.2)] at h
    exact h
  ·refine Ev.ite_neg (by simpa using c1) (distS_l2 hn hx hc hnear hp ys (i + 1) d q hy' (by omega) hd hr hq ?_)
   simp only [vis, if_neg (show ¬ (0 ≤ y ∧ y < n ∧ rd d y < 0) from fun h => c1 ⟨h.1, by have := h.2.1; omega⟩)] at h
   exact h
theorem rd_pre (pre q : List Int) (x : Int) : rd (pre ++ x :: q) (pre.length : Int) = x := by
 rw [rd_nat]
 exact getD_mid pre q x 0 rfl
theorem distS_l1 {l : List S134} (hl : l.length ≤ 1048576) {n : Nat} {first dst : Int} (hn : n ≤ 12) : ∀ (f : Nat) (d q pre : List Int), Inv (nb l) (exB first dst) n dst d q → neg d + q.length ≤ f → f + pre.length ≤ 100 →
  Ev (fun k => spec_DistancesTo.l1 k l (n : Int) first dst d (pre ++ q) (pre.length : Int)) (bfs (nb l) (exB first dst) n f d q)
 | 0, d, [], pre, _, _, _ => by
  refine Ev.step (fun k => by rw [spec_DistancesTo.l1]) ?_
  exact Ev.ite_neg (by simp) (Ev.now _)
 | 0, d, x :: q, pre, _, h, _ => by simp at h
 | f + 1, d, [], pre, _, _, _ => by
  refine Ev.step (fun k => by rw [spec_DistancesTo.l1]) ?_
  exact Ev.ite_neg (by simp) (Ev.now _)
 | f + 1, d, x :: q, pre, H, hf, hf1 => by
  rw [List.length_cons] at hf
  refine Ev.step (fun k => by rw [spec_DistancesTo.l1]) ?_
  refine Ev.ite_pos (by rw [List.length_append, List.length_cons]; omega) (Ev.ite_pos (by omega) ?_)
  rw [rd_pre]
  have hb := H.qin x List.mem_cons_self
  have hbd := H.bound x hb.1 hb.2.1
  have next : ∀ d' q', Inv (nb l) (exB first dst) n dst d' q' → neg d' + q'.length ≤ f → Ev (fun k => spec_DistancesTo.l1 k l (n : Int) first dst d' (pre ++ x :: q') ((pre.length + 1 : Nat) : Int)) (bfs (nb l) (exB first dst) n f d' q') := by
   intro d' q' H' hf'
   have h := distS_l1 hl hn f d' q' (pre ++ [x]) H' hf' (by rw [List.length_append, List.length_singleton]; omega)
   rw [List.length_append, List.length_singleton, List.append_assoc] at h
   exact h
  have go : exB first dst x = true → Ev (fun k => spec_DistancesTo.j2 k l (n : Int) first dst d (pre ++ x :: q) (pre.length : Int) x false) (bfs (nb l) (exB first dst) n (f + 1) d (x :: q)) := by
   intro hx
   have hs := H.step hx
   refine Ev.step (fun k => by rw [spec_DistancesTo.j2]) ?_
   refine Ev.ite_neg (by simp) (Ev.bind (nbS hl x) ?_)
   have hnl := nb_len l x
   refine distS_l2 (i := 0) hn ⟨hb.1, hb.2.1⟩ (c := rd d x + 1) (by omega) (by omega) (by omega) _ _ _ rfl (by omega) H.len (by omega) (by omega) ?_
   rw [List.drop_zero]
   simp only [bfs, if_pos hx]
   rw [List.length_cons] at hs
   exact next _ _ hs.1 (by omega)
  by_cases c : x = dst
  ·exact Ev.ite_pos c (go (by simp [exB, c]))
  ·refine Ev.ite_neg c ?_
   by_cases c2 : x < first
   ·rw [decide_eq_false (by omega : ¬ x ≥ first)]
    exact go (by simp [exB, c2])
   ·have hx : ¬ exB first dst x = true := by simp [exB, c]; omega
    rw [decide_eq_true (by omega : x ≥ first)]
    refine Ev.step (fun k => by rw [spec_DistancesTo.j2]) ?_
    refine Ev.ite_pos rfl ?_
    rw [w64n (by omega)]
    simp only [bfs, if_neg hx]
    exact next d q (H.skip hx) (by omega)
theorem distS_l0 {l : List S134} (hl : l.length ≤ 1048576) {n : Nat} {first dst : Int} (hn : n ≤ 12) (hd : 0 ≤ dst ∧ dst < n) : ∀ (m i : Nat), i + m = n →
  Ev (fun k => spec_DistancesTo.l0 k l (n : Int) first dst (List.replicate i (-1)) (i : Int)) (dist (nb l) (exB first dst) n dst) := by
 intro m
 induction m with
 | zero =>
  intro i hi
  obtain rfl : i = n := by omega
  refine Ev.step (fun k => by rw [spec_DistancesTo.l0]) ?_
  refine Ev.ite_neg (by omega) (Ev.ite_pos hd.1 (Ev.ite_pos (by rw [List.length_replicate]; exact hd.2) ?_))
  exact distS_l1 hl hn i _ _ [] (inv_start _ _ hd) (neg_start_le hd) (by simp; omega)
 | succ m ih =>
  intro i hi
  refine Ev.step (fun k => by rw [spec_DistancesTo.l0]) ?_
  refine Ev.ite_pos (by omega) (Ev.ite_pos (by rw [List.length_replicate]; omega) ?_)
  rw [w64n (by omega), show List.replicate i (-1 : Int) ++ [-1] = List.replicate (i + 1) (-1) from List.replicate_succ'.symm]
  exact ih (i + 1) (by omega)
theorem okP (n dst : Int) : spec_l14Ok.f n dst = some (decide ((1 ≤ n ∧ n ≤ 12) ∧ 0 ≤ dst ∧ dst < n)) := by
 unfold spec_l14Ok.f
 rw [inP, Option.bind_some]
 by_cases c : 1 ≤ n ∧ n ≤ 12
 ·rw [if_pos (decide_eq_true c), inP, Option.bind_some, w64 (by omega) (by omega)]
  congr 1
  rw [decide_eq_decide]
  omega
 ·rw [if_neg (by simpa using c)]
  congr 1
  rw [eq_comm, decide_eq_false_iff_not]
  exact fun h => c h.1
theorem distS {l : List S134} (hl : l.length ≤ 1048576) (n first dst : Int) : Ev (fun k => spec_DistancesTo.f k l n first dst) (dists l n first dst) := by
 unfold spec_DistancesTo.f
 refine Ev.bind0 (okP n dst) ?_
 unfold dists
 by_cases c : (1 ≤ n ∧ n ≤ 12) ∧ 0 ≤ dst ∧ dst < n
 ·refine Ev.ite_pos (decide_eq_true c) ?_
  rw [if_pos c]
  have h := distS_l0 hl (n := n.toNat) (first := first) (dst := dst) (by omega) (by omega) n.toNat 0 (by omega)
  rw [Int.toNat_of_nonneg (by omega)] at h
  exact h
 ·refine Ev.ite_neg (by rw [decide_eq_true_iff]; exact c) ?_
  rw [if_neg c]
  exact Ev.now _
/-! ### next nodes -/
def nxB (n first dst : Int) (d : List Int) (dx y : Int) : Bool := decide (dx > 0 ∧ (0 ≤ y ∧ y < n) ∧ (y < first ∨ y = dst) ∧ rd d y = dx - 1)
def nxt (l : List S134) (n first dst : Int) (d : List Int) (x : Nat) : Int := ((nb l (x : Int)).find? (nxB n first dst d (rd d (x : Int)))).getD (-1)
def nextRow (l : List S134) (n first dst : Int) (d : List Int) : List Int := (List.range d.length).map (nxt l n first dst d)
def nextsTo (l : List S134) (n first dst : Int) : List Int := nextRow l n first dst (dists l n first dst)
def Fit (n : Int) (d : List Int) : Prop := (d = [] ∨ d.length = n.toNat ∧ 0 ≤ n ∧ n ≤ 12) ∧ ∀ y : Int, 0 ≤ y → y < d.length → -1 ≤ rd d y ∧ rd d y < 100
theorem dists_fit (l : List S134) (n first dst : Int) : Fit n (dists l n first dst) := by
 by_cases c : (1 ≤ n ∧ n ≤ 12) ∧ 0 ≤ dst ∧ dst < n
 ·have H := dists_inv (l := l) (first := first) c
  refine ⟨.inr ⟨H.len, by omega, by omega⟩, fun y h0 h1 => ?_⟩
  have hl := H.len
  have := H.low y h0 (by omega)
  have := H.bound y h0 (by omega)
  omega
 ·have e : dists l n first dst = [] := by
   unfold dists
   rw [if_neg c]
  rw [e]
  refine ⟨.inl rfl, fun y h0 h1 => ?_⟩
  rw [List.length_nil] at h1
  omega
theorem find_step {α : Type} (p : α → Bool) (y : α) (ys : List α) (h : p y = false) : (y :: ys).find? p = ys.find? p := by rw [List.find?_cons, h]
theorem nextI_l1 {l : List S134} {n first dst : Int} {d out near r : List Int} {x : Nat} (hd : d.length = n.toNat ∧ 0 ≤ n ∧ n ≤ 12) (hf : Fit n d) (hx : x < d.length) (hnear : near.length ≤ 10000000) (hout : out.length ≤ 100)
  (hk : ∀ v : Int, v = (near.find? (nxB n first dst d (rd d (x : Int)))).getD (-1) → Ev (fun k => impl_NextTo.l0 k l n first dst (out ++ [v]) d d (d.length : Int) ((x + 1 : Nat) : Int)) r) :
  ∀ (ys : List Int) (i : Nat) (cur : Int), near.drop i = ys → i ≤ near.length → (cur = -1 ∧ (ys.find? (nxB n first dst d (rd d (x : Int)))).getD (-1) = (near.find? (nxB n first dst d (rd d (x : Int)))).getD (-1) ∨ 0 ≤ cur ∧ cur = (near.find? (nxB n first dst d (rd d (x : Int)))).getD (-1)) →
   Ev (fun k => impl_NextTo.l1 k l n first dst out d (rd d (x : Int)) cur d (d.length : Int) (x : Int) near (near.length : Int) (i : Int)) r
 | [], i, cur, hy, hi, hc => by
  have hi' : near.length ≤ i := List.drop_eq_nil_iff.1 hy
  have hd2 := hf.2 (x : Int) (by omega) (by omega)
  refine Ev.step (fun k => by rw [impl_NextTo.l1]) ?_
  refine Ev.ite_neg (by omega) (Ev.ite_pos (by omega) ?_)
  rw [w64n (by omega)]
  refine hk cur ?_
  rcases hc with ⟨e, h⟩ | ⟨_, h⟩
  ·rw [← h, e]
   rfl
  ·exact h
 | y :: ys, i, cur, hy, hi, hc => by
  obtain ⟨hi', hg, hy'⟩ := drop_cons (z := 0) hy
  have hd2 := hf.2 (x : Int) (by omega) (by omega)
  refine Ev.step (fun k => by rw [impl_NextTo.l1]) ?_
  refine Ev.ite_pos (by omega) (Ev.ite_pos (by omega) (Ev.ite_pos (by omega) ?_))
  rw [rd_nat near, hg, w64n (by omega), w64 (x := rd d (x : Int) - 1) (by omega) (by omega)]
  rcases hc with ⟨e, h⟩ | ⟨h0, h⟩
  ·subst e
   have skip : nxB n first dst d (rd d (x : Int)) y = false → Ev (fun k => impl_NextTo.l1 k l n first dst out d (rd d (x : Int)) (-1) d (d.length : Int) (x : Int) near (near.length : Int) ((i + 1 : Nat) : Int)) r := fun hb =>
    nextI_l1 hd hf hx hnear hout hk ys (i + 1) (-1) hy' (by omega) (.inl ⟨rfl, by rw [← h, find_step _ _ _ hb]⟩)
   have hit : nxB n first dst d (rd d (x : Int)) y = true → Ev (fun k => impl_NextTo.l1 k l n first dst out d (rd d (x : Int)) y d (d.length : Int) (x : Int) near (near.length : Int) ((i + 1 : Nat) : Int)) r := fun hb =>
    nextI_l1 hd hf hx hnear hout hk ys (i + 1) y hy' (by omega) (.inr ⟨by simp [nxB] at hb; omega, by rw [← h, List.find?_cons, hb]; rfl⟩)
   refine Ev.ite_pos (by omega) ?_
   by_cases c0 : rd d (x : Int) > 0
   ·refine Ev.ite_pos c0 (Ev.bind0 (ixP y n) ?_)
    by_cases c1 : 0 ≤ y ∧ y < n
    ·refine Ev.ite_pos (decide_eq_true c1) ?_
     have fin : (y < first ∨ y = dst) → Ev (fun k => if 0 ≤ y then (if y < (d.length : Int) then (if rd d y = rd d (x : Int) - 1 then impl_NextTo.l1 k l n first dst out d (rd d (x : Int)) y d (d.length : Int) (x : Int) near (near.length : Int) ((i + 1 : Nat) : Int) else impl_NextTo.l1 k l n first dst out d (rd d (x : Int)) (-1) d (d.length : Int) (x : Int) near (near.length : Int) ((i + 1 : Nat) : Int)) else none) else none) r := by
      intro hfd
      refine Ev.ite_pos c1.1 (Ev.ite_pos (by omega) ?_)
      by_cases c3 : rd d y = rd d (x : Int) - 1
      ·exact Ev.ite_pos c3 (hit (by simp [nxB]; omega))
      ·exact Ev.ite_neg c3 (skip (by simp [nxB]; omega))
     by_cases c2 : y < first
     ·exact Ev.ite_pos c2 (fin (.inl c2))
     ·refine Ev.ite_neg c2 ?_
      by_cases c4 : y = dst
      ·exact Ev.ite_pos c4 (fin (.inr c4))
      ·exact Ev.ite_neg c4 (skip (by simp [nxB]; omega))
    ·exact Ev.ite_neg (by simpa using c1) (skip (by simp [nxB]; omega))
   ·exact Ev.ite_neg c0 (skip (by simp [nxB]; omega))
  ·exact Ev.ite_neg (by omega) (nextI_l1 hd hf hx hnear hout hk ys (i + 1) cur hy' (by omega) (.inr ⟨h0, h⟩))
theorem nextI_l0 {l : List S134} (hl : l.length ≤ 1048576) {n first dst : Int} {d : List Int} (hf : Fit n d) : ∀ (m x : Nat), x + m = d.length →
  Ev (fun k => impl_NextTo.l0 k l n first dst ((List.range x).map (nxt l n first dst d)) d d (d.length : Int) (x : Int)) (nextRow l n first dst d) := by
 intro m
 induction m with
 | zero =>
  intro x hx
  obtain rfl : x = d.length := by omega
  refine Ev.step (fun k => by rw [impl_NextTo.l0]) ?_
  exact Ev.ite_neg (by omega) (Ev.now _)
 | succ m ih =>
  intro x hx
  have hd : d.length = n.toNat ∧ 0 ≤ n ∧ n ≤ 12 := by
   rcases hf.1 with rfl | h
   ·rw [List.length_nil] at hx
    omega
   ·exact h
  have hnl := nb_len l (x : Int)
  refine Ev.step (fun k => by rw [impl_NextTo.l0]) ?_
  refine Ev.ite_pos (by omega) (Ev.ite_pos (by omega) (Ev.ite_pos (by omega) (Ev.bind (nbI hl (x : Int)) ?_)))
  refine nextI_l1 hd hf (by omega) (by omega) (by simp; omega) (fun v hv => ?_) _ 0 (-1) rfl (by omega) (.inl ⟨rfl, rfl⟩)
  have h := ih (x + 1) (by omega)
  rw [List.range_succ, List.map_append] at h
  rw [hv]
  exact h
theorem nextI {l : List S134} (hl : l.length ≤ 1048576) (n first dst : Int) : Ev (fun k => impl_NextTo.f k l n first dst) (nextsTo l n first dst) := by
 unfold impl_NextTo.f
 exact Ev.bind (distI hl n first dst) (nextI_l0 hl (dists_fit l n first dst) (dists l n first dst).length 0 (by omega))
theorem nextS_l1 {l : List S134} {n first dst : Int} {d out near r : List Int} {x : Nat} (hd : d.length = n.toNat ∧ 0 ≤ n ∧ n ≤ 12) (hf : Fit n d) (hx : x < d.length) (hnear : near.length ≤ 10000000) (hout : out.length ≤ 100)
  (hk : ∀ v : Int, v = (near.find? (nxB n first dst d (rd d (x : Int)))).getD (-1) → Ev (fun k => spec_NextTo.l0 k l n first dst (out ++ [v]) d ((x + 1 : Nat) : Int)) r) :
  ∀ (ys : List Int) (i : Nat) (cur : Int), near.drop i = ys → i ≤ near.length → (cur = -1 ∧ (ys.find? (nxB n first dst d (rd d (x : Int)))).getD (-1) = (near.find? (nxB n first dst d (rd d (x : Int)))).getD (-1) ∨ 0 ≤ cur ∧ cur = (near.find? (nxB n first dst d (rd d (x : Int)))).getD (-1)) →
   Ev (fun k => spec_NextTo.l1 k l n first dst out d (x : Int) cur near (i : Int)) r := by
 have fin : ∀ (i : Nat) (v : Int), v = (near.find? (nxB n first dst d (rd d (x : Int)))).getD (-1) → Ev (fun k => spec_NextTo.j2 k l n first dst out d (x : Int) v near (i : Int) false) r := by
  intro i v hv
  refine Ev.step (fun k => by rw [spec_NextTo.j2]) ?_
  refine Ev.ite_neg (by simp) (Ev.ite_pos (by omega) ?_)
  rw [w64n (by omega)]
  exact hk v hv
 intro ys
 induction ys with
 | nil =>
  intro i cur hy hi hc
  have hi' : near.length ≤ i := List.drop_eq_nil_iff.1 hy
  refine Ev.step (fun k => by rw [spec_NextTo.l1]) ?_
  refine Ev.ite_neg (by omega) (fin i cur ?_)
  rcases hc with ⟨e, h⟩ | ⟨_, h⟩
  ·rw [← h, e]
   rfl
  ·exact h
 | cons y ys ih =>
  intro i cur hy hi hc
  obtain ⟨hi', hg, hy'⟩ := drop_cons (z := 0) hy
  have hd2 := hf.2 (x : Int) (by omega) (by omega)
  refine Ev.step (fun k => by rw [spec_NextTo.l1]) ?_
  refine Ev.ite_pos (by omega) (Ev.ite_pos (by omega) (Ev.ite_pos (by omega) ?_))
  by_cases c0 : rd d (x : Int) > 0
  ·refine Ev.ite_pos c0 ?_
   rcases hc with ⟨e, h⟩ | ⟨h0, h⟩
   ·subst e
    have skip : nxB n first dst d (rd d (x : Int)) y = false → Ev (fun k => spec_NextTo.l1 k l n first dst out d (x : Int) (-1) near ((i + 1 : Nat) : Int)) r := fun hb =>
     ih (i + 1) (-1) hy' (by omega) (.inl ⟨rfl, by rw [← h, find_step _ _ _ hb]⟩)
    have hit : nxB n first dst d (rd d (x : Int)) y = true → Ev (fun k => spec_NextTo.l1 k l n first dst out d (x : Int) y near ((i + 1 : Nat) : Int)) r := fun hb =>
     ih (i + 1) y hy' (by omega) (.inr ⟨by simp [nxB] at hb; omega, by rw [← h, List.find?_cons, hb]; rfl⟩)
    rw [decide_eq_true (by omega : (-1 : Int) < 0)]
    refine Ev.step (fun k => by rw [spec_NextTo.j2]) ?_
    refine Ev.ite_pos rfl (Ev.ite_pos (by omega) (Ev.ite_pos (by omega) ?_))
    rw [rd_nat near, hg, w64n (by omega), w64 (x := rd d (x : Int) - 1) (by omega) (by omega), w64 (x := n - 1) (by omega) (by omega)]
    refine Ev.bind0 (inP y 0 (n - 1)) ?_
    by_cases c1 : 0 ≤ y ∧ y ≤ n - 1
    ·refine Ev.ite_pos (decide_eq_true c1) ?_
     have fin2 : (y < first ∨ y = dst) → Ev (fun k => if 0 ≤ y then (if y < (d.length : Int) then (if 0 ≤ (x : Int) then (if (x : Int) < (d.length : Int) then (if rd d y = rd d (x : Int) - 1 then spec_NextTo.l1 k l n first dst out d (x : Int) y near ((i + 1 : Nat) : Int) else spec_NextTo.l1 k l n first dst out d (x : Int) (-1) near ((i + 1 : Nat) : Int)) else none) else none) else none) else none) r := by
      intro hfd
      refine Ev.ite_pos c1.1 (Ev.ite_pos (by omega) (Ev.ite_pos (by omega) (Ev.ite_pos (by omega) ?_)))
      by_cases c3 : rd d y = rd d (x : Int) - 1
      ·exact Ev.ite_pos c3 (hit (by simp [nxB]; omega))
      ·exact Ev.ite_neg c3 (skip (by simp [nxB]; omega))
     by_cases c2 : y < first
     ·exact Ev.ite_pos c2 (fin2 (.inl c2))
     ·refine Ev.ite_neg c2 ?_
      by_cases c4 : y = dst
      ·exact Ev.ite_pos c4 (fin2 (.inr c4))
      ·exact Ev.ite_neg c4 (skip (by simp [nxB]; omega))
    ·exact Ev.ite_neg (by simpa using c1) (skip (by simp [nxB]; omega))
   ·rw [decide_eq_false (by omega : ¬ cur < 0)]
    exact fin i cur h
  ·refine Ev.ite_neg c0 (fin i cur ?_)
   have hn : near.find? (nxB n first dst d (rd d (x : Int))) = none := by
    refine List.find?_eq_none.2 fun z _ => ?_
    simp [nxB]
    omega
   rcases hc with ⟨e, _⟩ | ⟨_, h⟩
   ·rw [hn, e]
    rfl
   ·exact h
theorem nextS_l0 {l : List S134} (hl : l.length ≤ 1048576) {n first dst : Int} {d : List Int} (hf : Fit n d) : ∀ (m x : Nat), x + m = d.length →
  Ev (fun k => spec_NextTo.l0 k l n first dst ((List.range x).map (nxt l n first dst d)) d (x : Int)) (nextRow l n first dst d) := by
 intro m
 induction m with
 | zero =>
  intro x hx
  obtain rfl : x = d.length := by omega
  refine Ev.step (fun k => by rw [spec_NextTo.l0]) ?_
  exact Ev.ite_neg (by omega) (Ev.now _)
 | succ m ih =>
  intro x hx
  have hd : d.length = n.toNat ∧ 0 ≤ n ∧ n ≤ 12 := by
   rcases hf.1 with rfl | h
   ·rw [List.length_nil] at hx
    omega
   ·exact h
  have hnl := nb_len l (x : Int)
  refine Ev.step (fun k => by rw [spec_NextTo.l0]) ?_
  refine Ev.ite_pos (by omega) (Ev.bind (nbS hl (x : Int)) ?_)
  refine nextS_l1 hd hf (by omega) (by omega) (by simp; omega) (fun v hv => ?_) _ 0 (-1) rfl (by omega) (.inl ⟨rfl, rfl⟩)
  have h := ih (x + 1) (by omega)
  rw [List.range_succ, List.map_append] at h
  rw [hv]
  exact h
theorem nextS {l : List S134} (hl : l.length ≤ 1048576) (n first dst : Int) : Ev (fun k => spec_NextTo.f k l n first dst) (nextsTo l n first dst) := by
 unfold spec_NextTo.f
 exact Ev.bind (distS hl n first dst) (nextS_l0 hl (dists_fit l n first dst) (dists l n first dst).length 0 (by omega))
theorem tableI {l : List S134} (hl : l.length ≤ 1048576) (n first dst : Int) : Ev (fun k => impl_TableOf.f k l n first dst) (dst, dists l n first dst, nextsTo l n first dst) := by
 unfold impl_TableOf.f
 exact Ev.bind (distI hl n first dst) (Ev.bind (nextI hl n first dst) (Ev.now _))
theorem tableS {l : List S134} (hl : l.length ≤ 1048576) (n first dst : Int) : Ev (fun k => spec_TableOf.f k l n first dst) (dst, dists l n first dst, nextsTo l n first dst) := by
 unfold spec_TableOf.f
 exact Ev.bind (distS hl n first dst) (Ev.bind (nextS hl n first dst) (Ev.now _))
structure Down (n first dst : Int) (d t : List Int) : Prop where
 dlen : d.length = n.toNat
 tlen : t.length = n.toNat
 rng : 1 ≤ n ∧ n ≤ 12
 din : 0 ≤ dst ∧ dst < n
 d0 : rd d dst = 0
 zero : ∀ x : Int, 0 ≤ x → x < n → rd d x = 0 → x = dst
 low : ∀ x : Int, 0 ≤ x → x < n → -1 ≤ rd d x ∧ rd d x < n
 stop : ∀ x : Int, 0 ≤ x → x < n → rd d x ≤ 0 → rd t x = -1
 step : ∀ x : Int, 0 ≤ x → x < n → 0 < rd d x → (0 ≤ rd t x ∧ rd t x < n) ∧ (rd t x < first ∨ rd t x = dst) ∧ rd d (rd t x) = rd d x - 1
theorem nextRow_len (l : List S134) (n first dst : Int) (d : List Int) : (nextRow l n first dst d).length = d.length := by simp [nextRow]
end Go.Proofs.Ytiihaabhjphaeaa.fnMargins
/- What plans, links at a tick, pieces and programs come to, in the program and in the reference. Conditions: none. -/
namespace Go.Proofs.Ytiihaabhjphaeaa.fnMargins
open Go.RowKit Go.Proofs.YtiihaabhjphaeaaW.PrintWords Go.Proofs.YtiihaabhjphaeaaW.PrintLast Go.Proofs.YtiihaabhjphaeaaW.PrintMore Go.Proofs.Ytiihaabhjphaeaa.QFnMargins Go.Proofs.Ytiihaabhjphaeaa.Open Go.Proofs.Ytiihaabhjphaeaa.Kit Go.Proofs.Ytiihaabhjphaeaa.Bfs
/-! ### spans -/
def spanQ (a b : Int) : Bool := decide (0 ≤ a ∧ b ≤ 1000 ∧ a < b)
def inQ (a b t : Int) : Bool := decide ((0 ≤ a ∧ b ≤ 1000 ∧ a < b) ∧ a ≤ t ∧ t < b)
theorem spanS (a b : Int) : spec_IsSpan.f a b = some (spanQ a b) := by
 unfold spec_IsSpan.f spanQ
 by_cases h : a ≥ 0
 ·rw [if_pos h]
  by_cases h2 : b ≤ 1000
  ·rw [if_pos h2]
   simp [h, h2]
  ·rw [if_neg h2]
   simp [h2]
 ·rw [if_neg h]
  simp [h]
theorem spanI (a b : Int) : impl_IsSpan.f a b = some (spanQ a b) := by
 unfold impl_IsSpan.f spanQ
 by_cases h : a ≥ 0
 ·rw [if_pos h]
  by_cases h2 : b ≤ 1000
  ·rw [if_pos h2]
   simp [h, h2]
  ·rw [if_neg h2]
   simp [h2]
 ·rw [if_neg h]
  simp [h]
theorem inQ_def (a b t : Int) : inQ a b t = (spanQ a b && decide (a ≤ t ∧ t < b)) := by
 unfold inQ spanQ
 rw [← Bool.decide_and]
theorem inSpanS (a b t : Int) : spec_InSpan.f a b t = some (inQ a b t) := by
 unfold spec_InSpan.f
 rw [spanS, Option.bind_some, inQ_def]
 cases spanQ a b with
 | true =>
  rw [if_pos rfl, Bool.true_and]
  by_cases h : a ≤ t
  ·rw [if_pos h]
   simp [h]
  ·rw [if_neg h]
   simp [h]
 | false =>
  rw [if_neg (by simp), Bool.false_and]
theorem inSpanI (a b t : Int) : impl_InSpan.f a b t = some (inQ a b t) := by
 unfold impl_InSpan.f
 rw [spanI, Option.bind_some, inQ_def]
 cases spanQ a b with
 | true =>
  rw [if_pos rfl, Bool.true_and]
  by_cases h : a ≤ t
  ·rw [if_pos h]
   simp [h]
  ·rw [if_neg h]
   simp [h]
 | false =>
  rw [if_neg (by simp), Bool.false_and]
/-! ### plans -/
def CtOk (n : Int) (x : S137) : Prop := (0 ≤ x.f0 ∧ x.f0 < x.f1 ∧ x.f1 < n) ∧ 0 ≤ x.f2 ∧ x.f3 ≤ 1000 ∧ x.f2 < x.f3
def Bef (x y : S137) : Prop := x.f0 < y.f0 ∨ x.f0 = y.f0 ∧ (x.f1 < y.f1 ∨ x.f1 = y.f1 ∧ x.f3 < y.f2)
def PlanOk (n : Int) (l : List S137) : Prop := ∀ i, i < l.length → CtOk n (l.getD i z137) ∧ (0 < i → Bef (l.getD (i - 1) z137) (l.getD i z137))
noncomputable def planB (n : Int) (l : List S137) : Bool := @decide (PlanOk n l) (Classical.propDecidable _)
theorem planB_iff {n : Int} {l : List S137} : planB n l = true ↔ PlanOk n l := @decide_eq_true_iff _ (Classical.propDecidable _)
theorem contactS (x : S137) (n : Int) : ∃ r, spec_IsContact.f x.f0 x.f1 x.f2 x.f3 n = some r ∧ (r = true ↔ CtOk n x) := by
 unfold spec_IsContact.f CtOk
 rw [spanS, Option.bind_some]
 by_cases h1 : x.f0 ≥ 0
 ·rw [if_pos h1]
  by_cases h2 : x.f0 < x.f1
  ·rw [if_pos h2]
   by_cases h3 : x.f1 < n
   ·rw [if_pos h3]
    refine ⟨_, rfl, ?_⟩
    unfold spanQ
    rw [decide_eq_true_iff]
    omega
   ·rw [if_neg h3]
    exact ⟨false, rfl, by simp [h3]⟩
  ·rw [if_neg h2]
   exact ⟨false, rfl, by simp [h2]⟩
 ·rw [if_neg h1]
  exact ⟨false, rfl, by simp [h1]⟩
theorem beforeS (x y : S137) : ∃ r, spec_l11Before.f x.f0 x.f1 x.f2 x.f3 y.f0 y.f1 y.f2 y.f3 = some r ∧ (r = true ↔ Bef x y) := by
 unfold spec_l11Before.f Bef
 by_cases h1 : x.f0 = y.f0
 ·rw [if_pos h1]
  by_cases h2 : x.f1 = y.f1
  ·rw [if_pos h2]
   refine ⟨_, rfl, ?_⟩
   rw [decide_eq_true_iff]
   omega
  ·rw [if_neg h2]
   refine ⟨_, rfl, ?_⟩
   rw [decide_eq_true_iff]
   omega
 ·rw [if_neg h1]
  refine ⟨_, rfl, ?_⟩
  rw [decide_eq_true_iff]
  omega
theorem plan_step {n : Int} {l : List S137} {i : Nat} {r : Bool} (h : CtOk n (l.getD i z137) ∧ (0 < i → Bef (l.getD (i - 1) z137) (l.getD i z137)))
  (hr : r = true ↔ ∀ j, i + 1 ≤ j → j < l.length → CtOk n (l.getD j z137) ∧ (0 < j → Bef (l.getD (j - 1) z137) (l.getD j z137))) :
  r = true ↔ ∀ j, i ≤ j → j < l.length → CtOk n (l.getD j z137) ∧ (0 < j → Bef (l.getD (j - 1) z137) (l.getD j z137)) := by
 rw [hr]
 constructor
 ·intro hh j h1 h2
  by_cases e : j = i
  ·rw [e]
   exact h
  ·exact hh j (by omega) h2
 ·exact fun hh j h1 h2 => hh j (by omega) h2
theorem plan_bad {n : Int} {l : List S137} {i : Nat} (hi : i < l.length) (h : ¬ (CtOk n (l.getD i z137) ∧ (0 < i → Bef (l.getD (i - 1) z137) (l.getD i z137)))) :
  false = true ↔ ∀ j, i ≤ j → j < l.length → CtOk n (l.getD j z137) ∧ (0 < j → Bef (l.getD (j - 1) z137) (l.getD j z137)) := by
 constructor
 ·intro e
  cases e
 ·exact fun hh => absurd (hh i (Nat.le_refl _) hi) h
theorem rdC (l : List S137) (i : Nat) : rd_T137 l (i : Int) = l.getD i z137 := rfl
theorem rdC1 (l : List S137) {i : Nat} (h : 0 < i) : rd_T137 l ((i : Int) - 1) = l.getD (i - 1) z137 := by
 rw [show ((i : Int) - 1) = ((i - 1 : Nat) : Int) by omega]
 rfl
theorem planS {n : Int} {l : List S137} (hl : l.length ≤ 1048576) : Ev (fun k => spec_IsPlan.f k l n) (planB n l) := by
 have key : ∀ m i : Nat, i + m = l.length → ∃ r, Ev (fun k => spec_IsPlan.l0 k l n (i : Int)) r ∧ (r = true ↔ ∀ j, i ≤ j → j < l.length → CtOk n (l.getD j z137) ∧ (0 < j → Bef (l.getD (j - 1) z137) (l.getD j z137))) := by
  intro m
  induction m with
  | zero =>
   intro i hi
   refine ⟨true, ?_, ?_⟩
   ·refine Ev.step (fun k => by rw [spec_IsPlan.l0]) ?_
    exact Ev.ite_neg (by omega) (Ev.now _)
   ·simp only [true_iff]
    intro j h1 h2
    omega
  | succ m ih =>
   intro i hi
   obtain ⟨r, hr, hri⟩ := ih (i + 1) (by omega)
   obtain ⟨c, hc, hci⟩ := contactS (l.getD i z137) n
   by_cases h1 : CtOk n (l.getD i z137)
   ·by_cases h0 : 0 < i
    ·obtain ⟨b, hb, hbi⟩ := beforeS (l.getD (i - 1) z137) (l.getD i z137)
     by_cases h2 : Bef (l.getD (i - 1) z137) (l.getD i z137)
     ·refine ⟨r, ?_, plan_step ⟨h1, fun _ => h2⟩ hri⟩
      refine Ev.step (fun k => by rw [spec_IsPlan.l0]) ?_
      refine Ev.ite_pos (by omega) (Ev.ite_pos (by omega) ?_)
      rw [rdC, w64n (by omega), w64 (x := (i : Int) - 1) (by omega) (by omega), rdC1 l h0]
      exact Ev.bind0 hc (Ev.ite_pos (hci.2 h1) (Ev.ite_pos (by omega) (Ev.ite_pos (by omega) (Ev.ite_pos (by omega) (Ev.bind0 hb (Ev.ite_pos (hbi.2 h2) hr))))))
     ·refine ⟨false, ?_, plan_bad (by omega) fun h => h2 (h.2 h0)⟩
      refine Ev.step (fun k => by rw [spec_IsPlan.l0]) ?_
      refine Ev.ite_pos (by omega) (Ev.ite_pos (by omega) ?_)
      rw [rdC, w64 (x := (i : Int) - 1) (by omega) (by omega), rdC1 l h0]
      exact Ev.bind0 hc (Ev.ite_pos (hci.2 h1) (Ev.ite_pos (by omega) (Ev.ite_pos (by omega) (Ev.ite_pos (by omega) (Ev.bind0 hb (Ev.ite_neg (fun h => h2 (hbi.1 h)) (Ev.now _)))))))
    ·refine ⟨r, ?_, plan_step ⟨h1, fun h => absurd h h0⟩ hri⟩
     refine Ev.step (fun k => by rw [spec_IsPlan.l0]) ?_
     refine Ev.ite_pos (by omega) (Ev.ite_pos (by omega) ?_)
     rw [rdC, w64n (by omega)]
     exact Ev.bind0 hc (Ev.ite_pos (hci.2 h1) (Ev.ite_neg (by omega) hr))
   ·refine ⟨false, ?_, plan_bad (by omega) fun h => h1 h.1⟩
    refine Ev.step (fun k => by rw [spec_IsPlan.l0]) ?_
    refine Ev.ite_pos (by omega) (Ev.ite_pos (by omega) ?_)
    rw [rdC]
    exact Ev.bind0 hc (Ev.ite_neg (fun h => h1 (hci.1 h)) (Ev.now _))
 obtain ⟨r, hr, hri⟩ := key l.length 0 (by omega)
 have e : r = planB n l := by
  rw [Bool.eq_iff_iff, hri, planB_iff]
  exact ⟨fun h i hi => h i (by omega) hi, fun h i _ hi => h i hi⟩
 rw [← e]
 exact hr
def hasL (out : List S134) (a b : Int) : Bool := out.any fun x => x.f0 == a && x.f1 == b
def addL (t : Int) (out : List S134) (x : S137) : List S134 := if hasL out x.f0 x.f1 = true then out else if inQ x.f2 x.f3 t = true then out ++ [⟨x.f0, x.f1⟩] else out
def linksAt (l : List S137) (t : Int) : List S134 := l.foldl (addL t) []
theorem addL_len (t : Int) (out : List S134) (x : S137) : (addL t out x).length ≤ out.length + 1 := by
 unfold addL
 split
 ·omega
 ·split
  ·simp
  ·omega
theorem foldTo_addL_len (t : Int) (l : List S137) : ∀ i, i ≤ l.length → (foldTo (addL t) [] l i).length ≤ i
 | 0, _ => by simp [foldTo]
 | i + 1, h => by
  rw [foldTo_succ _ _ (show i < l.length by omega) z137]
  have h1 := foldTo_addL_len t l i (by omega)
  have h2 := addL_len t (foldTo (addL t) [] l i) (l.getD i z137)
  omega
theorem linksAt_len (l : List S137) (t : Int) : (linksAt l t).length ≤ l.length := by
 have := foldTo_addL_len t l l.length (Nat.le_refl _)
 rw [foldTo_all] at this
 exact this
theorem linksS_l1 {l : List S137} {t a b : Int} {i : Nat} {out r : List S134} (ho : out.length ≤ 2000000)
  (hk : ∀ q : Bool, q = hasL out a b → Ev (fun k => if q = true then (spec_LinksAt.l0 k l t out (wrap64 ((i : Int) + 1))) else (if 0 ≤ (i : Int) then (if (i : Int) < (l.length : Int) then ((spec_InSpan.f ((rd_T137 l (i : Int)).f2) ((rd_T137 l (i : Int)).f3) t).bind fun t182 => (if t182 = true then (if out.length < 8796093022208 then (spec_LinksAt.l0 k l t (out ++ [(⟨a, b⟩ : S134)]) (wrap64 ((i : Int) + 1))) else (none)) else (spec_LinksAt.l0 k l t out (wrap64 ((i : Int) + 1))))) else (none)) else (none))) r) :
  ∀ (m j : Nat) (q : Bool), j + m = out.length → q = hasL (out.take j) a b → Ev (fun k => spec_LinksAt.l1 k l t out (i : Int) q (j : Int) a b) r := by
 intro m
 induction m with
 | zero =>
  intro j q hj hq
  rw [List.take_of_length_le (by omega)] at hq
  refine Ev.step (fun k => by rw [spec_LinksAt.l1]) ?_
  exact Ev.ite_neg (by omega) (hk q hq)
 | succ m ih =>
  intro j q hj hq
  have hjl : j < out.length := by omega
  have hs : hasL (out.take (j + 1)) a b = (hasL (out.take j) a b || ((rd_T134 out (j : Int)).f0 == a && (rd_T134 out (j : Int)).f1 == b)) := by
   unfold hasL
   rw [take_succ_getD hjl z134, List.any_append]
   simp
   rfl
  refine Ev.step (fun k => by rw [spec_LinksAt.l1]) ?_
  refine Ev.ite_pos (by omega) ?_
  rw [w64n (by omega)]
  by_cases c : q = true
  ·refine Ev.ite_pos c (ih (j + 1) true (by omega) ?_)
   rw [hs, ← hq, c]
   rfl
  ·refine Ev.ite_neg c (Ev.ite_pos (by omega) (ih (j + 1) _ (by omega) ?_))
   rw [hs, ← hq, Bool.eq_false_iff.2 c]
   rfl
theorem linksS {l : List S137} (hl : l.length ≤ 1048576) (t : Int) : Ev (fun k => spec_LinksAt.f k l t) (linksAt l t) := by
 have key : ∀ m i : Nat, i + m = l.length → Ev (fun k => spec_LinksAt.l0 k l t (foldTo (addL t) [] l i) (i : Int)) (linksAt l t) := by
  intro m
  induction m with
  | zero =>
   intro i hi
   obtain rfl : i = l.length := by omega
   rw [foldTo_all]
   refine Ev.step (fun k => by rw [spec_LinksAt.l0]) ?_
   exact Ev.ite_neg (by omega) (Ev.now _)
  | succ m ih =>
   intro i hi
   have hlen := foldTo_addL_len t l i (show i ≤ l.length by omega)
   have h := ih (i + 1) (by omega)
   rw [foldTo_succ _ _ (show i < l.length by omega) z137] at h
   generalize foldTo (addL t) [] l i = out at *
   refine Ev.step (fun k => by rw [spec_LinksAt.l0]) ?_
   refine Ev.ite_pos (by omega) (Ev.ite_pos (by omega) ?_)
   refine linksS_l1 (by omega) ?_ out.length 0 false (by omega) rfl
   intro q hq
   rw [rdC] at *
   rw [w64n (by omega)]
   unfold addL at h
   by_cases c : q = true
   ·rw [if_pos (hq ▸ c)] at h
    exact Ev.ite_pos c h
   ·rw [if_neg (fun e => c (hq.trans e))] at h
    refine Ev.ite_neg c (Ev.ite_pos (by omega) (Ev.ite_pos (by omega) (Ev.bind0 (inSpanS _ _ _) ?_)))
    by_cases c2 : inQ (l.getD i z137).f2 (l.getD i z137).f3 t = true
    ·rw [if_pos c2] at h
     exact Ev.ite_pos c2 (Ev.ite_pos (by omega) h)
    ·rw [if_neg c2] at h
     exact Ev.ite_neg c2 h
 exact key l.length 0 (by omega)
noncomputable def sameL (a b : List S134) : Bool := @decide (a = b) (Classical.propDecidable _)
theorem sameL_iff {a b : List S134} : sameL a b = true ↔ a = b := @decide_eq_true_iff _ (Classical.propDecidable _)
theorem sameL_no {a b : List S134} (h : a ≠ b) : sameL a b = false := Bool.eq_false_iff.2 fun e => h (sameL_iff.1 e)
theorem link_ext {x y : S134} (h0 : x.f0 = y.f0) (h1 : x.f1 = y.f1) : x = y := by
 cases x
 cases y
 simp at h0 h1
 rw [h0, h1]
theorem same_of {a b : List S134} (hlen : a.length = b.length) {r : Bool} (h : r = true ↔ ∀ j : Nat, 0 ≤ j → j < a.length → a.getD j z134 = b.getD j z134) : r = sameL a b := by
 rw [Bool.eq_iff_iff, h, sameL_iff]
 constructor
 ·intro hh
  apply List.ext_getElem hlen
  intro i h1 h2
  have := hh i (by omega) h1
  rw [getD_at h1, getD_at h2] at this
  exact this
 ·intro e j _ _
  rw [e]
theorem same_step {a b : List S134} {i : Nat} {r : Bool} (h : a.getD i z134 = b.getD i z134) (hr : r = true ↔ ∀ j : Nat, i + 1 ≤ j → j < a.length → a.getD j z134 = b.getD j z134) :
  r = true ↔ ∀ j : Nat, i ≤ j → j < a.length → a.getD j z134 = b.getD j z134 := by
 rw [hr]
 constructor
 ·intro hh j h1 h2
  by_cases e : j = i
  ·rw [e]
   exact h
  ·exact hh j (by omega) h2
 ·exact fun hh j h1 h2 => hh j (by omega) h2
theorem ne_link {x y : S134} (c : (!(x.f0 == y.f0) || !(x.f1 == y.f1)) = true) : x ≠ y := by
 intro e
 rw [e] at c
 simp at c
theorem eq_link {x y : S134} (c : ¬ (!(x.f0 == y.f0) || !(x.f1 == y.f1)) = true) : x = y := by
 simp at c
 exact link_ext c.1 c.2
theorem sameS {a b : List S134} (ha : a.length ≤ 2000000) : Ev (fun k => spec_SameLinks.f k a b) (sameL a b) := by
 unfold spec_SameLinks.f
 by_cases hlen : a.length = b.length
 ·refine Ev.ite_pos (by omega) ?_
  have key : ∀ m i : Nat, i + m = a.length → ∃ r, Ev (fun k => spec_SameLinks.l0 k a b (i : Int)) r ∧ (r = true ↔ ∀ j : Nat, i ≤ j → j < a.length → a.getD j z134 = b.getD j z134) := by
   intro m
   induction m with
   | zero =>
    intro i hi
    refine ⟨true, ?_, ?_⟩
    ·refine Ev.step (fun k => by rw [spec_SameLinks.l0]) ?_
     exact Ev.ite_neg (by omega) (Ev.now _)
    ·simp only [true_iff]
     intro j h1 h2
     omega
   | succ m ih =>
    intro i hi
    obtain ⟨r, hr, hri⟩ := ih (i + 1) (by omega)
    by_cases c : (!((rd_T134 a (i : Int)).f0 == (rd_T134 b (i : Int)).f0) || !((rd_T134 a (i : Int)).f1 == (rd_T134 b (i : Int)).f1)) = true
    ·refine ⟨false, ?_, Iff.intro (fun h => by cases h) (fun h => absurd (h i (by omega) (by omega)) (ne_link c))⟩
     refine Ev.step (fun k => by rw [spec_SameLinks.l0]) ?_
     exact Ev.ite_pos (by omega) (Ev.ite_pos (by omega) (Ev.ite_pos (by omega) (Ev.ite_pos c (Ev.now _))))
    ·refine ⟨r, ?_, same_step (eq_link c) hri⟩
     refine Ev.step (fun k => by rw [spec_SameLinks.l0]) ?_
     refine Ev.ite_pos (by omega) (Ev.ite_pos (by omega) (Ev.ite_pos (by omega) (Ev.ite_neg c ?_)))
     rw [w64n (by omega)]
     exact hr
  obtain ⟨r, hr, hri⟩ := key a.length 0 (by omega)
  rw [← same_of hlen hri]
  exact hr
 ·refine Ev.ite_neg (by omega) (Ev.some ?_)
  exact (sameL_no fun e => hlen (by rw [e])).symm
noncomputable def chP (l : List S137) (a b t : Int) : Bool := decide (1 ≤ t ∧ a < t ∧ t < b) && !(sameL (linksAt l (t - 1)) (linksAt l t))
noncomputable def chTo (l : List S137) (a b : Int) (m : Nat) : List Int := ((List.range m).filter fun t : Nat => chP l a b (t : Int)).map fun t : Nat => (t : Int)
noncomputable def changes (l : List S137) (a b : Int) : List Int := chTo l a b 1000
theorem chTo_succ (l : List S137) (a b : Int) (m : Nat) : chTo l a b (m + 1) = if chP l a b (m : Int) = true then chTo l a b m ++ [(m : Int)] else chTo l a b m := by
 unfold chTo
 rw [List.range_succ, List.filter_append, List.map_append]
 by_cases c : chP l a b (m : Int) = true
 ·simp [c]
 ·simp [c]
theorem chTo_len (l : List S137) (a b : Int) (m : Nat) : (chTo l a b m).length ≤ m := by
 unfold chTo
 rw [List.length_map]
 exact Nat.le_trans (List.length_filter_le _ _) (by simp)
theorem changes_le (l : List S137) (a b : Int) : (changes l a b).length ≤ 1000 := by
 unfold changes
 exact chTo_len l a b 1000
theorem chTo_skip {l : List S137} {a b : Int} {m : Nat} : ∀ d, (∀ t : Nat, m ≤ t → t < m + d → chP l a b (t : Int) = false) → chTo l a b (m + d) = chTo l a b m
 | 0, _ => rfl
 | d + 1, h => by
  rw [← Nat.add_assoc, chTo_succ, if_neg (by rw [h (m + d) (by omega) (by omega)]; simp)]
  exact chTo_skip d fun t h1 h2 => h t h1 (by omega)
theorem chTo_none {l : List S137} {a b : Int} {m : Nat} (h : ∀ t : Nat, t < m → chP l a b (t : Int) = false) : chTo l a b m = [] := by
 have := chTo_skip (l := l) (a := a) (b := b) (m := 0) m fun t _ h2 => h t (by omega)
 rw [Nat.zero_add] at this
 rw [this]
 rfl
theorem chTo_all {l : List S137} {a b : Int} {m : Nat} (hm : m ≤ 1000) (h : ∀ t : Nat, m ≤ t → t < 1000 → chP l a b (t : Int) = false) : chTo l a b m = changes l a b := by
 have := chTo_skip (l := l) (a := a) (b := b) (m := m) (1000 - m) fun t h1 h2 => h t h1 (by omega)
 rw [show m + (1000 - m) = 1000 by omega] at this
 exact this.symm
theorem chP_out {l : List S137} {a b t : Int} (h : ¬ (1 ≤ t ∧ a < t ∧ t < b)) : chP l a b t = false := by
 unfold chP
 rw [decide_eq_false h]
 rfl
theorem chP_in {l : List S137} {a b t : Int} (h : 1 ≤ t ∧ a < t ∧ t < b) : chP l a b t = !(sameL (linksAt l (t - 1)) (linksAt l t)) := by
 unfold chP
 rw [decide_eq_true h]
 rfl
theorem changesS {l : List S137} (hl : l.length ≤ 1048576) (a b : Int) : Ev (fun k => spec_ChangesOf.f k l a b) (changes l a b) := by
 have mxS : ∀ x y : Int, spec_Max.f x y = some (max x y) := by
  intro x y
  unfold spec_Max.f
  split
  ·congr 1
   omega
  ·congr 1
   omega
 have mnS : ∀ x y : Int, spec_Min.f x y = some (min x y) := by
  intro x y
  unfold spec_Min.f
  split
  ·congr 1
   omega
  ·congr 1
   omega
 have key : ∀ m i : Nat, 1 ≤ i → a < i → (i : Int) ≤ 1000 → (min 1000 b : Int) ≤ i + m → Ev (fun k => spec_ChangesOf.l0 k l (chTo l a b i) (min 1000 b) (i : Int)) (changes l a b) := by
  intro m
  induction m with
  | zero =>
   intro i h1 h2 h3 h4
   refine Ev.step (fun k => by rw [spec_ChangesOf.l0]) ?_
   exact Ev.ite_neg (by omega) (Ev.some (chTo_all (by omega) fun t _ _ => chP_out (by omega)))
  | succ m ih =>
   intro i h1 h2 h3 h4
   by_cases c : (i : Int) < min 1000 b
   ·have h := ih (i + 1) (by omega) (by omega) (by omega) (by omega)
    rw [chTo_succ, chP_in ⟨by omega, h2, by omega⟩] at h
    have hlen := chTo_len l a b i
    refine Ev.step (fun k => by rw [spec_ChangesOf.l0]) ?_
    refine Ev.ite_pos c ?_
    rw [w64 (x := (i : Int) - 1) (by omega) (by omega), w64n (by omega)]
    refine Ev.bind (linksS hl _) (Ev.bind (linksS hl _) (Ev.bind (sameS (by have := linksAt_len l ((i : Int) - 1); omega)) ?_))
    by_cases s : sameL (linksAt l ((i : Int) - 1)) (linksAt l (i : Int)) = true
    ·rw [s, if_neg (by simp)] at h
     exact Ev.ite_pos s h
    ·rw [Bool.eq_false_iff.2 s, if_pos (show (!false) = true from rfl)] at h
     exact Ev.ite_neg s (Ev.ite_pos (by omega) h)
   ·refine Ev.step (fun k => by rw [spec_ChangesOf.l0]) ?_
    exact Ev.ite_neg c (Ev.some (chTo_all (by omega) fun t _ _ => chP_out (by omega)))
 unfold spec_ChangesOf.f
 refine Ev.bind0 (mxS 0 a) (Ev.bind0 (mnS 1000 _) (Ev.bind0 (mnS 1000 b) ?_))
 rw [w64 (x := min 1000 (max 0 a) + 1) (by omega) (by omega)]
 by_cases c : a ≤ 999
 ·have h := key 1000 ((min 1000 (max 0 a)).toNat + 1) (by omega) (by omega) (by omega) (by omega)
  rw [chTo_none (fun t ht => chP_out (by omega)), show (((min 1000 (max 0 a)).toNat + 1 : Nat) : Int) = min 1000 (max 0 a) + 1 by omega] at h
  exact h
 ·refine Ev.step (fun k => by rw [spec_ChangesOf.l0]) ?_
  refine Ev.ite_neg (by omega) (Ev.some ?_)
  unfold changes
  rw [chTo_none]
  exact fun t ht => chP_out (by omega)
def spansOf (a : Int) : List Int → List S102
 | [] => []
 | c :: cs => ⟨a, c⟩ :: spansOf c cs
theorem spansOf_len : ∀ (a : Int) (cs : List Int), (spansOf a cs).length = cs.length
 | _, [] => rfl
 | _, c :: cs => by rw [spansOf, List.length_cons, List.length_cons, spansOf_len c cs]
noncomputable def pieces (l : List S137) (a b : Int) : List S102 := if spanQ a b = true then spansOf a (changes l a b ++ [b]) else []
theorem piecesS {l : List S137} (hl : l.length ≤ 1048576) (a b : Int) : Ev (fun k => spec_PiecesOf.f k l a b) (pieces l a b) := by
 have key : ∀ (ys cs : List Int) (i : Nat) (x : Int) (acc : List S102), cs.drop i = ys → i ≤ cs.length → cs.length ≤ 2000 → acc.length ≤ i → Ev (fun k => spec_PiecesOf.l0 k acc x cs (i : Int)) (acc ++ spansOf x ys) := by
  intro ys
  induction ys with
  | nil =>
   intro cs i x acc hy hi hc ha
   have := List.drop_eq_nil_iff.1 hy
   refine Ev.step (fun k => by rw [spec_PiecesOf.l0]) ?_
   refine Ev.ite_neg (by omega) (Ev.some ?_)
   simp [spansOf]
  | cons y ys ih =>
   intro cs i x acc hy hi hc ha
   obtain ⟨hi', hg, hy'⟩ := drop_cons (z := 0) hy
   have h := ih cs (i + 1) y (acc ++ [⟨x, y⟩]) hy' (by omega) hc (by rw [List.length_append, List.length_singleton]; omega)
   rw [List.append_assoc] at h
   refine Ev.step (fun k => by rw [spec_PiecesOf.l0]) ?_
   refine Ev.ite_pos (by omega) (Ev.ite_pos (by omega) (Ev.ite_pos (by omega) ?_))
   rw [rd_nat, hg, w64n (by omega)]
   exact h
 unfold spec_PiecesOf.f pieces
 refine Ev.bind0 rfl (Ev.bind0 (spanS a b) ?_)
 have hlen := changes_le l a b
 by_cases c : spanQ a b = true
 ·rw [if_pos c]
  have h := key (changes l a b ++ [b]) (changes l a b ++ [b]) 0 a [] (List.drop_zero) (Nat.zero_le _) (by rw [List.length_append, List.length_singleton]; omega) (Nat.le_refl _)
  rw [List.nil_append] at h
  exact Ev.ite_pos c (Ev.bind (changesS hl a b) (Ev.ite_pos (by omega) h))
 ·rw [if_neg c]
  exact Ev.ite_neg c (Ev.now _)
def tabOf (l : List S134) (n first d : Int) : S55 := ⟨d, dists l n first d, nextsTo l n first d⟩
def tabs (l : List S134) (n first : Int) : List S55 := (List.range n.toNat).map fun d : Nat => tabOf l n first (d : Int)
theorem tabsS {l : List S134} (hl : l.length ≤ 1048576) {n : Int} (hn : 0 ≤ n ∧ n ≤ 100) (first : Int) : Ev (fun k => spec_l17Tables.f k l n first) (tabs l n first) := by
 have key : ∀ m i : Nat, i + m = n.toNat → Ev (fun k => spec_l17Tables.l0 k l n first ((List.range i).map fun d => tabOf l n first ((d : Nat) : Int)) (i : Int)) (tabs l n first) := by
  intro m
  induction m with
  | zero =>
   intro i hi
   obtain rfl : i = n.toNat := by omega
   refine Ev.step (fun k => by rw [spec_l17Tables.l0]) ?_
   exact Ev.ite_neg (by omega) (Ev.now _)
  | succ m ih =>
   intro i hi
   have h := ih (i + 1) (by omega)
   rw [List.range_succ, List.map_append] at h
   refine Ev.step (fun k => by rw [spec_l17Tables.l0]) ?_
   refine Ev.ite_pos (by omega) (Ev.bind (tableS hl n first (i : Int)) (Ev.ite_pos (by simp; omega) ?_))
   rw [w64n (by omega)]
   exact h
 exact key n.toNat 0 (by omega)
theorem tabsI {l : List S134} (hl : l.length ≤ 1048576) {n : Int} (hn : 0 ≤ n ∧ n ≤ 100) (first : Int) : Ev (fun k => impl_tablesOf.f k l n first) (tabs l n first) := by
 have key : ∀ m i : Nat, i + m = n.toNat → Ev (fun k => impl_tablesOf.l0 k l n first ((List.range i).map fun d => tabOf l n first ((d : Nat) : Int)) n (i : Int)) (tabs l n first) := by
  intro m
  induction m with
  | zero =>
   intro i hi
   obtain rfl : i = n.toNat := by omega
   refine Ev.step (fun k => by rw [impl_tablesOf.l0]) ?_
   exact Ev.ite_neg (by omega) (Ev.now _)
  | succ m ih =>
   intro i hi
   have h := ih (i + 1) (by omega)
   rw [List.range_succ, List.map_append] at h
   refine Ev.step (fun k => by rw [impl_tablesOf.l0]) ?_
   refine Ev.ite_pos (by omega) (Ev.bind (tableI hl n first (i : Int)) (Ev.ite_pos (by simp; omega) ?_))
   rw [w64n (by omega)]
   exact h
 exact key n.toNat 0 (by omega)
def pcOf (plan : List S137) (n first : Int) (s : S102) : S105 := ⟨⟨s.f0, s.f1⟩, linksAt plan s.f0, tabs (linksAt plan s.f0) n first⟩
def Frame (n first skew : Int) : Prop := (1 ≤ n ∧ n ≤ 12) ∧ (0 ≤ first ∧ first ≤ n) ∧ 0 ≤ skew ∧ skew ≤ 5
instance (n first skew : Int) : Decidable (Frame n first skew) := by unfold Frame; infer_instance
theorem frameS (n first skew : Int) : spec_l17Frame.f n first skew = some (decide (Frame n first skew)) := by
 unfold spec_l17Frame.f
 rw [inP, Option.bind_some, inP, Option.bind_some, inP, Option.bind_some]
 by_cases c1 : 1 ≤ n ∧ n ≤ 12
 ·rw [if_pos (decide_eq_true c1)]
  by_cases c2 : 0 ≤ first ∧ first ≤ n
  ·rw [if_pos (decide_eq_true c2)]
   congr 1
   rw [decide_eq_decide]
   unfold Frame
   exact ⟨fun h => ⟨c1, c2, h⟩, fun h => h.2.2⟩
  ·rw [if_neg (by simpa using c2), eq_comm]
   congr 1
   rw [decide_eq_false_iff_not]
   exact fun h => c2 h.2.1
 ·rw [if_neg (by simpa using c1), eq_comm]
  congr 1
  rw [decide_eq_false_iff_not]
  exact fun h => c1 h.1
theorem frameI (n first skew : Int) : impl_isFrame.f n first skew = some (decide (Frame n first skew)) := by
 unfold impl_isFrame.f impl_isNumber.f
 rw [rgP, Option.bind_some, Option.bind_some, rgP, Option.bind_some, rgP, Option.bind_some]
 by_cases c1 : 1 ≤ n ∧ n ≤ 12
 ·rw [if_pos (decide_eq_true c1)]
  by_cases c2 : 0 ≤ first ∧ first ≤ n
  ·rw [if_pos (decide_eq_true c2)]
   congr 1
   rw [decide_eq_decide]
   unfold Frame
   exact ⟨fun h => ⟨c1, c2, h⟩, fun h => h.2.2⟩
  ·rw [if_neg (by simpa using c2), eq_comm]
   congr 1
   rw [decide_eq_false_iff_not]
   exact fun h => c2 h.2.1
 ·rw [if_neg (by simpa using c1), eq_comm]
  congr 1
  rw [decide_eq_false_iff_not]
  exact fun h => c1 h.1
def BuildOk (plan : List S137) (n first a b skew : Int) : Prop := Frame n first skew ∧ PlanOk n plan ∧ 1 ≤ (pieces plan a b).length ∧ (pieces plan a b).length ≤ 40
noncomputable def build (plan : List S137) (n first a b skew : Int) : Int × Int × Int × List S105 × Bool :=
 @ite _ (BuildOk plan n first a b skew) (Classical.propDecidable _) (n, first, skew, (pieces plan a b).map (pcOf plan n first), true) (0, 0, 0, [], false)
theorem build_yes {plan : List S137} {n first a b skew : Int} (h : BuildOk plan n first a b skew) : build plan n first a b skew = (n, first, skew, (pieces plan a b).map (pcOf plan n first), true) := @if_pos _ (Classical.propDecidable _) h _ _ _
theorem build_no {plan : List S137} {n first a b skew : Int} (h : ¬ BuildOk plan n first a b skew) : build plan n first a b skew = (0, 0, 0, [], false) := @if_neg _ (Classical.propDecidable _) h _ _ _
theorem rdSp (l : List S102) (i : Nat) : rd_T102 l (i : Int) = l.getD i z102 := rfl
theorem buildS {plan : List S137} (hl : plan.length ≤ 1048576) (n first a b skew : Int) : Ev (fun k => spec_BuildProgram.f k plan n first a b skew) (build plan n first a b skew) := by
 unfold spec_BuildProgram.f
 refine Ev.bind0 (frameS n first skew) ?_
 by_cases c1 : Frame n first skew
 ·refine Ev.ite_pos (decide_eq_true c1) (Ev.bind (planS hl) ?_)
  by_cases c2 : PlanOk n plan
  ·rw [planB_iff.2 c2]
   refine Ev.step (fun k => by rw [spec_BuildProgram.j0]) ?_
   refine Ev.ite_neg (by simp) (Ev.bind (piecesS hl a b) (Ev.bind0 (inP _ 1 40) ?_))
   by_cases c3 : 1 ≤ (pieces plan a b).length ∧ (pieces plan a b).length ≤ 40
   ·refine Ev.ite_pos (decide_eq_true (by omega)) ?_
    rw [build_yes ⟨c1, c2, c3⟩]
    have hn : 0 ≤ n ∧ n ≤ 100 := by unfold Frame at c1; omega
    have key : ∀ m i : Nat, i + m = (pieces plan a b).length → Ev (fun k => spec_BuildProgram.l0 k plan n first (pieces plan a b) (i : Int) n first skew (((pieces plan a b).take i).map (pcOf plan n first))) (n, first, skew, (pieces plan a b).map (pcOf plan n first), true) := by
     intro m
     induction m with
     | zero =>
      intro i hi
      rw [List.take_of_length_le (by omega)]
      refine Ev.step (fun k => by rw [spec_BuildProgram.l0]) ?_
      exact Ev.ite_neg (by omega) (Ev.now _)
     | succ m ih =>
      intro i hi
      have h := ih (i + 1) (by omega)
      rw [take_succ_getD (show i < (pieces plan a b).length by omega) z102, List.map_append] at h
      refine Ev.step (fun k => by rw [spec_BuildProgram.l0]) ?_
      refine Ev.ite_pos (by omega) (Ev.ite_pos (by omega) ?_)
      rw [rdSp, w64n (by omega)]
      refine Ev.bind (linksS hl _) (Ev.bind (tabsS (by have := linksAt_len plan ((pieces plan a b).getD i z102).f0; omega) hn first) (Ev.ite_pos (by simp; omega) h))
    exact key (pieces plan a b).length 0 (by omega)
   ·refine Ev.ite_neg (by rw [decide_eq_true_iff]; omega) ?_
    rw [build_no fun h => c3 h.2.2]
    exact Ev.now _
  ·rw [Bool.eq_false_iff.2 (fun h => c2 (planB_iff.1 h)), build_no fun h => c2 h.2.1]
   refine Ev.step (fun k => by rw [spec_BuildProgram.j0]) ?_
   exact Ev.ite_pos (by simp) (Ev.now _)
 ·refine Ev.ite_neg (by simpa using c1) ?_
  rw [build_no fun h => c1 h.1]
  refine Ev.step (fun k => by rw [spec_BuildProgram.j0]) ?_
  exact Ev.ite_pos rfl (Ev.now _)
end Go.Proofs.Ytiihaabhjphaeaa.fnMargins
/- How many elements a program has that a draw made. Conditions: none. -/
namespace Go.Proofs.Ytiihaabhjphaeaa.fnMargins
open Go.RowKit Go.Proofs.YtiihaabhjphaeaaW.PrintWords Go.Proofs.YtiihaabhjphaeaaW.PrintMore Go.Proofs.Ytiihaabhjphaeaa.QFnMargins Go.Proofs.Ytiihaabhjphaeaa.Open Go.Proofs.Ytiihaabhjphaeaa.Kit
def n55 (x : S55) : Nat := x.f1.length + x.f2.length
def n105 (x : S105) : Nat := x.f1.length + (x.f2.length + (x.f2.map n55).sum)
def nPgI (l : List S105) : Nat := l.length + (l.map n105).sum
theorem sum_map_le {α : Type} (f : α → Nat) (B : Nat) : ∀ l : List α, (∀ x ∈ l, f x ≤ B) → (l.map f).sum ≤ l.length * B
 | [], _ => by simp
 | x :: l, h => by
  have h1 := h x List.mem_cons_self
  have h2 := sum_map_le f B l fun y hy => h y (List.mem_cons_of_mem _ hy)
  rw [List.map_cons, List.sum_cons, List.length_cons, Nat.succ_mul]
  omega
def Small (p : List S105) : Prop := p.length ≤ 40 ∧ ∀ x ∈ p, n105 x ≤ 1000
theorem Small.size {p : List S105} (h : Small p) : nPgI p ≤ 1048576 := by
 have h1 := sum_map_le n105 1000 p h.2
 have h2 := h.1
 unfold nPgI
 omega
end Go.Proofs.Ytiihaabhjphaeaa.fnMargins
/- Whether what a law is handed is a program, in the program and in the reference. Conditions: none. -/
namespace Go.Proofs.Ytiihaabhjphaeaa.fnMargins
open Go.RowKit Go.Proofs.YtiihaabhjphaeaaW.PrintWords Go.Proofs.YtiihaabhjphaeaaW.PrintLast Go.Proofs.YtiihaabhjphaeaaW.PrintMore Go.Proofs.Ytiihaabhjphaeaa.QFnMargins Go.Proofs.Ytiihaabhjphaeaa.Open Go.Proofs.Ytiihaabhjphaeaa.Kit Go.Proofs.Ytiihaabhjphaeaa.Bfs
theorem all_step {α : Type} {a b : List α} {z : α} {i : Nat} {r : Bool} (h : a.getD i z = b.getD i z) (hr : r = true ↔ ∀ j : Nat, i + 1 ≤ j → j < a.length → a.getD j z = b.getD j z) : r = true ↔ ∀ j : Nat, i ≤ j → j < a.length → a.getD j z = b.getD j z := by
 rw [hr]
 constructor
 ·intro hh j h1 h2
  by_cases e : j = i
  ·rw [e]
   exact h
  ·exact hh j (by omega) h2
 ·exact fun hh j h1 h2 => hh j (by omega) h2
theorem all_bad {α : Type} {a b : List α} {z : α} {i : Nat} (hi : i < a.length) (h : a.getD i z ≠ b.getD i z) : false = true ↔ ∀ j : Nat, i ≤ j → j < a.length → a.getD j z = b.getD j z := by
 constructor
 ·intro e
  cases e
 ·exact fun hh => absurd (hh i (Nat.le_refl _) hi) h
theorem all_end {α : Type} {a b : List α} {z : α} {i : Nat} (hi : a.length ≤ i) : true = true ↔ ∀ j : Nat, i ≤ j → j < a.length → a.getD j z = b.getD j z := by
 simp only [true_iff]
 intro j h1 h2
 omega
theorem all_eq {α : Type} {a b : List α} {z : α} (hlen : a.length = b.length) {r : Bool} (h : r = true ↔ ∀ j : Nat, 0 ≤ j → j < a.length → a.getD j z = b.getD j z) : r = true ↔ a = b := by
 rw [h]
 constructor
 ·intro hh
  apply List.ext_getElem hlen
  intro i h1 h2
  have := hh i (by omega) h1
  rw [getD_at h1, getD_at h2] at this
  exact this
 ·intro e j _ _
  rw [e]
theorem no_eq {α : Type} {a b : List α} (hlen : a.length ≠ b.length) : false = true ↔ a = b := by
 constructor
 ·intro e
  cases e
 ·exact fun e => absurd (by rw [e]) hlen
theorem intsI {a b : List Int} (ha : a.length ≤ 2000000) : ∃ r, Ev (fun k => slices_Equal_int_int.f k a b) r ∧ (r = true ↔ a = b) := by
 unfold slices_Equal_int_int.f
 by_cases hlen : a.length = b.length
 ·have key : ∀ m i : Nat, i + m = a.length → ∃ r, Ev (fun k => slices_Equal_int_int.l0 k a b (a.length : Int) (i : Int)) r ∧ (r = true ↔ ∀ j : Nat, i ≤ j → j < a.length → a.getD j 0 = b.getD j 0) := by
   intro m
   induction m with
   | zero =>
    intro i hi
    refine ⟨true, ?_, all_end (by omega)⟩
    refine Ev.step (fun k => by rw [slices_Equal_int_int.l0]) ?_
    exact Ev.ite_neg (by omega) (Ev.now _)
   | succ m ih =>
    intro i hi
    obtain ⟨r, hr, hri⟩ := ih (i + 1) (by omega)
    by_cases c : rd a (i : Int) = rd b (i : Int)
    ·refine ⟨r, ?_, all_step c hri⟩
     refine Ev.step (fun k => by rw [slices_Equal_int_int.l0]) ?_
     refine Ev.ite_pos (by omega) (Ev.ite_pos (by omega) (Ev.ite_pos (by omega) (Ev.ite_pos (by omega) (Ev.ite_pos c ?_))))
     rw [w64n (by omega)]
     exact hr
    ·refine ⟨false, ?_, all_bad (by omega) c⟩
     refine Ev.step (fun k => by rw [slices_Equal_int_int.l0]) ?_
     exact Ev.ite_pos (by omega) (Ev.ite_pos (by omega) (Ev.ite_pos (by omega) (Ev.ite_pos (by omega) (Ev.ite_neg c (Ev.now _)))))
  obtain ⟨r, hr, hri⟩ := key a.length 0 (by omega)
  exact ⟨r, Ev.ite_pos (by omega) hr, all_eq hlen hri⟩
 ·exact ⟨false, Ev.ite_neg (by omega) (Ev.now _), no_eq hlen⟩
theorem tab_ext {x y : S55} (h0 : x.f0 = y.f0) (h1 : x.f1 = y.f1) (h2 : x.f2 = y.f2) : x = y := by
 cases x
 cases y
 simp at h0 h1 h2
 rw [h0, h1, h2]
theorem eqTabI {x y : S55} (h1 : x.f1.length ≤ 2000000) (h2 : x.f2.length ≤ 2000000) : ∃ r, Ev (fun k => impl_EqualTables.f k x.f0 x.f1 x.f2 y.f0 y.f1 y.f2) r ∧ (r = true ↔ x = y) := by
 unfold impl_EqualTables.f
 by_cases c0 : x.f0 = y.f0
 ·obtain ⟨r1, e1, i1⟩ := intsI (b := y.f1) h1
  obtain ⟨r2, e2, i2⟩ := intsI (b := y.f2) h2
  by_cases c1 : r1 = true
  ·refine ⟨r2, Ev.ite_pos c0 (Ev.bind e1 (Ev.ite_pos c1 (Ev.bind e2 (Ev.now _)))), ?_⟩
   rw [i2]
   exact ⟨fun h => tab_ext c0 (i1.1 c1) h, fun h => by rw [h]⟩
  ·refine ⟨false, Ev.ite_pos c0 (Ev.bind e1 (Ev.ite_neg c1 (Ev.now _))), ?_⟩
   constructor
   ·intro e
    cases e
   ·exact fun h => absurd (i1.2 (by rw [h])) c1
 ·refine ⟨false, Ev.ite_neg c0 (Ev.now _), ?_⟩
  constructor
  ·intro e
   cases e
  ·exact fun h => absurd (by rw [h]) c0
def TabsLe (l : List S55) : Prop := l.length ≤ 2000000 ∧ ∀ y ∈ l, y.f1.length ≤ 2000000 ∧ y.f2.length ≤ 2000000
theorem tablesEqI {a b : List S55} (ha : TabsLe a) : ∃ r, Ev (fun k => impl_Table.f k a b 0) r ∧ (r = true ↔ a = b) := by
 unfold impl_Table.f
 have ha1 := ha.1
 by_cases hlen : a.length = b.length
 ·have key : ∀ m i : Nat, i + m = a.length → ∃ r, Ev (fun k => impl_Table.l0 k b a (a.length : Int) (i : Int)) r ∧ (r = true ↔ ∀ j : Nat, i ≤ j → j < a.length → a.getD j z55 = b.getD j z55) := by
   intro m
   induction m with
   | zero =>
    intro i hi
    refine ⟨true, ?_, all_end (by omega)⟩
    refine Ev.step (fun k => by rw [impl_Table.l0]) ?_
    exact Ev.ite_neg (by omega) (Ev.now _)
   | succ m ih =>
    intro i hi
    obtain ⟨r, hr, hri⟩ := ih (i + 1) (by omega)
    have hm := ha.2 _ (getD_mem (show i < a.length by omega) z55)
    obtain ⟨q, hq, hqi⟩ := eqTabI (x := rd_T55 a (i : Int)) (y := rd_T55 b (i : Int)) hm.1 hm.2
    by_cases c : q = true
    ·refine ⟨r, ?_, all_step (hqi.1 c) hri⟩
     refine Ev.step (fun k => by rw [impl_Table.l0]) ?_
     refine Ev.ite_pos (by omega) (Ev.ite_pos (by omega) (Ev.ite_pos (by omega) (Ev.ite_pos (by omega) (Ev.bind hq (Ev.ite_pos c ?_)))))
     rw [w64n (by omega)]
     exact hr
    ·refine ⟨false, ?_, all_bad (by omega) fun h => c (hqi.2 h)⟩
     refine Ev.step (fun k => by rw [impl_Table.l0]) ?_
     exact Ev.ite_pos (by omega) (Ev.ite_pos (by omega) (Ev.ite_pos (by omega) (Ev.ite_pos (by omega) (Ev.bind hq (Ev.ite_neg c (Ev.now _))))))
  obtain ⟨r, hr, hri⟩ := key a.length 0 (by omega)
  exact ⟨r, Ev.ite_pos (by omega) hr, all_eq hlen hri⟩
 ·exact ⟨false, Ev.ite_neg (by omega) (Ev.now _), no_eq hlen⟩
def PcOk (n first : Int) (x : S105) : Prop := (0 ≤ x.f0.f0 ∧ x.f0.f1 ≤ 1000 ∧ x.f0.f0 < x.f0.f1) ∧ x.f2 = tabs x.f1 n first
def FromOk (n first : Int) (p : List S105) (i : Nat) : Prop := ∀ j, i ≤ j → j < p.length → PcOk n first (p.getD j z105) ∧ (0 < j → (p.getD (j - 1) z105).f0.f1 = (p.getD j z105).f0.f0)
def ProgOk (n first skew : Int) (p : List S105) : Prop := Frame n first skew ∧ (1 ≤ p.length ∧ p.length ≤ 40) ∧ FromOk n first p 0
noncomputable def progB (n first skew : Int) (p : List S105) : Bool := @decide (ProgOk n first skew p) (Classical.propDecidable _)
theorem progB_iff {n first skew : Int} {p : List S105} : progB n first skew p = true ↔ ProgOk n first skew p := @decide_eq_true_iff _ (Classical.propDecidable _)
theorem fromOk_step {n first : Int} {p : List S105} {i : Nat} {r : Bool} (h : PcOk n first (p.getD i z105) ∧ (0 < i → (p.getD (i - 1) z105).f0.f1 = (p.getD i z105).f0.f0)) (hr : r = true ↔ FromOk n first p (i + 1)) : r = true ↔ FromOk n first p i := by
 rw [hr]
 constructor
 ·intro hh j h1 h2
  by_cases e : j = i
  ·rw [e]
   exact h
  ·exact hh j (by omega) h2
 ·exact fun hh j h1 h2 => hh j (by omega) h2
theorem fromOk_bad {n first : Int} {p : List S105} {i : Nat} (hi : i < p.length) (h : ¬ (PcOk n first (p.getD i z105) ∧ (0 < i → (p.getD (i - 1) z105).f0.f1 = (p.getD i z105).f0.f0))) : false = true ↔ FromOk n first p i := by
 constructor
 ·intro e
  cases e
 ·exact fun hh => absurd (hh i (Nat.le_refl _) hi) h
def PcsLe (p : List S105) : Prop := ∀ x ∈ p, x.f1.length ≤ 1048576 ∧ TabsLe x.f2
theorem pcsLe {p : List S105} (hp : nPgI p ≤ 1048576) : PcsLe p := by
 intro x hx
 have h1 := le_sum n105 hx
 have e1 : n105 x = x.f1.length + (x.f2.length + (x.f2.map n55).sum) := rfl
 unfold nPgI at hp
 refine ⟨by omega, by omega, fun y hy => ?_⟩
 have h2 := le_sum n55 hy
 have e2 : n55 y = y.f1.length + y.f2.length := rfl
 omega
theorem rdP (p : List S105) (i : Nat) : rd_T105 p (i : Int) = p.getD i z105 := rfl
theorem rdP1 (p : List S105) {i : Nat} (h : 0 < i) : rd_T105 p ((i : Int) - 1) = p.getD (i - 1) z105 := by
 rw [show ((i : Int) - 1) = ((i - 1 : Nat) : Int) by omega]
 rfl
theorem frame_n {n first skew : Int} (h : Frame n first skew) : 1 ≤ n ∧ n ≤ 12 := h.1
theorem progI {n first skew : Int} {p : List S105} (hp : PcsLe p) : Ev (fun k => impl_IsProgram.f k n first skew p) (progB n first skew p) := by
 unfold impl_IsProgram.f
 refine Ev.bind0 (frameI n first skew) ?_
 by_cases c1 : Frame n first skew
 ·refine Ev.ite_pos (decide_eq_true c1) (Ev.bind0 (rgP _ 1 40) ?_)
  by_cases c2 : 1 ≤ p.length ∧ p.length ≤ 40
  ·rw [decide_eq_true (show (1 : Int) ≤ (p.length : Int) ∧ (p.length : Int) ≤ 40 by omega)]
   have hn := frame_n c1
   have key : ∀ m i : Nat, i + m = p.length → ∃ r, Ev (fun k => impl_IsProgram.l0 k p (p.length : Int) (i : Int) n first skew p) r ∧ (r = true ↔ FromOk n first p i) := by
    intro m
    induction m with
    | zero =>
     intro i hi
     refine ⟨true, ?_, ?_⟩
     ·refine Ev.step (fun k => by rw [impl_IsProgram.l0]) ?_
      exact Ev.ite_neg (by omega) (Ev.now _)
     ·simp only [true_iff]
      intro j h1 h2
      omega
    | succ m ih =>
     intro i hi
     obtain ⟨r, hr, hri⟩ := ih (i + 1) (by omega)
     have hm := hp _ (getD_mem (show i < p.length by omega) z105)
     have hsp : spanQ (p.getD i z105).f0.f0 (p.getD i z105).f0.f1 = true ↔ (0 ≤ (p.getD i z105).f0.f0 ∧ (p.getD i z105).f0.f1 ≤ 1000 ∧ (p.getD i z105).f0.f0 < (p.getD i z105).f0.f1) := by
      unfold spanQ
      exact decide_eq_true_iff
     have ht := tabsI hm.1 (show 0 ≤ n ∧ n ≤ 100 by omega) first
     obtain ⟨q, hq, hqi⟩ := tablesEqI (b := tabs (p.getD i z105).f1 n first) hm.2
     by_cases c : spanQ (p.getD i z105).f0.f0 (p.getD i z105).f0.f1 = true
     ·by_cases h0 : 0 < i
      ·by_cases c3 : (p.getD i z105).f0.f0 = (p.getD (i - 1) z105).f0.f1
       ·by_cases c4 : q = true
        ·refine ⟨r, ?_, fromOk_step ⟨⟨hsp.1 c, hqi.1 c4⟩, fun _ => c3.symm⟩ hri⟩
         refine Ev.step (fun k => by rw [impl_IsProgram.l0]) ?_
         refine Ev.ite_pos (by omega) (Ev.ite_pos (by omega) (Ev.ite_pos (by omega) ?_))
         rw [rdP, w64n (by omega), w64 (x := (i : Int) - 1) (by omega) (by omega), rdP1 p h0]
         exact Ev.bind0 (spanI _ _) (Ev.ite_pos c (Ev.ite_pos (by omega) (Ev.ite_pos (by omega) (Ev.ite_pos (by omega) (Ev.ite_pos c3 (Ev.bind ht (Ev.bind hq (Ev.ite_pos c4 hr))))))))
        ·refine ⟨false, ?_, fromOk_bad (by omega) fun h => c4 (hqi.2 h.1.2)⟩
         refine Ev.step (fun k => by rw [impl_IsProgram.l0]) ?_
         refine Ev.ite_pos (by omega) (Ev.ite_pos (by omega) (Ev.ite_pos (by omega) ?_))
         rw [rdP, w64n (by omega), w64 (x := (i : Int) - 1) (by omega) (by omega), rdP1 p h0]
         exact Ev.bind0 (spanI _ _) (Ev.ite_pos c (Ev.ite_pos (by omega) (Ev.ite_pos (by omega) (Ev.ite_pos (by omega) (Ev.ite_pos c3 (Ev.bind ht (Ev.bind hq (Ev.ite_neg c4 (Ev.now _)))))))))
       ·refine ⟨false, ?_, fromOk_bad (by omega) fun h => c3 (h.2 h0).symm⟩
        refine Ev.step (fun k => by rw [impl_IsProgram.l0]) ?_
        refine Ev.ite_pos (by omega) (Ev.ite_pos (by omega) (Ev.ite_pos (by omega) ?_))
        rw [rdP, w64n (by omega), w64 (x := (i : Int) - 1) (by omega) (by omega), rdP1 p h0]
        exact Ev.bind0 (spanI _ _) (Ev.ite_pos c (Ev.ite_pos (by omega) (Ev.ite_pos (by omega) (Ev.ite_pos (by omega) (Ev.ite_neg c3 (Ev.now _))))))
      ·by_cases c4 : q = true
       ·refine ⟨r, ?_, fromOk_step ⟨⟨hsp.1 c, hqi.1 c4⟩, fun h => absurd h h0⟩ hri⟩
        refine Ev.step (fun k => by rw [impl_IsProgram.l0]) ?_
        refine Ev.ite_pos (by omega) (Ev.ite_pos (by omega) (Ev.ite_pos (by omega) ?_))
        rw [rdP, w64n (by omega)]
        exact Ev.bind0 (spanI _ _) (Ev.ite_pos c (Ev.ite_neg (by omega) (Ev.bind ht (Ev.bind hq (Ev.ite_pos c4 hr)))))
       ·refine ⟨false, ?_, fromOk_bad (by omega) fun h => c4 (hqi.2 h.1.2)⟩
        refine Ev.step (fun k => by rw [impl_IsProgram.l0]) ?_
        refine Ev.ite_pos (by omega) (Ev.ite_pos (by omega) (Ev.ite_pos (by omega) ?_))
        rw [rdP, w64n (by omega)]
        exact Ev.bind0 (spanI _ _) (Ev.ite_pos c (Ev.ite_neg (by omega) (Ev.bind ht (Ev.bind hq (Ev.ite_neg c4 (Ev.now _))))))
     ·refine ⟨false, ?_, fromOk_bad (by omega) fun h => c (hsp.2 h.1.1)⟩
      refine Ev.step (fun k => by rw [impl_IsProgram.l0]) ?_
      refine Ev.ite_pos (by omega) (Ev.ite_pos (by omega) (Ev.ite_pos (by omega) ?_))
      rw [rdP]
      exact Ev.bind0 (spanI _ _) (Ev.ite_neg c (Ev.now _))
   obtain ⟨r, hr, hri⟩ := key p.length 0 (by omega)
   have e : r = progB n first skew p := by
    rw [Bool.eq_iff_iff, hri, progB_iff]
    exact ⟨fun h => ⟨c1, c2, h⟩, fun h => h.2.2⟩
   rw [← e]
   refine Ev.step (fun k => by rw [impl_IsProgram.j0]) ?_
   exact Ev.ite_neg (by simp) hr
  ·rw [decide_eq_false (show ¬ ((1 : Int) ≤ (p.length : Int) ∧ (p.length : Int) ≤ 40) by omega), Bool.eq_false_iff.2 (fun h => c2 (progB_iff.1 h).2.1)]
   refine Ev.step (fun k => by rw [impl_IsProgram.j0]) ?_
   exact Ev.ite_pos (by simp) (Ev.now _)
 ·refine Ev.ite_neg (by simpa using c1) ?_
  rw [Bool.eq_false_iff.2 (fun h => c1 (progB_iff.1 h).1)]
  refine Ev.step (fun k => by rw [impl_IsProgram.j0]) ?_
  exact Ev.ite_pos rfl (Ev.now _)
end Go.Proofs.Ytiihaabhjphaeaa.fnMargins
/- Whether a piece has a link, in the program and in the reference. Conditions: none. -/
namespace Go.Proofs.Ytiihaabhjphaeaa.fnMargins
open Go.RowKit Go.Proofs.YtiihaabhjphaeaaW.PrintWords Go.Proofs.YtiihaabhjphaeaaW.PrintMore Go.Proofs.Ytiihaabhjphaeaa.QFnMargins Go.Proofs.Ytiihaabhjphaeaa.Open Go.Proofs.Ytiihaabhjphaeaa.Kit
theorem in1 (a b c : Int) : spec_l1In.f a b c = some (decide (b ≤ a ∧ a ≤ c)) := by
 unfold spec_l1In.f
 by_cases h : b ≤ a <;> simp [h]
theorem isIx (i n : Int) : impl_isIndex.f i n = some (decide (0 ≤ i ∧ i < n)) := by
 unfold impl_isIndex.f
 by_cases h : 0 ≤ i <;> simp [h]
def linkB (p : List S105) (k a b : Int) : Bool := decide (0 ≤ k ∧ k < (p.length : Int)) && decide (impl_HasLink.go a b (rd_T105 p k).f1 0 ≥ 0)
theorem links1 (l : List S134) (hl : l.length ≤ 1048576) (a b : Int) : Ev (fun k => spec_HasLink.l0 k a b l 0) (decide (impl_HasLink.go a b l 0 ≥ 0)) := by
 have key : ∀ d i : Nat, i + d = l.length → Ev (fun k => spec_HasLink.l0 k a b l (i : Int)) (decide (impl_HasLink.go a b (l.drop i) i ≥ 0)) := by
  intro d
  induction d with
  | zero =>
   intro i hi
   refine Ev.step (fun k => by rw [spec_HasLink.l0]) ?_
   repeat (first | (with_reducible refine Ev.ite_pos (by omega) ?_) | (with_reducible refine Ev.ite_neg (by omega) ?_))
   refine Ev.some ?_
   rw [List.drop_of_length_le (by omega), impl_HasLink.go]
   rfl
  | succ d ih =>
   intro i hi
   have h1 := ih (i + 1) (by omega)
   refine Ev.step (fun k => by rw [spec_HasLink.l0]) ?_
   repeat (first | (with_reducible refine Ev.ite_pos (by omega) ?_) | (with_reducible refine Ev.ite_neg (by omega) ?_))
   rw [drop_getD (by omega : i < l.length) z134, show rd_T134 l (i : Int) = l.getD i z134 from rfl, w64n (by omega), impl_HasLink.go]
   generalize l.getD i z134 = x
   unfold impl_HasLink.hit
   cases c1 : (x.f0 == a && x.f1 == b) with
   | true =>
    refine Ev.ite_pos rfl (Ev.some ?_)
    rw [if_pos (by rfl), decide_eq_true (by omega)]
   | false =>
    refine Ev.ite_neg (by simp) ?_
    cases c2 : (x.f0 == b && x.f1 == a) with
    | true =>
     refine Ev.ite_pos rfl (Ev.some ?_)
     rw [if_pos (by rfl), decide_eq_true (by omega)]
    | false =>
     refine Ev.ite_neg (by simp) ?_
     rw [if_neg (by decide)]
     exact h1
 exact key l.length 0 (by omega)
theorem link_in {p : List S105} (hp : nPgI p ≤ 1048576) {k : Int} (h : 0 ≤ k ∧ k < (p.length : Int)) : (rd_T105 p k).f1.length ≤ 1048576 := by
 have hm := le_sum n105 (getD_mem (show k.toNat < p.length by omega) z105)
 unfold nPgI at hp
 unfold n105 at hm hp
 show (p.getD k.toNat z105).f1.length ≤ 1048576
 omega
theorem link1 (p : List S105) (hp : nPgI p ≤ 1048576) (n a0 s k a b : Int) : Ev (fun r => spec_HasLink.f r n a0 s p k a b) (linkB p k a b) := by
 have hl : p.length ≤ 1048576 := by unfold nPgI at hp; omega
 unfold spec_HasLink.f linkB
 refine Ev.bind0 (in1 k 0 _) ?_
 rw [w64 (x := (p.length : Int) - 1) (by omega) (by omega)]
 by_cases h : 0 ≤ k ∧ k < (p.length : Int)
 ·rw [decide_eq_true h, Bool.true_and, decide_eq_true (show 0 ≤ k ∧ k ≤ (p.length : Int) - 1 by omega)]
  refine Ev.ite_pos rfl (Ev.ite_pos h.1 (Ev.ite_pos h.2 ?_))
  exact links1 _ (link_in hp h) a b
 ·rw [decide_eq_false h, Bool.false_and, decide_eq_false (show ¬ (0 ≤ k ∧ k ≤ (p.length : Int) - 1) by omega)]
  exact Ev.ite_neg (by simp) (Ev.now _)
theorem link2 (p : List S105) (hp : nPgI p ≤ 1048576) (n a0 s k a b : Int) : impl_HasLink.f n a0 s p k a b = some (linkB p k a b) := by
 unfold impl_HasLink.f linkB
 rw [isIx, Option.bind_some]
 by_cases h : 0 ≤ k ∧ k < (p.length : Int)
 ·have := link_in hp h
  rw [decide_eq_true h, Bool.true_and, if_pos rfl, if_pos h.1, if_pos h.2, if_pos (by omega)]
 ·rw [decide_eq_false h, Bool.false_and, if_neg (by simp)]
end Go.Proofs.Ytiihaabhjphaeaa.fnMargins
/- The piece of a tick, in the program and in the reference. Conditions: none. -/
namespace Go.Proofs.Ytiihaabhjphaeaa.fnMargins
open Go.RowKit Go.Proofs.YtiihaabhjphaeaaW.PrintWords Go.Proofs.YtiihaabhjphaeaaW.PrintMore Go.Proofs.Ytiihaabhjphaeaa.QFnMargins Go.Proofs.Ytiihaabhjphaeaa.Open Go.Proofs.Ytiihaabhjphaeaa.Kit
theorem same_In (a b t : Int) : spec_InSpan.f a b t = impl_InSpan.f a b t := by
 unfold spec_InSpan.f impl_InSpan.f spec_IsSpan.f impl_IsSpan.f
 rfl
theorem piece1 (p : List S105) (hl : p.length ≤ 1048576) (n a s t : Int) : Ev (fun k => spec_PieceAt.f k n a s p t) (impl_PieceAt.go t p 0) := by
 have key : ∀ d i : Nat, i + d = p.length → Ev (fun k => spec_PieceAt.l0 k t (i : Int) n a s p) (impl_PieceAt.go t (p.drop i) i) := by
  intro d
  induction d with
  | zero =>
   intro i hi
   refine Ev.step (fun k => by rw [spec_PieceAt.l0]) ?_
   repeat (first | (with_reducible refine Ev.ite_pos (by omega) ?_) | (with_reducible refine Ev.ite_neg (by omega) ?_))
   refine Ev.some ?_
   rw [List.drop_of_length_le (by omega), impl_PieceAt.go]
  | succ d ih =>
   intro i hi
   have h1 := ih (i + 1) (by omega)
   refine Ev.step (fun k => by rw [spec_PieceAt.l0]) ?_
   repeat (first | (with_reducible refine Ev.ite_pos (by omega) ?_) | (with_reducible refine Ev.ite_neg (by omega) ?_))
   rw [drop_getD (by omega : i < p.length) z105, show rd_T105 p (i : Int) = p.getD i z105 from rfl, w64n (by omega), same_In, impl_PieceAt.go]
   obtain ⟨q, hq⟩ := impl_PieceAt.tot (p.getD i z105).f0.f0 (p.getD i z105).f0.f1 t
   refine Ev.bind0 hq ?_
   cases q with
   | true =>
    rw [if_pos (by unfold impl_PieceAt.hit; rw [hq]; rfl)]
    exact Ev.ite_pos rfl (Ev.now _)
   | false =>
    rw [if_neg (by unfold impl_PieceAt.hit; rw [hq]; decide)]
    exact Ev.ite_neg (by simp) h1
 exact key p.length 0 (by omega)
theorem piece2 (p : List S105) (hl : p.length ≤ 1048576) (n a s t : Int) : impl_PieceAt.f n a s p t = some (impl_PieceAt.go t p 0) := by
 unfold impl_PieceAt.f
 rw [if_pos (by omega)]
end Go.Proofs.Ytiihaabhjphaeaa.fnMargins
/- Whether two nodes are linked at a tick, in the program and in the reference. Conditions: none. -/
namespace Go.Proofs.Ytiihaabhjphaeaa.fnMargins
open Go.RowKit Go.Proofs.YtiihaabhjphaeaaW.PrintWords Go.Proofs.YtiihaabhjphaeaaW.PrintMore Go.Proofs.Ytiihaabhjphaeaa.QFnMargins Go.Proofs.Ytiihaabhjphaeaa.Open Go.Proofs.Ytiihaabhjphaeaa.Kit
def linked (p : List S105) (a b t : Int) : Bool := linkB p (impl_PieceAt.go t p 0) a b
theorem linked1 (p : List S105) (hp : nPgI p ≤ 1048576) (n a0 s a b t : Int) : Ev (fun r => spec_IsLinked.f r n a0 s p a b t) (linked p a b t) := by
 have hl : p.length ≤ 1048576 := by unfold nPgI at hp; omega
 unfold spec_IsLinked.f
 refine Ev.bind (piece1 p hl n a0 s t) ?_
 refine Ev.bind (link1 p hp n a0 s _ a b) ?_
 exact Ev.now _
theorem linked2 (p : List S105) (hp : nPgI p ≤ 1048576) (n a0 s a b t : Int) : impl_IsLinked.f n a0 s p a b t = some (linked p a b t) := by
 have hl : p.length ≤ 1048576 := by unfold nPgI at hp; omega
 unfold impl_IsLinked.f
 rw [piece2 p hl n a0 s t, Option.bind_some, link2 p hp n a0 s, Option.bind_some]
 rfl
end Go.Proofs.Ytiihaabhjphaeaa.fnMargins
/- Which link may be used, in the program and in the reference. Conditions: none. -/
namespace Go.Proofs.Ytiihaabhjphaeaa.fnMargins
open Go.RowKit Go.Proofs.YtiihaabhjphaeaaW.PrintWords Go.Proofs.YtiihaabhjphaeaaW.PrintMore Go.Proofs.Ytiihaabhjphaeaa.QFnMargins Go.Proofs.Ytiihaabhjphaeaa.Open Go.Proofs.Ytiihaabhjphaeaa.Kit
def allL (p : List S105) (a b : Int) : Nat → Int → Bool
 | 0, _ => true
 | d + 1, x => linked p a b x && allL p a b d (x + 1)
theorem in2 (a b c : Int) : impl_InRange.f a b c = some (decide (b ≤ a ∧ a ≤ c)) := by
 unfold impl_InRange.f
 by_cases h : b ≤ a <;> simp [h]
def mayB (p : List S105) (s a b t : Int) : Bool := (decide (0 ≤ s ∧ s ≤ 5) && decide (0 ≤ t ∧ t ≤ 1000)) && allL p a b (2 * s + 1).toNat (t - s)
theorem may1 (p : List S105) (hp : nPgI p ≤ 1048576) (n f s a b t : Int) : Ev (fun k => spec_MayUse.f k n f s p a b t) (mayB p s a b t) := by
 unfold spec_MayUse.f mayB
 have hz : Ev (fun k => spec_MayUse.j0 k a b t true n f s p) false := by
  refine Ev.step (fun k => by rw [spec_MayUse.j0]) ?_
  exact Ev.ite_pos rfl (Ev.now _)
 refine Ev.bind0 (in1 s 0 5) ?_
 by_cases h1 : 0 ≤ s ∧ s ≤ 5
 ·rw [decide_eq_true h1, Bool.true_and]
  refine Ev.ite_pos rfl (Ev.bind0 (in1 t 0 1000) ?_)
  by_cases h2 : 0 ≤ t ∧ t ≤ 1000
  ·rw [decide_eq_true h2, Bool.true_and]
   refine Ev.step (fun k => by rw [spec_MayUse.j0]) ?_
   refine Ev.ite_neg (by simp) ?_
   rw [w64 (x := t - s) (by omega) (by omega)]
   have key : ∀ (d : Nat) (x : Int), x + d = t + s + 1 → t - s ≤ x → Ev (fun k => spec_MayUse.l0 k a b t x n f s p) (allL p a b d x) := by
    intro d
    induction d with
    | zero =>
     intro x hx hx2
     refine Ev.step (fun k => by rw [spec_MayUse.l0]) ?_
     rw [w64 (x := t + s) (by omega) (by omega)]
     repeat (first | (with_reducible refine Ev.ite_pos (by omega) ?_) | (with_reducible refine Ev.ite_neg (by omega) ?_))
     exact Ev.now _
    | succ d ih =>
     intro x hx hx2
     have h3 := ih (x + 1) (by omega) (by omega)
     refine Ev.step (fun k => by rw [spec_MayUse.l0]) ?_
     rw [w64 (x := t + s) (by omega) (by omega), w64 (x := x + 1) (by omega) (by omega)]
     repeat (first | (with_reducible refine Ev.ite_pos (by omega) ?_) | (with_reducible refine Ev.ite_neg (by omega) ?_))
     refine Ev.bind (linked1 p hp n f s a b x) ?_
     rw [allL]
     cases hq : linked p a b x with
     | true => exact Ev.ite_pos rfl h3
     | false => exact Ev.ite_neg (by simp) (Ev.now _)
   exact key (2 * s + 1).toNat (t - s) (by omega) (by omega)
  ·rw [decide_eq_false h2, Bool.false_and]
   exact hz
 ·rw [decide_eq_false h1, Bool.false_and, Bool.false_and]
  exact Ev.ite_neg (by simp) hz
theorem may2 (p : List S105) (hp : nPgI p ≤ 1048576) (n f s a b t : Int) : Ev (fun k => impl_MayUse.f k n f s p a b t) (mayB p s a b t) := by
 unfold impl_MayUse.f mayB
 have hsk : impl_isSkewed.f n f s p t = some (decide (0 ≤ s ∧ s ≤ 5) && decide (0 ≤ t ∧ t ≤ 1000)) := by
  unfold impl_isSkewed.f
  rw [in2, in2]
  by_cases h1 : 0 ≤ s ∧ s ≤ 5 <;> simp [h1]
 refine Ev.bind0 hsk ?_
 by_cases h1 : (0 ≤ s ∧ s ≤ 5) ∧ (0 ≤ t ∧ t ≤ 1000)
 ·rw [decide_eq_true h1.1, decide_eq_true h1.2, Bool.true_and, Bool.true_and]
  refine Ev.ite_pos rfl ?_
  rw [w64 (x := t - s) (by omega) (by omega)]
  have key : ∀ (d : Nat) (x : Int), x + d = t + s + 1 → t - s ≤ x → Ev (fun k => impl_MayUse.l0 k a b t x n f s p) (allL p a b d x) := by
   intro d
   induction d with
   | zero =>
    intro x hx hx2
    refine Ev.step (fun k => by rw [impl_MayUse.l0]) ?_
    rw [w64 (x := t + s) (by omega) (by omega)]
    repeat (first | (with_reducible refine Ev.ite_pos (by omega) ?_) | (with_reducible refine Ev.ite_neg (by omega) ?_))
    exact Ev.now _
   | succ d ih =>
    intro x hx hx2
    have h3 := ih (x + 1) (by omega) (by omega)
    refine Ev.step (fun k => by rw [impl_MayUse.l0]) ?_
    rw [w64 (x := t + s) (by omega) (by omega), w64 (x := x + 1) (by omega) (by omega)]
    repeat (first | (with_reducible refine Ev.ite_pos (by omega) ?_) | (with_reducible refine Ev.ite_neg (by omega) ?_))
    refine Ev.bind0 (linked2 p hp n f s a b x) ?_
    rw [allL]
    cases hq : linked p a b x with
    | true => exact Ev.ite_pos rfl h3
    | false => exact Ev.ite_neg (by simp) (Ev.now _)
  exact key (2 * s + 1).toNat (t - s) (by omega) (by omega)
 ·have h3 : (decide (0 ≤ s ∧ s ≤ 5) && decide (0 ≤ t ∧ t ≤ 1000)) = false := by
   rw [← Bool.decide_and]
   exact decide_eq_false h1
  rw [h3, Bool.false_and]
  exact Ev.ite_neg (by simp) (Ev.now _)
end Go.Proofs.Ytiihaabhjphaeaa.fnMargins
/- The spans of ticks at which something holds, and when a link may be used, in the program and in the reference. Conditions: none. -/
namespace Go.Proofs.Ytiihaabhjphaeaa.fnMargins
open Go.RowKit Go.Proofs.YtiihaabhjphaeaaW.PrintWords Go.Proofs.YtiihaabhjphaeaaW.PrintMore Go.Proofs.Ytiihaabhjphaeaa.QFnMargins Go.Proofs.Ytiihaabhjphaeaa.Open Go.Proofs.Ytiihaabhjphaeaa.Kit
def putS (l : List S102) (t : Int) : List S102 := if 0 < l.length ∧ (l.getD (l.length - 1) z102).f1 = t then l.set (l.length - 1) ⟨(l.getD (l.length - 1) z102).f0, wrap64 (t + 1)⟩ else l ++ [⟨t, wrap64 (t + 1)⟩]
theorem putS_len (l : List S102) (t : Int) : (putS l t).length ≤ l.length + 1 := by
 unfold putS
 split
 ·rw [List.length_set]; omega
 ·rw [List.length_append, List.length_singleton]; omega
def useL (h : Int → Bool) : Nat → Int → List S102 → List S102
 | 0, _, l => l
 | c + 1, t, l => useL h c (t + 1) (if h t = true then putS l t else l)
theorem useL_len (h : Int → Bool) : ∀ (c : Nat) (t : Int) (l : List S102), (useL h c t l).length ≤ l.length + c
 | 0, _, _ => Nat.le_refl _
 | c + 1, t, l => by
  rw [useL]
  have h1 := useL_len h c (t + 1) (if h t = true then putS l t else l)
  have h2 := putS_len l t
  split at h1 <;> rename_i hh <;> simp only [hh, if_true, if_false, Bool.false_eq_true] <;> first | omega | (rw [if_neg (by simp)]; omega)
theorem useS_go (h_ : Int → Option Bool) (h : Int → Bool) (ho : ∀ t, 0 ≤ t → t < 1000 → h_ t = some (h t)) : ∀ (c : Nat) (t : Int) (l : List S102), t + c = 1000 → 0 ≤ t → l.length + c ≤ 1048576 → Ev (fun k => impl_LostToClocks.sw.l0 h_ k 1000 l t) (useL h c t l) := by
 have hm : mn (1000 : Int) 1000 = 1000 := by decide
 intro c
 induction c with
 | zero =>
  intro t l ht h0 hl
  refine Ev.step (fun k => by rw [impl_LostToClocks.sw.l0]) ?_
  rw [hm]
  exact Ev.ite_neg (by omega) (Ev.now _)
 | succ c ih =>
  intro t l ht h0 hl
  refine Ev.step (fun k => by rw [impl_LostToClocks.sw.l0]) ?_
  rw [hm]
  refine Ev.ite_pos (by omega) (Ev.bind0 (ho t h0 (by omega)) ?_)
  rw [useL, w64 (x := t + 1) (by omega) (by omega)]
  cases hq : h t with
  | false =>
   rw [if_neg (by simp)]
   exact Ev.ite_neg (by simp) (ih (t + 1) l (by omega) (by omega) (by omega))
  | true =>
   rw [if_pos rfl]
   refine Ev.ite_pos rfl ?_
   have hp := ih (t + 1) (putS l t) (by omega) (by omega) (by have := putS_len l t; omega)
   unfold putS at hp ⊢
   by_cases h1 : 0 < l.length
   ·rw [w64 (x := (l.length : Int) - 1) (by omega) (by omega), show rd_T102 l ((l.length : Int) - 1) = l.getD (l.length - 1) z102 by unfold rd_T102; rw [show ((l.length : Int) - 1).toNat = l.length - 1 by omega], show ((l.length : Int) - 1).toNat = l.length - 1 by omega]
    refine Ev.ite_pos (by omega) (Ev.ite_pos (by omega) (Ev.ite_pos (by omega) ?_))
    by_cases h2 : (l.getD (l.length - 1) z102).f1 = t
    ·rw [if_pos ⟨h1, h2⟩] at hp ⊢
     refine Ev.ite_pos h2 ?_
     rw [h2]
     exact hp
    ·rw [if_neg (fun h3 => h2 h3.2)] at hp ⊢
     rw [w64 (x := t + 1) (by omega) (by omega)] at hp ⊢
     exact Ev.ite_neg h2 (Ev.ite_pos (by omega) hp)
   ·rw [if_neg (fun h3 => h1 h3.1)] at hp ⊢
    rw [w64 (x := (l.length : Int) - 1) (by omega) (by omega)]
    rw [w64 (x := t + 1) (by omega) (by omega)] at hp ⊢
    exact Ev.ite_neg (by omega) (Ev.ite_pos (by omega) hp)
theorem all_ticks (O : Nat → Int → Option Bool) (h : Int → Bool) (hE : ∀ t, Ev (fun k => O k t) (h t)) : ∀ n : Nat, ∃ K, ∀ (t : Int), 0 ≤ t → t < n → ∀ k, K ≤ k → O k t = some (h t)
 | 0 => ⟨0, fun t h0 h1 => by omega⟩
 | n + 1 => by
  obtain ⟨K, hK⟩ := all_ticks O h hE n
  obtain ⟨K2, hK2⟩ := hE (n : Int)
  refine ⟨max K K2, fun t h0 h1 k hk => ?_⟩
  by_cases e : t = n
  ·subst e
   exact hK2 k (by omega)
  ·exact hK t h0 (by omega) k (by omega)
theorem use_ev (O : Nat → Int → Option Bool) (hO : ∀ t k, LeO (O k t) (O (k + 1) t)) (h : Int → Bool) (hE : ∀ t, Ev (fun k => O k t) (h t)) : Ev (fun k => impl_LostToClocks.sw.f (O k) k 0 1000 0) (useL h 1000 0 []) := by
 obtain ⟨K, hK⟩ := all_ticks O h hE 1000
 obtain ⟨K2, hK2⟩ := useS_go (O K) h (fun t h0 h1 => hK t h0 h1 K (Nat.le_refl _)) 1000 0 [] (by omega) (by omega) (by simp)
 refine ⟨max K K2, fun k hk => ?_⟩
 have h1 := hK2 k (by omega)
 have h2 : ∀ t, LeO (O K t) (O k t) := fun t r hr => at_rounds (g := fun k => O k t) (hO t) (by omega) hr
 exact impl_LostToClocks.sw.mono_h h2 k 1000 [] 0 _ h1
end Go.Proofs.Ytiihaabhjphaeaa.fnMargins
/- Spans where something holds, for links that may be used. Conditions: none. -/
namespace Go.Proofs.Ytiihaabhjphaeaa.fnMargins
open Go.RowKit Go.Proofs.YtiihaabhjphaeaaW.PrintWords Go.Proofs.YtiihaabhjphaeaaW.PrintMore Go.Proofs.Ytiihaabhjphaeaa.QFnMargins Go.Proofs.Ytiihaabhjphaeaa.Open Go.Proofs.Ytiihaabhjphaeaa.Kit
theorem useU_go (h_ : Int → Option Bool) (h : Int → Bool) (ho : ∀ t, 0 ≤ t → t < 1000 → h_ t = some (h t)) : ∀ (c : Nat) (t : Int) (l : List S102), t + c = 1000 → 0 ≤ t → l.length + c ≤ 1048576 → Ev (fun k => impl_UseSpans.sw.l0 h_ k 1000 l t) (useL h c t l) := by
 have hm : mn (1000 : Int) 1000 = 1000 := by decide
 intro c
 induction c with
 | zero =>
  intro t l ht h0 hl
  refine Ev.step (fun k => by rw [impl_UseSpans.sw.l0]) ?_
  rw [hm]
  exact Ev.ite_neg (by omega) (Ev.now _)
 | succ c ih =>
  intro t l ht h0 hl
  refine Ev.step (fun k => by rw [impl_UseSpans.sw.l0]) ?_
  rw [hm]
  refine Ev.ite_pos (by omega) (Ev.bind0 (ho t h0 (by omega)) ?_)
  rw [useL, w64 (x := t + 1) (by omega) (by omega)]
  cases hq : h t with
  | false =>
   rw [if_neg (by simp)]
   exact Ev.ite_neg (by simp) (ih (t + 1) l (by omega) (by omega) (by omega))
  | true =>
   rw [if_pos rfl]
   refine Ev.ite_pos rfl ?_
   have hp := ih (t + 1) (putS l t) (by omega) (by omega) (by have := putS_len l t; omega)
   unfold putS at hp ⊢
   by_cases h1 : 0 < l.length
   ·rw [w64 (x := (l.length : Int) - 1) (by omega) (by omega), show rd_T102 l ((l.length : Int) - 1) = l.getD (l.length - 1) z102 by unfold rd_T102; rw [show ((l.length : Int) - 1).toNat = l.length - 1 by omega], show ((l.length : Int) - 1).toNat = l.length - 1 by omega]
    refine Ev.ite_pos (by omega) (Ev.ite_pos (by omega) (Ev.ite_pos (by omega) ?_))
    by_cases h2 : (l.getD (l.length - 1) z102).f1 = t
    ·rw [if_pos ⟨h1, h2⟩] at hp ⊢
     refine Ev.ite_pos h2 ?_
     rw [h2]
     exact hp
    ·rw [if_neg (fun h3 => h2 h3.2)] at hp ⊢
     rw [w64 (x := t + 1) (by omega) (by omega)] at hp ⊢
     exact Ev.ite_neg h2 (Ev.ite_pos (by omega) hp)
   ·rw [if_neg (fun h3 => h1 h3.1)] at hp ⊢
    rw [w64 (x := (l.length : Int) - 1) (by omega) (by omega)]
    rw [w64 (x := t + 1) (by omega) (by omega)] at hp ⊢
    exact Ev.ite_neg (by omega) (Ev.ite_pos (by omega) hp)
theorem useU_ev (O : Nat → Int → Option Bool) (hO : ∀ t k, LeO (O k t) (O (k + 1) t)) (h : Int → Bool) (hE : ∀ t, Ev (fun k => O k t) (h t)) : Ev (fun k => impl_UseSpans.sw.f (O k) k 0 1000 0) (useL h 1000 0 []) := by
 obtain ⟨K, hK⟩ := all_ticks O h hE 1000
 obtain ⟨K2, hK2⟩ := useU_go (O K) h (fun t h0 h1 => hK t h0 h1 K (Nat.le_refl _)) 1000 0 [] (by omega) (by omega) (by simp)
 refine ⟨max K K2, fun k hk => ?_⟩
 have h1 := hK2 k (by omega)
 have h2 : ∀ t, LeO (O K t) (O k t) := fun t r hr => at_rounds (g := fun k => O k t) (hO t) (by omega) hr
 exact impl_UseSpans.sw.mono_h h2 k 1000 [] 0 _ h1
theorem uses2 (p : List S105) (hp : nPgI p ≤ 1048576) (n f s a b : Int) : Ev (fun k => impl_UseSpans.f k n f s p a b) (useL (mayB p s a b) 1000 0 []) := by
 unfold impl_UseSpans.f
 exact useU_ev (fun k t => impl_MayUse.f k n f s p a b t) (fun t k => impl_MayUse.mono n f s p a b t k) _ (fun t => may2 p hp n f s a b t)
end Go.Proofs.Ytiihaabhjphaeaa.fnMargins
/- The ticks of spans, one by one. Conditions: none. -/
namespace Go.Proofs.Ytiihaabhjphaeaa.fnMargins
open Go.RowKit Go.Proofs.YtiihaabhjphaeaaW.PrintWords Go.Proofs.YtiihaabhjphaeaaW.PrintMore Go.Proofs.Ytiihaabhjphaeaa.QFnMargins Go.Proofs.Ytiihaabhjphaeaa.Open Go.Proofs.Ytiihaabhjphaeaa.Kit
def inS (s : S102) (t : Int) : Bool := decide (0 ≤ s.f0 ∧ s.f1 ≤ 1000 ∧ s.f0 < s.f1 ∧ s.f0 ≤ t ∧ t < s.f1)
def inSp (l : List S102) (t : Int) : Bool := l.any fun s => inS s t
def tkN (N : Nat) (l : List S102) : List Bool := (List.range N).map fun t : Nat => inSp l (t : Int)
theorem tkN_len (N : Nat) (l : List S102) : (tkN N l).length = N := by simp [tkN]
theorem tkN_get {N u : Nat} (l : List S102) (h : u < N) : (tkN N l).getD u false = inSp l (u : Int) := by
 unfold tkN
 rw [map_range_getD _ h]
def tk (l : List S102) : List Bool := tkN 1000 l
theorem tk_len (l : List S102) : (tk l).length = 1000 := tkN_len 1000 l
theorem tk_get {u : Nat} (l : List S102) (h : u < 1000) : (tk l).getD u false = inSp l (u : Int) := tkN_get l h
theorem isSpanT (s : S102) : impl_IsSpan.f s.f0 s.f1 = some (decide (0 ≤ s.f0 ∧ s.f1 ≤ 1000 ∧ s.f0 < s.f1)) := by
 unfold impl_IsSpan.f
 by_cases h1 : 0 ≤ s.f0 <;> by_cases h2 : s.f1 ≤ 1000 <;> simp [h1, h2]
theorem ticks_l1 {N : Nat} {l : List S102} {s : S102} {f : Nat → Bool} {i : Nat} {x9 : Int} {r : List Bool} (hN : 1000 ≤ N) (hN2 : N ≤ 1048576) (hs : 0 ≤ s.f0 ∧ s.f1 ≤ 1000 ∧ s.f0 < s.f1)
  (h : Ev (fun k => impl_ticks.l0 k ((List.range N).map fun t : Nat => f t || inS s (t : Int)) l x9 (wrap64 ((i : Int) + 1))) r) :
  Ev (fun k => impl_ticks.l1 k ((List.range N).map f) s.f0 l x9 (i : Int) s.f0 s.f1) r := by
 obtain ⟨a, ha⟩ := Int.eq_ofNat_of_zero_le hs.1
 have key : ∀ (d u : Nat), (a : Int) ≤ u → (u : Int) + d = s.f1 → Ev (fun k => impl_ticks.l1 k ((List.range N).map fun t : Nat => f t || (decide (a ≤ t ∧ t < u))) (u : Int) l x9 (i : Int) s.f0 s.f1) r := by
  intro d
  induction d with
  | zero =>
   intro u hu hd
   refine Ev.step (fun k => by rw [impl_ticks.l1]) ?_
   repeat (first | (with_reducible refine Ev.ite_pos (by omega) ?_) | (with_reducible refine Ev.ite_neg (by omega) ?_))
   have e : ((List.range N).map fun t : Nat => f t || inS s (t : Int)) = (List.range N).map fun t : Nat => f t || (decide (a ≤ t ∧ t < u)) := by
    refine map_range_congr fun t ht => ?_
    congr 1
    unfold inS
    rw [decide_eq_decide]
    omega
   rw [e] at h
   exact h
  | succ d ih =>
   intro u hu hd
   have h1 := ih (u + 1) (by omega) (by omega)
   refine Ev.step (fun k => by rw [impl_ticks.l1]) ?_
   have hlen : ((List.range N).map fun t : Nat => f t || (decide (a ≤ t ∧ t < u))).length = N := by simp
   repeat (first | (with_reducible refine Ev.ite_pos (by omega) ?_) | (with_reducible refine Ev.ite_neg (by omega) ?_))
   rw [Int.toNat_natCast, map_range_set, w64n (by omega)]
   have e : ((List.range N).map fun j : Nat => if j = u then true else f j || (decide (a ≤ j ∧ j < u))) = (List.range N).map fun t : Nat => f t || (decide (a ≤ t ∧ t < u + 1)) := by
    refine map_range_congr fun t ht => ?_
    by_cases hj : t = u
    ·rw [if_pos hj, decide_eq_true (by omega : a ≤ t ∧ t < u + 1), Bool.or_true]
    ·rw [if_neg hj]
     congr 1
     rw [decide_eq_decide]
     omega
   rw [e]
   exact h1
 have h2 := key (s.f1 - s.f0).toNat a (by omega) (by omega)
 have e : ((List.range N).map fun t : Nat => f t || (decide (a ≤ t ∧ t < a))) = (List.range N).map f := by
  refine map_range_congr fun t _ => ?_
  rw [decide_eq_false (by omega), Bool.or_false]
 rw [e, ← ha] at h2
 exact h2
theorem ticks2_l0 (l : List S102) (hl : l.length ≤ 1048576) (N : Nat) (hN : 1000 ≤ N) (hN2 : N ≤ 1048576) : Ev (fun k => impl_ticks.l0 k (List.replicate N false) l (l.length : Int) 0) (tkN N l) := by
 have h0 : List.replicate N false = (List.range N).map fun t : Nat => inSp (l.take 0) (t : Int) := by
  apply List.ext_getElem
  ·simp
  ·intro i _ _
   simp [inSp]
 rw [h0]
 refine Ev.up (n := l.length) (g := fun i k => impl_ticks.l0 k ((List.range N).map fun t : Nat => inSp (l.take i) (t : Int)) l (l.length : Int) (i : Int)) ?_ ?_
 ·intro i hi ih
  have e : ∀ t, inSp (l.take (i + 1)) t = (inSp (l.take i) t || inS (l.getD i z102) t) := by
   intro t
   unfold inSp
   rw [take_succ_getD hi z102, List.any_append]
   simp
  simp only [e] at ih
  refine Ev.step (fun k => by rw [impl_ticks.l0]) ?_
  repeat (first | (with_reducible refine Ev.ite_pos (by omega) ?_) | (with_reducible refine Ev.ite_neg (by omega) ?_))
  refine Ev.bind0 (isSpanT (l.getD i z102)) ?_
  by_cases hs : 0 ≤ (l.getD i z102).f0 ∧ (l.getD i z102).f1 ≤ 1000 ∧ (l.getD i z102).f0 < (l.getD i z102).f1
  ·refine Ev.ite_pos (by simp only [decide_eq_true_eq]; exact hs) ?_
   rw [← w64n (by omega)] at ih
   exact ticks_l1 (s := l.getD i z102) hN hN2 hs ih
  ·refine Ev.ite_neg (by simp only [decide_eq_true_eq]; exact hs) ?_
   rw [w64n (by omega)]
   have e2 : ∀ t, inS (l.getD i z102) t = false := by
    intro t
    unfold inS
    rw [decide_eq_false]
    omega
   simp only [e2, Bool.or_false] at ih
   exact ih
 ·refine Ev.step (fun k => by rw [impl_ticks.l0]) ?_
  repeat (first | (with_reducible refine Ev.ite_pos (by omega) ?_) | (with_reducible refine Ev.ite_neg (by omega) ?_))
  refine Ev.some ?_
  rw [List.take_length]
  rfl
theorem ticks2 (l : List S102) (hl : l.length ≤ 1048576) : Ev (fun k => impl_ticks.f k l) (tk l) := by
 unfold impl_ticks.f
 refine Ev.ite_pos (by decide) ?_
 exact ticks2_l0 l hl 1000 (by omega) (by omega)
end Go.Proofs.Ytiihaabhjphaeaa.fnMargins
/- How many ticks spans hold, and what the clocks cost. Conditions: none. -/
namespace Go.Proofs.Ytiihaabhjphaeaa.fnMargins
open Go.RowKit Go.Proofs.YtiihaabhjphaeaaW.PrintWords Go.Proofs.YtiihaabhjphaeaaW.PrintMore Go.Proofs.Ytiihaabhjphaeaa.QFnMargins Go.Proofs.Ytiihaabhjphaeaa.Open Go.Proofs.Ytiihaabhjphaeaa.Kit
theorem joinS_go (h_ : Int → Option Bool) (h : Int → Bool) (ho : ∀ t, 0 ≤ t → t < 1000 → h_ t = some (h t)) : ∀ (c : Nat) (t : Int) (l : List S102), t + c = 1000 → 0 ≤ t → l.length + c ≤ 1048576 → Ev (fun k => impl_JoinSpans.sw.l0 h_ k 1000 l t) (useL h c t l) := by
 have hm : mn (1000 : Int) 1000 = 1000 := by decide
 intro c
 induction c with
 | zero =>
  intro t l ht h0 hl
  refine Ev.step (fun k => by rw [impl_JoinSpans.sw.l0]) ?_
  rw [hm]
  exact Ev.ite_neg (by omega) (Ev.now _)
 | succ c ih =>
  intro t l ht h0 hl
  refine Ev.step (fun k => by rw [impl_JoinSpans.sw.l0]) ?_
  rw [hm]
  refine Ev.ite_pos (by omega) (Ev.bind0 (ho t h0 (by omega)) ?_)
  rw [useL, w64 (x := t + 1) (by omega) (by omega)]
  cases hq : h t with
  | false =>
   rw [if_neg (by simp)]
   exact Ev.ite_neg (by simp) (ih (t + 1) l (by omega) (by omega) (by omega))
  | true =>
   rw [if_pos rfl]
   refine Ev.ite_pos rfl ?_
   have hp := ih (t + 1) (putS l t) (by omega) (by omega) (by have := putS_len l t; omega)
   unfold putS at hp ⊢
   by_cases h1 : 0 < l.length
   ·rw [w64 (x := (l.length : Int) - 1) (by omega) (by omega), show rd_T102 l ((l.length : Int) - 1) = l.getD (l.length - 1) z102 by unfold rd_T102; rw [show ((l.length : Int) - 1).toNat = l.length - 1 by omega], show ((l.length : Int) - 1).toNat = l.length - 1 by omega]
    refine Ev.ite_pos (by omega) (Ev.ite_pos (by omega) (Ev.ite_pos (by omega) ?_))
    by_cases h2 : (l.getD (l.length - 1) z102).f1 = t
    ·rw [if_pos ⟨h1, h2⟩] at hp ⊢
     refine Ev.ite_pos h2 ?_
     rw [h2]
     exact hp
    ·rw [if_neg (fun h3 => h2 h3.2)] at hp ⊢
     rw [w64 (x := t + 1) (by omega) (by omega)] at hp ⊢
     exact Ev.ite_neg h2 (Ev.ite_pos (by omega) hp)
   ·rw [if_neg (fun h3 => h1 h3.1)] at hp ⊢
    rw [w64 (x := (l.length : Int) - 1) (by omega) (by omega)]
    rw [w64 (x := t + 1) (by omega) (by omega)] at hp ⊢
    exact Ev.ite_neg (by omega) (Ev.ite_pos (by omega) hp)
def sumS (l : List S102) : Int := (l.map fun s => s.f1 - s.f0).sum
theorem sumS_append (l : List S102) (s : S102) : sumS (l ++ [s]) = sumS l + (s.f1 - s.f0) := by
 unfold sumS
 rw [List.map_append, List.sum_append]
 simp
def OkS (l : List S102) (t : Int) : Prop := ∀ s ∈ l, 0 ≤ s.f0 ∧ s.f0 < s.f1 ∧ s.f1 ≤ t
theorem last_split {l : List S102} (h : 0 < l.length) : ∃ m s, l = m ++ [s] ∧ l.getD (l.length - 1) z102 = s := by
 refine ⟨l.dropLast, l.getLast (by intro e; rw [e] at h; simp at h), (List.dropLast_concat_getLast _).symm, ?_⟩
 rw [List.getD_eq_getElem?_getD, List.getLast_eq_getElem, List.getElem?_eq_getElem (by omega)]
 rfl
theorem putS_form (l : List S102) (t : Int) (ht : 0 ≤ t) (ht2 : t < 1000) : (∃ m s, l = m ++ [s] ∧ s.f1 = t ∧ putS l t = m ++ [⟨s.f0, t + 1⟩]) ∨ putS l t = l ++ [⟨t, t + 1⟩] := by
 unfold putS
 rw [w64 (x := t + 1) (by omega) (by omega)]
 by_cases h : 0 < l.length ∧ (l.getD (l.length - 1) z102).f1 = t
 ·rw [if_pos h]
  obtain ⟨m, s, e, e2⟩ := last_split h.1
  refine Or.inl ⟨m, s, e, by rw [← e2]; exact h.2, ?_⟩
  rw [e2]
  subst e
  rw [List.length_append, List.length_singleton, Nat.add_sub_cancel, List.set_append_right _ _ (Nat.le_refl _)]
  simp
 ·rw [if_neg h]
  exact Or.inr rfl
theorem putS_sum (l : List S102) (t : Int) (ht : 0 ≤ t) (ht2 : t < 1000) : sumS (putS l t) = sumS l + 1 := by
 rcases putS_form l t ht ht2 with ⟨m, s, rfl, h1, e⟩ | e
 ·rw [e, sumS_append, sumS_append]
  simp only []
  omega
 ·rw [e, sumS_append]
  simp only []
  omega
theorem putS_ok (l : List S102) (t : Int) (ht : 0 ≤ t) (ht2 : t < 1000) (h : OkS l t) : OkS (putS l t) (t + 1) := by
 rcases putS_form l t ht ht2 with ⟨m, s, rfl, h1, e⟩ | e
 ·rw [e]
  intro x hx
  rcases List.mem_append.1 hx with hx | hx
  ·have := h x (List.mem_append.2 (.inl hx)); omega
  ·obtain rfl := List.mem_singleton.1 hx
   have := h s (List.mem_append.2 (.inr (List.mem_singleton.2 rfl)))
   simp only []
   omega
 ·rw [e]
  intro x hx
  rcases List.mem_append.1 hx with hx | hx
  ·have := h x hx; omega
  ·obtain rfl := List.mem_singleton.1 hx
   simp only []
   omega
theorem inS_ok {s : S102} {t x : Int} (h : 0 ≤ s.f0 ∧ s.f0 < s.f1 ∧ s.f1 ≤ t) (ht : t ≤ 1000) : inS s x = decide (s.f0 ≤ x ∧ x < s.f1) := by
 unfold inS
 by_cases h2 : s.f0 ≤ x ∧ x < s.f1
 ·rw [decide_eq_true h2, decide_eq_true (by omega)]
 ·rw [decide_eq_false h2, decide_eq_false (by omega)]
theorem inSp_append (l : List S102) (s : S102) (x : Int) : inSp (l ++ [s]) x = (inSp l x || inS s x) := by
 unfold inSp
 rw [List.any_append]
 simp
theorem putS_in (l : List S102) (t : Int) (ht : 0 ≤ t) (ht2 : t < 1000) (h : OkS l t) (x : Int) : inSp (putS l t) x = (inSp l x || decide (x = t)) := by
 rcases putS_form l t ht ht2 with ⟨m, s, rfl, h1, e⟩ | e
 ·have hs := h s (List.mem_append.2 (.inr (List.mem_singleton.2 rfl)))
  rw [e, inSp_append, inSp_append, inS_ok (t := t) hs (by omega), inS_ok (s := ⟨s.f0, t + 1⟩) (t := t + 1) (by simp only []; omega) (by omega), Bool.or_assoc]
  congr 1
  simp only []
  by_cases h2 : x = t
  ·rw [decide_eq_true h2, Bool.or_true, decide_eq_true (by omega)]
  ·rw [decide_eq_false h2, Bool.or_false]
   by_cases h3 : s.f0 ≤ x ∧ x < s.f1
   ·rw [decide_eq_true h3, decide_eq_true (by omega)]
   ·rw [decide_eq_false h3, decide_eq_false (by omega)]
 ·rw [e, inSp_append, inS_ok (s := ⟨t, t + 1⟩) (t := t + 1) (by simp only []; omega) (by omega)]
  congr 1
  simp only []
  by_cases h2 : x = t
  ·rw [decide_eq_true h2, decide_eq_true (by omega)]
  ·rw [decide_eq_false h2, decide_eq_false (by omega)]
def cntH (h : Int → Bool) : Nat → Int → Int
 | 0, _ => 0
 | c + 1, t => (if h t = true then 1 else 0) + cntH h c (t + 1)
theorem cntH_le (h : Int → Bool) : ∀ (c : Nat) (t : Int), 0 ≤ cntH h c t ∧ cntH h c t ≤ c
 | 0, _ => ⟨Int.le_refl _, Int.le_refl _⟩
 | c + 1, t => by
  have := cntH_le h c (t + 1)
  rw [cntH]
  split <;> omega
theorem cntH_add (h : Int → Bool) : ∀ (c c2 : Nat) (t : Int), cntH h (c + c2) t = cntH h c t + cntH h c2 (t + c)
 | 0, c2, t => by rw [Nat.zero_add, cntH]; simp
 | c + 1, c2, t => by
  rw [show c + 1 + c2 = (c + c2) + 1 by omega, cntH, cntH, cntH_add h c c2 (t + 1), show t + 1 + (c : Int) = t + ((c + 1 : Nat) : Int) by omega]
  omega
theorem cntH_same (h h2 : Int → Bool) : ∀ (c : Nat) (t : Int), (∀ x, t ≤ x → x < t + c → h x = h2 x) → cntH h c t = cntH h2 c t
 | 0, _, _ => rfl
 | c + 1, t, hh => by rw [cntH, cntH, hh t (Int.le_refl _) (by omega), cntH_same h h2 c (t + 1) (fun x hx hx2 => hh x (by omega) (by omega))]
theorem useL_all (h : Int → Bool) : ∀ (c : Nat) (t : Int) (l : List S102), 0 ≤ t → t + c ≤ 1000 → OkS l t → (sumS (useL h c t l) = sumS l + cntH h c t) ∧ OkS (useL h c t l) (t + c) ∧ ∀ x, t ≤ x ∨ inSp l x = inSp l x → inSp (useL h c t l) x = (inSp l x || (decide (t ≤ x ∧ x < t + c) && h x))
 | 0, t, l, _, _, ho => by
  refine ⟨by rw [useL, cntH]; omega, by rw [useL]; simpa using ho, fun x _ => ?_⟩
  rw [useL, decide_eq_false (by omega), Bool.false_and, Bool.or_false]
 | c + 1, t, l, h0, h1, ho => by
  rw [useL, cntH]
  cases hq : h t with
  | false =>
   rw [if_neg (by simp), if_neg (by simp)]
   obtain ⟨a1, a2, a3⟩ := useL_all h c (t + 1) l (by omega) (by omega) (fun s hs => by have := ho s hs; omega)
   refine ⟨by rw [a1]; omega, by rw [show t + ((c + 1 : Nat) : Int) = t + 1 + c by omega]; exact a2, fun x _ => ?_⟩
   rw [a3 x (.inr rfl)]
   congr 1
   by_cases e : x = t
   ·subst e
    rw [hq, Bool.and_false, Bool.and_false]
   ·congr 1
    by_cases h2 : t + 1 ≤ x ∧ x < t + 1 + (c : Int)
    ·rw [decide_eq_true h2, decide_eq_true (by omega)]
    ·rw [decide_eq_false h2, decide_eq_false (by omega)]
  | true =>
   rw [if_pos rfl, if_pos rfl]
   obtain ⟨a1, a2, a3⟩ := useL_all h c (t + 1) (putS l t) (by omega) (by omega) (putS_ok l t h0 (by omega) ho)
   refine ⟨by rw [a1, putS_sum l t h0 (by omega)]; omega, by rw [show t + ((c + 1 : Nat) : Int) = t + 1 + c by omega]; exact a2, fun x _ => ?_⟩
   rw [a3 x (.inr rfl), putS_in l t h0 (by omega) ho x, Bool.or_assoc]
   congr 1
   by_cases e : x = t
   ·subst e
    rw [hq, decide_eq_true rfl, Bool.true_or, Bool.and_true, decide_eq_true (by omega)]
   ·rw [decide_eq_false e, Bool.false_or]
    congr 1
    by_cases h2 : t + 1 ≤ x ∧ x < t + 1 + (c : Int)
    ·rw [decide_eq_true h2, decide_eq_true (by omega)]
    ·rw [decide_eq_false h2, decide_eq_false (by omega)]
theorem join2 (l : List S102) (hl : l.length ≤ 1048576) : Ev (fun k => impl_JoinSpans.f k l) (useL (inSp l) 1000 0 []) := by
 unfold impl_JoinSpans.f
 refine Ev.bind (ticks2 l hl) ?_
 unfold impl_JoinSpans.sw.f
 have hm : mx (0 : Int) 0 = 0 := by decide
 rw [hm]
 refine joinS_go _ (inSp l) (fun t h0 h1 => ?_) 1000 0 [] (by omega) (by omega) (by simp)
 unfold impl_JoinSpans.o
 rw [if_pos h0, if_pos (by rw [tk_len]; omega)]
 unfold rdOf
 rw [tk_get l (by omega), Int.toNat_of_nonneg h0]
theorem ticksOf2 (l : List S102) (hl : l.length ≤ 1048576) : Ev (fun k => impl_TicksOf.f k l) (cntH (inSp l) 1000 0) := by
 unfold impl_TicksOf.f
 refine Ev.bind (join2 l hl) ?_
 obtain ⟨a1, a2, _⟩ := useL_all (inSp l) 1000 0 [] (by omega) (by omega) (fun s hs => by cases hs)
 have hlen : (useL (inSp l) 1000 0 []).length ≤ 0 + 1000 := useL_len (inSp l) 1000 0 []
 rw [show sumS ([] : List S102) = 0 from rfl, Int.zero_add] at a1
 rw [← a1]
 generalize useL (inSp l) 1000 0 [] = m at a2 hlen ⊢
 have key : ∀ (d i : Nat) (n : Int), i + d = m.length → 0 ≤ n → n ≤ i * 1000 → Ev (fun k => impl_TicksOf.l0 k n m (m.length : Int) (i : Int)) (n + sumS (m.drop i)) := by
  intro d
  induction d with
  | zero =>
   intro i n hi hn hn2
   refine Ev.step (fun k => by rw [impl_TicksOf.l0]) ?_
   repeat (first | (with_reducible refine Ev.ite_pos (by omega) ?_) | (with_reducible refine Ev.ite_neg (by omega) ?_))
   rw [List.drop_of_length_le (by omega)]
   exact Ev.some (by simp [sumS])
  | succ d ih =>
   intro i n hi hn hn2
   have hs := a2 (m.getD i z102) (getD_mem (show i < m.length by omega) z102)
   have h1 := ih (i + 1) (n + ((m.getD i z102).f1 - (m.getD i z102).f0)) (by omega) (by omega) (by omega)
   refine Ev.step (fun k => by rw [impl_TicksOf.l0]) ?_
   repeat (first | (with_reducible refine Ev.ite_pos (by omega) ?_) | (with_reducible refine Ev.ite_neg (by omega) ?_))
   rw [drop_getD (by omega : i < m.length) z102, show rd_T102 m (i : Int) = m.getD i z102 from rfl, w64n (by omega), show sumS (m.getD i z102 :: m.drop (i + 1)) = ((m.getD i z102).f1 - (m.getD i z102).f0) + sumS (m.drop (i + 1)) from rfl]
   generalize m.getD i z102 = x at hs h1 ⊢
   rw [w64 (x := x.f1 - x.f0) (by omega) (by omega), w64 (x := n + (x.f1 - x.f0)) (by omega) (by omega), ← Int.add_assoc]
   exact h1
 have := key m.length 0 0 (by omega) (by omega) (by omega)
 rw [List.drop_zero, Int.zero_add] at this
 exact this
def lostB (p : List S105) (s a b t : Int) : Bool := linked p a b t && !(mayB p s a b t)
theorem lost2 (p : List S105) (hp : nPgI p ≤ 1048576) (n f s a b : Int) : Ev (fun k => impl_LostToClocks.f k n f s p a b) (cntH (lostB p s a b) 1000 0) := by
 unfold impl_LostToClocks.f
 have ho : ∀ t, Ev (fun k => impl_LostToClocks.o k n f s p a b t) (lostB p s a b t) := by
  intro t
  unfold impl_LostToClocks.o lostB
  refine Ev.bind0 (linked2 p hp n f s a b t) ?_
  cases hq : linked p a b t with
  | false => exact Ev.ite_neg (by simp) (Ev.now _)
  | true => exact Ev.ite_pos rfl (Ev.bind (may2 p hp n f s a b t) (Ev.now _))
 refine Ev.bind (use_ev (fun k t => impl_LostToClocks.o k n f s p a b t) (fun t k => impl_LostToClocks.mono_o n f s p a b t k) _ ho) ?_
 obtain ⟨_, _, a3⟩ := useL_all (lostB p s a b) 1000 0 [] (by omega) (by omega) (fun s hs => by cases hs)
 have hlen : (useL (lostB p s a b) 1000 0 []).length ≤ 0 + 1000 := useL_len (lostB p s a b) 1000 0 []
 rw [← cntH_same (inSp (useL (lostB p s a b) 1000 0 [])) (lostB p s a b) 1000 0 (fun x hx hx2 => by
  rw [a3 x (.inr rfl), show inSp ([] : List S102) x = false from rfl, Bool.false_or, decide_eq_true (by omega), Bool.true_and])]
 exact ticksOf2 _ (by omega)
end Go.Proofs.Ytiihaabhjphaeaa.fnMargins
/- The draws of numbers, batteries and spans come to an end. Conditions: none. -/
namespace Go.Proofs.Ytiihaabhjphaeaa.fnMargins
open Go.RowKit Go.Proofs.YtiihaabhjphaeaaW.PrintWords Go.Proofs.YtiihaabhjphaeaaW.PrintMore Go.Proofs.Ytiihaabhjphaeaa.QFnMargins Go.Proofs.Ytiihaabhjphaeaa.Open Go.Proofs.Ytiihaabhjphaeaa.Kit
theorem and255 (n : Int) : Go.bits .and .i64 n 255 = n % 256 := by
 have h255 : (BitVec.ofInt 64 255).toNat = 2 ^ 8 - 1 := by decide
 have key : (BitVec.ofInt 64 n &&& BitVec.ofInt 64 255).toNat = (n % ((2 ^ 64 : Nat) : Int)).toNat % 2 ^ 8 := by
  rw [BitVec.toNat_and, BitVec.toNat_ofInt, h255, Nat.and_two_pow_sub_one_eq_mod]
 show IntKind.i64.wrap ((BitVec.ofInt 64 n &&& BitVec.ofInt 64 255).toNat : Nat) = n % 256
 rw [key, IntKind.wrap_i64]
 omega
def Cur (b : List Int) (i : Int) : Prop := 0 ≤ i ∧ i ≤ (b.length : Int) ∧ b.length ≤ 1048576
theorem byte_ends {b : List Int} {i : Int} (h : Int) (hc : Cur b i) : ∃ x i' h', spec_l1Byte.f b i h = some (x, i', h') ∧ (0 ≤ x ∧ x < 256) ∧ Cur b i' := by
 unfold spec_l1Byte.f
 unfold Cur at hc ⊢
 by_cases c : i < (b.length : Int)
 ·rw [if_pos c, if_pos hc.1]
  refine ⟨_, _, _, rfl, ?_, ?_⟩
  ·rw [and255]
   exact ⟨Int.emod_nonneg _ (by omega), Int.emod_lt_of_pos _ (by omega)⟩
  ·rw [w64 (x := i + 1) (by omega) (by omega)]
   omega
 ·rw [if_neg c]
  refine ⟨_, _, _, rfl, ?_, hc⟩
  rw [and255]
  exact ⟨Int.emod_nonneg _ (by omega), Int.emod_lt_of_pos _ (by omega)⟩
theorem below_ends {b : List Int} {i : Int} (h n : Int) (hc : Cur b i) : ∃ x i' h', spec_l1Below.f b i h n = some (x, i', h') ∧ 0 ≤ x ∧ (0 < n → x < n) ∧ Cur b i' := by
 unfold spec_l1Below.f
 by_cases c : n ≤ 0
 ·rw [if_pos c]
  exact ⟨0, i, h, rfl, by omega, by omega, hc⟩
 ·rw [if_neg c]
  obtain ⟨x, i1, h1, e1, hx, hc1⟩ := byte_ends h hc
  rw [e1]
  by_cases c2 : n ≤ 256
  ·rw [if_pos c2, Option.bind_some, if_neg (by omega)]
   exact ⟨_, _, _, rfl, Int.tmod_nonneg _ hx.1, fun h0 => Int.tmod_lt_of_pos _ h0, hc1⟩
  ·rw [if_neg c2, Option.bind_some]
   obtain ⟨y, i2, h2, e2, hy, hc2⟩ := byte_ends h1 hc1
   obtain ⟨z, i3, h3, e3, hz, hc3⟩ := byte_ends h2 hc2
   dsimp only
   rw [e2, Option.bind_some]
   dsimp only
   rw [e3, Option.bind_some, if_neg (by omega)]
   refine ⟨_, _, _, rfl, Int.tmod_nonneg _ ?_, fun h0 => Int.tmod_lt_of_pos _ h0, hc3⟩
   dsimp only
   rw [w64 (x := x * 65536) (by omega) (by omega), w64 (x := y * 256) (by omega) (by omega), w64 (x := x * 65536 + y * 256) (by omega) (by omega), w64 (by omega) (by omega)]
   omega
theorem Dr.below {β : Type} {P : β → Prop} {b : List Int} {i h n : Int} {f : Int × Int × Int → Option β} (hc : Cur b i) (k : ∀ x i' h', 0 ≤ x → (0 < n → x < n) → Cur b i' → ∃ r, f (x, i', h') = some r ∧ P r) : ∃ r, (spec_l1Below.f b i h n).bind f = some r ∧ P r := by
 obtain ⟨x, i', h', e, h0, h1, hc'⟩ := below_ends h n hc
 rw [e, Option.bind_some]
 exact k x i' h' h0 h1 hc'
theorem Dr.oneOf {β : Type} {P : β → Prop} {b : List Int} {i h : Int} {L : List Int} {f : Int × Int × Int → Option β} (hc : Cur b i) (hL : 0 < L.length) (k : ∀ x i' h', x ∈ L → Cur b i' → ∃ r, f (x, i', h') = some r ∧ P r) : ∃ r, (spec_l1Int.f b i h L).bind f = some r ∧ P r := by
 unfold spec_l1Int.f
 obtain ⟨x, i', h', e, h0, h1, hc'⟩ := below_ends h (L.length : Int) hc
 have h1' := h1 (by omega)
 rw [e, Option.bind_some]
 dsimp only
 rw [if_pos h0, if_pos h1', Option.bind_some]
 exact k _ i' h' (getD_mem (by omega) 0) hc'
theorem Dr.once {β : Type} {P : β → Prop} {b : List Int} {i h n : Int} {f : Bool × Int × Int → Option β} (hc : Cur b i) (k : ∀ x i' h', Cur b i' → ∃ r, f (x, i', h') = some r ∧ P r) : ∃ r, (spec_l1Once.f b i h n).bind f = some r ∧ P r := by
 unfold spec_l1Once.f
 obtain ⟨x, i', h', e, h0, h1, hc'⟩ := below_ends h n hc
 rw [e, Option.bind_some, Option.bind_some]
 exact k _ i' h' hc'
theorem l4Raw_ends {b : List Int} {i : Int} (h : Int) (hc : Cur b i) : ∃ r, spec_l4Raw.f b i h = some r ∧ Cur b r.2.1 := by
 unfold spec_l4Raw.f
 refine Dr.once hc fun x i2 h2 hc2 => ?_
 dsimp only
 split
 ·exact Dr.oneOf hc2 (by decide) fun y i3 h3 _ hc3 => ⟨_, rfl, hc3⟩
 ·exact Dr.below hc2 fun y i3 h3 _ _ hc3 => ⟨_, rfl, hc3⟩
theorem l1New_ends (b : List Int) (_hb : b.length ≤ 1048576) : ∃ h, Ev (fun k => spec_l1New.f k b) (b, 0, h) := by
 have key : ∀ (d i : Nat) (h : Int), i + d = b.length → ∃ h', Ev (fun k => spec_l1New.l0 k b h (i : Int)) (b, 0, h') := by
  intro d
  induction d with
  | zero =>
   intro i h hi
   refine ⟨h, ?_⟩
   refine Ev.step (fun k => by rw [spec_l1New.l0]) ?_
   exact Ev.ite_neg (by omega) (Ev.now _)
  | succ d ih =>
   intro i h hi
   by_cases c : (i : Int) < 4000
   ·obtain ⟨h', he⟩ := ih (i + 1) (Go.bits .and .i64 (wrap64 ((wrap64 ((wrap64 (h * 137)) + (wrap64 (rd b (i : Int))))) + 11)) 1073741823) (by omega)
    refine ⟨h', ?_⟩
    refine Ev.step (fun k => by rw [spec_l1New.l0]) ?_
    refine Ev.ite_pos (by omega) (Ev.ite_pos c (Ev.ite_pos (by omega) ?_))
    rw [w64n (by omega)]
    exact he
   ·refine ⟨h, ?_⟩
    refine Ev.step (fun k => by rw [spec_l1New.l0]) ?_
    exact Ev.ite_pos (by omega) (Ev.ite_neg c (Ev.now _))
 obtain ⟨h', he⟩ := key b.length 0 (wrap64 (193017 + (b.length : Int))) (by omega)
 exact ⟨h', he⟩
theorem cur0 {b : List Int} (hb : b.length ≤ 1048576) : Cur b 0 := ⟨by omega, by omega, hb⟩
end Go.Proofs.Ytiihaabhjphaeaa.fnMargins
/- The draws of plans come to an end; what they draw is a plan. Conditions: none. -/
namespace Go.Proofs.Ytiihaabhjphaeaa.fnMargins
open Go.RowKit Go.Proofs.YtiihaabhjphaeaaW.PrintWords Go.Proofs.YtiihaabhjphaeaaW.PrintMore Go.Proofs.Ytiihaabhjphaeaa.QFnMargins Go.Proofs.Ytiihaabhjphaeaa.Open Go.Proofs.Ytiihaabhjphaeaa.Kit
theorem PlanOk.snoc {n : Int} {L : List S137} {y : S137} (h : PlanOk n L) (hb : ∀ x ∈ L, Bef x y) (hy : CtOk n y) : PlanOk n (L ++ [y]) := by
 intro i hi
 rw [List.length_append, List.length_singleton] at hi
 have g : ∀ j, j < L.length → (L ++ [y]).getD j z137 = L.getD j z137 := by
  intro j hj
  rw [getD_at (by rw [List.length_append]; omega), getD_at hj, List.getElem_append_left hj]
 have gl : (L ++ [y]).getD L.length z137 = y := getD_mid L [] y z137 rfl
 by_cases c : i < L.length
 ·rw [g i c]
  refine ⟨(h i c).1, fun h0 => ?_⟩
  rw [g (i - 1) (by omega)]
  exact (h i c).2 h0
 ·obtain rfl : i = L.length := by omega
  rw [gl]
  refine ⟨hy, fun h0 => ?_⟩
  rw [g (L.length - 1) (by omega)]
  exact hb _ (getD_mem (by omega) z137)
theorem PlanOk.nil (n : Int) : PlanOk n [] := by
 intro i hi
 simp at hi
def AllBef (L : List S137) (a b t : Int) : Prop := ∀ x ∈ L, x.f0 < a ∨ x.f0 = a ∧ (x.f1 < b ∨ x.f1 = b ∧ x.f3 < t)
theorem minP (a b : Int) : spec_Min.f a b = some (min a b) := by
 unfold spec_Min.f
 split
 ·congr 1
  omega
 ·congr 1
  omega
abbrev PlEnd (b : List Int) (n : Int) (g : Nat → Option (List S137 × Int × Int)) : Prop := ∃ L i' h', Ev g (L, i', h') ∧ L.length ≤ 500 ∧ PlanOk n L ∧ Cur b i'
theorem l11_l2 {b : List Int} {m a q : Nat} {last : Int} {B : Nat} (hlast : 0 ≤ last ∧ last ≤ 1000) (ha : a < q) (hq : q < m) (hm : m ≤ 6) (hB : B ≤ 500)
  (hk : ∀ L i h, L.length ≤ B → PlanOk (m : Int) L → AllBef L (a : Int) ((q + 1 : Nat) : Int) 0 → Cur b i → PlEnd b (m : Int) (fun k => spec_l11Plan.l1 k (m : Int) last L (a : Int) ((q + 1 : Nat) : Int) b i h)) :
  ∀ (c : Nat) (L : List S137) (t i h : Int), c ≤ 5 → L.length + c ≤ B → PlanOk (m : Int) L → AllBef L (a : Int) (q : Int) t → 0 ≤ t ∧ t ≤ 2000 → Cur b i → PlEnd b (m : Int) (fun k => spec_l11Plan.l2 k (m : Int) last L (a : Int) (q : Int) t (c : Int) b i h) := by
 have stop : ∀ (c : Nat) (L : List S137) (t i h : Int), L.length ≤ B → PlanOk (m : Int) L → AllBef L (a : Int) (q : Int) t → Cur b i → PlEnd b (m : Int) (fun k => spec_l11Plan.j3 k (m : Int) last L (a : Int) (q : Int) t (c : Int) false b i h) := by
  intro c L t i h hL hP hA hc
  obtain ⟨L', i', h', he, hr⟩ := hk L i h hL hP (fun x hx => by have := hA x hx; omega) hc
  refine ⟨L', i', h', ?_, hr⟩
  refine Ev.step (fun k => by rw [spec_l11Plan.j3]) ?_
  refine Ev.ite_neg (by simp) ?_
  rw [w64n (by omega)]
  exact he
 intro c
 induction c with
 | zero =>
  intro L t i h _ hL hP hA ht hc
  obtain ⟨L', i', h', he, hr⟩ := stop 0 L t i h (by omega) hP hA hc
  refine ⟨L', i', h', ?_, hr⟩
  refine Ev.step (fun k => by rw [spec_l11Plan.l2]) ?_
  exact Ev.ite_neg (by omega) he
 | succ c ih =>
  intro L t i h hc5 hL hP hA ht hc
  by_cases c1 : t < last
  ·obtain ⟨u, i1, h1, e1, hu0, hu1, hc1⟩ := below_ends h 9 hc
   obtain ⟨v, i2, h2, e2, hv0, hv1, hc2⟩ := below_ends h1 6 hc1
   have hu1 := hu1 (by omega)
   have hv1 := hv1 (by omega)
   obtain ⟨e, he⟩ : ∃ e : Int, e = min last (t + 2 + u) := ⟨_, rfl⟩
   have hte : t < e ∧ e ≤ last := by omega
   obtain ⟨L', i', h', hev, hr⟩ := ih (L ++ [(⟨(a : Int), (q : Int), t, e⟩ : S137)]) (e + 1 + v) i2 h2 (by omega) (by rw [List.length_append, List.length_singleton]; omega)
    (hP.snoc (fun x hx => by have := hA x hx; unfold Bef; dsimp only; omega) (by unfold CtOk; dsimp only; omega))
    (by
     intro x hx
     rcases List.mem_append.1 hx with hx | hx
     ·have := hA x hx
      omega
     ·rw [List.mem_singleton.1 hx]
      dsimp only
      omega) (by omega) hc2
   refine ⟨L', i', h', ?_, hr⟩
   refine Ev.step (fun k => by rw [spec_l11Plan.l2]) ?_
   refine Ev.ite_pos (by omega) ?_
   rw [decide_eq_true c1]
   refine Ev.step (fun k => by rw [spec_l11Plan.j3]) ?_
   refine Ev.ite_pos rfl (Ev.bind0 e1 ?_)
   dsimp only
   rw [w64 (x := t + 2) (by omega) (by omega), w64 (x := t + 2 + u) (by omega) (by omega)]
   refine Ev.bind0 (minP _ _) ?_
   rw [← he]
   refine Ev.ite_pos (by omega) (Ev.bind0 e2 ?_)
   dsimp only
   rw [w64 (x := e + 1) (by omega) (by omega), w64 (x := e + 1 + v) (by omega) (by omega), w64 (x := ((c + 1 : Nat) : Int) - 1) (by omega) (by omega), show ((c + 1 : Nat) : Int) - 1 = (c : Int) by omega]
   exact hev
  ·obtain ⟨L', i', h', he, hr⟩ := stop (c + 1) L t i h (by omega) hP hA hc
   refine ⟨L', i', h', ?_, hr⟩
   refine Ev.step (fun k => by rw [spec_l11Plan.l2]) ?_
   refine Ev.ite_pos (by omega) ?_
   rw [decide_eq_false c1]
   exact he
theorem l11_l1 {b : List Int} {m a : Nat} {last : Int} {B : Nat} (hlast : 0 ≤ last ∧ last ≤ 1000) (ha : a < m) (hm : m ≤ 6) (hB : B ≤ 500)
  (hk : ∀ L i h, L.length ≤ B → PlanOk (m : Int) L → AllBef L ((a + 1 : Nat) : Int) 0 0 → Cur b i → PlEnd b (m : Int) (fun k => spec_l11Plan.l0 k (m : Int) last L ((a + 1 : Nat) : Int) b i h)) :
  ∀ (d q : Nat) (L : List S137) (i h : Int), q + d = m → a < q → L.length + 2 * d ≤ B → PlanOk (m : Int) L → AllBef L (a : Int) (q : Int) 0 → Cur b i → PlEnd b (m : Int) (fun k => spec_l11Plan.l1 k (m : Int) last L (a : Int) (q : Int) b i h) := by
 intro d
 induction d with
 | zero =>
  intro q L i h hq haq hL hP hA hc
  obtain ⟨L', i', h', he, hr⟩ := hk L i h (by omega) hP (fun x hx => by have := hA x hx; omega) hc
  refine ⟨L', i', h', ?_, hr⟩
  refine Ev.step (fun k => by rw [spec_l11Plan.l1]) ?_
  refine Ev.ite_neg (by omega) ?_
  rw [w64n (by omega)]
  exact he
 | succ d ih =>
  intro q L i h hq haq hL hP hA hc
  obtain ⟨t, i1, h1, e1, ht0, ht1, hc1⟩ := below_ends h 5 hc
  obtain ⟨c, i2, h2, e2, hc0, hcc, hc2⟩ := below_ends h1 3 hc1
  have ht1 := ht1 (by omega)
  have hcc := hcc (by omega)
  obtain ⟨L', i', h', he, hr⟩ := l11_l2 (B := B - 2 * d) hlast haq (by omega) hm (by omega) (fun L i h hl hp ha hc => ih (q + 1) L i h (by omega) (by omega) (by omega) hp ha hc) c.toNat L t i2 h2 (by omega) (by omega) hP (fun x hx => by have := hA x hx; omega) ⟨ht0, by omega⟩ hc2
  rw [Int.toNat_of_nonneg hc0] at he
  refine ⟨L', i', h', ?_, hr⟩
  refine Ev.step (fun k => by rw [spec_l11Plan.l1]) ?_
  exact Ev.ite_pos (by omega) (Ev.bind0 e1 (Ev.bind0 e2 he))
theorem l11_l0 {b : List Int} {m : Nat} {last : Int} (hlast : 0 ≤ last ∧ last ≤ 1000) (hm : m ≤ 6) : ∀ (d a : Nat) (L : List S137) (i h : Int), a + d = m → L.length + d * (2 * m) ≤ 500 → PlanOk (m : Int) L → AllBef L (a : Int) 0 0 → Cur b i →
  PlEnd b (m : Int) (fun k => spec_l11Plan.l0 k (m : Int) last L (a : Int) b i h) := by
 intro d
 induction d with
 | zero =>
  intro a L i h ha hL hP hA hc
  refine ⟨L, i, h, ?_, by omega, hP, hc⟩
  refine Ev.step (fun k => by rw [spec_l11Plan.l0]) ?_
  exact Ev.ite_neg (by omega) (Ev.now _)
 | succ d ih =>
  intro a L i h ha hL hP hA hc
  rw [Nat.succ_mul] at hL
  obtain ⟨L', i', h', he, hr⟩ := l11_l1 (B := 500 - d * (2 * m)) hlast (by omega) hm (by omega) (fun L i h hl hp ha hc => ih (a + 1) L i h (by omega) (by omega) hp ha hc) (m - (a + 1)) (a + 1) L i h (by omega) (by omega) (by omega) hP (fun x hx => by have := hA x hx; omega) hc
  refine ⟨L', i', h', ?_, hr⟩
  refine Ev.step (fun k => by rw [spec_l11Plan.l0]) ?_
  refine Ev.ite_pos (by omega) ?_
  rw [w64n (by omega)]
  exact he
theorem l11Plan_ends {b : List Int} {m : Nat} (hm : m ≤ 6) {last : Int} (hlast : 0 ≤ last ∧ last ≤ 1000) {i : Int} (h : Int) (hc : Cur b i) : PlEnd b (m : Int) (fun k => spec_l11Plan.f k b i h (m : Int) last) :=
 l11_l0 hlast hm m 0 [] i h (by omega) (by have : m * (2 * m) ≤ 6 * 12 := Nat.mul_le_mul hm (by omega); simp; omega) (PlanOk.nil _) (fun x hx => by cases hx) hc
end Go.Proofs.Ytiihaabhjphaeaa.fnMargins
/- The draws of programs come to an end. Conditions: none. -/
namespace Go.Proofs.Ytiihaabhjphaeaa.fnMargins
open Go.RowKit Go.Proofs.YtiihaabhjphaeaaW.PrintWords Go.Proofs.YtiihaabhjphaeaaW.PrintMore Go.Proofs.Ytiihaabhjphaeaa.QFnMargins Go.Proofs.Ytiihaabhjphaeaa.Open Go.Proofs.Ytiihaabhjphaeaa.Kit
theorem changes_len {l : List S137} {a b : Int} (h0 : 0 ≤ b) (h1 : b ≤ 1000) : (changes l a b).length ≤ b.toNat := by
 rw [← chTo_all (m := b.toNat) (by omega) fun t _ _ => chP_out (by omega)]
 exact chTo_len l a b b.toNat
theorem pieces_len {l : List S137} {a b : Int} (h : spanQ a b = true) : (pieces l a b).length = (changes l a b).length + 1 := by
 unfold pieces
 rw [if_pos h, spansOf_len, List.length_append, List.length_singleton]
theorem dists_len (l : List S134) (n first d : Int) : (dists l n first d).length ≤ 12 := by
 rcases (dists_fit l n first d).1 with e | e
 ·rw [e]
  simp
 ·omega
theorem pcOf_small {plan : List S137} (hl : plan.length ≤ 500) {n : Int} (hn : n ≤ 12) (first : Int) (s : S102) : n105 (pcOf plan n first s) ≤ 900 := by
 have h1 := linksAt_len plan s.f0
 have h2 : (tabs (linksAt plan s.f0) n first).length = n.toNat := by simp [tabs]
 have h3 := sum_map_le n55 24 (tabs (linksAt plan s.f0) n first) (by
  intro x hx
  unfold tabs at hx
  obtain ⟨d, _, rfl⟩ := List.mem_map.1 hx
  have h4 := dists_len (linksAt plan s.f0) n first (d : Int)
  show (dists (linksAt plan s.f0) n first (d : Int)).length + (nextsTo (linksAt plan s.f0) n first (d : Int)).length ≤ 24
  rw [nextsTo, nextRow_len]
  omega)
 show (linksAt plan s.f0).length + ((tabs (linksAt plan s.f0) n first).length + ((tabs (linksAt plan s.f0) n first).map n55).sum) ≤ 900
 have h5 : n.toNat * 24 ≤ 12 * 24 := Nat.mul_le_mul (by omega) (Nat.le_refl _)
 rw [h2] at h3
 omega
def Built (n first skew : Int) (p : List S105) : Prop := ∃ plan b, plan.length ≤ 500 ∧ BuildOk plan n first 0 b skew ∧ (0 ≤ b ∧ b ≤ 24) ∧ p = (pieces plan 0 b).map (pcOf plan n first)
theorem Built.of {plan : List S137} {n first skew b : Int} (hl : plan.length ≤ 500) (h : BuildOk plan n first 0 b skew) (hb : 0 ≤ b ∧ b ≤ 24) : Built n first skew ((pieces plan 0 b).map (pcOf plan n first)) := ⟨plan, b, hl, h, hb, rfl⟩
theorem Built.len {n first skew : Int} {p : List S105} (h : Built n first skew p) : 1 ≤ p.length ∧ p.length ≤ 40 := by
 obtain ⟨plan, b, _, hb, _, rfl⟩ := h
 rw [List.length_map]
 exact hb.2.2
theorem Built.small {n first skew : Int} {p : List S105} (h : Built n first skew p) : p.length ≤ 40 ∧ ∀ x ∈ p, n105 x ≤ 900 := by
 refine ⟨h.len.2, ?_⟩
 obtain ⟨plan, b, hl, hb, _, rfl⟩ := h
 intro x hx
 obtain ⟨s, _, rfl⟩ := List.mem_map.1 hx
 have := hb.1
 unfold Frame at this
 exact pcOf_small hl (by omega) first s
def Shape (n first skew : Int) : Prop := (n = 5 ∧ first = 4 ∧ 0 ≤ skew ∧ skew ≤ 2) ∨ (n = 3 ∧ first = 2 ∧ skew = 0)
theorem l17Draw_ends {b : List Int} {i : Int} (h : Int) (hc : Cur b i) : ∃ n first skew p i' h', Ev (fun k => spec_l17Draw.f k b i h) (n, first, skew, p, i', h') ∧ Shape n first skew ∧ Built n first skew p ∧ Cur b i' := by
 obtain ⟨L, i1, h1, e1, hL, hP, hc1⟩ := l11Plan_ends (m := 5) (by omega) (last := 24) (by omega) h hc
 obtain ⟨s, i2, h2, e2, hs0, hs1, hc2⟩ := below_ends h1 3 hc1
 have hs1 := hs1 (by omega)
 have hb1 := buildS (show L.length ≤ 1048576 by omega) 5 4 0 24 s
 by_cases c : BuildOk L 5 4 0 24 s
 ·rw [build_yes c] at hb1
  have hBt := Built.of hL c (by omega)
  generalize (pieces L 0 24).map (pcOf L 5 4) = P at hb1 hBt
  refine ⟨5, 4, s, P, i2, h2, ?_, .inl ⟨rfl, rfl, hs0, by omega⟩, hBt, hc2⟩
  unfold spec_l17Draw.f
  exact Ev.bind e1 (Ev.bind0 e2 (Ev.bind hb1 (Ev.ite_pos rfl (Ev.now _))))
 ·rw [build_no c] at hb1
  obtain ⟨L3, i3, h3, e3, hL3, hP3, hc3⟩ := l11Plan_ends (m := 3) (by omega) (last := 12) (by omega) h2 hc2
  have hsp : spanQ 0 12 = true := rfl
  have hok : BuildOk L3 3 2 0 12 0 := by
   have h4 := pieces_len (l := L3) hsp
   have h5 := changes_len (l := L3) (a := 0) (b := 12) (by omega) (by omega)
   refine ⟨by unfold Frame; omega, hP3, by omega, ?_⟩
   have : (12 : Int).toNat = 12 := rfl
   omega
  have hb3 := buildS (show L3.length ≤ 1048576 by omega) 3 2 0 12 0
  rw [build_yes hok] at hb3
  have hBt := Built.of hL3 hok (by omega)
  generalize (pieces L3 0 12).map (pcOf L3 3 2) = P at hb3 hBt
  refine ⟨3, 2, 0, P, i3, h3, ?_, .inr ⟨rfl, rfl, rfl⟩, hBt, hc3⟩
  unfold spec_l17Draw.f
  exact Ev.bind e1 (Ev.bind0 e2 (Ev.bind hb1 (Ev.ite_neg (by simp) (Ev.bind e3 (Ev.bind hb3 (Ev.now _))))))
theorem rdPc (l : List S105) {x : Int} (h0 : 0 ≤ x) (h1 : x < l.length) : rd_T105 l x ∈ l := getD_mem (by omega) z105
theorem l17Any_ends {b : List Int} {i : Int} (h : Int) (hc : Cur b i) : ∃ n first skew p i' h', Ev (fun k => spec_l17Any.f k b i h) (n, first, skew, p, i', h') ∧ (n = 5 ∨ n = 3) ∧ Small p ∧ Cur b i' := by
 obtain ⟨n, f, s, p, i1, h1, e1, hs, hB, hc1⟩ := l17Draw_ends h hc
 have hlen := hB.len
 have hsm := hB.small
 have hn : n = 5 ∨ n = 3 := by
  unfold Shape at hs
  omega
 have hp0 : Small p := ⟨hsm.1, fun x hx => by have := hsm.2 x hx; omega⟩
 obtain ⟨x, i2, h2, e2, hx0, hx1, hc2⟩ := below_ends h1 (p.length : Int) hc1
 have hx1 := hx1 (by omega)
 obtain ⟨y, i3, h3, e3, hy0, hy1, hc3⟩ := below_ends h2 10 hc2
 have hmem := rdPc p hx0 hx1
 have hset : ∀ z : S105, n105 z ≤ 1000 → Small (p.set x.toNat z) := by
  intro z hz
  refine ⟨by rw [List.length_set]; exact hsm.1, fun u hu => ?_⟩
  rcases List.mem_or_eq_of_mem_set hu with hu | rfl
  ·have := hsm.2 u hu
   omega
  ·exact hz
 have hr := hsm.2 _ hmem
 have key : ∃ r : Int × Int × Int × List S105 × Int × Int, Ev (fun k => spec_l17Any.j0 k x b i2 h2 n f s p) r ∧ (r.1 = 5 ∨ r.1 = 3) ∧ Small r.2.2.2.1 ∧ Cur b r.2.2.2.2.1 := by
  have lift : ∀ {o : Option (Int × Int × Int × List S105 × Int × Int)}, (∃ r, o = some r ∧ ((r.1 = 5 ∨ r.1 = 3) ∧ Small r.2.2.2.1 ∧ Cur b r.2.2.2.2.1)) → ∃ r : Int × Int × Int × List S105 × Int × Int, Ev (fun _ : Nat => o) r ∧ (r.1 = 5 ∨ r.1 = 3) ∧ Small r.2.2.2.1 ∧ Cur b r.2.2.2.2.1 := by
   rintro o ⟨r, e, h1, h2, h3⟩
   exact ⟨r, Ev.eq e, h1, h2, h3⟩
  have step : ∀ {g : Nat → Option (Int × Int × Int × List S105 × Int × Int)}, (∀ k, spec_l17Any.j0 (k + 1) x b i2 h2 n f s p = g k) → (∃ r : Int × Int × Int × List S105 × Int × Int, Ev g r ∧ (r.1 = 5 ∨ r.1 = 3) ∧ Small r.2.2.2.1 ∧ Cur b r.2.2.2.2.1) → ∃ r : Int × Int × Int × List S105 × Int × Int, Ev (fun k => spec_l17Any.j0 k x b i2 h2 n f s p) r ∧ (r.1 = 5 ∨ r.1 = 3) ∧ Small r.2.2.2.1 ∧ Cur b r.2.2.2.2.1 := by
   rintro g hg ⟨r, he, hr⟩
   exact ⟨r, Ev.step hg he, hr⟩
  refine step (fun k => by rw [spec_l17Any.j0]) (lift ?_)
  rw [e3, Option.bind_some]
  dsimp only
  split
  ·exact Dr.oneOf hc3 (by decide) fun v i4 h4 _ hc4 => ⟨_, rfl, hn, hp0, hc4⟩
  ·split
   ·exact Dr.oneOf hc3 (by decide) fun v i4 h4 _ hc4 => ⟨_, rfl, hn, hp0, hc4⟩
   ·split
    ·(try rw [if_pos hx0])
     (try rw [if_pos (show x ≤ (p.length : Int) by omega)])
     exact ⟨_, rfl, hn, ⟨by show (p.take _).length ≤ 40; rw [List.length_take]; omega, fun u hu => hp0.2 u (List.mem_of_mem_take hu)⟩, hc3⟩
    ·split
     ·obtain ⟨r, er, hcr⟩ := l4Raw_ends h3 hc3
      rw [er, Option.bind_some]
      (try rw [if_pos hx0])
      (try rw [if_pos hx1])
      exact ⟨_, rfl, hn, hset _ (by show n105 (rd_T105 p x) ≤ 1000; omega), hcr⟩
     ·split
      ·have hfl : (rd_T105 p x).f1.length ≤ n105 (rd_T105 p x) := by
        unfold n105
        omega
       (try rw [if_pos hx0])
       (try rw [if_pos hx1])
       rw [if_pos (by omega)]
       refine ⟨_, rfl, hn, hset _ ?_, hc3⟩
       show ((rd_T105 p x).f1 ++ [(⟨0, 1⟩ : S134)]).length + ((rd_T105 p x).f2.length + ((rd_T105 p x).f2.map n55).sum) ≤ 1000
       have e : n105 (rd_T105 p x) = (rd_T105 p x).f1.length + ((rd_T105 p x).f2.length + ((rd_T105 p x).f2.map n55).sum) := rfl
       rw [List.length_append, List.length_singleton]
       omega
      ·exact ⟨_, rfl, hn, hp0, hc3⟩
 obtain ⟨r, er, h5, h6, h7⟩ := key
 refine ⟨r.1, r.2.1, r.2.2.1, r.2.2.2.1, r.2.2.2.2.1, r.2.2.2.2.2, ?_, h5, h6, h7⟩
 unfold spec_l17Any.f
 exact Ev.bind e1 (Ev.ite_pos (by show (p.length : Int) > 0; omega) (Ev.bind0 e2 er))
theorem drawMayUse_ends (b : List Int) (hb : b.length ≤ 1048576) : ∃ n f s p x y t, Ev (fun k => spec_DrawMayUse.f k b) (n, f, s, p, x, y, t) ∧ Small p := by
 obtain ⟨h, hn⟩ := l1New_ends b hb
 obtain ⟨n, f, s, p, i1, h1, e1, h5, hS, hc1⟩ := l17Any_ends h (cur0 hb)
 obtain ⟨x2, i2, h2, e2, _, _, hc2⟩ := below_ends h1 6 hc1
 obtain ⟨x3, i3, h3, e3, _, _, hc3⟩ := below_ends h2 6 hc2
 obtain ⟨r, e4, hc4⟩ := l4Raw_ends h3 hc3
 refine ⟨n, f, s, p, x2, x3, r.1, ?_, hS⟩
 unfold spec_DrawMayUse.f
 exact Ev.bind hn (Ev.bind e1 (Ev.bind0 e2 (Ev.bind0 e3 (Ev.bind0 e4 (Ev.now _)))))
theorem drawUseSpans_ends (b : List Int) (hb : b.length ≤ 1048576) : ∃ n f s p x y, Ev (fun k => spec_DrawUseSpans.f k b) (n, f, s, p, x, y) ∧ Small p := by
 obtain ⟨n, f, s, p, x, y, t, e, hS⟩ := drawMayUse_ends b hb
 refine ⟨n, f, s, p, x, y, ?_, hS⟩
 unfold spec_DrawUseSpans.f
 exact Ev.bind e (Ev.now _)
end Go.Proofs.Ytiihaabhjphaeaa.fnMargins
namespace Go.Proofs.Ytiihaabhjphaeaa.fnMargins
open Go.RowKit Go.Proofs.YtiihaabhjphaeaaW.PrintWords Go.Proofs.YtiihaabhjphaeaaW.PrintMore Go.Proofs.Ytiihaabhjphaeaa.QFnMargins Go.Proofs.Ytiihaabhjphaeaa.Open Go.Proofs.Ytiihaabhjphaeaa.Kit
theorem allL_at (p : List S105) (a b : Int) : ∀ (d : Nat) (x : Int), allL p a b d x = true → ∀ t : Int, x ≤ t → t < x + d → linked p a b t = true
 | 0, x, _, t, h1, h2 => by omega
 | d + 1, x, h, t, h1, h2 => by
  unfold allL at h
  rw [Bool.and_eq_true] at h
  by_cases e : t = x
  ·rw [e]
   exact h.1
  ·exact allL_at p a b d (x + 1) h.2 t (by omega) (by omega)
theorem may_at {p : List S105} {s a b t : Int} (h : mayB p s a b t = true) : (0 ≤ s ∧ s ≤ 5) ∧ (0 ≤ t ∧ t ≤ 1000) ∧ ∀ x : Int, t - s ≤ x → x ≤ t + s → linked p a b x = true := by
 unfold mayB at h
 simp only [Bool.and_eq_true, decide_eq_true_iff] at h
 refine ⟨h.1.1, h.1.2, fun x h1 h2 => allL_at p a b _ _ h.2 x h1 (by omega)⟩
theorem inSpans2 (l : List S102) (hl : l.length ≤ 1048576) (t : Int) : Ev (fun k => impl_InSpans.f k l t) (inSp l t) := by
 have key : ∀ m i : Nat, i + m = l.length → Ev (fun k => impl_InSpans.l0 k t l (l.length : Int) (i : Int)) (inSp (l.drop i) t) := by
  intro m
  induction m with
  | zero =>
   intro i hi
   rw [List.drop_of_length_le (by omega)]
   refine Ev.step (fun k => by rw [impl_InSpans.l0]) ?_
   exact Ev.ite_neg (by omega) (Ev.now _)
  | succ m ih =>
   intro i hi
   have h := ih (i + 1) (by omega)
   have e : inSp (l.drop i) t = (inS (l.getD i z102) t || inSp (l.drop (i + 1)) t) := by
    rw [drop_getD (by omega : i < l.length) z102]
    rfl
   have e2 : inS (l.getD i z102) t = inQ (l.getD i z102).f0 (l.getD i z102).f1 t := by
    unfold inS inQ
    rw [decide_eq_decide]
    omega
   rw [e, e2]
   refine Ev.step (fun k => by rw [impl_InSpans.l0]) ?_
   refine Ev.ite_pos (by omega) (Ev.ite_pos (by omega) (Ev.ite_pos (by omega) ?_))
   rw [show rd_T102 l (i : Int) = l.getD i z102 from rfl]
   refine Ev.bind0 (inSpanI _ _ _) ?_
   by_cases c : inQ (l.getD i z102).f0 (l.getD i z102).f1 t = true
   ·rw [c]
    exact Ev.ite_pos rfl (Ev.now _)
   ·rw [Bool.eq_false_iff.2 c, Bool.false_or, w64n (by omega)]
    exact Ev.ite_neg (by simp) h
 have := key l.length 0 (by omega)
 rw [List.drop_zero] at this
 exact this
theorem cnt_two (h g f : Int → Bool) (hh : ∀ t, f t = true → h t = true ∨ g t = true) : ∀ (c : Nat) (t : Int), cntH f c t ≤ cntH h c t + cntH g c t
 | 0, t => by
  unfold cntH
  omega
 | c + 1, t => by
  have h1 := cnt_two h g f hh c (t + 1)
  have h2 := hh t
  unfold cntH
  by_cases cf : f t = true <;> by_cases ch : h t = true <;> by_cases cg : g t = true <;> simp only [cf, ch, cg, if_true, if_false, Bool.false_eq_true] at * <;> first | omega | (simp at h2)
theorem law_l1 (p : List S105) (hp : nPgI p ≤ 1048576) (n f s a b : Int) : ∀ (m t : Nat) (c : Int), t + m = 61 → c = cntH (linked p a b) t 0 → Ev (fun k => laws_FnMargins.l1 k a b (useL (mayB p s a b) 1000 0 []) c (t : Int) n f s p) true := by
 obtain ⟨_, _, a3⟩ := useL_all (mayB p s a b) 1000 0 [] (by omega) (by omega) (fun s hs => by cases hs)
 have hlen : (useL (mayB p s a b) 1000 0 []).length ≤ 0 + 1000 := useL_len (mayB p s a b) 1000 0 []
 have hin : ∀ x : Int, 0 ≤ x → x < 1000 → inSp (useL (mayB p s a b) 1000 0 []) x = mayB p s a b x := by
  intro x h0 h1
  rw [a3 x (.inr rfl), show inSp ([] : List S102) x = false from rfl, Bool.false_or, decide_eq_true (by omega), Bool.true_and]
 have htk := ticksOf2 (useL (mayB p s a b) 1000 0 []) (by omega)
 have hsame := cntH_same (inSp (useL (mayB p s a b) 1000 0 [])) (mayB p s a b) 1000 0 (fun x hx hx2 => hin x hx (by omega))
 rw [hsame] at htk
 generalize useL (mayB p s a b) 1000 0 [] = U at *
 intro m
 induction m with
 | zero =>
  intro t c ht hc
  obtain rfl : t = 61 := by omega
  have hle := cntH_le (linked p a b) 61 0
  refine Ev.step (fun k => by rw [laws_FnMargins.l1]) ?_
  refine Ev.ite_neg (by omega) ?_
  by_cases c1 : c > 60
  ·exact Ev.ite_pos c1 (Ev.now _)
  ·refine Ev.ite_neg c1 (Ev.bind (progI (pcsLe hp)) ?_)
   by_cases c2 : progB n f s p = true
   ·refine Ev.ite_pos c2 (Ev.bind htk (Ev.bind (lost2 p hp n f s a b) (Ev.some ?_)))
    have h1 := cntH_le (mayB p s a b) 1000 0
    have h2 := cntH_le (lostB p s a b) 1000 0
    have h3 := cnt_two (mayB p s a b) (lostB p s a b) (linked p a b) (fun x hx => by
     unfold lostB
     cases mayB p s a b x with
     | true => exact .inl rfl
     | false => exact .inr (by rw [hx]; rfl)) 1000 0
    have h4 := cntH_add (linked p a b) 61 939 0
    have h5 := cntH_le (linked p a b) 939 (0 + (61 : Nat))
    have h6 : cntH (linked p a b) 1000 0 = cntH (linked p a b) 61 0 + cntH (linked p a b) 939 (0 + (61 : Nat)) := h4
    rw [w64 (by omega) (by omega)]
    exact decide_eq_true (by omega)
   ·exact Ev.ite_neg c2 (Ev.now _)
 | succ m ih =>
  intro t c ht hc
  have hle := cntH_le (linked p a b) t 0
  have hs : cntH (linked p a b) (t + 1) 0 = cntH (linked p a b) t 0 + cntH (linked p a b) 1 (0 + (t : Nat)) := cntH_add (linked p a b) t 1 0
  have h1 : cntH (linked p a b) 1 (0 + (t : Nat)) = if linked p a b (t : Int) = true then 1 else 0 := by
   unfold cntH
   unfold cntH
   rw [Int.zero_add]
   split <;> simp
  rw [h1] at hs
  have tail : ∀ c2 : Int, c2 = cntH (linked p a b) (t + 1) 0 → Ev (fun k => laws_FnMargins.j3 k a b U c2 (t : Int) n f s p) true := by
   intro c2 hc2
   have hn := ih (t + 1) c2 (by omega) hc2
   refine Ev.step (fun k => by rw [laws_FnMargins.j3]) ?_
   rw [w64n (by omega)]
   refine Ev.bind (inSpans2 U (by omega) (t : Int)) ?_
   rw [hin (t : Int) (by omega) (by omega)]
   by_cases cm : mayB p s a b (t : Int) = true
   ·have := may_at cm
    exact Ev.ite_pos cm (Ev.bind0 (linked2 p hp n f s a b (t : Int)) (Ev.ite_pos (this.2.2 (t : Int) (by omega) (by omega)) hn))
   ·exact Ev.ite_neg cm hn
  refine Ev.step (fun k => by rw [laws_FnMargins.l1]) ?_
  refine Ev.ite_pos (by omega) (Ev.bind0 (linked2 p hp n f s a b (t : Int)) ?_)
  by_cases cl : linked p a b (t : Int) = true
  ·rw [if_pos cl] at hs
   rw [w64 (x := c + 1) (by omega) (by omega)]
   exact Ev.ite_pos cl (tail _ (by omega))
  ·rw [if_neg cl] at hs
   exact Ev.ite_neg cl (tail _ (by omega))
theorem law_j1 (code : List Int) (hb : code.length ≤ 1048576) : Ev (fun k => laws_FnMargins.j1 k code) true := by
 obtain ⟨n, f, s, p, a, b, e, hS⟩ := drawUseSpans_ends code hb
 have hp := hS.size
 refine Ev.step (fun k => by rw [laws_FnMargins.j1]) ?_
 exact Ev.bind e (Ev.bind (uses2 p hp n f s a b) (law_l1 p hp n f s a b 61 0 0 (by omega) rfl))
theorem law_l0 (code : List Int) (hb : code.length ≤ 1048576) (p : List S105) (hp : nPgI p ≤ 1048576) (n f s a b t : Int) (h : mayB p s a b t = true) : ∀ (m : Nat) (x : Int), t - s ≤ x → x + m = t + s + 1 → Ev (fun k => laws_FnMargins.l0 k code a b t x n f s p) true := by
 obtain ⟨hs, ht, hall⟩ := may_at h
 intro m
 induction m with
 | zero =>
  intro x h1 h2
  refine Ev.step (fun k => by rw [laws_FnMargins.l0]) ?_
  rw [w64 (x := t + s) (by omega) (by omega)]
  exact Ev.ite_neg (by omega) (law_j1 code hb)
 | succ m ih =>
  intro x h1 h2
  refine Ev.step (fun k => by rw [laws_FnMargins.l0]) ?_
  rw [w64 (x := t + s) (by omega) (by omega), w64 (x := x + 1) (by omega) (by omega)]
  exact Ev.ite_pos (by omega) (Ev.bind0 (linked2 p hp n f s a b x) (Ev.ite_pos (hall x h1 (by omega)) (ih (x + 1) (by omega) (by omega))))
theorem pure : PureFnMargins := by
 intro code hcode
 refine Ev.rounds (r := true) ?_
 unfold laws_FnMargins.f
 refine Ev.bind0 rfl ?_
 by_cases hb : (code.length : Int) > 1048576
 ·exact Ev.ite_pos (decide_eq_true hb) (Ev.now _)
 ·refine Ev.ite_neg (by simpa using hb) ?_
  have hb' : code.length ≤ 1048576 := by omega
  obtain ⟨n, f, s, p, a, b, t, e, hS⟩ := drawMayUse_ends code hb'
  have hp := hS.size
  refine Ev.bind e (Ev.bind (may2 p hp n f s a b t) (Ev.bind (may1 p hp n f s a b t) (Ev.ite_neg (by simp) (Ev.bind (may2 p hp n f s a b t) ?_))))
  by_cases c : mayB p s a b t = true
  ·have hm := may_at c
   refine Ev.ite_pos c ?_
   dsimp only
   rw [w64 (x := t - s) (by omega) (by omega)]
   exact law_l0 code hb' p hp n f s a b t c (2 * s + 1).toNat (t - s) (by omega) (by omega)
  ·exact Ev.ite_neg c (law_j1 code hb')
end Go.Proofs.Ytiihaabhjphaeaa.fnMargins
namespace Go.Proofs.Ytiihaabhjphaeaa
theorem fnMargins_holds : Rows.FnMarginsSaid := fnMargins.row fnMargins.pure
end Go.Proofs.Ytiihaabhjphaeaa
