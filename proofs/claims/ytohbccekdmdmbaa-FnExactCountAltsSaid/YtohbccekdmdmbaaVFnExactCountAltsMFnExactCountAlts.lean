/- FnExactCountAlts: the program and the reference count the same nodes with alternatives. Conditions: none. (tight). -/
import Derived.Test.YtohbccekdmdmbaaVFnExactCountAltsQFnExactCountAltsx
import Derived.Lib.SlicesCompact
import Derived.Test.YtohbccekdmdmbaaVFnExactCountAltsRowFnExactCountAlts
/- Small words on answers that come with enough rounds. Conditions: none. -/
namespace Go.Proofs.Ytohbccekdmdmbaa.Kit
open Go.RowKit Go.Proofs.YtohbccekdmdmbaaW.PrintWords Go.Proofs.YtohbccekdmdmbaaW.PrintLast Go.Proofs.YtohbccekdmdmbaaW.PrintMore Go.Proofs.Ytohbccekdmdmbaa.Open

theorem Ev.ite_pos {α : Type} {c : Prop} [Decidable c] {f g : Nat → Option α} {r : α} (h : c) (k : Ev f r) : Ev (fun n => if c then f n else g n) r := by simpa only [if_pos h] using k
theorem Ev.ite_neg {α : Type} {c : Prop} [Decidable c] {f g : Nat → Option α} {r : α} (h : ¬ c) (k : Ev g r) : Ev (fun n => if c then f n else g n) r := by simpa only [if_neg h] using k
theorem Ev.bind0 {α β : Type} {o : Option α} {f : Nat → α → Option β} {a : α} {r : β} (h : o = some a) (k : Ev (fun n => f n a) r) : Ev (fun n => o.bind (f n)) r := by subst h; exact k
theorem Ev.some {α : Type} {r r' : α} (h : r' = r) : Ev (fun _ => some r') r := by subst h; exact Ev.now _
theorem w64 {x : Int} (h0 : -9223372036854775808 ≤ x) (h1 : x ≤ 9223372036854775807) : wrap64 x = x := by
 unfold wrap64
 omega
theorem Len.le {B : Nat} {α : Type} {l : List α} (h : Len B l) (hB : 0 < B) : l.length ≤ 140737488351232 := by
 unfold Len at h
 exact Nat.le_trans (Nat.le_mul_of_pos_right _ hB) h
/-! ### loops that count up -/
theorem Ev.upIf {ρ : Type} {n : Nat} (p : Nat → Prop) {g : Nat → Nat → Option ρ} {r : ρ} (hs : ∀ i, i < n → p i → (p (i + 1) → Ev (g (i + 1)) r) → Ev (g i) r) (he : p n → Ev (g n) r) (h0 : p 0) : Ev (g 0) r := by
 have key : ∀ d i, i + d = n → p i → Ev (g i) r := by
  intro d
  induction d with
  | zero => intro i hi hp; obtain rfl : i = n := (by omega); exact he hp
  | succ d ih => intro i hi hp; exact hs i (by omega) hp (fun hp' => ih (i + 1) (by omega) hp')
 exact key n 0 (by omega) h0
theorem Ev.up {ρ : Type} {n : Nat} {g : Nat → Nat → Option ρ} {r : ρ} (hs : ∀ i, i < n → Ev (g (i + 1)) r → Ev (g i) r) (he : Ev (g n) r) : Ev (g 0) r :=
 Ev.upIf (fun _ => True) (fun i hi _ h => hs i hi (h trivial)) (fun _ => he) trivial
theorem w64n {i : Nat} (h : i ≤ 140737488351232) : wrap64 ((i : Int) + 1) = ((i + 1 : Nat) : Int) := by
 rw [w64 (by omega) (by omega)]
 omega
theorem rd_nat (xs : List Int) (i : Nat) : rd xs (i : Int) = xs.getD i 0 := rfl
theorem getD_at {α : Type} {xs : List α} {i : Nat} (h : i < xs.length) (z : α) : xs.getD i z = xs[i] := by simp [List.getD, h]
theorem getD_mem {α : Type} {xs : List α} {i : Nat} (h : i < xs.length) (z : α) : xs.getD i z ∈ xs := by rw [getD_at h]; exact List.getElem_mem h
theorem take_succ_getD {α : Type} {xs : List α} {i : Nat} (h : i < xs.length) (z : α) : xs.take (i + 1) = xs.take i ++ [xs.getD i z] := by
 rw [List.take_succ_eq_append_getElem h, getD_at h]
theorem drop_getD {α : Type} {xs : List α} {i : Nat} (h : i < xs.length) (z : α) : xs.drop i = xs.getD i z :: xs.drop (i + 1) := by
 rw [List.drop_eq_getElem_cons h, getD_at h]
def fillTo {α β : Type} (c : α → β) (z : β) (xs : List α) (i : Nat) : List β := (xs.take i).map c ++ List.replicate (xs.length - i) z
theorem fillTo_zero {α β : Type} (c : α → β) (z : β) (xs : List α) : fillTo c z xs 0 = List.replicate xs.length z := by simp [fillTo]
theorem fillTo_all {α β : Type} (c : α → β) (z : β) (xs : List α) : fillTo c z xs xs.length = xs.map c := by simp [fillTo]
theorem fillTo_length {α β : Type} (c : α → β) (z : β) (xs : List α) {i : Nat} (h : i ≤ xs.length) : (fillTo c z xs i).length = xs.length := by
 simp [fillTo]
 omega
theorem fillTo_set {α β : Type} (c : α → β) (z : β) (xs : List α) {i : Nat} (h : i < xs.length) (a : α) : (fillTo c z xs i).set i (c (xs.getD i a)) = fillTo c z xs (i + 1) := by
 have hl : ((xs.take i).map c).length = i := by simp; omega
 unfold fillTo
 rw [List.set_append_right _ _ (by omega), hl, Nat.sub_self, take_succ_getD h a, List.map_append, show xs.length - i = (xs.length - (i + 1)) + 1 by omega, List.replicate_succ]
 simp
def szOf (left : Int) (n : Nat) : Int := if (n : Int) ≤ left then left - n else -1
end Go.Proofs.Ytohbccekdmdmbaa.Kit
/- The helpers of the law FnExactCountAlts: sizes, conversions, equality with itself. Conditions: none. -/
namespace Go.Proofs.Ytohbccekdmdmbaa.fnExactCountAlts
open Go.RowKit Go.Proofs.YtohbccekdmdmbaaW.PrintWords Go.Proofs.YtohbccekdmdmbaaW.PrintLast Go.Proofs.YtohbccekdmdmbaaW.PrintMore Go.Proofs.Ytohbccekdmdmbaa.QFnExactCountAlts Go.Proofs.Ytohbccekdmdmbaa.Open Go.Proofs.Ytohbccekdmdmbaa.Kit
def cLink (x : S57) : S55 := ⟨x.f0, x.f1⟩
theorem sz_IntS (l : List Int) (left : Int) (hb : l.length ≤ 140737488351232) (h0 : 0 ≤ left) (h1 : left ≤ 1048576) : laws_szIntS.f l left = some (szOf left l.length) := by
 unfold laws_szIntS.f szOf
 rw [w64 (by omega) (by omega)]
 by_cases h : (l.length : Int) ≤ left
 ·rw [if_neg (by omega), if_pos h]
 ·rw [if_pos (by omega), if_neg h]
theorem sz_LinkS (l : List S57) (left : Int) (hb : l.length ≤ 140737488351232) (h0 : 0 ≤ left) (h1 : left ≤ 1048576) : laws_szLinkS.f l left = some (szOf left l.length) := by
 unfold laws_szLinkS.f szOf
 rw [w64 (by omega) (by omega)]
 by_cases h : (l.length : Int) ≤ left
 ·rw [if_neg (by omega), if_pos h]
 ·rw [if_pos (by omega), if_neg h]
theorem sz_Table (a0 : Int) (a1 : (List Int)) (a2 : (List Int)) (left : Int) (hba1 : a1.length ≤ 140737488351232) (hba2 : a2.length ≤ 140737488351232) (h0 : 0 ≤ left) (h1 : left ≤ 1048576) : laws_szTable.f a0 a1 a2 left = some (szOf left (a1.length + a2.length)) := by
 unfold laws_szTable.f
 rw [(sz_IntS a1 left hba1 (by omega) (by omega)), Option.bind_some]
 by_cases hc0 : ((a1.length : Nat) : Int) ≤ left
 ·have e0 : szOf left (a1.length) = left - ((a1.length : Nat) : Int) := by
   unfold szOf
   rw [if_pos (by omega)]
  rw [e0]
  rw [if_neg (by omega)]
  rw [(sz_IntS a2 _ hba2 (by omega) (by omega)), Option.bind_some]
  by_cases hc1 : ((a1.length + a2.length : Nat) : Int) ≤ left
  ·have e1 : szOf (left - ((a1.length : Nat) : Int)) (a2.length) = left - ((a1.length + a2.length : Nat) : Int) := by
    unfold szOf
    rw [if_pos (by omega)]
    omega
   rw [e1]
   rw [if_neg (by omega)]
   unfold szOf
   rw [if_pos (by omega)]
  ·have e1 : szOf (left - ((a1.length : Nat) : Int)) (a2.length) = -1 := by
    unfold szOf
    rw [if_neg (by omega)]
   rw [e1]
   rw [if_pos (by omega)]
   unfold szOf
   rw [if_neg (by omega)]
 ·have e0 : szOf left (a1.length) = -1 := by
   unfold szOf
   rw [if_neg (by omega)]
  rw [e0]
  rw [if_pos (by omega)]
  unfold szOf
  rw [if_neg (by omega)]
theorem to_IntS (l : List Int) (hn : l.length ≤ 1048576) : Ev (fun k => laws_toIntS.f k l) l := by
 unfold laws_toIntS.f
 repeat (first | (with_reducible refine Ev.ite_pos (by omega) ?_) | (with_reducible refine Ev.ite_neg (by omega) ?_))
 rw [Int.toNat_natCast, ← fillTo_zero (fun x => x) 0 l]
 refine Ev.up (n := l.length) (g := fun i k => laws_toIntS.l0 k l (fillTo (fun x => x) 0 l i) (i : Int)) ?_ ?_
 ·intro i hi ih
  have hlen := fillTo_length (fun x => x) 0 l (Nat.le_of_lt hi)
  rw [← fillTo_set (fun x => x) 0 l hi 0] at ih
  refine Ev.step (fun k => by rw [laws_toIntS.l0]) ?_
  repeat (first | (with_reducible refine Ev.ite_pos (by omega) ?_) | (with_reducible refine Ev.ite_neg (by omega) ?_))
  rw [Int.toNat_natCast, w64n (by omega)]
  exact ih
 ·refine Ev.step (fun k => by rw [laws_toIntS.l0]) ?_
  repeat (first | (with_reducible refine Ev.ite_pos (by omega) ?_) | (with_reducible refine Ev.ite_neg (by omega) ?_))
  refine Ev.some ?_
  rw [fillTo_all]
  simp
theorem to_Link (x : S57) : laws_toLink.f (x.f0) (x.f1) = some (x.f0, x.f1) := by
 unfold laws_toLink.f
 rfl
theorem to_LinkS (l : List S57) (hn : l.length ≤ 1048576) : Ev (fun k => laws_toLinkS.f k l) (l.map cLink) := by
 unfold laws_toLinkS.f
 repeat (first | (with_reducible refine Ev.ite_pos (by omega) ?_) | (with_reducible refine Ev.ite_neg (by omega) ?_))
 rw [Int.toNat_natCast, ← fillTo_zero cLink z55 l]
 refine Ev.up (n := l.length) (g := fun i k => laws_toLinkS.l0 k l (fillTo cLink z55 l i) (i : Int)) ?_ ?_
 ·intro i hi ih
  have hlen := fillTo_length cLink z55 l (Nat.le_of_lt hi)
  rw [← fillTo_set cLink z55 l hi z57] at ih
  refine Ev.step (fun k => by rw [laws_toLinkS.l0]) ?_
  repeat (first | (with_reducible refine Ev.ite_pos (by omega) ?_) | (with_reducible refine Ev.ite_neg (by omega) ?_))
  refine Ev.bind0 (to_Link (l.getD i z57)) ?_
  repeat (first | (with_reducible refine Ev.ite_pos (by omega) ?_) | (with_reducible refine Ev.ite_neg (by omega) ?_))
  rw [Int.toNat_natCast, w64n (by omega)]
  exact ih
 ·refine Ev.step (fun k => by rw [laws_toLinkS.l0]) ?_
  repeat (first | (with_reducible refine Ev.ite_pos (by omega) ?_) | (with_reducible refine Ev.ite_neg (by omega) ?_))
  refine Ev.some ?_
  rw [fillTo_all]
theorem to_Table (a0 : Int) (a1 : (List Int)) (a2 : (List Int)) (hn : a1.length + a2.length ≤ 1048576) : Ev (fun k => laws_toTable.f k a0 a1 a2) (a0, a1, a2) := by
 unfold laws_toTable.f
 refine Ev.bind (to_IntS (a1) (by omega)) ?_
 refine Ev.bind (to_IntS (a2) (by omega)) ?_
 exact Ev.now _
theorem eq_IntS (l : List Int) (hn : l.length ≤ 2097152) : Ev (fun k => laws_eqIntS.f k l l) true := by
 unfold laws_eqIntS.f
 refine Ev.ite_pos rfl ?_
 refine Ev.up (n := l.length) (g := fun i k => laws_eqIntS.l0 k l l (i : Int)) ?_ ?_
 ·intro i hi ih
  refine Ev.step (fun k => by rw [laws_eqIntS.l0]) ?_
  repeat (first | (with_reducible refine Ev.ite_pos (by omega) ?_) | (with_reducible refine Ev.ite_neg (by omega) ?_))
  rw [w64n (by omega)]
  exact ih
 ·refine Ev.step (fun k => by rw [laws_eqIntS.l0]) ?_
  repeat (first | (with_reducible refine Ev.ite_pos (by omega) ?_) | (with_reducible refine Ev.ite_neg (by omega) ?_))
  exact Ev.now _
theorem eq_Link (x : S55) : laws_eqLink.f (x.f0) (x.f1) (x.f0) (x.f1) = some true := by
 unfold laws_eqLink.f
 simp
theorem eq_LinkS (l : List S55) (hn : l.length ≤ 1048576) : Ev (fun k => laws_eqLinkS.f k l l) true := by
 unfold laws_eqLinkS.f
 refine Ev.ite_pos rfl ?_
 refine Ev.up (n := l.length) (g := fun i k => laws_eqLinkS.l0 k l l (i : Int)) ?_ ?_
 ·intro i hi ih
  refine Ev.step (fun k => by rw [laws_eqLinkS.l0]) ?_
  repeat (first | (with_reducible refine Ev.ite_pos (by omega) ?_) | (with_reducible refine Ev.ite_neg (by omega) ?_))
  refine Ev.bind0 (eq_Link (l.getD i z55)) ?_
  refine Ev.ite_pos rfl ?_
  rw [w64n (by omega)]
  exact ih
 ·refine Ev.step (fun k => by rw [laws_eqLinkS.l0]) ?_
  repeat (first | (with_reducible refine Ev.ite_pos (by omega) ?_) | (with_reducible refine Ev.ite_neg (by omega) ?_))
  exact Ev.now _
theorem eq_Table (a0 : Int) (a1 : (List Int)) (a2 : (List Int)) (hn : a1.length + a2.length ≤ 1048576) : Ev (fun k => laws_eqTable.f k a0 a1 a2 a0 a1 a2) true := by
 unfold laws_eqTable.f
 refine Ev.ite_pos rfl ?_
 refine Ev.bind (eq_IntS a1 (by omega)) ?_
 refine Ev.ite_pos rfl ?_
 refine Ev.bind (eq_IntS a2 (by omega)) ?_
 refine Ev.ite_pos rfl ?_
 exact Ev.now _
end Go.Proofs.Ytohbccekdmdmbaa.fnExactCountAlts
/- A search in breadth from one node: what it comes to, and what holds of its answer. Conditions: none. -/
namespace Go.Proofs.Ytohbccekdmdmbaa.Bfs
open Go.RowKit Go.Proofs.YtohbccekdmdmbaaW.PrintWords Go.Proofs.Ytohbccekdmdmbaa.Kit
def vis (n : Nat) (c : Int) : List Int → List Int → List Int → List Int × List Int
 | [], d, q => (d, q)
 | y :: ys, d, q => if 0 ≤ y ∧ y < n ∧ rd d y < 0 then vis n c ys (d.set y.toNat c) (q ++ [y]) else vis n c ys d q
def neg (d : List Int) : Nat := d.countP (fun x => decide (x < 0))
theorem neg_set : ∀ (d : List Int) (i : Nat) (c : Int), i < d.length → d.getD i 0 < 0 → 0 ≤ c → neg (d.set i c) + 1 = neg d
 | [], i, c, h, _, _ => by simp at h
 | x :: d, 0, c, _, h, hc => by
  have h' : x < 0 := by simpa using h
  have hc' : ¬ c < 0 := by omega
  simp [neg, h', hc']
 | x :: d, i + 1, c, h, hx, hc => by
  have := neg_set d i c (by simpa using h) (by simpa using hx) hc
  simp only [neg, List.set_cons_succ, List.countP_cons] at this ⊢
  omega
theorem rd_set {d : List Int} {i j c : Int} (hi : 0 ≤ i) (hj : 0 ≤ j) (h : i < d.length) : rd (d.set i.toNat c) j = if i = j then c else rd d j := by
 unfold rd
 rw [List.getD_eq_getElem?_getD, List.getElem?_set, List.getD_eq_getElem?_getD]
 by_cases e : i = j
 ·subst e
  rw [if_pos rfl, if_pos rfl, if_pos (by omega)]
  rfl
 ·rw [if_neg (by omega), if_neg e]
theorem vis_spec {n : Nat} {c : Int} (hc : 0 ≤ c) : ∀ (ys d q : List Int), d.length = n → ∃ a, (vis n c ys d q).2 = q ++ a ∧ (vis n c ys d q).1.length = n ∧ neg (vis n c ys d q).1 + a.length = neg d ∧
   (∀ y ∈ a, y ∈ ys ∧ 0 ≤ y ∧ y < n ∧ rd (vis n c ys d q).1 y = c) ∧ (∀ v : Int, 0 ≤ v → v < n → rd (vis n c ys d q).1 v = rd d v ∨ rd d v < 0 ∧ rd (vis n c ys d q).1 v = c ∧ v ∈ a) ∧ ∀ y ∈ ys, 0 ≤ y → y < n → 0 ≤ rd (vis n c ys d q).1 y
 | [], d, q, hd => ⟨[], by simp [vis], hd, by simp [vis], by simp, fun v _ _ => .inl rfl, by simp⟩
 | y :: ys, d, q, hd => by
  by_cases h : 0 ≤ y ∧ y < n ∧ rd d y < 0
  ·obtain ⟨a, h1, h2, h3, h4, h5, h6⟩ := vis_spec hc ys (d.set y.toNat c) (q ++ [y]) (by simpa using hd)
   have hs : ∀ v : Int, 0 ≤ v → rd (d.set y.toNat c) v = if y = v then c else rd d v := fun v hv => rd_set h.1 hv (by omega)
   have hy : rd (vis n c ys (d.set y.toNat c) (q ++ [y])).1 y = c := by
    rcases h5 y h.1 h.2.1 with e | ⟨e, _⟩
    ·rw [e, hs y h.1, if_pos rfl]
    ·rw [hs y h.1, if_pos rfl] at e
     omega
   refine ⟨y :: a, ?_, ?_, ?_, ?_, ?_, ?_⟩
   ·simp only [vis, if_pos h]
    rw [h1]
    simp
   ·simp only [vis, if_pos h]
    exact h2
   ·simp only [vis, if_pos h]
    have := neg_set d y.toNat c (by omega) h.2.2 hc
    rw [List.length_cons]
    omega
   ·simp only [vis, if_pos h]
    intro v hv
    rcases List.mem_cons.1 hv with rfl | hv
    ·exact ⟨List.mem_cons_self, h.1, h.2.1, hy⟩
    ·exact ⟨List.mem_cons_of_mem _ (h4 v hv).1, (h4 v hv).2⟩
   ·simp only [vis, if_pos h]
    intro v h0 hn
    by_cases e : y = v
    ·subst e
     exact .inr ⟨h.2.2, hy, List.mem_cons_self⟩
    ·rcases h5 v h0 hn with g | ⟨g1, g2, g3⟩
     ·rw [hs v h0, if_neg e] at g
      exact .inl g
     ·rw [hs v h0, if_neg e] at g1
      exact .inr ⟨g1, g2, List.mem_cons_of_mem _ g3⟩
   ·simp only [vis, if_pos h]
    intro v hv h0 hn
    rcases List.mem_cons.1 hv with rfl | hv
    ·rw [hy]
     exact hc
    ·exact h6 v hv h0 hn
  ·obtain ⟨a, h1, h2, h3, h4, h5, h6⟩ := vis_spec hc ys d q hd
   simp only [vis, if_neg h]
   refine ⟨a, h1, h2, h3, fun v hv => ⟨List.mem_cons_of_mem _ (h4 v hv).1, (h4 v hv).2⟩, h5, ?_⟩
   intro v hv h0 hn
   rcases List.mem_cons.1 hv with rfl | hv
   ·rcases h5 v h0 hn with g | ⟨_, g, _⟩
    ·rw [g]
     omega
    ·omega
   ·exact h6 v hv h0 hn
structure Inv (near : Int → List Int) (ex : Int → Bool) (n : Nat) (dst : Int) (d q : List Int) : Prop where
 len : d.length = n
 din : 0 ≤ dst ∧ dst < n
 d0 : rd d dst = 0
 zero : ∀ x : Int, 0 ≤ x → x < n → rd d x = 0 → x = dst
 qin : ∀ x ∈ q, 0 ≤ x ∧ x < n ∧ 0 ≤ rd d x
 low : ∀ x : Int, 0 ≤ x → x < n → -1 ≤ rd d x
 pred : ∀ v : Int, 0 ≤ v → v < n → 0 < rd d v → ∃ u : Int, 0 ≤ u ∧ u < n ∧ ex u = true ∧ v ∈ near u ∧ rd d u = rd d v - 1
 done : ∀ u : Int, 0 ≤ u → u < n → 0 ≤ rd d u → u ∈ q ∨ (ex u = true → ∀ v ∈ near u, 0 ≤ v → v < n → 0 ≤ rd d v ∧ rd d v ≤ rd d u + 1)
 sorted : q.Pairwise (fun x y => rd d x ≤ rd d y)
 head : ∀ h q', q = h :: q' → ∀ v : Int, 0 ≤ v → v < n → rd d v ≤ rd d h + 1
 bound : ∀ v : Int, 0 ≤ v → v < n → rd d v + neg d < n
theorem Inv.step {near : Int → List Int} {ex : Int → Bool} {n : Nat} {dst x : Int} {d q : List Int} (H : Inv near ex n dst d (x :: q)) (hx : ex x = true) :
  Inv near ex n dst (vis n (rd d x + 1) (near x) d q).1 (vis n (rd d x + 1) (near x) d q).2 ∧ neg (vis n (rd d x + 1) (near x) d q).1 + (vis n (rd d x + 1) (near x) d q).2.length + 1 = neg d + (x :: q).length := by
 have hs := List.pairwise_cons.1 H.sorted
 have hxi := H.qin x List.mem_cons_self
 obtain ⟨a, h1, h2, h3, h4, h5, h6⟩ := vis_spec (n := n) (c := rd d x + 1) (by omega) (near x) d q H.len
 generalize (vis n (rd d x + 1) (near x) d q).1 = d' at *
 generalize (vis n (rd d x + 1) (near x) d q).2 = q' at *
 subst h1
 have keep : ∀ v : Int, 0 ≤ v → v < n → 0 ≤ rd d v → rd d' v = rd d v := fun v h0 hn hv => by
  rcases h5 v h0 hn with e | ⟨e, _⟩
  ·exact e
  ·omega
 have up : ∀ v : Int, 0 ≤ v → v < n → rd d' v ≤ rd d x + 1 := fun v h0 hn => by
  rcases h5 v h0 hn with e | ⟨_, e, _⟩
  ·rw [e]
   exact H.head x q rfl v h0 hn
  ·omega
 have hbx := H.bound x hxi.1 hxi.2.1
 refine ⟨⟨h2, H.din, ?_, ?_, ?_, ?_, ?_, ?_, ?_, ?_, ?_⟩, ?_⟩
 ·rw [keep _ H.din.1 H.din.2 (by rw [H.d0]; omega), H.d0]
 ·intro v h0 hn e
  rcases h5 v h0 hn with g | ⟨_, g, _⟩
  ·exact H.zero v h0 hn (by omega)
  ·omega
 ·intro v hv
  rcases List.mem_append.1 hv with hv | hv
  ·have := H.qin v (List.mem_cons_of_mem _ hv)
   rw [keep v this.1 this.2.1 this.2.2]
   exact this
  ·have := h4 v hv
   exact ⟨this.2.1, this.2.2.1, by omega⟩
 ·intro v h0 hn
  have := H.low v h0 hn
  rcases h5 v h0 hn with g | ⟨_, g, _⟩ <;> omega
 ·intro v h0 hn hv
  rcases h5 v h0 hn with g | ⟨_, g, hm⟩
  ·obtain ⟨u, hu0, hun, he, hm, hd⟩ := H.pred v h0 hn (by omega)
   exact ⟨u, hu0, hun, he, hm, by rw [keep u hu0 hun (by omega)]; omega⟩
  ·exact ⟨x, hxi.1, hxi.2.1, hx, (h4 v hm).1, by rw [keep x hxi.1 hxi.2.1 hxi.2.2]; omega⟩
 ·intro u h0 hn hu
  rcases h5 u h0 hn with g | ⟨_, g, hm⟩
  ·rcases H.done u h0 hn (by omega) with h | h
   ·rcases List.mem_cons.1 h with rfl | h
    ·refine .inr fun _ v hv hv0 hvn => ⟨h6 v hv hv0 hvn, ?_⟩
     have := up v hv0 hvn
     omega
    ·exact .inl (List.mem_append_left _ h)
   ·refine .inr fun he v hv hv0 hvn => ?_
    have := h he v hv hv0 hvn
    rw [keep v hv0 hvn this.1]
    omega
  ·exact .inl (List.mem_append_right _ hm)
 ·refine List.pairwise_append.2 ⟨?_, ?_, ?_⟩
  ·refine List.Pairwise.imp_of_mem ?_ hs.2
   intro u v hu hv huv
   have h1 := H.qin u (List.mem_cons_of_mem _ hu)
   have h2 := H.qin v (List.mem_cons_of_mem _ hv)
   rw [keep u h1.1 h1.2.1 h1.2.2, keep v h2.1 h2.2.1 h2.2.2]
   exact huv
  ·refine List.Pairwise.imp_of_mem (R := fun _ _ => True) ?_ (List.pairwise_iff_getElem.2 fun _ _ _ _ _ => trivial)
   intro u v hu hv _
   rw [(h4 u hu).2.2.2, (h4 v hv).2.2.2]
   omega
  ·intro u hu v hv
   rw [(h4 v hv).2.2.2]
   have h1 := H.qin u (List.mem_cons_of_mem _ hu)
   exact up u h1.1 h1.2.1
 ·intro h q'' e v h0 hn
  have h1 := up v h0 hn
  have hm : h ∈ q ++ a := by rw [e]; exact List.mem_cons_self
  rcases List.mem_append.1 hm with hm | hm
  ·have h2 := hs.1 h hm
   have h3 := H.qin h (List.mem_cons_of_mem _ hm)
   rw [keep h h3.1 h3.2.1 h3.2.2]
   omega
  ·rw [(h4 h hm).2.2.2]
   omega
 ·intro v h0 hn
  rcases h5 v h0 hn with g | ⟨_, g, hm⟩
  ·have := H.bound v h0 hn
   omega
  ·have : 0 < a.length := List.length_pos_of_mem hm
   omega
 ·rw [List.length_append, List.length_cons]
  omega
end Go.Proofs.Ytohbccekdmdmbaa.Bfs
/- Rows of numbers in order, without doubles: there is one for each set. Conditions: none. -/
namespace Go.Proofs.Ytohbccekdmdmbaa.Nb
def Up (l : List Int) : Prop := l.Pairwise (fun x y => x < y)
theorem up_uniq : ∀ {a b : List Int}, Up a → Up b → (∀ x, x ∈ a ↔ x ∈ b) → a = b
 | [], [], _, _, _ => rfl
 | [], y :: b, _, _, h => by
  have := (h y).2 List.mem_cons_self
  cases this
 | x :: a, [], _, _, h => by
  have := (h x).1 List.mem_cons_self
  cases this
 | x :: a, y :: b, ha, hb, h => by
  have h1 := List.pairwise_cons.1 ha
  have h2 := List.pairwise_cons.1 hb
  have e : x = y := by
   rcases List.mem_cons.1 ((h x).1 List.mem_cons_self) with e | m1
   ·exact e
   ·rcases List.mem_cons.1 ((h y).2 List.mem_cons_self) with e | m2
    ·exact e.symm
    ·have := h2.1 x m1
     have := h1.1 y m2
     omega
  subst e
  rw [up_uniq h1.2 h2.2 fun z => ?_]
  constructor
  ·intro hz
   rcases List.mem_cons.1 ((h z).1 (List.mem_cons_of_mem _ hz)) with e | m
   ·have := h1.1 z hz
    omega
   ·exact m
  ·intro hz
   rcases List.mem_cons.1 ((h z).2 (List.mem_cons_of_mem _ hz)) with e | m
   ·have := h2.1 z hz
    omega
   ·exact m
theorem compact_up {zs : List Int} (hs : zs.Pairwise (fun x y => x ≤ y)) : Up (Go.Lib.compact zs) ∧ ∀ x, x ∈ Go.Lib.compact zs ↔ x ∈ zs := by
 have hg : ∀ i j, i < j → j < zs.length → zs.toArray[i]! ≤ zs.toArray[j]! := by
  intro i j hij hj
  have := List.pairwise_iff_getElem.1 hs i j (by omega) hj hij
  rw [getElem!_pos zs.toArray i (by simp; omega), getElem!_pos zs.toArray j (by simp; omega)]
  simpa using this
 have key : ∀ m, m ≤ zs.length → Up (Go.Lib.compactUpTo zs.toArray m) ∧ ∀ x, x ∈ Go.Lib.compactUpTo zs.toArray m ↔ ∃ j, j < m ∧ zs.toArray[j]! = x := by
  intro m
  induction m with
  | zero => exact fun _ => ⟨by simp [Up, Go.Lib.compactUpTo], fun x => by simp [Go.Lib.compactUpTo]⟩
  | succ m ih =>
   intro hm
   obtain ⟨h1, h2⟩ := ih (by omega)
   rw [Go.Lib.compactUpTo_succ]
   by_cases hk : Go.Lib.keeps zs.toArray m = true
   ·rw [if_pos hk]
    refine ⟨List.pairwise_append.2 ⟨h1, List.pairwise_singleton _ _, ?_⟩, ?_⟩
    ·intro x hx y hy
     rw [List.mem_singleton] at hy
     subst hy
     obtain ⟨j, hj, rfl⟩ := (h2 x).1 hx
     have h3 := hg j m hj (by omega)
     have h5 : zs.toArray[m]! ≠ zs.toArray[m - 1]! := by
      intro e
      rw [Go.Lib.keeps_neg (by omega) e] at hk
      cases hk
     have h4 : zs.toArray[j]! ≤ zs.toArray[m - 1]! := by
      by_cases e : j = m - 1
      ·rw [e]
       omega
      ·exact hg j (m - 1) (by omega) (by omega)
     have h6 := hg (m - 1) m (by omega) (by omega)
     omega
    ·intro x
     rw [List.mem_append, h2, List.mem_singleton]
     constructor
     ·rintro (⟨j, hj, e⟩ | e)
      ·exact ⟨j, by omega, e⟩
      ·exact ⟨m, by omega, e.symm⟩
     ·rintro ⟨j, hj, e⟩
      by_cases hjm : j = m
      ·subst hjm
       exact .inr e.symm
      ·exact .inl ⟨j, by omega, e⟩
   ·rw [if_neg hk, List.append_nil]
    refine ⟨h1, fun x => ?_⟩
    rw [h2]
    have hm0 : 0 < m := by
     refine Nat.pos_of_ne_zero fun e => ?_
     subst e
     exact hk (Go.Lib.keeps_lt_one _ 0 (by omega))
    have he : zs.toArray[m]! = zs.toArray[m - 1]! := by
     refine Classical.byContradiction fun h => ?_
     exact hk (Go.Lib.keeps_pos h)
    constructor
    ·rintro ⟨j, hj, e⟩
     exact ⟨j, by omega, e⟩
    ·rintro ⟨j, hj, e⟩
     by_cases hjm : j = m
     ·subst hjm
      exact ⟨j - 1, by omega, by rw [← he, e]⟩
     ·exact ⟨j, by omega, e⟩
 obtain ⟨h1, h2⟩ := key zs.length (Nat.le_refl _)
 refine ⟨h1, fun x => ?_⟩
 show x ∈ Go.Lib.compactUpTo zs.toArray zs.length ↔ _
 rw [h2]
 constructor
 ·rintro ⟨j, hj, rfl⟩
  rw [getElem!_pos zs.toArray j (by simpa using hj)]
  simp
 ·intro hx
  obtain ⟨j, hj, e⟩ := List.getElem_of_mem hx
  refine ⟨j, hj, ?_⟩
  rw [getElem!_pos zs.toArray j (by simpa using hj)]
  simpa using e
theorem sorted_up (zs : List Int) : Up (Go.Lib.compact (zs.mergeSort fun x y => decide (x ≤ y))) ∧ ∀ x, x ∈ Go.Lib.compact (zs.mergeSort fun x y => decide (x ≤ y)) ↔ x ∈ zs := by
 have h1 := List.pairwise_mergeSort (le := fun x y : Int => decide (x ≤ y)) (by intro a b c; simp; omega) (by intro a b; simp; omega) zs
 have h2 := compact_up (zs := zs.mergeSort fun x y => decide (x ≤ y)) (h1.imp (by intro a b h; simpa using h))
 refine ⟨h2.1, fun x => ?_⟩
 rw [h2.2, List.mem_mergeSort]
theorem up_put {out : List Int} {n : Int} {k : Nat} (hu : Up out) (hlt : ∀ x ∈ out.take k, x < n) (hge : ∀ x ∈ out.drop k, n < x) : Up (out.take k ++ n :: out.drop k) ∧ ∀ x, x ∈ out.take k ++ n :: out.drop k ↔ x ∈ out ∨ x = n := by
 have h0 := List.take_append_drop k out
 have hu' : Up (out.take k ++ out.drop k) := by rw [h0]; exact hu
 have h3 := List.pairwise_append.1 hu'
 refine ⟨List.pairwise_append.2 ⟨h3.1, List.pairwise_cons.2 ⟨hge, h3.2.1⟩, ?_⟩, ?_⟩
 ·intro x hx y hy
  rcases List.mem_cons.1 hy with rfl | hy
  ·exact hlt x hx
  ·exact h3.2.2 x hx y hy
 ·intro x
  have : x ∈ out ↔ x ∈ out.take k ∨ x ∈ out.drop k := by rw [← List.mem_append, h0]
  rw [this, List.mem_append, List.mem_cons]
  constructor
  ·rintro (h | h | h)
   ·exact .inl (.inl h)
   ·exact .inr h
   ·exact .inl (.inr h)
  ·rintro ((h | h) | h)
   ·exact .inl h
   ·exact .inr (.inr h)
   ·exact .inr (.inl h)
end Go.Proofs.Ytohbccekdmdmbaa.Nb
/- What neighbors, distances, next nodes and paths come to. Conditions: none. -/
namespace Go.Proofs.Ytohbccekdmdmbaa.fnExactCountAlts
open Go.RowKit Go.Proofs.YtohbccekdmdmbaaW.PrintWords Go.Proofs.YtohbccekdmdmbaaW.PrintLast Go.Proofs.YtohbccekdmdmbaaW.PrintMore Go.Proofs.Ytohbccekdmdmbaa.QFnExactCountAlts Go.Proofs.Ytohbccekdmdmbaa.Open Go.Proofs.Ytohbccekdmdmbaa.Kit Go.Proofs.Ytohbccekdmdmbaa.Nb Go.Proofs.Ytohbccekdmdmbaa.Bfs
theorem ixP (a n : Int) : impl_isIndex.f a n = some (decide (0 ≤ a ∧ a < n)) := by
 unfold impl_isIndex.f
 by_cases h : a ≥ 0
 ·rw [if_pos h]
  simp [h]
 ·rw [if_neg h]
  simp
  omega
theorem inP (a b c : Int) : spec_l1In.f a b c = some (decide (b ≤ a ∧ a ≤ c)) := by
 unfold spec_l1In.f
 by_cases h : a ≥ b
 ·rw [if_pos h]
  simp [h]
 ·rw [if_neg h]
  simp
  omega
def nbOf (v : Int) (x : S55) : List Int := (if x.f0 = v then [x.f1] else []) ++ (if x.f1 = v then [x.f0] else [])
def nbRaw (l : List S55) (v : Int) : List Int := l.flatMap (nbOf v)
def nb (l : List S55) (v : Int) : List Int := Go.Lib.compact ((nbRaw l v).mergeSort fun x y => decide (x ≤ y))
def Links (l : List S55) (v y : Int) : Prop := ∃ x ∈ l, x.f0 = v ∧ x.f1 = y ∨ x.f1 = v ∧ x.f0 = y
theorem mem_nbOf {v y : Int} {x : S55} : y ∈ nbOf v x ↔ x.f0 = v ∧ x.f1 = y ∨ x.f1 = v ∧ x.f0 = y := by
 unfold nbOf
 rw [List.mem_append]
 constructor
 ·rintro (h | h)
  ·split at h
   ·rename_i c
    exact .inl ⟨c, (List.mem_singleton.1 h).symm⟩
   ·cases h
  ·split at h
   ·rename_i c
    exact .inr ⟨c, (List.mem_singleton.1 h).symm⟩
   ·cases h
 ·rintro (⟨h1, h2⟩ | ⟨h1, h2⟩)
  ·left
   rw [if_pos h1]
   exact List.mem_singleton.2 h2.symm
  ·right
   rw [if_pos h1]
   exact List.mem_singleton.2 h2.symm
theorem mem_nb {l : List S55} {v y : Int} : y ∈ nb l v ↔ Links l v y := by
 rw [nb, (sorted_up (nbRaw l v)).2 y, nbRaw, List.mem_flatMap]
 constructor
 ·rintro ⟨x, hx, h⟩
  exact ⟨x, hx, mem_nbOf.1 h⟩
 ·rintro ⟨x, hx, h⟩
  exact ⟨x, hx, mem_nbOf.2 h⟩
theorem nb_up (l : List S55) (v : Int) : Up (nb l v) := (sorted_up (nbRaw l v)).1
theorem nbOf_len (v : Int) (x : S55) : (nbOf v x).length ≤ 2 := by
 unfold nbOf
 split <;> split <;> simp
theorem nbRaw_len (l : List S55) (v : Int) : (nbRaw l v).length ≤ 2 * l.length := by
 unfold nbRaw
 induction l with
 | nil => simp
 | cons x l ih =>
  rw [List.flatMap_cons, List.length_append, List.length_cons]
  have := nbOf_len v x
  omega
theorem nb_len (l : List S55) (v : Int) : (nb l v).length ≤ 2 * l.length := by
 have h1 : (nb l v).length ≤ ((nbRaw l v).mergeSort fun x y => decide (x ≤ y)).length := by
  unfold nb Go.Lib.compact Go.Lib.compactUpTo
  rw [List.length_map]
  exact Nat.le_trans (List.length_filter_le _ _) (by simp)
 rw [List.length_mergeSort] at h1
 have := nbRaw_len l v
 omega
theorem nbI_l0 {l : List S55} (hl : l.length ≤ 1048576) (v : Int) : ∀ (d i : Nat), i + d = l.length → Ev (fun k => impl_NeighborsIn.l0 k v (nbRaw (l.take i) v) l (l.length : Int) (i : Int)) (nb l v) := by
 intro d
 induction d with
 | zero =>
  intro i hi
  have hr := nbRaw_len l v
  rw [List.take_of_length_le (by omega)]
  refine Ev.step (fun k => by rw [impl_NeighborsIn.l0]) ?_
  refine Ev.ite_neg (by omega) (Ev.bind0 (a := (nbRaw l v).mergeSort fun x y => decide (x ≤ y)) ?_ (Ev.bind0 (a := nb l v) ?_ (Ev.now _)))
  ·unfold slices_Sort_int_int.f
   rw [if_pos (by omega)]
  ·unfold slices_Compact_int_int.f
   rw [if_pos (by rw [List.length_mergeSort]; omega)]
   rfl
 | succ d ih =>
  intro i hi
  have hr := nbRaw_len (l.take i) v
  rw [List.length_take] at hr
  have h := ih (i + 1) (by omega)
  have he : nbRaw (l.take (i + 1)) v = nbRaw (l.take i) v ++ nbOf v (rd_T55 l (i : Int)) := by
   unfold nbRaw
   rw [take_succ_getD (show i < l.length by omega) z55, List.flatMap_append]
   simp
   rfl
  rw [he] at h
  refine Ev.step (fun k => by rw [impl_NeighborsIn.l0]) ?_
  refine Ev.ite_pos (by omega) (Ev.ite_pos (by omega) (Ev.ite_pos (by omega) ?_))
  rw [w64n (by omega)]
  by_cases c1 : (rd_T55 l (i : Int)).f0 = v
  ·refine Ev.ite_pos c1 (Ev.ite_pos (by omega) (Ev.bind0 rfl ?_))
   by_cases c2 : (rd_T55 l (i : Int)).f1 = v
   ·refine Ev.ite_pos c2 (Ev.ite_pos (by rw [List.length_append, List.length_singleton]; omega) ?_)
    unfold nbOf at h
    rw [if_pos c1, if_pos c2, ← List.append_assoc] at h
    exact h
   ·refine Ev.ite_neg c2 ?_
    unfold nbOf at h
    rw [if_pos c1, if_neg c2, List.append_nil] at h
    exact h
  ·refine Ev.ite_neg c1 ?_
   by_cases c2 : (rd_T55 l (i : Int)).f1 = v
   ·refine Ev.ite_pos c2 (Ev.ite_pos (by omega) ?_)
    unfold nbOf at h
    rw [if_neg c1, if_pos c2, List.nil_append] at h
    exact h
   ·refine Ev.ite_neg c2 ?_
    unfold nbOf at h
    rw [if_neg c1, if_neg c2, List.append_nil, List.append_nil] at h
    exact h
theorem nbI {l : List S55} (hl : l.length ≤ 1048576) (v : Int) : Ev (fun k => impl_NeighborsIn.f k l v) (nb l v) := nbI_l0 hl v l.length 0 (by omega)
def NbTo (l : List S55) (v : Int) (i : Nat) (out : List Int) : Prop := Up out ∧ out.length ≤ i ∧ ∀ y, y ∈ out ↔ Links (l.take i) v y
theorem nbS_l1 {l : List S55} {v n : Int} {i : Nat} {out r : List Int} (hl : l.length ≤ 1048576) (hi : i < l.length) (hu : Up out) (ho : out.length ≤ i)
  (hk : ∀ out', Up out' → out'.length ≤ i + 1 → (∀ x, x ∈ out' ↔ x ∈ out ∨ x = n) → Ev (fun k => spec_NeighborsIn.l0 k l v out' ((i + 1 : Nat) : Int)) r) :
  ∀ (d q : Nat), q + d = out.length → (∀ x ∈ out.take q, x < n) → Ev (fun k => spec_NeighborsIn.l1 k l v out (i : Int) n (q : Int)) r := by
 intro d
 induction d with
 | zero =>
  intro q hq hlt
  have hp := up_put (k := q) hu hlt (by rw [List.drop_of_length_le (by omega)]; simp)
  have hlen : (out.take q ++ n :: out.drop q).length = out.length + 1 := by
   rw [List.length_append, List.length_cons, List.length_take, List.length_drop]
   omega
  have h := hk _ hp.1 (by omega) hp.2
  refine Ev.step (fun k => by rw [spec_NeighborsIn.l1]) ?_
  refine Ev.ite_neg (by omega) (Ev.ite_pos (by omega) (Ev.bind0 rfl (Ev.ite_pos (by omega) (Ev.ite_pos (by omega) ?_))))
  rw [Int.toNat_natCast, w64n (by omega)]
  refine Ev.bind0 rfl (Ev.ite_pos ?_ (Ev.bind0 rfl (Ev.bind0 rfl (Ev.ite_pos ?_ (Ev.bind0 rfl (Ev.bind0 rfl (Ev.ite_pos ?_ ?_)))))))
  ·simp only [List.length_nil, List.length_take]
   omega
  ·simp only [List.length_append, List.length_nil, List.length_take, List.length_cons]
   omega
  ·simp only [List.length_append, List.length_nil, List.length_take, List.length_cons, List.length_drop]
   omega
  ·rw [List.nil_append, List.append_assoc]
   exact h
 | succ d ih =>
  intro q hq hlt
  have hql : q < out.length := by omega
  refine Ev.step (fun k => by rw [spec_NeighborsIn.l1]) ?_
  refine Ev.ite_pos (by omega) (Ev.ite_pos (by omega) ?_)
  rw [rd_nat]
  by_cases c : out.getD q 0 < n
  ·refine Ev.ite_pos c ?_
   rw [w64n (by omega)]
   refine ih (q + 1) (by omega) ?_
   intro x hx
   rw [take_succ_getD hql 0, List.mem_append, List.mem_singleton] at hx
   rcases hx with hx | rfl
   ·exact hlt x hx
   ·exact c
  ·refine Ev.ite_neg c (Ev.ite_neg (by omega) ?_)
   rw [w64n (by omega)]
   by_cases c2 : out.getD q 0 = n
   ·refine Ev.ite_pos c2 (hk out hu (by omega) fun x => ⟨.inl, ?_⟩)
    rintro (h | rfl)
    ·exact h
    ·rw [← c2]
     exact getD_mem hql 0
   ·have hge : ∀ x ∈ out.drop q, n < x := by
     intro x hx
     have h1 : Up (out.drop q) := List.Pairwise.sublist (List.drop_sublist q out) hu
     rw [drop_getD hql 0] at h1 hx
     rcases List.mem_cons.1 hx with rfl | hx
     ·omega
     ·have := (List.pairwise_cons.1 h1).1 x hx
      omega
    have hp := up_put (k := q) hu hlt hge
    have hlen : (out.take q ++ n :: out.drop q).length = out.length + 1 := by
     rw [List.length_append, List.length_cons, List.length_take, List.length_drop]
     omega
    have h := hk _ hp.1 (by omega) hp.2
    refine Ev.ite_neg c2 (Ev.bind0 rfl (Ev.ite_pos (by omega) ?_))
    rw [Int.toNat_natCast]
    refine Ev.bind0 rfl (Ev.ite_pos ?_ (Ev.bind0 rfl (Ev.bind0 rfl (Ev.ite_pos ?_ (Ev.bind0 rfl (Ev.bind0 rfl (Ev.ite_pos ?_ ?_)))))))
    ·simp only [List.length_nil, List.length_take]
     omega
    ·simp only [List.length_append, List.length_nil, List.length_take, List.length_cons]
     omega
    ·simp only [List.length_append, List.length_nil, List.length_take, List.length_cons, List.length_drop]
     omega
    ·rw [List.nil_append, List.append_assoc]
     exact h
theorem nbS_l0 {l : List S55} (hl : l.length ≤ 1048576) (v : Int) : ∀ (d i : Nat) (out : List Int), i + d = l.length → NbTo l v i out → Ev (fun k => spec_NeighborsIn.l0 k l v out (i : Int)) (nb l v) := by
 intro d
 induction d with
 | zero =>
  intro i out hi ho
  refine Ev.step (fun k => by rw [spec_NeighborsIn.l0]) ?_
  refine Ev.ite_neg (by omega) (Ev.some (up_uniq ho.1 (nb_up l v) fun x => ?_))
  rw [ho.2.2 x, mem_nb, List.take_of_length_le (by omega)]
 | succ d ih =>
  intro i out hi ho
  have hL : ∀ y, Links (l.take (i + 1)) v y ↔ Links (l.take i) v y ∨ ((rd_T55 l (i : Int)).f0 = v ∧ (rd_T55 l (i : Int)).f1 = y ∨ (rd_T55 l (i : Int)).f1 = v ∧ (rd_T55 l (i : Int)).f0 = y) := by
   intro y
   unfold Links
   rw [take_succ_getD (show i < l.length by omega) z55]
   constructor
   ·rintro ⟨x, hx, h⟩
    rcases List.mem_append.1 hx with hx | hx
    ·exact .inl ⟨x, hx, h⟩
    ·rw [List.mem_singleton.1 hx] at h
     exact .inr h
   ·rintro (⟨x, hx, h⟩ | h)
    ·exact ⟨x, List.mem_append_left _ hx, h⟩
    ·exact ⟨_, List.mem_append_right _ (List.mem_singleton.2 rfl), h⟩
  refine Ev.step (fun k => by rw [spec_NeighborsIn.l0]) ?_
  refine Ev.ite_pos (by omega) (Ev.ite_pos (by omega) ?_)
  by_cases c1 : (rd_T55 l (i : Int)).f0 = v
  ·refine Ev.ite_pos c1 ?_
   refine Ev.step (fun k => by rw [spec_NeighborsIn.j1]) ?_
   refine nbS_l1 (i := i) hl (by omega) ho.1 ho.2.1 (fun out' hu hlen hm => ih (i + 1) out' (by omega) ⟨hu, hlen, fun y => ?_⟩) out.length 0 (by omega) (by simp)
   rw [hm, hL, ho.2.2 y]
   constructor
   ·rintro (h | h)
    ·exact .inl h
    ·exact .inr (.inl ⟨c1, h.symm⟩)
   ·rintro (h | ⟨_, h⟩ | ⟨h1, h2⟩)
    ·exact .inl h
    ·exact .inr h.symm
    ·exact .inr (by omega)
  ·refine Ev.ite_neg c1 ?_
   by_cases c2 : (rd_T55 l (i : Int)).f1 = v
   ·refine Ev.ite_pos c2 ?_
    refine Ev.step (fun k => by rw [spec_NeighborsIn.j1]) ?_
    refine nbS_l1 (i := i) hl (by omega) ho.1 ho.2.1 (fun out' hu hlen hm => ih (i + 1) out' (by omega) ⟨hu, hlen, fun y => ?_⟩) out.length 0 (by omega) (by simp)
    rw [hm, hL, ho.2.2 y]
    constructor
    ·rintro (h | h)
     ·exact .inl h
     ·exact .inr (.inr ⟨c2, h.symm⟩)
    ·rintro (h | ⟨h, _⟩ | ⟨_, h⟩)
     ·exact .inl h
     ·exact absurd h c1
     ·exact .inr h.symm
   ·refine Ev.ite_neg c2 ?_
    rw [w64n (by omega)]
    refine ih (i + 1) out (by omega) ⟨ho.1, by have := ho.2.1; omega, fun y => ?_⟩
    rw [hL, ho.2.2 y]
    constructor
    ·exact .inl
    ·rintro (h | ⟨h, _⟩ | ⟨h, _⟩)
     ·exact h
     ·exact absurd h c1
     ·exact absurd h c2
theorem nbS {l : List S55} (hl : l.length ≤ 1048576) (v : Int) : Ev (fun k => spec_NeighborsIn.f k l v) (nb l v) := by
 refine nbS_l0 hl v l.length 0 [] (by omega) ⟨List.Pairwise.nil, by simp, fun y => ?_⟩
 simp [Links]
/-! ### distances -/
structure Down (n first dst : Int) (d t : List Int) : Prop where
 dlen : d.length = n.toNat
 tlen : t.length = n.toNat
 rng : 1 ≤ n ∧ n ≤ 12
 din : 0 ≤ dst ∧ dst < n
 d0 : rd d dst = 0
 zero : ∀ x : Int, 0 ≤ x → x < n → rd d x = 0 → x = dst
 low : ∀ x : Int, 0 ≤ x → x < n → -1 ≤ rd d x ∧ rd d x < n
 stop : ∀ x : Int, 0 ≤ x → x < n → rd d x ≤ 0 → rd t x = -1
 step : ∀ x : Int, 0 ≤ x → x < n → 0 < rd d x → (0 ≤ rd t x ∧ rd t x < n) ∧ (rd t x < first ∨ rd t x = dst) ∧ rd d (rd t x) = rd d x - 1
end Go.Proofs.Ytohbccekdmdmbaa.fnExactCountAlts
/- What the alternatives of a node come to. Conditions: none. -/
namespace Go.Proofs.Ytohbccekdmdmbaa.fnExactCountAlts
open Go.RowKit Go.Proofs.YtohbccekdmdmbaaW.PrintWords Go.Proofs.YtohbccekdmdmbaaW.PrintLast Go.Proofs.YtohbccekdmdmbaaW.PrintMore Go.Proofs.Ytohbccekdmdmbaa.QFnExactCountAlts Go.Proofs.Ytohbccekdmdmbaa.Open Go.Proofs.Ytohbccekdmdmbaa.Kit Go.Proofs.Ytohbccekdmdmbaa.Nb Stb
theorem insK_len (key : Int → Int) (x : Int) : ∀ ys : List Int, (insK key x ys).length = ys.length + 1
 | [] => rfl
 | y :: ys => by
  unfold insK
  split
  ·rw [List.length_cons, insK_len key x ys, List.length_cons]
  ·rfl
theorem insK_cons (key : Int → Int) (x y : Int) (ys : List Int) : insK key x (y :: ys) = if key y ≤ key x then y :: insK key x ys else x :: y :: ys := rfl
def okA (D N : List Int) (t0 first node y : Int) : Bool := decide (y ≠ rd N node ∧ (y < first ∨ y = t0) ∧ (0 ≤ y ∧ y < (D.length : Int)) ∧ 0 ≤ rd D y ∧ rd D y < rd D node)
def alts (t0 : Int) (D N : List Int) (l : List S55) (first node : Int) : List Int :=
 if (0 ≤ node ∧ node < (D.length : Int)) ∧ 0 ≤ node ∧ node < (N.length : Int) then srt (fun x => rd D x) ((nb l node).filter (okA D N t0 first node)) else []
theorem altI_l0 {t0 first node : Int} {D N ys : List Int} (hy : ys.length ≤ 2097152) (hn : 0 ≤ node ∧ node < (D.length : Int)) (hN : node < (N.length : Int)) :
  ∀ (d i : Nat) (acc : List Int), i + d = ys.length → acc.length ≤ i → (∀ x ∈ acc, 0 ≤ x ∧ x < (D.length : Int)) →
   Ev (fun k => impl_AltsOf.l0 k first node acc ys (ys.length : Int) (i : Int) t0 D N) (srt (fun x => rd D x) (acc ++ (ys.drop i).filter (okA D N t0 first node))) := by
 intro d
 induction d with
 | zero =>
  intro i acc hi hl ha
  refine Ev.step (fun k => by rw [impl_AltsOf.l0]) ?_
  refine Ev.ite_neg (by omega) ?_
  rw [List.drop_of_length_le (by omega), List.filter_nil, List.append_nil]
  exact Ev.bind0 (if_pos ⟨by omega, ha⟩) (Ev.some rfl)
 | succ d ih =>
  intro i acc hi hl ha
  have hil : i < ys.length := by omega
  refine Ev.step (fun k => by rw [impl_AltsOf.l0]) ?_
  refine Ev.ite_pos (by omega) (Ev.ite_pos (by omega) (Ev.ite_pos (by omega) (Ev.ite_pos hn.1 (Ev.ite_pos hN ?_))))
  rw [drop_getD hil 0, List.filter_cons, rd_nat, w64n (by omega)]
  show Ev _ (srt _ (acc ++ if decide (_ ∧ _) = true then _ else _))
  by_cases h1 : ys.getD i 0 = rd N node
  ·rw [if_neg (by rw [decide_eq_false (fun h => h.1 h1)]; decide)]
   exact Ev.ite_pos h1 (ih (i + 1) acc (by omega) (by omega) ha)
  refine Ev.ite_neg h1 ?_
  by_cases h2 : ys.getD i 0 < first
  ·refine Ev.ite_pos h2 (Ev.bind0 (ixP _ _) ?_)
   by_cases h3 : 0 ≤ ys.getD i 0 ∧ ys.getD i 0 < (D.length : Int)
   ·refine Ev.ite_pos (decide_eq_true h3) (Ev.ite_pos h3.1 (Ev.ite_pos h3.2 ?_))
    by_cases h4 : rd D (ys.getD i 0) ≥ 0
    ·refine Ev.ite_pos h4 (Ev.ite_pos hn.2 ?_)
     by_cases h5 : rd D (ys.getD i 0) < rd D node
     ·refine Ev.ite_pos h5 (Ev.ite_pos (by omega) ?_)
      rw [if_pos (decide_eq_true ⟨h1, .inl h2, h3, h4, h5⟩)]
      have h6 := ih (i + 1) (acc ++ [ys.getD i 0]) (by omega) (by simp; omega) ?_
      ·rw [List.append_assoc] at h6
       exact h6
      intro x hx
      rcases List.mem_append.1 hx with hx | hx
      ·exact ha x hx
      ·rw [List.mem_singleton.1 hx]; exact h3
     ·rw [if_neg (by rw [decide_eq_false (fun h => h5 h.2.2.2.2)]; decide)]
      exact Ev.ite_neg h5 (ih (i + 1) acc (by omega) (by omega) ha)
    ·rw [if_neg (by rw [decide_eq_false (fun h => h4 h.2.2.2.1)]; decide)]
     exact Ev.ite_neg h4 (ih (i + 1) acc (by omega) (by omega) ha)
   ·rw [if_neg (by rw [decide_eq_false (fun h => h3 h.2.2.1)]; decide)]
    exact Ev.ite_neg (by rw [decide_eq_false h3]; decide) (ih (i + 1) acc (by omega) (by omega) ha)
  ·refine Ev.ite_neg h2 ?_
   by_cases h2' : ys.getD i 0 = t0
   ·refine Ev.ite_pos h2' (Ev.bind0 (ixP _ _) ?_)
    by_cases h3 : 0 ≤ ys.getD i 0 ∧ ys.getD i 0 < (D.length : Int)
    ·refine Ev.ite_pos (decide_eq_true h3) (Ev.ite_pos h3.1 (Ev.ite_pos h3.2 ?_))
     by_cases h4 : rd D (ys.getD i 0) ≥ 0
     ·refine Ev.ite_pos h4 (Ev.ite_pos hn.2 ?_)
      by_cases h5 : rd D (ys.getD i 0) < rd D node
      ·refine Ev.ite_pos h5 (Ev.ite_pos (by omega) ?_)
       rw [if_pos (decide_eq_true ⟨h1, .inr h2', h3, h4, h5⟩)]
       have h6 := ih (i + 1) (acc ++ [ys.getD i 0]) (by omega) (by simp; omega) ?_
       ·rw [List.append_assoc] at h6
        exact h6
       intro x hx
       rcases List.mem_append.1 hx with hx | hx
       ·exact ha x hx
       ·rw [List.mem_singleton.1 hx]; exact h3
      ·rw [if_neg (by rw [decide_eq_false (fun h => h5 h.2.2.2.2)]; decide)]
       exact Ev.ite_neg h5 (ih (i + 1) acc (by omega) (by omega) ha)
     ·rw [if_neg (by rw [decide_eq_false (fun h => h4 h.2.2.2.1)]; decide)]
      exact Ev.ite_neg h4 (ih (i + 1) acc (by omega) (by omega) ha)
    ·rw [if_neg (by rw [decide_eq_false (fun h => h3 h.2.2.1)]; decide)]
     exact Ev.ite_neg (by rw [decide_eq_false h3]; decide) (ih (i + 1) acc (by omega) (by omega) ha)
   ·rw [if_neg (by rw [decide_eq_false (fun h => h.2.1.elim h2 h2')]; decide)]
    exact Ev.ite_neg h2' (ih (i + 1) acc (by omega) (by omega) ha)
theorem altI {l : List S55} (hl : l.length ≤ 1048576) (t0 first node : Int) (D N : List Int) : Ev (fun k => impl_AltsOf.f k t0 D N l first node) (alts t0 D N l first node) := by
 unfold impl_AltsOf.f alts
 refine Ev.bind0 rfl (Ev.bind0 (ixP _ _) ?_)
 by_cases h1 : 0 ≤ node ∧ node < (D.length : Int)
 ·refine Ev.ite_pos (decide_eq_true h1) (Ev.bind0 (ixP _ _) ?_)
  refine Ev.step (fun k => by rw [impl_AltsOf.j0]) ?_
  by_cases h2 : 0 ≤ node ∧ node < (N.length : Int)
  ·rw [if_pos ⟨h1, h2⟩, decide_eq_true h2]
   refine Ev.ite_neg (by decide) (Ev.bind (nbI hl node) ?_)
   have := nb_len l node
   exact altI_l0 (ys := nb l node) (by omega) h1 h2.2 (nb l node).length 0 [] (Nat.zero_add _) (Nat.le_refl _) (fun x hx => absurd hx (List.not_mem_nil))
  ·rw [if_neg (fun h => h2 h.2), decide_eq_false h2]
   exact Ev.ite_pos rfl (Ev.some rfl)
 ·refine Ev.ite_neg (by rw [decide_eq_false h1]; decide) ?_
  refine Ev.step (fun k => by rw [impl_AltsOf.j0]) ?_
  rw [if_neg (fun h => h1 h.1)]
  exact Ev.ite_pos rfl (Ev.some rfl)
theorem altS_l1 {t0 first node x : Int} {D N ys out r : List Int} {i : Nat} (hi : i ≤ 2097152) (ho : out.length ≤ i) (ha : ∀ x ∈ out, 0 ≤ x ∧ x < (D.length : Int)) (hx : 0 ≤ x ∧ x < (D.length : Int))
  (hk : Ev (fun k => spec_AltsOf.l0 k first node (insK (fun x => rd D x) x out) ys ((i + 1 : Nat) : Int) t0 D N) r) :
  ∀ (d q : Nat), q + d = out.length → insK (fun x => rd D x) x out = out.take q ++ insK (fun x => rd D x) x (out.drop q) → Ev (fun k => spec_AltsOf.l1 k first node out ys (i : Int) x (q : Int) t0 D N) r := by
 intro d
 induction d with
 | zero =>
  intro q hq hins
  rw [hins, List.drop_of_length_le (by omega)] at hk
  refine Ev.step (fun k => by rw [spec_AltsOf.l1]) ?_
  refine Ev.ite_neg (by omega) (Ev.bind0 rfl (Ev.ite_pos (by omega) (Ev.ite_pos (by omega) ?_)))
  rw [Int.toNat_natCast, w64n (by omega)]
  refine Ev.bind0 rfl (Ev.ite_pos ?_ (Ev.bind0 rfl (Ev.bind0 rfl (Ev.ite_pos ?_ (Ev.bind0 rfl (Ev.bind0 rfl (Ev.ite_pos ?_ ?_)))))))
  ·simp only [List.length_nil, List.length_take]
   omega
  ·simp only [List.length_append, List.length_nil, List.length_take, List.length_cons]
   omega
  ·simp only [List.length_append, List.length_nil, List.length_take, List.length_cons, List.length_drop]
   omega
  ·rw [List.nil_append, List.append_assoc, List.drop_of_length_le (by omega), List.append_nil]
   exact hk
 | succ d ih =>
  intro q hq hins
  have hql : q < out.length := by omega
  have hm := ha _ (getD_mem hql 0)
  rw [drop_getD hql 0] at hins
  refine Ev.step (fun k => by rw [spec_AltsOf.l1]) ?_
  refine Ev.ite_pos (by omega) (Ev.ite_pos (by omega) ?_)
  rw [rd_nat]
  refine Ev.ite_pos hm.1 (Ev.ite_pos hm.2 (Ev.ite_pos hx.1 (Ev.ite_pos hx.2 ?_)))
  rw [insK_cons] at hins
  try dsimp only at hins
  by_cases c : rd D (out.getD q 0) ≤ rd D x
  ·refine Ev.ite_pos c ?_
   rw [w64n (by omega)]
   refine ih (q + 1) (by omega) ?_
   rw [if_pos c] at hins
   rw [take_succ_getD hql 0, List.append_assoc]
   exact hins
  ·rw [if_neg c] at hins
   have hk2 := hk
   rw [show insK (fun x => rd D x) x out = out.take q ++ x :: out.getD q 0 :: out.drop (q + 1) from hins] at hk2
   refine Ev.ite_neg c (Ev.bind0 rfl (Ev.ite_pos (by omega) ?_))
   rw [Int.toNat_natCast, w64n (by omega)]
   refine Ev.bind0 rfl (Ev.ite_pos ?_ (Ev.bind0 rfl (Ev.bind0 rfl (Ev.ite_pos ?_ (Ev.bind0 rfl (Ev.bind0 rfl (Ev.ite_pos ?_ ?_)))))))
   ·simp only [List.length_nil, List.length_take]
    omega
   ·simp only [List.length_append, List.length_nil, List.length_take, List.length_cons]
    omega
   ·simp only [List.length_append, List.length_nil, List.length_take, List.length_cons, List.length_drop]
    omega
   ·rw [List.nil_append, List.append_assoc, drop_getD hql 0]
    exact hk2
theorem altS_l0 {t0 first node : Int} {D N ys : List Int} (hy : ys.length ≤ 2097152) (hD : D.length ≤ 1048576) (hn : 0 ≤ node ∧ node < (D.length : Int)) (hN : node < (N.length : Int)) :
  ∀ (d i : Nat) (acc : List Int), i + d = ys.length → acc.length ≤ i → (∀ x ∈ acc, 0 ≤ x ∧ x < (D.length : Int)) →
   Ev (fun k => spec_AltsOf.l0 k first node acc ys (i : Int) t0 D N) (((ys.drop i).filter (okA D N t0 first node)).foldl (fun out x => insK (fun x => rd D x) x out) acc) := by
 intro d
 have hw : wrap64 ((D.length : Int) - 1) = (D.length : Int) - 1 := w64 (by omega) (by omega)
 induction d with
 | zero =>
  intro i acc hi hl ha
  refine Ev.step (fun k => by rw [spec_AltsOf.l0]) ?_
  refine Ev.ite_neg (by omega) ?_
  rw [List.drop_of_length_le (by omega), List.filter_nil]
  exact Ev.some rfl
 | succ d ih =>
  intro i acc hi hl ha
  have hil : i < ys.length := by omega
  refine Ev.step (fun k => by rw [spec_AltsOf.l0]) ?_
  refine Ev.ite_pos (by omega) (Ev.ite_pos (by omega) (Ev.ite_pos hn.1 (Ev.ite_pos hN ?_)))
  rw [drop_getD hil 0, List.filter_cons, rd_nat, hw]
  show Ev _ (List.foldl _ acc (if decide (_ ∧ _) = true then _ else _))
  by_cases h1 : ys.getD i 0 = rd N node
  ·rw [if_neg (by rw [decide_eq_false (fun h => h.1 h1)]; decide)]
   refine Ev.ite_pos h1 ?_
   refine Ev.step (fun k => by rw [spec_AltsOf.j2]) ?_
   refine Ev.ite_pos rfl ?_
   rw [w64n (by omega)]
   exact ih (i + 1) acc (by omega) (by omega) ha
  refine Ev.ite_neg h1 ?_
  by_cases h2 : ys.getD i 0 ≥ first
  ·refine Ev.ite_pos h2 ?_
   by_cases h2' : ys.getD i 0 = t0
   ·refine Ev.ite_pos h2' (Ev.bind0 (inP _ _ _) ?_)
    by_cases h3 : 0 ≤ ys.getD i 0 ∧ ys.getD i 0 < (D.length : Int)
    ·refine Ev.ite_pos (decide_eq_true (by omega)) (Ev.ite_pos h3.1 (Ev.ite_pos h3.2 ?_))
     by_cases h4 : rd D (ys.getD i 0) < 0
     ·rw [if_neg (by rw [decide_eq_false (fun h => absurd h.2.2.2.1 (by omega))]; decide)]
      refine Ev.ite_pos h4 ?_
      refine Ev.step (fun k => by rw [spec_AltsOf.j2]) ?_
      refine Ev.ite_pos rfl ?_
      rw [w64n (by omega)]
      exact ih (i + 1) acc (by omega) (by omega) ha
     ·refine Ev.ite_neg h4 (Ev.ite_pos hn.2 ?_)
      refine Ev.step (fun k => by rw [spec_AltsOf.j2]) ?_
      by_cases h5 : rd D (ys.getD i 0) < rd D node
      ·refine Ev.ite_neg (by rw [decide_eq_false (by omega)]; decide) ?_
       rw [if_pos (decide_eq_true ⟨h1, .inr h2', h3, by omega, h5⟩)]
       refine altS_l1 (by omega) (by omega) ha h3 ?_ acc.length 0 (by omega) rfl
       refine ih (i + 1) _ (by omega) (by rw [insK_len]; omega) ?_
       intro x hx
       rcases insK_mem _ _ _ _ hx with hx | hx
       ·rw [hx]; exact h3
       ·exact ha x hx
      ·rw [if_neg (by rw [decide_eq_false (fun h => h5 h.2.2.2.2)]; decide)]
       refine Ev.ite_pos (decide_eq_true (by omega)) ?_
       rw [w64n (by omega)]
       exact ih (i + 1) acc (by omega) (by omega) ha
    ·rw [if_neg (by rw [decide_eq_false (fun h => h3 h.2.2.1)]; decide)]
     refine Ev.ite_neg (by rw [decide_eq_false (by omega)]; decide) ?_
     refine Ev.step (fun k => by rw [spec_AltsOf.j2]) ?_
     refine Ev.ite_pos rfl ?_
     rw [w64n (by omega)]
     exact ih (i + 1) acc (by omega) (by omega) ha
   ·rw [if_neg (by rw [decide_eq_false (fun h => h.2.1.elim (by omega) h2')]; decide)]
    refine Ev.ite_neg h2' ?_
    refine Ev.step (fun k => by rw [spec_AltsOf.j2]) ?_
    refine Ev.ite_pos rfl ?_
    rw [w64n (by omega)]
    exact ih (i + 1) acc (by omega) (by omega) ha
  ·refine Ev.ite_neg h2 (Ev.bind0 (inP _ _ _) ?_)
   by_cases h3 : 0 ≤ ys.getD i 0 ∧ ys.getD i 0 < (D.length : Int)
   ·refine Ev.ite_pos (decide_eq_true (by omega)) (Ev.ite_pos h3.1 (Ev.ite_pos h3.2 ?_))
    by_cases h4 : rd D (ys.getD i 0) < 0
    ·rw [if_neg (by rw [decide_eq_false (fun h => absurd h.2.2.2.1 (by omega))]; decide)]
     refine Ev.ite_pos h4 ?_
     refine Ev.step (fun k => by rw [spec_AltsOf.j2]) ?_
     refine Ev.ite_pos rfl ?_
     rw [w64n (by omega)]
     exact ih (i + 1) acc (by omega) (by omega) ha
    ·refine Ev.ite_neg h4 (Ev.ite_pos hn.2 ?_)
     refine Ev.step (fun k => by rw [spec_AltsOf.j2]) ?_
     by_cases h5 : rd D (ys.getD i 0) < rd D node
     ·refine Ev.ite_neg (by rw [decide_eq_false (by omega)]; decide) ?_
      rw [if_pos (decide_eq_true ⟨h1, .inl (by omega), h3, by omega, h5⟩)]
      refine altS_l1 (by omega) (by omega) ha h3 ?_ acc.length 0 (by omega) rfl
      refine ih (i + 1) _ (by omega) (by rw [insK_len]; omega) ?_
      intro x hx
      rcases insK_mem _ _ _ _ hx with hx | hx
      ·rw [hx]; exact h3
      ·exact ha x hx
     ·rw [if_neg (by rw [decide_eq_false (fun h => h5 h.2.2.2.2)]; decide)]
      refine Ev.ite_pos (decide_eq_true (by omega)) ?_
      rw [w64n (by omega)]
      exact ih (i + 1) acc (by omega) (by omega) ha
   ·rw [if_neg (by rw [decide_eq_false (fun h => h3 h.2.2.1)]; decide)]
    refine Ev.ite_neg (by rw [decide_eq_false (by omega)]; decide) ?_
    refine Ev.step (fun k => by rw [spec_AltsOf.j2]) ?_
    refine Ev.ite_pos rfl ?_
    rw [w64n (by omega)]
    exact ih (i + 1) acc (by omega) (by omega) ha
theorem altS {l : List S55} (hl : l.length ≤ 1048576) (t0 first node : Int) (D N : List Int) (hD : D.length ≤ 1048576) (hN : N.length ≤ 1048576) : Ev (fun k => spec_AltsOf.f k t0 D N l first node) (alts t0 D N l first node) := by
 unfold spec_AltsOf.f alts
 rw [w64 (by omega) (by omega), w64 (by omega) (by omega)]
 refine Ev.bind0 rfl (Ev.bind0 (inP _ _ _) ?_)
 by_cases h1 : 0 ≤ node ∧ node < (D.length : Int)
 ·refine Ev.ite_pos (decide_eq_true (by omega)) (Ev.bind0 (inP _ _ _) ?_)
  refine Ev.step (fun k => by rw [spec_AltsOf.j0]) ?_
  by_cases h2 : 0 ≤ node ∧ node < (N.length : Int)
  ·rw [if_pos ⟨h1, h2⟩, decide_eq_true (by omega)]
   refine Ev.ite_neg (by decide) (Ev.bind (nbS hl node) ?_)
   have := nb_len l node
   exact altS_l0 (ys := nb l node) (by omega) hD h1 h2.2 (nb l node).length 0 [] (Nat.zero_add _) (Nat.le_refl _) (fun x hx => absurd hx (List.not_mem_nil))
  ·rw [if_neg (fun h => h2 h.2), decide_eq_false (by omega)]
   exact Ev.ite_pos rfl (Ev.some rfl)
 ·refine Ev.ite_neg (by rw [decide_eq_false (by omega)]; decide) ?_
  refine Ev.step (fun k => by rw [spec_AltsOf.j0]) ?_
  rw [if_neg (fun h => h1 h.1)]
  exact Ev.ite_pos rfl (Ev.some rfl)
end Go.Proofs.Ytohbccekdmdmbaa.fnExactCountAlts
namespace Go.Proofs.Ytohbccekdmdmbaa.fnExactCountAlts
open Go.RowKit Go.Proofs.YtohbccekdmdmbaaW.PrintWords Go.Proofs.YtohbccekdmdmbaaW.PrintMore Go.Proofs.Ytohbccekdmdmbaa.QFnExactCountAlts Go.Proofs.Ytohbccekdmdmbaa.Open Go.Proofs.Ytohbccekdmdmbaa.Kit
def more (t0 : Int) (D N : List Int) (l : List S55) (first : Int) : Nat → Nat → Nat
 | _, 0 => 0
 | i, d + 1 => (if ((alts t0 D N l first (i : Int)).length : Int) > 0 then 1 else 0) + more t0 D N l first (i + 1) d
theorem cntI {t0 first : Int} {D N : List Int} {l : List S55} (hl : l.length ≤ 1048576) (hN : N.length ≤ 1048576) : ∀ (d i n : Nat), i + d = N.length → n ≤ i → Ev (fun k => impl_CountAlts.l0 k l first (n : Int) (N.length : Int) (i : Int) t0 D N) ((n + more t0 D N l first i d : Nat) : Int) := by
 intro d
 induction d with
 | zero =>
  intro i n hi hn
  refine Ev.step (fun k => by rw [impl_CountAlts.l0]) ?_
  exact Ev.ite_neg (by omega) (Ev.some rfl)
 | succ d ih =>
  intro i n hi hn
  refine Ev.step (fun k => by rw [impl_CountAlts.l0]) ?_
  refine Ev.ite_pos (by omega) (Ev.bind (altI hl t0 first (i : Int) D N) ?_)
  rw [w64n (by omega), w64n (by omega), more]
  by_cases c : ((alts t0 D N l first (i : Int)).length : Int) > 0
  ·rw [if_pos c, ← Nat.add_assoc]
   exact Ev.ite_pos c (ih (i + 1) (n + 1) (by omega) (by omega))
  ·rw [if_neg c, Nat.zero_add]
   exact Ev.ite_neg c (ih (i + 1) n (by omega) (by omega))
theorem cntS {t0 first : Int} {D N : List Int} {l : List S55} (hl : l.length ≤ 1048576) (hD : D.length ≤ 1048576) (hN : N.length ≤ 1048576) : ∀ (d i n : Nat), i + d = N.length → n ≤ i → Ev (fun k => spec_CountAlts.l0 k l first (n : Int) (i : Int) t0 D N) ((n + more t0 D N l first i d : Nat) : Int) := by
 intro d
 induction d with
 | zero =>
  intro i n hi hn
  refine Ev.step (fun k => by rw [spec_CountAlts.l0]) ?_
  exact Ev.ite_neg (by omega) (Ev.some rfl)
 | succ d ih =>
  intro i n hi hn
  refine Ev.step (fun k => by rw [spec_CountAlts.l0]) ?_
  refine Ev.ite_pos (by omega) (Ev.bind (altS hl t0 first (i : Int) D N hD hN) ?_)
  rw [w64n (by omega), w64n (by omega), more]
  by_cases c : ((alts t0 D N l first (i : Int)).length : Int) > 0
  ·rw [if_pos c, ← Nat.add_assoc]
   exact Ev.ite_pos c (ih (i + 1) (n + 1) (by omega) (by omega))
  ·rw [if_neg c, Nat.zero_add]
   exact Ev.ite_neg c (ih (i + 1) n (by omega) (by omega))
theorem pure : PureFnExactCountAlts := by
 intro t0 D N l first _ hD hN hl _
 have hbD : D.length ≤ 140737488351232 := Len.le hD.1 (by omega)
 have hbN : N.length ≤ 140737488351232 := Len.le hN.1 (by omega)
 have hbl : l.length ≤ 140737488351232 := Len.le hl.1 (by omega)
 refine Ev.rounds (r := true) ?_
 unfold laws_FnExactCountAlts.f
 refine Ev.bind0 (sz_Table t0 D N 1048576 (by omega) (by omega) (by omega) (by omega)) ?_
 by_cases h1 : ((D.length + N.length : Nat) : Int) ≤ 1048576
 ·have hs : szOf 1048576 (D.length + N.length) = 1048576 - ((D.length + N.length : Nat) : Int) := by unfold szOf; rw [if_pos (by exact h1)]
  rw [hs]
  refine Ev.ite_neg (by omega) ?_
  refine Ev.bind0 (sz_LinkS l _ (by omega) (by omega) (by omega)) ?_
  by_cases h2 : ((l.length : Nat) : Int) ≤ 1048576 - ((D.length + N.length : Nat) : Int)
  ·have hs2 : szOf (1048576 - ((D.length + N.length : Nat) : Int)) l.length = 1048576 - ((D.length + N.length : Nat) : Int) - ((l.length : Nat) : Int) := by unfold szOf; rw [if_pos (by exact h2)]
   rw [hs2]
   refine Ev.ite_neg (by omega) ?_
   have hlm : (l.map cLink).length = l.length := List.length_map ..
   have hto : Ev (fun k => laws_toTable.f k t0 D N) (t0, D, N) := to_Table t0 D N (by omega)
   have hli : Ev (fun k => laws_toLinkS.f k l) (l.map cLink) := to_LinkS l (by omega)
   refine Ev.bind hto (Ev.bind hli (Ev.bind (cntS (t0 := t0) (D := D) (N := N) (l := l.map cLink) (by omega) (by omega) (by omega) N.length 0 0 (Nat.zero_add _) (Nat.le_refl _)) (Ev.bind hto (Ev.bind hli (Ev.bind (cntI (t0 := t0) (D := D) (N := N) (l := l.map cLink) (by omega) (by omega) N.length 0 0 (Nat.zero_add _) (Nat.le_refl _)) (Ev.ite_pos rfl ?_))))))
   refine Ev.bind hto (Ev.bind (eq_Table t0 D N (by omega)) (Ev.ite_pos rfl (Ev.bind hli (Ev.bind (eq_LinkS _ (by omega)) (Ev.ite_pos rfl (Ev.now _))))))
  ·have hs2 : szOf (1048576 - ((D.length + N.length : Nat) : Int)) l.length = -1 := by unfold szOf; rw [if_neg (by exact h2)]
   rw [hs2]
   exact Ev.ite_pos (by omega) (Ev.now _)
 ·have hs : szOf 1048576 (D.length + N.length) = -1 := by unfold szOf; rw [if_neg (by exact h1)]
  rw [hs]
  exact Ev.ite_pos (by omega) (Ev.now _)
end Go.Proofs.Ytohbccekdmdmbaa.fnExactCountAlts
namespace Go.Proofs.Ytohbccekdmdmbaa
theorem fnExactCountAlts_holds : Rows.FnExactCountAltsSaid := fnExactCountAlts.row fnExactCountAlts.pure
end Go.Proofs.Ytohbccekdmdmbaa
