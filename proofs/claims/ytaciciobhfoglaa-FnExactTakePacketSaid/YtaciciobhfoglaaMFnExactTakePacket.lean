/- FnExactTakePacket: the program and the reference take the same packet. Conditions: none. -/
import Derived.Test.YtaciciobhfoglaaWMore
import Derived.Test.YtaciciobhfoglaaOpen
import Derived.Test.YtaciciobhfoglaaQFnExactTakePacketx
import Derived.Test.YtaciciobhfoglaaRowFnExactTakePacket
/- Small words on answers that come with enough rounds. Conditions: none. -/
namespace Go.Proofs.Ytaciciobhfoglaa.Kit
open Go.RowKit Go.Proofs.YtaciciobhfoglaaW.PrintWords Go.Proofs.YtaciciobhfoglaaW.PrintLast Go.Proofs.YtaciciobhfoglaaW.PrintMore Go.Proofs.Ytaciciobhfoglaa.Open

theorem Ev.ite_pos {α : Type} {c : Prop} [Decidable c] {f g : Nat → Option α} {r : α} (h : c) (k : Ev f r) : Ev (fun n => if c then f n else g n) r := by simpa only [if_pos h] using k
theorem Ev.ite_neg {α : Type} {c : Prop} [Decidable c] {f g : Nat → Option α} {r : α} (h : ¬ c) (k : Ev g r) : Ev (fun n => if c then f n else g n) r := by simpa only [if_neg h] using k
theorem Ev.bind0 {α β : Type} {o : Option α} {f : Nat → α → Option β} {a : α} {r : β} (h : o = some a) (k : Ev (fun n => f n a) r) : Ev (fun n => o.bind (f n)) r := by subst h; exact k
theorem Ev.some {α : Type} {r r' : α} (h : r' = r) : Ev (fun _ => some r') r := by subst h; exact Ev.now _
theorem Ev.eq {α : Type} {o : Option α} {r : α} (h : o = Option.some r) : Ev (fun _ => o) r := ⟨0, fun _ _ => h⟩
theorem Ev.uniq {α : Type} {g : Nat → Option α} {r r' : α} (h : Ev g r) (h' : Ev g r') : r = r' := by
  obtain ⟨K, h⟩ := h
  obtain ⟨K', h'⟩ := h'
  exact Option.some.inj ((h (max K K') (Nat.le_max_left _ _)).symm.trans (h' (max K K') (Nat.le_max_right _ _)))
theorem w64 {x : Int} (h0 : -9223372036854775808 ≤ x) (h1 : x ≤ 9223372036854775807) : wrap64 x = x := by
  unfold wrap64
  omega
theorem w64s {i : Int} {n : Nat} (h0 : 0 ≤ i) (h1 : i < (n : Int)) (hn : n ≤ 140737488351232) : wrap64 (i + 1) = i + 1 := w64 (by omega) (by omega)
theorem mx_def (a b : Int) : mx a b = max a b := by unfold mx; omega
theorem mn_def (a b : Int) : mn a b = min a b := by unfold mn; omega
theorem Len.le {B : Nat} {α : Type} {l : List α} (h : Len B l) (hB : 0 < B) : l.length ≤ 140737488351232 := by
  unfold Len at h
  exact Nat.le_trans (Nat.le_mul_of_pos_right _ hB) h
/-! ### loops that count up -/
/-- A loop from 0 to n with one answer: at each i the answer behind one round is the answer, and at n it is there. p: what holds at i. -/
theorem Ev.upIf {ρ : Type} {n : Nat} (p : Nat → Prop) {g : Nat → Nat → Option ρ} {r : ρ} (hs : ∀ i, i < n → p i → (p (i + 1) → Ev (g (i + 1)) r) → Ev (g i) r) (he : p n → Ev (g n) r) (h0 : p 0) : Ev (g 0) r := by
  have key : ∀ d i, i + d = n → p i → Ev (g i) r := by
    intro d
    induction d with
    | zero => intro i hi hp; obtain rfl : i = n := by omega
              exact he hp
    | succ d ih => intro i hi hp; exact hs i (by omega) hp (fun hp' => ih (i + 1) (by omega) hp')
  exact key n 0 (by omega) h0
theorem Ev.up {ρ : Type} {n : Nat} {g : Nat → Nat → Option ρ} {r : ρ} (hs : ∀ i, i < n → Ev (g (i + 1)) r → Ev (g i) r) (he : Ev (g n) r) : Ev (g 0) r :=
  Ev.upIf (fun _ => True) (fun i hi _ h => hs i hi (h trivial)) (fun _ => he) trivial
theorem w64n {i : Nat} (h : i ≤ 140737488351232) : wrap64 ((i : Int) + 1) = ((i + 1 : Nat) : Int) := by
  rw [w64 (by omega) (by omega)]
  omega
theorem rd_nat (xs : List Int) (i : Nat) : rd xs (i : Int) = xs.getD i 0 := rfl
theorem getD_at {α : Type} {xs : List α} {i : Nat} (h : i < xs.length) (z : α) : xs.getD i z = xs[i] := by simp [List.getD, h]
theorem getD_mem {α : Type} {xs : List α} {i : Nat} (h : i < xs.length) (z : α) : xs.getD i z ∈ xs := by rw [getD_at h]; exact List.getElem_mem h
theorem take_succ_getD {α : Type} {xs : List α} {i : Nat} (h : i < xs.length) (z : α) : xs.take (i + 1) = xs.take i ++ [xs.getD i z] := by
  rw [List.take_succ_eq_append_getElem h, getD_at h]
theorem drop_getD {α : Type} {xs : List α} {i : Nat} (h : i < xs.length) (z : α) : xs.drop i = xs.getD i z :: xs.drop (i + 1) := by
  rw [List.drop_eq_getElem_cons h, getD_at h]
/-- A row of zeros that is filled from the left. -/
def fillTo {α β : Type} (c : α → β) (z : β) (xs : List α) (i : Nat) : List β := (xs.take i).map c ++ List.replicate (xs.length - i) z
theorem fillTo_zero {α β : Type} (c : α → β) (z : β) (xs : List α) : fillTo c z xs 0 = List.replicate xs.length z := by simp [fillTo]
theorem fillTo_all {α β : Type} (c : α → β) (z : β) (xs : List α) : fillTo c z xs xs.length = xs.map c := by simp [fillTo]
theorem fillTo_length {α β : Type} (c : α → β) (z : β) (xs : List α) {i : Nat} (h : i ≤ xs.length) : (fillTo c z xs i).length = xs.length := by
  simp [fillTo]
  omega
theorem fillTo_set {α β : Type} (c : α → β) (z : β) (xs : List α) {i : Nat} (h : i < xs.length) (a : α) : (fillTo c z xs i).set i (c (xs.getD i a)) = fillTo c z xs (i + 1) := by
  have hl : ((xs.take i).map c).length = i := by simp; omega
  unfold fillTo
  rw [List.set_append_right _ _ (by omega), hl, Nat.sub_self, take_succ_getD h a, List.map_append, show xs.length - i = (xs.length - (i + 1)) + 1 by omega, List.replicate_succ]
  simp
/-- What the elements from the first up to i weigh. -/
def sumTo {α : Type} (f : α → Nat) (xs : List α) (i : Nat) : Nat := ((xs.take i).map f).sum
theorem sumTo_succ {α : Type} (f : α → Nat) {xs : List α} {i : Nat} (h : i < xs.length) (z : α) : sumTo f xs (i + 1) = sumTo f xs i + f (xs.getD i z) := by
  unfold sumTo
  rw [take_succ_getD h z]
  simp
theorem sumTo_all {α : Type} (f : α → Nat) (xs : List α) : sumTo f xs xs.length = (xs.map f).sum := by simp [sumTo]
theorem sumTo_le {α : Type} (f : α → Nat) (xs : List α) (i : Nat) : sumTo f xs i ≤ (xs.map f).sum := by
  unfold sumTo
  have h := congrArg List.sum (List.take_append_drop i (xs.map f))
  rw [List.sum_append, ← List.map_take] at h
  omega
theorem le_sum {α : Type} (f : α → Nat) {xs : List α} {x : α} (h : x ∈ xs) : f x ≤ (xs.map f).sum := by
  induction xs with
  | nil => cases h
  | cons y ys ih =>
    simp only [List.map_cons, List.sum_cons]
    rcases List.mem_cons.1 h with rfl | h
    · omega
    · have := ih h
      omega
/-- 'left' behind a value of the size n: -1 where it doesn't suffice. -/
def szOf (left : Int) (n : Nat) : Int := if (n : Int) ≤ left then left - n else -1
/-- A fold over the first i elements. -/
def foldTo {α σ : Type} (f : σ → α → σ) (s : σ) (xs : List α) (i : Nat) : σ := (xs.take i).foldl f s
theorem foldTo_zero {α σ : Type} (f : σ → α → σ) (s : σ) (xs : List α) : foldTo f s xs 0 = s := by simp [foldTo]
theorem foldTo_succ {α σ : Type} (f : σ → α → σ) (s : σ) {xs : List α} {i : Nat} (h : i < xs.length) (z : α) : foldTo f s xs (i + 1) = f (foldTo f s xs i) (xs.getD i z) := by
  unfold foldTo
  rw [take_succ_getD h z, List.foldl_append]
  rfl
theorem foldTo_all {α σ : Type} (f : σ → α → σ) (s : σ) (xs : List α) : foldTo f s xs xs.length = xs.foldl f s := by simp [foldTo]
/-! ### lists told by their index -/
theorem map_range_set {β : Type} (n : Nat) (f : Nat → β) (u : Nat) (v : β) : ((List.range n).map f).set u v = (List.range n).map (fun j => if j = u then v else f j) := by
  apply List.ext_getElem
  · simp
  · intro i h1 h2
    rw [List.getElem_set]
    by_cases h : u = i
    · rw [if_pos h]
      simp [h]
    · rw [if_neg h]
      simp [Ne.symm h]
theorem map_range_getD {β : Type} {n : Nat} (f : Nat → β) {u : Nat} (h : u < n) (z : β) : ((List.range n).map f).getD u z = f u := by
  rw [getD_at (by simpa using h)]
  simp
theorem map_range_congr {β : Type} {n : Nat} {f g : Nat → β} (h : ∀ i, i < n → f i = g i) : (List.range n).map f = (List.range n).map g :=
  List.map_congr_left fun i hi => h i (List.mem_range.1 hi)
/-- A loop that counts down from t + n - 1 to t. -/
theorem Ev.down {ρ : Type} {n : Nat} {g : Nat → Nat → Option ρ} {r : ρ} (hs : ∀ m, m < n → Ev (g m) r → Ev (g (m + 1)) r) (he : Ev (g 0) r) : Ev (g n) r := by
  have key : ∀ m, m ≤ n → Ev (g m) r := by
    intro m
    induction m with
    | zero => intro _; exact he
    | succ m ih => intro hm; exact hs m (by omega) (ih (by omega))
  exact key n (Nat.le_refl _)
theorem set_mid {α : Type} (pre suf : List α) (x y : α) {i : Nat} (h : pre.length = i) : (pre ++ x :: suf).set i y = pre ++ y :: suf := by
  rw [List.set_append_right _ _ (by omega), h, Nat.sub_self]
  rfl
theorem getD_mid {α : Type} (pre suf : List α) (x z : α) {i : Nat} (h : pre.length = i) : (pre ++ x :: suf).getD i z = x := by
  subst h
  simp [List.getD]
end Go.Proofs.Ytaciciobhfoglaa.Kit
/- The helpers of the law FnExactTakePacket: sizes, conversions, equality with itself. Conditions: none. -/
namespace Go.Proofs.Ytaciciobhfoglaa.fnExactTakePacket
open Go.RowKit Go.Proofs.YtaciciobhfoglaaW.PrintWords Go.Proofs.YtaciciobhfoglaaW.PrintLast Go.Proofs.YtaciciobhfoglaaW.PrintMore Go.Proofs.Ytaciciobhfoglaa.QFnExactTakePacket Go.Proofs.Ytaciciobhfoglaa.Open Go.Proofs.Ytaciciobhfoglaa.Kit
def cPacket (x : S140) : S49 := ⟨x.f0, x.f1, x.f2, x.f3, x.f4, x.f5⟩
theorem sz_PacketS (l : List S140) (left : Int) (hb : l.length ≤ 140737488351232) (h0 : 0 ≤ left) (h1 : left ≤ 1048576) : laws_szPacketS.f l left = some (szOf left l.length) := by
  unfold laws_szPacketS.f szOf
  rw [w64 (by omega) (by omega)]
  by_cases h : (l.length : Int) ≤ left
  · rw [if_neg (by omega), if_pos h]
  · rw [if_pos (by omega), if_neg h]
theorem sz_Queue (a0 : (List S140)) (left : Int) (hba0 : a0.length ≤ 140737488351232) (h0 : 0 ≤ left) (h1 : left ≤ 1048576) : laws_szQueue.f a0 left = some (szOf left (a0.length)) := by
  unfold laws_szQueue.f
  rw [(sz_PacketS a0 left hba0 (by omega) (by omega)), Option.bind_some]
  by_cases hc0 : ((a0.length : Nat) : Int) ≤ left
  · have e0 : szOf left (a0.length) = left - ((a0.length : Nat) : Int) := by
      unfold szOf
      rw [if_pos (by omega)]
    rw [e0]
    rw [if_neg (by omega)]
  · have e0 : szOf left (a0.length) = -1 := by
      unfold szOf
      rw [if_neg (by omega)]
    rw [e0]
    rw [if_pos (by omega)]
theorem to_Packet (x : S140) : laws_toPacket.f (x.f0) (x.f1) (x.f2) (x.f3) (x.f4) (x.f5) = some (x.f0, x.f1, x.f2, x.f3, x.f4, x.f5) := by
  unfold laws_toPacket.f
  rfl
theorem to_PacketS (l : List S140) (hn : l.length ≤ 1048576) : Ev (fun k => laws_toPacketS.f k l) (l.map cPacket) := by
  unfold laws_toPacketS.f
  repeat (first | (with_reducible refine Ev.ite_pos (by omega) ?_) | (with_reducible refine Ev.ite_neg (by omega) ?_))
  rw [Int.toNat_natCast, ← fillTo_zero cPacket z49 l]
  refine Ev.up (n := l.length) (g := fun i k => laws_toPacketS.l0 k l (fillTo cPacket z49 l i) (i : Int)) ?_ ?_
  · intro i hi ih
    have hlen := fillTo_length cPacket z49 l (Nat.le_of_lt hi)
    rw [← fillTo_set cPacket z49 l hi z140] at ih
    refine Ev.step (fun k => by rw [laws_toPacketS.l0]) ?_
    repeat (first | (with_reducible refine Ev.ite_pos (by omega) ?_) | (with_reducible refine Ev.ite_neg (by omega) ?_))
    refine Ev.bind0 (to_Packet (l.getD i z140)) ?_
    repeat (first | (with_reducible refine Ev.ite_pos (by omega) ?_) | (with_reducible refine Ev.ite_neg (by omega) ?_))
    rw [Int.toNat_natCast, w64n (by omega)]
    exact ih
  · refine Ev.step (fun k => by rw [laws_toPacketS.l0]) ?_
    repeat (first | (with_reducible refine Ev.ite_pos (by omega) ?_) | (with_reducible refine Ev.ite_neg (by omega) ?_))
    refine Ev.some ?_
    rw [fillTo_all]
theorem to_Queue (a0 : (List S140)) (hn : a0.length ≤ 1048576) : Ev (fun k => laws_toQueue.f k a0) ((a0.map cPacket)) := by
  unfold laws_toQueue.f
  refine Ev.bind (to_PacketS (a0) (by omega)) ?_
  exact Ev.now _
theorem eq_Packet (x : S49) : laws_eqPacket.f (x.f0) (x.f1) (x.f2) (x.f3) (x.f4) (x.f5) (x.f0) (x.f1) (x.f2) (x.f3) (x.f4) (x.f5) = some true := by
  unfold laws_eqPacket.f
  simp
theorem eq_PacketS (l : List S49) (hn : l.length ≤ 1048576) : Ev (fun k => laws_eqPacketS.f k l l) true := by
  unfold laws_eqPacketS.f
  refine Ev.ite_pos rfl ?_
  refine Ev.up (n := l.length) (g := fun i k => laws_eqPacketS.l0 k l l (i : Int)) ?_ ?_
  · intro i hi ih
    refine Ev.step (fun k => by rw [laws_eqPacketS.l0]) ?_
    repeat (first | (with_reducible refine Ev.ite_pos (by omega) ?_) | (with_reducible refine Ev.ite_neg (by omega) ?_))
    refine Ev.bind0 (eq_Packet (l.getD i z49)) ?_
    refine Ev.ite_pos rfl ?_
    rw [w64n (by omega)]
    exact ih
  · refine Ev.step (fun k => by rw [laws_eqPacketS.l0]) ?_
    repeat (first | (with_reducible refine Ev.ite_pos (by omega) ?_) | (with_reducible refine Ev.ite_neg (by omega) ?_))
    exact Ev.now _
theorem eq_Queue (a0 : (List S49)) (hn : a0.length ≤ 1048576) : Ev (fun k => laws_eqQueue.f k a0 a0) true := by
  unfold laws_eqQueue.f
  refine Ev.bind (eq_PacketS a0 (by omega)) ?_
  refine Ev.ite_pos rfl ?_
  exact Ev.now _
def mkPacket (b : Int) : S49 := ⟨b, b + 1, b + 1 + 1, b + 1 + 1 + 1, b + 1 + 1 + 1 + 1, b + 1 + 1 + 1 + 1 + 1⟩
def cntPacket (a : Int) (n : Nat) : List S49 := (List.range n).map fun j : Nat => mkPacket (a + 6 * (j : Int))
theorem mark_PacketS (l : List S49) (a : Int) (h0 : 0 ≤ a) (h1 : a ≤ 1000000000) (hl : l.length ≤ 2097152) : Ev (fun k => laws_markPacketS.f k l a) (a + 6 * (l.length : Int), cntPacket a l.length) := by
  have e1 : cntPacket a 0 ++ l.drop 0 = l := by simp [cntPacket]
  have e2 : a + 6 * ((0 : Nat) : Int) = a := by omega
  show Ev (fun k => laws_markPacketS.l0 k l a 0) _
  rw [show (fun k => laws_markPacketS.l0 k l a 0) = (fun k => laws_markPacketS.l0 k (cntPacket a 0 ++ l.drop 0) (a + 6 * ((0 : Nat) : Int)) ((0 : Nat) : Int)) by rw [e1, e2]; rfl]
  refine Ev.up (n := l.length) (g := fun i k => laws_markPacketS.l0 k (cntPacket a i ++ l.drop i) (a + 6 * (i : Int)) (i : Int)) ?_ ?_
  · intro i hi ih
    have hlen : (cntPacket a i).length = i := by simp [cntPacket]
    have hlen2 : (cntPacket a i ++ l.drop i).length = l.length := by rw [List.length_append, hlen, List.length_drop]; omega
    refine Ev.step (fun k => by rw [laws_markPacketS.l0]) ?_
    repeat (first | (with_reducible refine Ev.ite_pos (by omega) ?_) | (with_reducible refine Ev.ite_neg (by omega) ?_))
    rw [drop_getD hi z49]
    have w0 : wrap64 (a + 6 * (i : Int) + 1) = a + 6 * (i : Int) + 1 := w64 (by omega) (by omega)
    have w1 : wrap64 (a + 6 * (i : Int) + 1 + 1) = a + 6 * (i : Int) + 1 + 1 := w64 (by omega) (by omega)
    have w2 : wrap64 (a + 6 * (i : Int) + 1 + 1 + 1) = a + 6 * (i : Int) + 1 + 1 + 1 := w64 (by omega) (by omega)
    have w3 : wrap64 (a + 6 * (i : Int) + 1 + 1 + 1 + 1) = a + 6 * (i : Int) + 1 + 1 + 1 + 1 := w64 (by omega) (by omega)
    have w4 : wrap64 (a + 6 * (i : Int) + 1 + 1 + 1 + 1 + 1) = a + 6 * (i : Int) + 1 + 1 + 1 + 1 + 1 := w64 (by omega) (by omega)
    have w5 : wrap64 (a + 6 * (i : Int) + 1 + 1 + 1 + 1 + 1 + 1) = a + 6 * (i : Int) + 1 + 1 + 1 + 1 + 1 + 1 := w64 (by omega) (by omega)
    simp only [rd_T49, getD_mid _ _ _ _ hlen, Option.bind_some, Int.toNat_natCast, set_mid _ _ _ _ hlen, w0, w1, w2, w3, w4, w5, w64n (by omega : i ≤ 140737488351232)]
    have e3 : cntPacket a (i + 1) ++ l.drop (i + 1) = cntPacket a i ++ mkPacket (a + 6 * (i : Int)) :: l.drop (i + 1) := by
      simp [cntPacket, List.range_succ]
    have e4 : a + 6 * ((i + 1 : Nat) : Int) = a + 6 * (i : Int) + 1 + 1 + 1 + 1 + 1 + 1 := by omega
    rw [e3, e4] at ih
    exact ih
  · have hlen2 : (cntPacket a l.length ++ l.drop l.length).length = l.length := by simp [cntPacket]
    refine Ev.step (fun k => by rw [laws_markPacketS.l0]) ?_
    repeat (first | (with_reducible refine Ev.ite_pos (by omega) ?_) | (with_reducible refine Ev.ite_neg (by omega) ?_))
    refine Ev.some ?_
    simp
theorem held_PacketS (n : Nat) (a : Int) (h0 : 0 ≤ a) (h1 : a ≤ 1000000000) (hl : n ≤ 2097152) : Ev (fun k => laws_heldPacketS.f k (cntPacket a n) a) (a + 6 * (n : Int)) := by
  have hlen : (cntPacket a n).length = n := by simp [cntPacket]
  have e2 : a + 6 * ((0 : Nat) : Int) = a := by omega
  show Ev (fun k => laws_heldPacketS.l0 k (cntPacket a n) a 0) _
  rw [show (fun k => laws_heldPacketS.l0 k (cntPacket a n) a 0) = (fun k => laws_heldPacketS.l0 k (cntPacket a n) (a + 6 * ((0 : Nat) : Int)) ((0 : Nat) : Int)) by rw [e2]; rfl]
  refine Ev.up (n := n) (g := fun i k => laws_heldPacketS.l0 k (cntPacket a n) (a + 6 * (i : Int)) (i : Int)) ?_ ?_
  · intro i hi ih
    have hg : rd_T49 (cntPacket a n) (i : Int) = mkPacket (a + 6 * (i : Int)) := map_range_getD _ hi _
    refine Ev.step (fun k => by rw [laws_heldPacketS.l0]) ?_
    repeat (first | (with_reducible refine Ev.ite_pos (by omega) ?_) | (with_reducible refine Ev.ite_neg (by omega) ?_))
    rw [hg]
    have w0 : wrap64 (a + 6 * (i : Int) + 1) = a + 6 * (i : Int) + 1 := w64 (by omega) (by omega)
    have w1 : wrap64 (a + 6 * (i : Int) + 1 + 1) = a + 6 * (i : Int) + 1 + 1 := w64 (by omega) (by omega)
    have w2 : wrap64 (a + 6 * (i : Int) + 1 + 1 + 1) = a + 6 * (i : Int) + 1 + 1 + 1 := w64 (by omega) (by omega)
    have w3 : wrap64 (a + 6 * (i : Int) + 1 + 1 + 1 + 1) = a + 6 * (i : Int) + 1 + 1 + 1 + 1 := w64 (by omega) (by omega)
    have w4 : wrap64 (a + 6 * (i : Int) + 1 + 1 + 1 + 1 + 1) = a + 6 * (i : Int) + 1 + 1 + 1 + 1 + 1 := w64 (by omega) (by omega)
    have w5 : wrap64 (a + 6 * (i : Int) + 1 + 1 + 1 + 1 + 1 + 1) = a + 6 * (i : Int) + 1 + 1 + 1 + 1 + 1 + 1 := w64 (by omega) (by omega)
    simp only [w0, w1, w2, w3, w4, w5, w64n (by omega : i ≤ 140737488351232)]
    refine Ev.ite_pos rfl ?_
    refine Ev.ite_pos rfl ?_
    refine Ev.ite_pos rfl ?_
    refine Ev.ite_pos rfl ?_
    refine Ev.ite_pos rfl ?_
    refine Ev.ite_pos rfl ?_
    have e4 : a + 6 * ((i + 1 : Nat) : Int) = a + 6 * (i : Int) + 1 + 1 + 1 + 1 + 1 + 1 := by omega
    rw [e4] at ih
    exact ih
  · refine Ev.step (fun k => by rw [laws_heldPacketS.l0]) ?_
    repeat (first | (with_reducible refine Ev.ite_pos (by omega) ?_) | (with_reducible refine Ev.ite_neg (by omega) ?_))
    exact Ev.now _
end Go.Proofs.Ytaciciobhfoglaa.fnExactTakePacket
/- A packet taken out of a queue, in the program and in the reference. Conditions: none. -/
namespace Go.Proofs.Ytaciciobhfoglaa.fnExactTakePacket
open Go.RowKit Go.Proofs.YtaciciobhfoglaaW.PrintWords Go.Proofs.YtaciciobhfoglaaW.PrintMore Go.Proofs.Ytaciciobhfoglaa.QFnExactTakePacket Go.Proofs.Ytaciciobhfoglaa.Open Go.Proofs.Ytaciciobhfoglaa.Kit
theorem inT1 (a b c : Int) : spec_l1In.f a b c = some (decide (b ≤ a ∧ a ≤ c)) := by
  unfold spec_l1In.f
  by_cases h : b ≤ a <;> simp [h]
theorem ixT (i n : Int) : impl_isIndex.f i n = some (decide (0 ≤ i ∧ i < n)) := by
  unfold impl_isIndex.f
  by_cases h : 0 ≤ i <;> simp [h]
/-- Whether a queue has a place. -/
def okI (l : List S49) (i : Int) : Prop := 0 ≤ i ∧ i < (l.length : Int)
instance (l : List S49) (i : Int) : Decidable (okI l i) := by unfold okI; infer_instance
/-- What is left of the queue, what was taken, and whether. -/
def tkL (l : List S49) (i : Int) : List S49 := if okI l i then l.eraseIdx i.toNat else l
def tkP (l : List S49) (i : Int) : S49 := if okI l i then rd_T49 l i else ⟨0, 0, 0, 0, 0, 0⟩
theorem tkL_len (l : List S49) (i : Int) : (tkL l i).length ≤ l.length := by
  unfold tkL
  split
  · exact List.length_eraseIdx_le l i.toNat
  · exact Nat.le_refl _
theorem take1 (l : List S49) (hl : l.length ≤ 1048576) (i : Int) : spec_TakePacket.f l i = some (tkL l i, (tkP l i).f0, (tkP l i).f1, (tkP l i).f2, (tkP l i).f3, (tkP l i).f4, (tkP l i).f5, decide (okI l i)) := by
  unfold spec_TakePacket.f
  rw [inT1, Option.bind_some, w64 (x := (l.length : Int) - 1) (by omega) (by omega)]
  by_cases h : okI l i
  · have h' := h
    unfold okI at h'
    have e1 : tkL l i = l.eraseIdx i.toNat := if_pos h
    have e2 : tkP l i = rd_T49 l i := if_pos h
    have ht : (l.take i.toNat).length ≤ l.length := by rw [List.length_take]; omega
    have hd : (l.drop (i + 1).toNat).length ≤ l.length := by rw [List.length_drop]; omega
    rw [if_pos (decide_eq_true (by omega)), Option.bind_some, if_pos h'.1, if_pos (by omega), Option.bind_some, if_pos (by rw [List.length_nil]; omega), Option.bind_some, w64 (x := i + 1) (by omega) (by omega), if_pos (by omega), if_pos (by omega), Option.bind_some,
      if_pos (by rw [List.nil_append]; omega), if_pos h'.2, e1, e2, decide_eq_true h, List.nil_append, List.eraseIdx_eq_take_drop_succ, show (i + 1).toNat = i.toNat + 1 by omega]
  · have e1 : tkL l i = l := if_neg h
    have e2 : tkP l i = ⟨0, 0, 0, 0, 0, 0⟩ := if_neg h
    have h2 : ¬ (0 ≤ i ∧ i ≤ (l.length : Int) - 1) := by unfold okI at h; omega
    rw [if_neg (by simpa using h2), e1, e2, decide_eq_false h]
    unfold spec_l24Copy.f
    rw [Option.bind_some, if_pos (by rw [List.length_nil]; omega), Option.bind_some, List.nil_append]
theorem take2 (l : List S49) (hl : l.length ≤ 1048576) (i : Int) : impl_TakePacket.f l i = some (tkL l i, (tkP l i).f0, (tkP l i).f1, (tkP l i).f2, (tkP l i).f3, (tkP l i).f4, (tkP l i).f5, decide (okI l i)) := by
  have hc : impl_cloneQueue.f l = some l := by
    unfold impl_cloneQueue.f impl_Packet_114.f
    rw [if_pos (by omega), Option.bind_some]
  unfold impl_TakePacket.f
  rw [hc, Option.bind_some, ixT, Option.bind_some]
  by_cases h : okI l i
  · have h' := h
    unfold okI at h'
    have e1 : tkL l i = l.eraseIdx i.toNat := if_pos h
    have e2 : tkP l i = rd_T49 l i := if_pos h
    unfold impl_Packet_82.f
    rw [if_pos (decide_eq_true h'), w64 (x := i + 1) (by omega) (by omega), if_pos ⟨h'.1, h'.2, rfl⟩, Option.bind_some, if_pos h'.1, if_pos h'.2, e1, e2, decide_eq_true h]
  · have e1 : tkL l i = l := if_neg h
    have e2 : tkP l i = ⟨0, 0, 0, 0, 0, 0⟩ := if_neg h
    have h2 : ¬ (0 ≤ i ∧ i < (l.length : Int)) := h
    rw [if_neg (by simpa using h2), e1, e2, decide_eq_false h]
end Go.Proofs.Ytaciciobhfoglaa.fnExactTakePacket
namespace Go.Proofs.Ytaciciobhfoglaa.fnExactTakePacket
open Go.RowKit Go.Proofs.YtaciciobhfoglaaW.PrintWords Go.Proofs.YtaciciobhfoglaaW.PrintMore Go.Proofs.Ytaciciobhfoglaa.QFnExactTakePacket Go.Proofs.Ytaciciobhfoglaa.Open Go.Proofs.Ytaciciobhfoglaa.Kit
theorem mark_Queue (l : List S49) (a : Int) (h0 : 0 ≤ a) (h1 : a ≤ 1000000000) (hl : l.length ≤ 2097152) : Ev (fun k => laws_markQueue.f k l a) (a + 6 * (l.length : Int), cntPacket a l.length) := by
  unfold laws_markQueue.f
  exact Ev.bind (mark_PacketS l a h0 h1 hl) (Ev.now _)
theorem held_Queue (n : Nat) (a : Int) (h0 : 0 ≤ a) (h1 : a ≤ 1000000000) (hl : n ≤ 2097152) : Ev (fun k => laws_heldQueue.f k (cntPacket a n) a) (a + 6 * (n : Int)) := by
  unfold laws_heldQueue.f
  exact Ev.bind (held_PacketS n a h0 h1 hl) (Ev.ite_neg (by omega) (Ev.now _))
theorem pure : PureFnExactTakePacket := by
  intro l i hl _
  have hl1 := Len.le hl.1 (by omega)
  refine Ev.rounds (r := true) ?_
  unfold laws_FnExactTakePacket.f
  refine Ev.bind0 (sz_Queue l 1048576 hl1 (by omega) (by omega)) ?_
  by_cases hn : (l.length : Int) ≤ 1048576
  · rw [show szOf 1048576 l.length = 1048576 - (l.length : Int) by unfold szOf; rw [if_pos hn]]
    have hm : (l.map cPacket).length ≤ 1048576 := by rw [List.length_map]; omega
    have hml : ((l.map cPacket).length : Int) = (l.length : Int) := by rw [List.length_map]
    have hq := tkL_len (l.map cPacket) i
    have hp := eq_Packet (tkP (l.map cPacket) i)
    have t1 := take1 (l.map cPacket) hm i
    have t2 := take2 (l.map cPacket) hm i
    generalize tkL (l.map cPacket) i = g at hq t1 t2
    generalize tkP (l.map cPacket) i = x at hp t1 t2
    generalize decide (okI (l.map cPacket) i) = o at t1 t2
    refine Ev.ite_neg (by omega) ?_
    refine Ev.bind (to_Queue l (by omega)) ?_
    refine Ev.bind0 t1 ?_
    refine Ev.bind (to_Queue l (by omega)) ?_
    refine Ev.bind0 t2 ?_
    refine Ev.bind (eq_Queue g (by omega)) ?_
    refine Ev.ite_pos rfl ?_
    refine Ev.bind0 hp ?_
    refine Ev.ite_pos rfl ?_
    refine Ev.step (fun k => by rw [laws_FnExactTakePacket.j0]) ?_
    refine Ev.ite_neg (by simp) ?_
    refine Ev.bind (to_Queue l (by omega)) ?_
    refine Ev.bind (eq_Queue _ hm) ?_
    refine Ev.ite_pos rfl ?_
    refine Ev.bind (mark_Queue _ 1 (by omega) (by omega) (by omega)) ?_
    refine Ev.ite_neg (by simp only []; omega) ?_
    refine Ev.bind (eq_Queue g (by omega)) ?_
    refine Ev.ite_pos rfl ?_
    refine Ev.bind0 hp ?_
    refine Ev.ite_pos rfl ?_
    refine Ev.step (fun k => by rw [laws_FnExactTakePacket.j1]) ?_
    refine Ev.ite_neg (by simp) ?_
    have hh := held_Queue g.length 1 (by omega) (by omega) (by omega)
    refine Ev.bind (mark_Queue g 1 (by omega) (by omega) (by omega)) ?_
    refine Ev.bind hh ?_
    refine Ev.ite_neg (by omega) ?_
    refine Ev.ite_pos rfl ?_
    refine Ev.bind (to_Queue l (by omega)) ?_
    refine Ev.bind0 t2 ?_
    refine Ev.bind (eq_Queue g (by omega)) ?_
    refine Ev.ite_pos rfl ?_
    refine Ev.bind0 hp ?_
    refine Ev.ite_pos rfl ?_
    refine Ev.step (fun k => by rw [laws_FnExactTakePacket.j2]) ?_
    refine Ev.ite_neg (by simp) ?_
    refine Ev.bind hh ?_
    refine Ev.ite_neg (by omega) ?_
    exact Ev.ite_pos rfl (Ev.now _)
  · rw [show szOf 1048576 l.length = -1 by unfold szOf; rw [if_neg hn]]
    exact Ev.ite_pos (by omega) (Ev.now _)
end Go.Proofs.Ytaciciobhfoglaa.fnExactTakePacket
namespace Go.Proofs.Ytaciciobhfoglaa
theorem fnExactTakePacket_holds : Rows.FnExactTakePacketSaid := fnExactTakePacket.row fnExactTakePacket.pure
end Go.Proofs.Ytaciciobhfoglaa
