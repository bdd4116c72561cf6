/- FnExactRepairedAt: the program and the reference agree on all repaired next nodes at a tick. Conditions: none. (tight). -/
import Derived.Test.YthnlkgbhohchoaaGreatVFnExactRepairedAtRowFnExactRepairedAt
import Derived.Lib.SlicesCompact
/- Small words on answers that come with enough rounds. Conditions: none. -/
namespace Go.Proofs.YthnlkgbhohchoaaGreat.Kit
open Go.RowKit Go.Proofs.YthnlkgbhohchoaaGreatW.PrintWords Go.Proofs.YthnlkgbhohchoaaGreatW.PrintLast Go.Proofs.YthnlkgbhohchoaaGreatW.PrintMore Go.Proofs.YthnlkgbhohchoaaGreat.Open

theorem Ev.ite_pos {α : Type} {c : Prop} [Decidable c] {f g : Nat → Option α} {r : α} (h : c) (k : Ev f r) : Ev (fun n => if c then f n else g n) r := by simpa only [if_pos h] using k
theorem Ev.ite_neg {α : Type} {c : Prop} [Decidable c] {f g : Nat → Option α} {r : α} (h : ¬ c) (k : Ev g r) : Ev (fun n => if c then f n else g n) r := by simpa only [if_neg h] using k
theorem Ev.bind0 {α β : Type} {o : Option α} {f : Nat → α → Option β} {a : α} {r : β} (h : o = some a) (k : Ev (fun n => f n a) r) : Ev (fun n => o.bind (f n)) r := by subst h; exact k
theorem Ev.some {α : Type} {r r' : α} (h : r' = r) : Ev (fun _ => some r') r := by subst h; exact Ev.now _
theorem Ev.eq {α : Type} {o : Option α} {r : α} (h : o = Option.some r) : Ev (fun _ => o) r := ⟨0, fun _ _ => h⟩
theorem w64 {x : Int} (h0 : -9223372036854775808 ≤ x) (h1 : x ≤ 9223372036854775807) : wrap64 x = x := by
 unfold wrap64
 omega
theorem mx_def (a b : Int) : mx a b = max a b := by unfold mx; omega
theorem Len.le {B : Nat} {α : Type} {l : List α} (h : Len B l) (hB : 0 < B) : l.length ≤ 140737488351232 := by
 unfold Len at h
 exact Nat.le_trans (Nat.le_mul_of_pos_right _ hB) h
/-! ### loops that count up -/
theorem Ev.upIf {ρ : Type} {n : Nat} (p : Nat → Prop) {g : Nat → Nat → Option ρ} {r : ρ} (hs : ∀ i, i < n → p i → (p (i + 1) → Ev (g (i + 1)) r) → Ev (g i) r) (he : p n → Ev (g n) r) (h0 : p 0) : Ev (g 0) r := by
 have key : ∀ d i, i + d = n → p i → Ev (g i) r := by
  intro d
  induction d with
  | zero => intro i hi hp; obtain rfl : i = n := (by omega); exact he hp
  | succ d ih => intro i hi hp; exact hs i (by omega) hp (fun hp' => ih (i + 1) (by omega) hp')
 exact key n 0 (by omega) h0
theorem Ev.up {ρ : Type} {n : Nat} {g : Nat → Nat → Option ρ} {r : ρ} (hs : ∀ i, i < n → Ev (g (i + 1)) r → Ev (g i) r) (he : Ev (g n) r) : Ev (g 0) r :=
 Ev.upIf (fun _ => True) (fun i hi _ h => hs i hi (h trivial)) (fun _ => he) trivial
theorem w64n {i : Nat} (h : i ≤ 140737488351232) : wrap64 ((i : Int) + 1) = ((i + 1 : Nat) : Int) := by
 rw [w64 (by omega) (by omega)]
 omega
theorem rd_nat (xs : List Int) (i : Nat) : rd xs (i : Int) = xs.getD i 0 := rfl
theorem getD_at {α : Type} {xs : List α} {i : Nat} (h : i < xs.length) (z : α) : xs.getD i z = xs[i] := by simp [List.getD, h]
theorem getD_mem {α : Type} {xs : List α} {i : Nat} (h : i < xs.length) (z : α) : xs.getD i z ∈ xs := by rw [getD_at h]; exact List.getElem_mem h
theorem take_succ_getD {α : Type} {xs : List α} {i : Nat} (h : i < xs.length) (z : α) : xs.take (i + 1) = xs.take i ++ [xs.getD i z] := by
 rw [List.take_succ_eq_append_getElem h, getD_at h]
theorem drop_getD {α : Type} {xs : List α} {i : Nat} (h : i < xs.length) (z : α) : xs.drop i = xs.getD i z :: xs.drop (i + 1) := by
 rw [List.drop_eq_getElem_cons h, getD_at h]
def fillTo {α β : Type} (c : α → β) (z : β) (xs : List α) (i : Nat) : List β := (xs.take i).map c ++ List.replicate (xs.length - i) z
theorem fillTo_zero {α β : Type} (c : α → β) (z : β) (xs : List α) : fillTo c z xs 0 = List.replicate xs.length z := by simp [fillTo]
theorem fillTo_all {α β : Type} (c : α → β) (z : β) (xs : List α) : fillTo c z xs xs.length = xs.map c := by simp [fillTo]
theorem fillTo_length {α β : Type} (c : α → β) (z : β) (xs : List α) {i : Nat} (h : i ≤ xs.length) : (fillTo c z xs i).length = xs.length := by
 simp [fillTo]
 omega
theorem fillTo_set {α β : Type} (c : α → β) (z : β) (xs : List α) {i : Nat} (h : i < xs.length) (a : α) : (fillTo c z xs i).set i (c (xs.getD i a)) = fillTo c z xs (i + 1) := by
 have hl : ((xs.take i).map c).length = i := by simp; omega
 unfold fillTo
 rw [List.set_append_right _ _ (by omega), hl, Nat.sub_self, take_succ_getD h a, List.map_append, show xs.length - i = (xs.length - (i + 1)) + 1 by omega, List.replicate_succ]
 simp
def sumTo {α : Type} (f : α → Nat) (xs : List α) (i : Nat) : Nat := ((xs.take i).map f).sum
theorem sumTo_succ {α : Type} (f : α → Nat) {xs : List α} {i : Nat} (h : i < xs.length) (z : α) : sumTo f xs (i + 1) = sumTo f xs i + f (xs.getD i z) := by
 unfold sumTo
 rw [take_succ_getD h z]
 simp
theorem sumTo_all {α : Type} (f : α → Nat) (xs : List α) : sumTo f xs xs.length = (xs.map f).sum := by simp [sumTo]
theorem sumTo_le {α : Type} (f : α → Nat) (xs : List α) (i : Nat) : sumTo f xs i ≤ (xs.map f).sum := by
 unfold sumTo
 have h := congrArg List.sum (List.take_append_drop i (xs.map f))
 rw [List.sum_append, ← List.map_take] at h
 omega
theorem le_sum {α : Type} (f : α → Nat) {xs : List α} {x : α} (h : x ∈ xs) : f x ≤ (xs.map f).sum := by
 induction xs with
 | nil => cases h
 | cons y ys ih =>
  simp only [List.map_cons, List.sum_cons]
  rcases List.mem_cons.1 h with rfl | h
  ·omega
  ·have := ih h
   omega
def szOf (left : Int) (n : Nat) : Int := if (n : Int) ≤ left then left - n else -1
def foldTo {α σ : Type} (f : σ → α → σ) (s : σ) (xs : List α) (i : Nat) : σ := (xs.take i).foldl f s
theorem foldTo_zero {α σ : Type} (f : σ → α → σ) (s : σ) (xs : List α) : foldTo f s xs 0 = s := by simp [foldTo]
theorem foldTo_succ {α σ : Type} (f : σ → α → σ) (s : σ) {xs : List α} {i : Nat} (h : i < xs.length) (z : α) : foldTo f s xs (i + 1) = f (foldTo f s xs i) (xs.getD i z) := by
 unfold foldTo
 rw [take_succ_getD h z, List.foldl_append]
 rfl
theorem foldTo_all {α σ : Type} (f : σ → α → σ) (s : σ) (xs : List α) : foldTo f s xs xs.length = xs.foldl f s := by simp [foldTo]
/-! ### lists told by their index -/
theorem map_range_getD {β : Type} {n : Nat} (f : Nat → β) {u : Nat} (h : u < n) (z : β) : ((List.range n).map f).getD u z = f u := by
 rw [getD_at (by simpa using h)]
 simp
theorem set_mid {α : Type} (pre suf : List α) (x y : α) {i : Nat} (h : pre.length = i) : (pre ++ x :: suf).set i y = pre ++ y :: suf := by
 rw [List.set_append_right _ _ (by omega), h, Nat.sub_self]
 rfl
end Go.Proofs.YthnlkgbhohchoaaGreat.Kit
/- The helpers of the law FnExactRepairedAt: sizes, conversions, equality with itself. Conditions: none. -/
namespace Go.Proofs.YthnlkgbhohchoaaGreat.fnExactRepairedAt
open Go.RowKit Go.Proofs.YthnlkgbhohchoaaGreatW.PrintWords Go.Proofs.YthnlkgbhohchoaaGreatW.PrintLast Go.Proofs.YthnlkgbhohchoaaGreatW.PrintMore Go.Proofs.YthnlkgbhohchoaaGreat.QFnExactRepairedAt Go.Proofs.YthnlkgbhohchoaaGreat.Open Go.Proofs.YthnlkgbhohchoaaGreat.Kit
def cSpan (x : S93) : S73 := ⟨x.f0, x.f1⟩
def cLink (x : S161) : S90 := ⟨x.f0, x.f1⟩
def n159 (x : S159) : Nat := x.f1.length + x.f2.length
def b159 (x : S159) : Prop := x.f1.length ≤ 140737488351232 ∧ x.f2.length ≤ 140737488351232
def cTable (x : S159) : S50 := ⟨x.f0, x.f1, x.f2⟩
def n97 (x : S97) : Nat := x.f1.length + (x.f2.length + (x.f2.map n159).sum)
def b97 (x : S97) : Prop := x.f1.length ≤ 140737488351232 ∧ x.f2.length ≤ 140737488351232 ∧ (∀ y ∈ x.f2, b159 y)
def cPiece (x : S97) : S76 := ⟨(cSpan x.f0), (x.f1.map cLink), (x.f2.map cTable)⟩
def n50 (x : S50) : Nat := x.f1.length + x.f2.length
def n76 (x : S76) : Nat := x.f1.length + (x.f2.length + (x.f2.map n50).sum)
theorem n_cTable (x : S159) : n50 (cTable x) = n159 x := by
 simp [cTable, n159, n50]
theorem n_cPiece (x : S97) : n76 (cPiece x) = n97 x := by
 simp [cPiece, n76, n97, Function.comp_def, n_cTable]
theorem sz_LinkS (l : List S161) (left : Int) (hb : l.length ≤ 140737488351232) (h0 : 0 ≤ left) (h1 : left ≤ 1048576) : laws_szLinkS.f l left = some (szOf left l.length) := by
 unfold laws_szLinkS.f szOf
 rw [w64 (by omega) (by omega)]
 by_cases h : (l.length : Int) ≤ left
 ·rw [if_neg (by omega), if_pos h]
 ·rw [if_pos (by omega), if_neg h]
theorem sz_IntS (l : List Int) (left : Int) (hb : l.length ≤ 140737488351232) (h0 : 0 ≤ left) (h1 : left ≤ 1048576) : laws_szIntS.f l left = some (szOf left l.length) := by
 unfold laws_szIntS.f szOf
 rw [w64 (by omega) (by omega)]
 by_cases h : (l.length : Int) ≤ left
 ·rw [if_neg (by omega), if_pos h]
 ·rw [if_pos (by omega), if_neg h]
theorem sz_Table (x : S159) (left : Int) (hb : b159 x) (h0 : 0 ≤ left) (h1 : left ≤ 1048576) : laws_szTable.f (x.f0) (x.f1) (x.f2) left = some (szOf left (n159 x)) := by
 obtain ⟨hba1, hba2⟩ := hb
 unfold laws_szTable.f n159
 rw [(sz_IntS x.f1 left hba1 (by omega) (by omega)), Option.bind_some]
 by_cases hc0 : ((x.f1.length : Nat) : Int) ≤ left
 ·have e0 : szOf left (x.f1.length) = left - ((x.f1.length : Nat) : Int) := by
   unfold szOf
   rw [if_pos (by omega)]
  rw [e0]
  rw [if_neg (by omega)]
  rw [(sz_IntS x.f2 _ hba2 (by omega) (by omega)), Option.bind_some]
  by_cases hc1 : ((x.f1.length + x.f2.length : Nat) : Int) ≤ left
  ·have e1 : szOf (left - ((x.f1.length : Nat) : Int)) (x.f2.length) = left - ((x.f1.length + x.f2.length : Nat) : Int) := by
    unfold szOf
    rw [if_pos (by omega)]
    omega
   rw [e1]
   rw [if_neg (by omega)]
   unfold szOf
   rw [if_pos (by omega)]
  ·have e1 : szOf (left - ((x.f1.length : Nat) : Int)) (x.f2.length) = -1 := by
    unfold szOf
    rw [if_neg (by omega)]
   rw [e1]
   rw [if_pos (by omega)]
   unfold szOf
   rw [if_neg (by omega)]
 ·have e0 : szOf left (x.f1.length) = -1 := by
   unfold szOf
   rw [if_neg (by omega)]
  rw [e0]
  rw [if_pos (by omega)]
  unfold szOf
  rw [if_neg (by omega)]
theorem sz_TableS (l : List S159) (left : Int) (hb : l.length ≤ 140737488351232 ∧ (∀ y ∈ l, b159 y)) (h0 : 0 ≤ left) (h1 : left ≤ 1048576) : Ev (fun k => laws_szTableS.f k l left) (szOf left (l.length + (l.map n159).sum)) := by
 obtain ⟨hl, hb⟩ := hb
 unfold laws_szTableS.f
 rw [w64 (by omega) (by omega)]
 by_cases hn : left - (l.length : Int) < 0
 ·refine Ev.ite_pos hn (Ev.some ?_)
  unfold szOf
  rw [if_neg (by omega)]
 ·refine Ev.ite_neg hn ?_
  have hs0 : sumTo n159 l 0 = 0 := by simp [sumTo]
  have e0 : left - (l.length : Int) = left - (l.length : Int) - (sumTo n159 l 0 : Nat) := by rw [hs0]; omega
  rw [e0]
  refine Ev.upIf (n := l.length) (fun i => (l.length : Int) + (sumTo n159 l i : Nat) ≤ left) (g := fun i k => laws_szTableS.l0 k l (left - (l.length : Int) - (sumTo n159 l i : Nat)) (i : Int)) ?_ ?_ (by rw [hs0]; omega)
  ·intro i hi hp ih
   have hm := hb _ (getD_mem hi z159)
   have hS := sumTo_succ n159 hi z159
   have hA := sumTo_le n159 l (i + 1)
   refine Ev.step (fun k => by rw [laws_szTableS.l0]) ?_
   repeat (first | (with_reducible refine Ev.ite_pos (by omega) ?_) | (with_reducible refine Ev.ite_neg (by omega) ?_))
   refine Ev.bind0 (sz_Table (l.getD i z159) _ hm (by omega) (by omega)) ?_
   by_cases hc : (l.length : Int) + (sumTo n159 l (i + 1) : Nat) ≤ left
   ·have e1 : szOf (left - (l.length : Int) - (sumTo n159 l i : Nat)) (n159 (l.getD i z159)) = left - (l.length : Int) - (sumTo n159 l (i + 1) : Nat) := by
     unfold szOf
     rw [if_pos (by omega)]
     omega
    rw [e1, w64n (by omega)]
    exact Ev.ite_neg (by omega) (ih hc)
   ·have e1 : szOf (left - (l.length : Int) - (sumTo n159 l i : Nat)) (n159 (l.getD i z159)) = -1 := by
     unfold szOf
     rw [if_neg (by omega)]
    rw [e1]
    refine Ev.ite_pos (by omega) (Ev.some ?_)
    unfold szOf
    rw [if_neg]
    have : sumTo n159 l l.length = (l.map n159).sum := sumTo_all _ _
    have hA2 := sumTo_le n159 l (i + 1)
    omega
  ·intro hp
   refine Ev.step (fun k => by rw [laws_szTableS.l0]) ?_
   repeat (first | (with_reducible refine Ev.ite_pos (by omega) ?_) | (with_reducible refine Ev.ite_neg (by omega) ?_))
   refine Ev.some ?_
   rw [sumTo_all] at hp ⊢
   unfold szOf
   rw [if_pos (by omega)]
   omega
theorem sz_Piece (x : S97) (left : Int) (hb : b97 x) (h0 : 0 ≤ left) (h1 : left ≤ 1048576) : Ev (fun k => laws_szPiece.f k (x.f0.f0) (x.f0.f1) (x.f1) (x.f2) left) (szOf left (n97 x)) := by
 unfold b97 at hb
 unfold laws_szPiece.f n97
 refine Ev.bind0 (sz_LinkS x.f1 left (by first | exact hb.1 | exact hb.2 | exact ⟨hb.1, hb.2.1⟩ | exact ⟨hb.2.2.1, hb.2.2.2⟩ | exact hb.2.2 | exact ⟨hb.2.1, hb.2.2⟩) (by omega) (by omega)) ?_
 by_cases hc0 : ((x.f1.length : Nat) : Int) ≤ left
 ·have e0 : szOf left (x.f1.length) = left - ((x.f1.length : Nat) : Int) := by
   unfold szOf
   rw [if_pos (by omega)]
  rw [e0]
  refine Ev.ite_neg (by omega) ?_
  refine Ev.bind (sz_TableS x.f2 _ (by first | exact hb.1 | exact hb.2 | exact ⟨hb.1, hb.2.1⟩ | exact ⟨hb.2.2.1, hb.2.2.2⟩ | exact hb.2.2 | exact ⟨hb.2.1, hb.2.2⟩) (by omega) (by omega)) ?_
  by_cases hc1 : ((x.f1.length + (x.f2.length + (x.f2.map n159).sum) : Nat) : Int) ≤ left
  ·have e1 : szOf (left - ((x.f1.length : Nat) : Int)) ((x.f2.length + (x.f2.map n159).sum)) = left - ((x.f1.length + (x.f2.length + (x.f2.map n159).sum) : Nat) : Int) := by
    unfold szOf
    rw [if_pos (by omega)]
    omega
   rw [e1]
   refine Ev.ite_neg (by omega) ?_
   refine Ev.some ?_
   unfold szOf
   rw [if_pos (by omega)]
  ·have e1 : szOf (left - ((x.f1.length : Nat) : Int)) ((x.f2.length + (x.f2.map n159).sum)) = -1 := by
    unfold szOf
    rw [if_neg (by omega)]
   rw [e1]
   refine Ev.ite_pos (by omega) (Ev.some ?_)
   unfold szOf
   rw [if_neg (by omega)]
 ·have e0 : szOf left (x.f1.length) = -1 := by
   unfold szOf
   rw [if_neg (by omega)]
  rw [e0]
  refine Ev.ite_pos (by omega) (Ev.some ?_)
  unfold szOf
  rw [if_neg (by omega)]
theorem sz_PieceS (l : List S97) (left : Int) (hb : l.length ≤ 140737488351232 ∧ (∀ y ∈ l, b97 y)) (h0 : 0 ≤ left) (h1 : left ≤ 1048576) : Ev (fun k => laws_szPieceS.f k l left) (szOf left (l.length + (l.map n97).sum)) := by
 obtain ⟨hl, hb⟩ := hb
 unfold laws_szPieceS.f
 rw [w64 (by omega) (by omega)]
 by_cases hn : left - (l.length : Int) < 0
 ·refine Ev.ite_pos hn (Ev.some ?_)
  unfold szOf
  rw [if_neg (by omega)]
 ·refine Ev.ite_neg hn ?_
  have hs0 : sumTo n97 l 0 = 0 := by simp [sumTo]
  have e0 : left - (l.length : Int) = left - (l.length : Int) - (sumTo n97 l 0 : Nat) := by rw [hs0]; omega
  rw [e0]
  refine Ev.upIf (n := l.length) (fun i => (l.length : Int) + (sumTo n97 l i : Nat) ≤ left) (g := fun i k => laws_szPieceS.l0 k l (left - (l.length : Int) - (sumTo n97 l i : Nat)) (i : Int)) ?_ ?_ (by rw [hs0]; omega)
  ·intro i hi hp ih
   have hm := hb _ (getD_mem hi z97)
   have hS := sumTo_succ n97 hi z97
   have hA := sumTo_le n97 l (i + 1)
   refine Ev.step (fun k => by rw [laws_szPieceS.l0]) ?_
   repeat (first | (with_reducible refine Ev.ite_pos (by omega) ?_) | (with_reducible refine Ev.ite_neg (by omega) ?_))
   refine Ev.bind (sz_Piece (l.getD i z97) _ hm (by omega) (by omega)) ?_
   by_cases hc : (l.length : Int) + (sumTo n97 l (i + 1) : Nat) ≤ left
   ·have e1 : szOf (left - (l.length : Int) - (sumTo n97 l i : Nat)) (n97 (l.getD i z97)) = left - (l.length : Int) - (sumTo n97 l (i + 1) : Nat) := by
     unfold szOf
     rw [if_pos (by omega)]
     omega
    rw [e1, w64n (by omega)]
    exact Ev.ite_neg (by omega) (ih hc)
   ·have e1 : szOf (left - (l.length : Int) - (sumTo n97 l i : Nat)) (n97 (l.getD i z97)) = -1 := by
     unfold szOf
     rw [if_neg (by omega)]
    rw [e1]
    refine Ev.ite_pos (by omega) (Ev.some ?_)
    unfold szOf
    rw [if_neg]
    have : sumTo n97 l l.length = (l.map n97).sum := sumTo_all _ _
    have hA2 := sumTo_le n97 l (i + 1)
    omega
  ·intro hp
   refine Ev.step (fun k => by rw [laws_szPieceS.l0]) ?_
   repeat (first | (with_reducible refine Ev.ite_pos (by omega) ?_) | (with_reducible refine Ev.ite_neg (by omega) ?_))
   refine Ev.some ?_
   rw [sumTo_all] at hp ⊢
   unfold szOf
   rw [if_pos (by omega)]
   omega
theorem sz_IntSS (l : List (List Int)) (left : Int) (hb : l.length ≤ 140737488351232 ∧ (∀ y ∈ l, y.length ≤ 140737488351232)) (h0 : 0 ≤ left) (h1 : left ≤ 1048576) : Ev (fun k => laws_szIntSS.f k l left) (szOf left (l.length + (l.map List.length).sum)) := by
 obtain ⟨hl, hb⟩ := hb
 unfold laws_szIntSS.f
 rw [w64 (by omega) (by omega)]
 by_cases hn : left - (l.length : Int) < 0
 ·refine Ev.ite_pos hn (Ev.some ?_)
  unfold szOf
  rw [if_neg (by omega)]
 ·refine Ev.ite_neg hn ?_
  have hs0 : sumTo List.length l 0 = 0 := by simp [sumTo]
  have e0 : left - (l.length : Int) = left - (l.length : Int) - (sumTo List.length l 0 : Nat) := by rw [hs0]; omega
  rw [e0]
  refine Ev.upIf (n := l.length) (fun i => (l.length : Int) + (sumTo List.length l i : Nat) ≤ left) (g := fun i k => laws_szIntSS.l0 k l (left - (l.length : Int) - (sumTo List.length l i : Nat)) (i : Int)) ?_ ?_ (by rw [hs0]; omega)
  ·intro i hi hp ih
   have hm := hb _ (getD_mem hi [])
   have hS := sumTo_succ List.length hi []
   have hA := sumTo_le List.length l (i + 1)
   refine Ev.step (fun k => by rw [laws_szIntSS.l0]) ?_
   repeat (first | (with_reducible refine Ev.ite_pos (by omega) ?_) | (with_reducible refine Ev.ite_neg (by omega) ?_))
   refine Ev.bind0 (sz_IntS (l.getD i []) _ hm (by omega) (by omega)) ?_
   by_cases hc : (l.length : Int) + (sumTo List.length l (i + 1) : Nat) ≤ left
   ·have e1 : szOf (left - (l.length : Int) - (sumTo List.length l i : Nat)) (List.length (l.getD i [])) = left - (l.length : Int) - (sumTo List.length l (i + 1) : Nat) := by
     unfold szOf
     rw [if_pos (by omega)]
     omega
    rw [e1, w64n (by omega)]
    exact Ev.ite_neg (by omega) (ih hc)
   ·have e1 : szOf (left - (l.length : Int) - (sumTo List.length l i : Nat)) (List.length (l.getD i [])) = -1 := by
     unfold szOf
     rw [if_neg (by omega)]
    rw [e1]
    refine Ev.ite_pos (by omega) (Ev.some ?_)
    unfold szOf
    rw [if_neg]
    have : sumTo List.length l l.length = (l.map List.length).sum := sumTo_all _ _
    have hA2 := sumTo_le List.length l (i + 1)
    omega
  ·intro hp
   refine Ev.step (fun k => by rw [laws_szIntSS.l0]) ?_
   repeat (first | (with_reducible refine Ev.ite_pos (by omega) ?_) | (with_reducible refine Ev.ite_neg (by omega) ?_))
   refine Ev.some ?_
   rw [sumTo_all] at hp ⊢
   unfold szOf
   rw [if_pos (by omega)]
   omega
theorem sz_Program (a0 : Int) (a1 : Int) (a2 : Int) (a3 : (List S97)) (left : Int) (hba3 : a3.length ≤ 140737488351232 ∧ (∀ y ∈ a3, b97 y)) (h0 : 0 ≤ left) (h1 : left ≤ 1048576) : Ev (fun k => laws_szProgram.f k a0 a1 a2 a3 left) (szOf left ((a3.length + (a3.map n97).sum))) := by
 unfold laws_szProgram.f
 refine Ev.bind (sz_PieceS a3 left hba3 (by omega) (by omega)) ?_
 by_cases hc0 : (((a3.length + (a3.map n97).sum) : Nat) : Int) ≤ left
 ·have e0 : szOf left ((a3.length + (a3.map n97).sum)) = left - (((a3.length + (a3.map n97).sum) : Nat) : Int) := by
   unfold szOf
   rw [if_pos (by omega)]
  rw [e0]
  exact Ev.ite_neg (by omega) (Ev.now _)
 ·have e0 : szOf left ((a3.length + (a3.map n97).sum)) = -1 := by
   unfold szOf
   rw [if_neg (by omega)]
  rw [e0]
  exact Ev.ite_pos (by omega) (Ev.now _)
theorem to_Link (x : S161) : laws_toLink.f (x.f0) (x.f1) = some (x.f0, x.f1) := by
 unfold laws_toLink.f
 rfl
theorem to_LinkS (l : List S161) (hn : l.length ≤ 1048576) : Ev (fun k => laws_toLinkS.f k l) (l.map cLink) := by
 unfold laws_toLinkS.f
 repeat (first | (with_reducible refine Ev.ite_pos (by omega) ?_) | (with_reducible refine Ev.ite_neg (by omega) ?_))
 rw [Int.toNat_natCast, ← fillTo_zero cLink z90 l]
 refine Ev.up (n := l.length) (g := fun i k => laws_toLinkS.l0 k l (fillTo cLink z90 l i) (i : Int)) ?_ ?_
 ·intro i hi ih
  have hlen := fillTo_length cLink z90 l (Nat.le_of_lt hi)
  rw [← fillTo_set cLink z90 l hi z161] at ih
  refine Ev.step (fun k => by rw [laws_toLinkS.l0]) ?_
  repeat (first | (with_reducible refine Ev.ite_pos (by omega) ?_) | (with_reducible refine Ev.ite_neg (by omega) ?_))
  refine Ev.bind0 (to_Link (l.getD i z161)) ?_
  repeat (first | (with_reducible refine Ev.ite_pos (by omega) ?_) | (with_reducible refine Ev.ite_neg (by omega) ?_))
  rw [Int.toNat_natCast, w64n (by omega)]
  exact ih
 ·refine Ev.step (fun k => by rw [laws_toLinkS.l0]) ?_
  repeat (first | (with_reducible refine Ev.ite_pos (by omega) ?_) | (with_reducible refine Ev.ite_neg (by omega) ?_))
  refine Ev.some ?_
  rw [fillTo_all]
theorem to_IntS (l : List Int) (hn : l.length ≤ 1048576) : Ev (fun k => laws_toIntS.f k l) l := by
 unfold laws_toIntS.f
 repeat (first | (with_reducible refine Ev.ite_pos (by omega) ?_) | (with_reducible refine Ev.ite_neg (by omega) ?_))
 rw [Int.toNat_natCast, ← fillTo_zero (fun x => x) 0 l]
 refine Ev.up (n := l.length) (g := fun i k => laws_toIntS.l0 k l (fillTo (fun x => x) 0 l i) (i : Int)) ?_ ?_
 ·intro i hi ih
  have hlen := fillTo_length (fun x => x) 0 l (Nat.le_of_lt hi)
  rw [← fillTo_set (fun x => x) 0 l hi 0] at ih
  refine Ev.step (fun k => by rw [laws_toIntS.l0]) ?_
  repeat (first | (with_reducible refine Ev.ite_pos (by omega) ?_) | (with_reducible refine Ev.ite_neg (by omega) ?_))
  rw [Int.toNat_natCast, w64n (by omega)]
  exact ih
 ·refine Ev.step (fun k => by rw [laws_toIntS.l0]) ?_
  repeat (first | (with_reducible refine Ev.ite_pos (by omega) ?_) | (with_reducible refine Ev.ite_neg (by omega) ?_))
  refine Ev.some ?_
  rw [fillTo_all]
  simp
theorem to_Table (x : S159) (hn : n159 x ≤ 1048576) : Ev (fun k => laws_toTable.f k (x.f0) (x.f1) (x.f2)) (x.f0, x.f1, x.f2) := by
 unfold n159 at hn
 unfold laws_toTable.f
 refine Ev.bind (to_IntS (x.f1) (by omega)) ?_
 refine Ev.bind (to_IntS (x.f2) (by omega)) ?_
 exact Ev.now _
theorem to_TableS (l : List S159) (hn : (l.length + (l.map n159).sum) ≤ 1048576) : Ev (fun k => laws_toTableS.f k l) (l.map cTable) := by
 unfold laws_toTableS.f
 repeat (first | (with_reducible refine Ev.ite_pos (by omega) ?_) | (with_reducible refine Ev.ite_neg (by omega) ?_))
 rw [Int.toNat_natCast, ← fillTo_zero cTable z50 l]
 refine Ev.up (n := l.length) (g := fun i k => laws_toTableS.l0 k l (fillTo cTable z50 l i) (i : Int)) ?_ ?_
 ·intro i hi ih
  have hlen := fillTo_length cTable z50 l (Nat.le_of_lt hi)
  rw [← fillTo_set cTable z50 l hi z159] at ih
  refine Ev.step (fun k => by rw [laws_toTableS.l0]) ?_
  repeat (first | (with_reducible refine Ev.ite_pos (by omega) ?_) | (with_reducible refine Ev.ite_neg (by omega) ?_))
  have hm := le_sum n159 (getD_mem hi z159)
  refine Ev.bind (to_Table (l.getD i z159) (by omega)) ?_
  repeat (first | (with_reducible refine Ev.ite_pos (by omega) ?_) | (with_reducible refine Ev.ite_neg (by omega) ?_))
  rw [Int.toNat_natCast, w64n (by omega)]
  exact ih
 ·refine Ev.step (fun k => by rw [laws_toTableS.l0]) ?_
  repeat (first | (with_reducible refine Ev.ite_pos (by omega) ?_) | (with_reducible refine Ev.ite_neg (by omega) ?_))
  refine Ev.some ?_
  rw [fillTo_all]
theorem to_Span (x : S93) : laws_toSpan.f (x.f0) (x.f1) = some (x.f0, x.f1) := by
 unfold laws_toSpan.f
 rfl
theorem to_Piece (x : S97) (hn : n97 x ≤ 1048576) : Ev (fun k => laws_toPiece.f k (x.f0.f0) (x.f0.f1) (x.f1) (x.f2)) (x.f0.f0, x.f0.f1, (x.f1.map cLink), (x.f2.map cTable)) := by
 unfold n97 at hn
 unfold laws_toPiece.f
 refine Ev.bind0 (to_Span (x.f0)) ?_
 refine Ev.bind (to_LinkS (x.f1) (by omega)) ?_
 refine Ev.bind (to_TableS (x.f2) (by omega)) ?_
 exact Ev.now _
theorem to_PieceS (l : List S97) (hn : (l.length + (l.map n97).sum) ≤ 1048576) : Ev (fun k => laws_toPieceS.f k l) (l.map cPiece) := by
 unfold laws_toPieceS.f
 repeat (first | (with_reducible refine Ev.ite_pos (by omega) ?_) | (with_reducible refine Ev.ite_neg (by omega) ?_))
 rw [Int.toNat_natCast, ← fillTo_zero cPiece z76 l]
 refine Ev.up (n := l.length) (g := fun i k => laws_toPieceS.l0 k l (fillTo cPiece z76 l i) (i : Int)) ?_ ?_
 ·intro i hi ih
  have hlen := fillTo_length cPiece z76 l (Nat.le_of_lt hi)
  rw [← fillTo_set cPiece z76 l hi z97] at ih
  refine Ev.step (fun k => by rw [laws_toPieceS.l0]) ?_
  repeat (first | (with_reducible refine Ev.ite_pos (by omega) ?_) | (with_reducible refine Ev.ite_neg (by omega) ?_))
  have hm := le_sum n97 (getD_mem hi z97)
  refine Ev.bind (to_Piece (l.getD i z97) (by omega)) ?_
  repeat (first | (with_reducible refine Ev.ite_pos (by omega) ?_) | (with_reducible refine Ev.ite_neg (by omega) ?_))
  rw [Int.toNat_natCast, w64n (by omega)]
  exact ih
 ·refine Ev.step (fun k => by rw [laws_toPieceS.l0]) ?_
  repeat (first | (with_reducible refine Ev.ite_pos (by omega) ?_) | (with_reducible refine Ev.ite_neg (by omega) ?_))
  refine Ev.some ?_
  rw [fillTo_all]
theorem to_IntSS (l : List (List Int)) (hn : (l.length + (l.map List.length).sum) ≤ 1048576) : Ev (fun k => laws_toIntSS.f k l) l := by
 unfold laws_toIntSS.f
 repeat (first | (with_reducible refine Ev.ite_pos (by omega) ?_) | (with_reducible refine Ev.ite_neg (by omega) ?_))
 rw [Int.toNat_natCast, ← fillTo_zero (fun x => x) [] l]
 refine Ev.up (n := l.length) (g := fun i k => laws_toIntSS.l0 k l (fillTo (fun x => x) [] l i) (i : Int)) ?_ ?_
 ·intro i hi ih
  have hlen := fillTo_length (fun x => x) [] l (Nat.le_of_lt hi)
  rw [← fillTo_set (fun x => x) [] l hi []] at ih
  refine Ev.step (fun k => by rw [laws_toIntSS.l0]) ?_
  repeat (first | (with_reducible refine Ev.ite_pos (by omega) ?_) | (with_reducible refine Ev.ite_neg (by omega) ?_))
  have hm := le_sum List.length (getD_mem hi [])
  refine Ev.bind (to_IntS (l.getD i []) (by omega)) ?_
  repeat (first | (with_reducible refine Ev.ite_pos (by omega) ?_) | (with_reducible refine Ev.ite_neg (by omega) ?_))
  rw [Int.toNat_natCast, w64n (by omega)]
  exact ih
 ·refine Ev.step (fun k => by rw [laws_toIntSS.l0]) ?_
  repeat (first | (with_reducible refine Ev.ite_pos (by omega) ?_) | (with_reducible refine Ev.ite_neg (by omega) ?_))
  refine Ev.some ?_
  rw [fillTo_all]
  simp
theorem to_Program (a0 : Int) (a1 : Int) (a2 : Int) (a3 : (List S97)) (hn : (a3.length + (a3.map n97).sum) ≤ 1048576) : Ev (fun k => laws_toProgram.f k a0 a1 a2 a3) (a0, a1, a2, (a3.map cPiece)) := by
 unfold laws_toProgram.f
 refine Ev.bind (to_PieceS (a3) (by omega)) ?_
 exact Ev.now _
theorem eq_IntS (l : List Int) (hn : l.length ≤ 2097152) : Ev (fun k => laws_eqIntS.f k l l) true := by
 unfold laws_eqIntS.f
 refine Ev.ite_pos rfl ?_
 refine Ev.up (n := l.length) (g := fun i k => laws_eqIntS.l0 k l l (i : Int)) ?_ ?_
 ·intro i hi ih
  refine Ev.step (fun k => by rw [laws_eqIntS.l0]) ?_
  repeat (first | (with_reducible refine Ev.ite_pos (by omega) ?_) | (with_reducible refine Ev.ite_neg (by omega) ?_))
  rw [w64n (by omega)]
  exact ih
 ·refine Ev.step (fun k => by rw [laws_eqIntS.l0]) ?_
  repeat (first | (with_reducible refine Ev.ite_pos (by omega) ?_) | (with_reducible refine Ev.ite_neg (by omega) ?_))
  exact Ev.now _
theorem eq_IntSS (l : List (List Int)) (hn : (l.length + (l.map List.length).sum) ≤ 1048576) : Ev (fun k => laws_eqIntSS.f k l l) true := by
 unfold laws_eqIntSS.f
 refine Ev.ite_pos rfl ?_
 refine Ev.up (n := l.length) (g := fun i k => laws_eqIntSS.l0 k l l (i : Int)) ?_ ?_
 ·intro i hi ih
  refine Ev.step (fun k => by rw [laws_eqIntSS.l0]) ?_
  repeat (first | (with_reducible refine Ev.ite_pos (by omega) ?_) | (with_reducible refine Ev.ite_neg (by omega) ?_))
  have hm := le_sum List.length (getD_mem hi [])
  refine Ev.bind (eq_IntS (l.getD i []) (by omega)) ?_
  refine Ev.ite_pos rfl ?_
  rw [w64n (by omega)]
  exact ih
 ·refine Ev.step (fun k => by rw [laws_eqIntSS.l0]) ?_
  repeat (first | (with_reducible refine Ev.ite_pos (by omega) ?_) | (with_reducible refine Ev.ite_neg (by omega) ?_))
  exact Ev.now _
theorem eq_Span (x : S73) : laws_eqSpan.f (x.f0) (x.f1) (x.f0) (x.f1) = some true := by
 unfold laws_eqSpan.f
 simp
theorem eq_Link (x : S90) : laws_eqLink.f (x.f0) (x.f1) (x.f0) (x.f1) = some true := by
 unfold laws_eqLink.f
 simp
theorem eq_LinkS (l : List S90) (hn : l.length ≤ 1048576) : Ev (fun k => laws_eqLinkS.f k l l) true := by
 unfold laws_eqLinkS.f
 refine Ev.ite_pos rfl ?_
 refine Ev.up (n := l.length) (g := fun i k => laws_eqLinkS.l0 k l l (i : Int)) ?_ ?_
 ·intro i hi ih
  refine Ev.step (fun k => by rw [laws_eqLinkS.l0]) ?_
  repeat (first | (with_reducible refine Ev.ite_pos (by omega) ?_) | (with_reducible refine Ev.ite_neg (by omega) ?_))
  refine Ev.bind0 (eq_Link (l.getD i z90)) ?_
  refine Ev.ite_pos rfl ?_
  rw [w64n (by omega)]
  exact ih
 ·refine Ev.step (fun k => by rw [laws_eqLinkS.l0]) ?_
  repeat (first | (with_reducible refine Ev.ite_pos (by omega) ?_) | (with_reducible refine Ev.ite_neg (by omega) ?_))
  exact Ev.now _
theorem eq_Table (x : S50) (hn : n50 x ≤ 1048576) : Ev (fun k => laws_eqTable.f k (x.f0) (x.f1) (x.f2) (x.f0) (x.f1) (x.f2)) true := by
 unfold n50 at hn
 unfold laws_eqTable.f
 refine Ev.ite_pos rfl ?_
 refine Ev.bind (eq_IntS (x.f1) (by omega)) ?_
 refine Ev.ite_pos rfl ?_
 refine Ev.bind (eq_IntS (x.f2) (by omega)) ?_
 refine Ev.ite_pos rfl ?_
 exact Ev.now _
theorem eq_TableS (l : List S50) (hn : (l.length + (l.map n50).sum) ≤ 1048576) : Ev (fun k => laws_eqTableS.f k l l) true := by
 unfold laws_eqTableS.f
 refine Ev.ite_pos rfl ?_
 refine Ev.up (n := l.length) (g := fun i k => laws_eqTableS.l0 k l l (i : Int)) ?_ ?_
 ·intro i hi ih
  refine Ev.step (fun k => by rw [laws_eqTableS.l0]) ?_
  repeat (first | (with_reducible refine Ev.ite_pos (by omega) ?_) | (with_reducible refine Ev.ite_neg (by omega) ?_))
  have hm := le_sum n50 (getD_mem hi z50)
  refine Ev.bind (eq_Table (l.getD i z50) (by omega)) ?_
  refine Ev.ite_pos rfl ?_
  rw [w64n (by omega)]
  exact ih
 ·refine Ev.step (fun k => by rw [laws_eqTableS.l0]) ?_
  repeat (first | (with_reducible refine Ev.ite_pos (by omega) ?_) | (with_reducible refine Ev.ite_neg (by omega) ?_))
  exact Ev.now _
theorem eq_Piece (x : S76) (hn : n76 x ≤ 1048576) : Ev (fun k => laws_eqPiece.f k (x.f0.f0) (x.f0.f1) (x.f1) (x.f2) (x.f0.f0) (x.f0.f1) (x.f1) (x.f2)) true := by
 unfold n76 at hn
 unfold laws_eqPiece.f
 refine Ev.bind0 (eq_Span (x.f0)) ?_
 refine Ev.ite_pos rfl ?_
 refine Ev.bind (eq_LinkS (x.f1) (by omega)) ?_
 refine Ev.ite_pos rfl ?_
 refine Ev.bind (eq_TableS (x.f2) (by omega)) ?_
 refine Ev.ite_pos rfl ?_
 exact Ev.now _
theorem eq_PieceS (l : List S76) (hn : (l.length + (l.map n76).sum) ≤ 1048576) : Ev (fun k => laws_eqPieceS.f k l l) true := by
 unfold laws_eqPieceS.f
 refine Ev.ite_pos rfl ?_
 refine Ev.up (n := l.length) (g := fun i k => laws_eqPieceS.l0 k l l (i : Int)) ?_ ?_
 ·intro i hi ih
  refine Ev.step (fun k => by rw [laws_eqPieceS.l0]) ?_
  repeat (first | (with_reducible refine Ev.ite_pos (by omega) ?_) | (with_reducible refine Ev.ite_neg (by omega) ?_))
  have hm := le_sum n76 (getD_mem hi z76)
  refine Ev.bind (eq_Piece (l.getD i z76) (by omega)) ?_
  refine Ev.ite_pos rfl ?_
  rw [w64n (by omega)]
  exact ih
 ·refine Ev.step (fun k => by rw [laws_eqPieceS.l0]) ?_
  repeat (first | (with_reducible refine Ev.ite_pos (by omega) ?_) | (with_reducible refine Ev.ite_neg (by omega) ?_))
  exact Ev.now _
theorem eq_Program (a0 : Int) (a1 : Int) (a2 : Int) (a3 : (List S76)) (hn : (a3.length + (a3.map n76).sum) ≤ 1048576) : Ev (fun k => laws_eqProgram.f k a0 a1 a2 a3 a0 a1 a2 a3) true := by
 unfold laws_eqProgram.f
 refine Ev.ite_pos rfl ?_
 refine Ev.ite_pos rfl ?_
 refine Ev.ite_pos rfl ?_
 refine Ev.bind (eq_PieceS a3 (by omega)) ?_
 refine Ev.ite_pos rfl ?_
 exact Ev.now _
def cntInt (a : Int) (n : Nat) : List Int := (List.range n).map fun j : Nat => a + (j : Int)
theorem mark_IntS (l : List Int) (a : Int) (h0 : 0 ≤ a) (h1 : a ≤ 1000000000) (hl : l.length ≤ 2097152) : Ev (fun k => laws_markIntS.f k l a) (a + (l.length : Int), cntInt a l.length) := by
 have e1 : cntInt a 0 ++ l.drop 0 = l := by simp [cntInt]
 have e2 : a + ((0 : Nat) : Int) = a := by omega
 show Ev (fun k => laws_markIntS.l0 k l a 0) _
 rw [show (fun k => laws_markIntS.l0 k l a 0) = (fun k => laws_markIntS.l0 k (cntInt a 0 ++ l.drop 0) (a + ((0 : Nat) : Int)) ((0 : Nat) : Int)) by rw [e1, e2]; rfl]
 refine Ev.up (n := l.length) (g := fun i k => laws_markIntS.l0 k (cntInt a i ++ l.drop i) (a + (i : Int)) (i : Int)) ?_ ?_
 ·intro i hi ih
  have hlen : (cntInt a i).length = i := by simp [cntInt]
  have hlen2 : (cntInt a i ++ l.drop i).length = l.length := by rw [List.length_append, hlen, List.length_drop]; omega
  refine Ev.step (fun k => by rw [laws_markIntS.l0]) ?_
  repeat (first | (with_reducible refine Ev.ite_pos (by omega) ?_) | (with_reducible refine Ev.ite_neg (by omega) ?_))
  rw [drop_getD hi 0]
  have w0 : wrap64 (a + (i : Int) + 1) = a + (i : Int) + 1 := w64 (by omega) (by omega)
  simp only [Int.toNat_natCast, set_mid _ _ _ _ hlen, w0, w64n (by omega : i ≤ 140737488351232)]
  have e3 : cntInt a (i + 1) ++ l.drop (i + 1) = cntInt a i ++ (a + (i : Int)) :: l.drop (i + 1) := by
   simp [cntInt, List.range_succ]
  have e4 : a + ((i + 1 : Nat) : Int) = a + (i : Int) + 1 := by omega
  rw [e3, e4] at ih
  exact ih
 ·have hlen2 : (cntInt a l.length ++ l.drop l.length).length = l.length := by simp [cntInt]
  refine Ev.step (fun k => by rw [laws_markIntS.l0]) ?_
  repeat (first | (with_reducible refine Ev.ite_pos (by omega) ?_) | (with_reducible refine Ev.ite_neg (by omega) ?_))
  refine Ev.some ?_
  simp
theorem held_IntS (n : Nat) (a : Int) (h0 : 0 ≤ a) (h1 : a ≤ 1000000000) (hl : n ≤ 2097152) : Ev (fun k => laws_heldIntS.f k (cntInt a n) a) (a + (n : Int)) := by
 have hlen : (cntInt a n).length = n := by simp [cntInt]
 have e2 : a + ((0 : Nat) : Int) = a := by omega
 show Ev (fun k => laws_heldIntS.l0 k (cntInt a n) a 0) _
 rw [show (fun k => laws_heldIntS.l0 k (cntInt a n) a 0) = (fun k => laws_heldIntS.l0 k (cntInt a n) (a + ((0 : Nat) : Int)) ((0 : Nat) : Int)) by rw [e2]; rfl]
 refine Ev.up (n := n) (g := fun i k => laws_heldIntS.l0 k (cntInt a n) (a + (i : Int)) (i : Int)) ?_ ?_
 ·intro i hi ih
  have hg : rd (cntInt a n) (i : Int) = a + (i : Int) := map_range_getD _ hi _
  refine Ev.step (fun k => by rw [laws_heldIntS.l0]) ?_
  repeat (first | (with_reducible refine Ev.ite_pos (by omega) ?_) | (with_reducible refine Ev.ite_neg (by omega) ?_))
  have w0 : wrap64 (a + (i : Int) + 1) = a + (i : Int) + 1 := w64 (by omega) (by omega)
  simp only [w0, w64n (by omega : i ≤ 140737488351232)]
  have e4 : a + ((i + 1 : Nat) : Int) = a + (i : Int) + 1 := by omega
  rw [e4] at ih
  exact ih
 ·refine Ev.step (fun k => by rw [laws_heldIntS.l0]) ?_
  repeat (first | (with_reducible refine Ev.ite_pos (by omega) ?_) | (with_reducible refine Ev.ite_neg (by omega) ?_))
  exact Ev.now _
end Go.Proofs.YthnlkgbhohchoaaGreat.fnExactRepairedAt
/- Bounds on programs that a law is handed. Conditions: none. -/
namespace Go.Proofs.YthnlkgbhohchoaaGreat.fnExactRepairedAt
open Go.RowKit Go.Proofs.YthnlkgbhohchoaaGreatW.PrintWords Go.Proofs.YthnlkgbhohchoaaGreatW.PrintMore Go.Proofs.YthnlkgbhohchoaaGreat.QFnExactRepairedAt Go.Proofs.YthnlkgbhohchoaaGreat.Open Go.Proofs.YthnlkgbhohchoaaGreat.Kit
theorem bTable {x : S159} (h : g159 x) : b159 x := ⟨Len.le h.2.1.1 (by omega), Len.le h.2.2.1 (by omega)⟩
theorem bPiece {x : S97} (h : g97 x) : b97 x := ⟨Len.le h.2.1.1 (by omega), Len.le h.2.2.1 (by omega), fun y hy => bTable (h.2.2.2 y hy)⟩
def nPg (l : List S97) : Nat := l.length + (l.map n97).sum
def nPgI (l : List S76) : Nat := l.length + (l.map n76).sum
theorem nPgI_c (l : List S97) : nPgI (l.map cPiece) = nPg l := by
 unfold nPgI nPg
 rw [List.length_map, List.map_map]
 congr 2
 exact List.map_congr_left fun x _ => n_cPiece x
end Go.Proofs.YthnlkgbhohchoaaGreat.fnExactRepairedAt
/- The pieces that lie in a span of ticks, in the program and in the reference. Conditions: none. -/
namespace Go.Proofs.YthnlkgbhohchoaaGreat.fnExactRepairedAt
open Go.RowKit Go.Proofs.YthnlkgbhohchoaaGreatW.PrintWords Go.Proofs.YthnlkgbhohchoaaGreatW.PrintMore Go.Proofs.YthnlkgbhohchoaaGreat.QFnExactRepairedAt Go.Proofs.YthnlkgbhohchoaaGreat.Open Go.Proofs.YthnlkgbhohchoaaGreat.Kit
def meets (u v : Int) (x : S76) : Bool := decide ((0 ≤ x.f0.f0 ∧ x.f0.f1 ≤ 1000 ∧ x.f0.f0 < x.f0.f1) ∧ u ≤ v ∧ x.f0.f0 ≤ v ∧ u < x.f0.f1)
def pcs (u v : Int) : List S76 → Nat → List Int
 | [], _ => []
 | x :: xs, i => if meets u v x = true then (i : Int) :: pcs u v xs (i + 1) else pcs u v xs (i + 1)
theorem pcs_len (u v : Int) : ∀ (l : List S76) (i : Nat), (pcs u v l i).length ≤ l.length
 | [], _ => Nat.le_refl _
 | x :: xs, i => by
  unfold pcs
  have := pcs_len u v xs (i + 1)
  split <;> simp only [List.length_cons] <;> omega
theorem isSpan1 (a b : Int) : spec_IsSpan.f a b = some (decide (0 ≤ a ∧ b ≤ 1000 ∧ a < b)) := by
 unfold spec_IsSpan.f
 by_cases h1 : 0 ≤ a <;> by_cases h2 : b ≤ 1000 <;> simp [h1, h2]
theorem isSpan2 (a b : Int) : impl_IsSpan.f a b = some (decide (0 ≤ a ∧ b ≤ 1000 ∧ a < b)) := by
 unfold impl_IsSpan.f
 by_cases h1 : 0 ≤ a <;> by_cases h2 : b ≤ 1000 <;> simp [h1, h2]
theorem pcs1 (p : List S76) (hl : p.length ≤ 1048576) (n a s u v : Int) : Ev (fun k => spec_PiecesIn.f k n a s p u v) (pcs u v p 0) := by
 have key : ∀ (d i : Nat) (acc : List Int), i + d = p.length → acc.length ≤ i → Ev (fun k => spec_PiecesIn.l0 k u v acc (i : Int) n a s p) (acc ++ pcs u v (p.drop i) i) := by
  intro d
  induction d with
  | zero =>
   intro i acc hi ha
   refine Ev.step (fun k => by rw [spec_PiecesIn.l0]) ?_
   repeat (first | (with_reducible refine Ev.ite_pos (by omega) ?_) | (with_reducible refine Ev.ite_neg (by omega) ?_))
   refine Ev.some ?_
   rw [List.drop_of_length_le (by omega), pcs, List.append_nil]
  | succ d ih =>
   intro i acc hi ha
   have h0 := ih (i + 1) acc (by omega) (by omega)
   have h1 := ih (i + 1) (acc ++ [(i : Int)]) (by omega) (by simp; omega)
   rw [List.append_assoc] at h1
   refine Ev.step (fun k => by rw [spec_PiecesIn.l0]) ?_
   repeat (first | (with_reducible refine Ev.ite_pos (by omega) ?_) | (with_reducible refine Ev.ite_neg (by omega) ?_))
   rw [drop_getD (by omega : i < p.length) z76, show rd_T76 p (i : Int) = p.getD i z76 from rfl, w64n (by omega), pcs]
   generalize p.getD i z76 = x
   refine Ev.bind0 (isSpan1 x.f0.f0 x.f0.f1) ?_
   unfold meets
   by_cases c1 : 0 ≤ x.f0.f0 ∧ x.f0.f1 ≤ 1000 ∧ x.f0.f0 < x.f0.f1
   ·refine Ev.ite_pos (by simpa using c1) ?_
    by_cases c2 : u ≤ v
    ·refine Ev.ite_pos c2 ?_
     by_cases c3 : x.f0.f0 ≤ v
     ·refine Ev.ite_pos c3 ?_
      by_cases c4 : u < x.f0.f1
      ·refine Ev.ite_pos c4 ?_
       rw [if_pos (decide_eq_true ⟨c1, c2, c3, c4⟩)]
       refine Ev.ite_pos (by omega) ?_
       exact h1
      ·refine Ev.ite_neg c4 ?_
       rw [if_neg (fun h => c4 (of_decide_eq_true h).2.2.2)]
       exact h0
     ·refine Ev.ite_neg c3 ?_
      rw [if_neg (fun h => c3 (of_decide_eq_true h).2.2.1)]
      exact h0
    ·refine Ev.ite_neg c2 ?_
     rw [if_neg (fun h => c2 (of_decide_eq_true h).2.1)]
     exact h0
   ·refine Ev.ite_neg (by simpa using c1) ?_
    rw [if_neg (fun h => c1 (of_decide_eq_true h).1)]
    exact h0
 exact key p.length 0 [] (by omega) (by simp)
theorem pcs2 (p : List S76) (hl : p.length ≤ 1048576) (n a s u v : Int) : Ev (fun k => impl_PiecesIn.f k n a s p u v) (pcs u v p 0) := by
 have key : ∀ (d i : Nat) (acc : List Int), i + d = p.length → acc.length ≤ i → Ev (fun k => impl_PiecesIn.l0 k u v acc p (p.length : Int) (i : Int)) (acc ++ pcs u v (p.drop i) i) := by
  intro d
  induction d with
  | zero =>
   intro i acc hi ha
   refine Ev.step (fun k => by rw [impl_PiecesIn.l0]) ?_
   repeat (first | (with_reducible refine Ev.ite_pos (by omega) ?_) | (with_reducible refine Ev.ite_neg (by omega) ?_))
   refine Ev.some ?_
   rw [List.drop_of_length_le (by omega), pcs, List.append_nil]
  | succ d ih =>
   intro i acc hi ha
   have h0 := ih (i + 1) acc (by omega) (by omega)
   have h1 := ih (i + 1) (acc ++ [(i : Int)]) (by omega) (by simp; omega)
   rw [List.append_assoc] at h1
   refine Ev.step (fun k => by rw [impl_PiecesIn.l0]) ?_
   repeat (first | (with_reducible refine Ev.ite_pos (by omega) ?_) | (with_reducible refine Ev.ite_neg (by omega) ?_))
   rw [drop_getD (by omega : i < p.length) z76, show rd_T76 p (i : Int) = p.getD i z76 from rfl, w64n (by omega), pcs]
   generalize p.getD i z76 = x
   refine Ev.bind0 (isSpan2 x.f0.f0 x.f0.f1) ?_
   unfold meets
   by_cases c1 : 0 ≤ x.f0.f0 ∧ x.f0.f1 ≤ 1000 ∧ x.f0.f0 < x.f0.f1
   ·refine Ev.ite_pos (by simpa using c1) ?_
    by_cases c2 : u ≤ v
    ·refine Ev.ite_pos c2 ?_
     by_cases c3 : x.f0.f0 ≤ v
     ·refine Ev.ite_pos c3 ?_
      by_cases c4 : u < x.f0.f1
      ·refine Ev.ite_pos c4 ?_
       rw [if_pos (decide_eq_true ⟨c1, c2, c3, c4⟩)]
       refine Ev.ite_pos (by omega) ?_
       exact h1
      ·refine Ev.ite_neg c4 ?_
       rw [if_neg (fun h => c4 (of_decide_eq_true h).2.2.2)]
       exact h0
     ·refine Ev.ite_neg c3 ?_
      rw [if_neg (fun h => c3 (of_decide_eq_true h).2.2.1)]
      exact h0
    ·refine Ev.ite_neg c2 ?_
     rw [if_neg (fun h => c2 (of_decide_eq_true h).2.1)]
     exact h0
   ·refine Ev.ite_neg (by simpa using c1) ?_
    rw [if_neg (fun h => c1 (of_decide_eq_true h).1)]
    exact h0
 exact key p.length 0 [] (by omega) (by simp)
end Go.Proofs.YthnlkgbhohchoaaGreat.fnExactRepairedAt
/- The table of a piece, in the program and in the reference. Conditions: none. -/
namespace Go.Proofs.YthnlkgbhohchoaaGreat.fnExactRepairedAt
open Go.RowKit Go.Proofs.YthnlkgbhohchoaaGreatW.PrintWords Go.Proofs.YthnlkgbhohchoaaGreatW.PrintMore Go.Proofs.YthnlkgbhohchoaaGreat.QFnExactRepairedAt Go.Proofs.YthnlkgbhohchoaaGreat.Open Go.Proofs.YthnlkgbhohchoaaGreat.Kit
theorem in1 (a b c : Int) : spec_l1In.f a b c = some (decide (b ≤ a ∧ a ≤ c)) := by
 unfold spec_l1In.f
 by_cases h : b ≤ a <;> simp [h]
theorem isIx (i n : Int) : impl_isIndex.f i n = some (decide (0 ≤ i ∧ i < n)) := by
 unfold impl_isIndex.f
 by_cases h : 0 ≤ i <;> simp [h]
def okT (p : List S76) (k d : Int) : Prop := (0 ≤ k ∧ k < (p.length : Int)) ∧ (0 ≤ d ∧ d < ((rd_T76 p k).f2.length : Int))
instance (p : List S76) (k d : Int) : Decidable (okT p k d) := by unfold okT; infer_instance
def tab (p : List S76) (k d : Int) : S50 := rd_T50 (rd_T76 p k).f2 d
def tableIn (p : List S76) (k d : Int) : Int × List Int × List Int × Bool := if okT p k d then ((tab p k d).f0, (tab p k d).f1, (tab p k d).f2, true) else (0, [], [], false)
theorem tab_len {p : List S76} (hp : nPgI p ≤ 1048576) {k d : Int} (h : okT p k d) : (rd_T76 p k).f2.length ≤ 1048576 ∧ (tab p k d).f1.length ≤ 1048576 ∧ (tab p k d).f2.length ≤ 1048576 := by
 unfold okT at h
 have hm := le_sum n76 (getD_mem (show k.toNat < p.length by omega) z76)
 have hm2 := le_sum n50 (getD_mem (show d.toNat < (rd_T76 p k).f2.length by omega) z50)
 unfold nPgI at hp
 have e : rd_T76 p k = p.getD k.toNat z76 := rfl
 rw [← e] at hm
 have e2 : tab p k d = (rd_T76 p k).f2.getD d.toNat z50 := rfl
 rw [← e2] at hm2
 have h0 : n76 (rd_T76 p k) = (rd_T76 p k).f1.length + ((rd_T76 p k).f2.length + ((rd_T76 p k).f2.map n50).sum) := rfl
 have h3 : n50 (tab p k d) = (tab p k d).f1.length + (tab p k d).f2.length := rfl
 have h4 : (rd_T76 p k).f2.length ≤ p.length + (p.map n76).sum := by omega
 have h5 : ((rd_T76 p k).f2.map n50).sum ≤ p.length + (p.map n76).sum := by omega
 omega
theorem table1 (p : List S76) (hp : nPgI p ≤ 1048576) (n a s k d : Int) : spec_TableIn.f n a s p k d = some (tableIn p k d) := by
 have hl : p.length ≤ 1048576 := by unfold nPgI at hp; omega
 unfold spec_TableIn.f tableIn
 rw [in1, Option.bind_some, w64 (x := (p.length : Int) - 1) (by omega) (by omega)]
 by_cases h1 : 0 ≤ k ∧ k < (p.length : Int)
 ·rw [if_pos (decide_eq_true (show 0 ≤ k ∧ k ≤ (p.length : Int) - 1 by omega)), if_pos h1.1, if_pos h1.2]
  have hf : (rd_T76 p k).f2.length ≤ 1048576 := by
   have hm := le_sum n76 (getD_mem (show k.toNat < p.length by omega) z76)
   unfold nPgI at hp
   have e : rd_T76 p k = p.getD k.toNat z76 := rfl
   rw [← e] at hm
   have h0 : n76 (rd_T76 p k) = (rd_T76 p k).f1.length + ((rd_T76 p k).f2.length + ((rd_T76 p k).f2.map n50).sum) := rfl
   have h4 : (rd_T76 p k).f2.length ≤ p.length + (p.map n76).sum := by omega
   omega
  rw [in1, Option.bind_some, w64 (x := ((rd_T76 p k).f2.length : Int) - 1) (by omega) (by omega)]
  by_cases h2 : 0 ≤ d ∧ d < ((rd_T76 p k).f2.length : Int)
  ·have hok : okT p k d := ⟨h1, h2⟩
   have htl := tab_len hp hok
   rw [if_pos (decide_eq_true (show 0 ≤ d ∧ d ≤ ((rd_T76 p k).f2.length : Int) - 1 by omega)), if_pos h2.1, if_pos h2.2, if_pos hok]
   unfold spec_l15Copy.f
   have e2 : rd_T50 (rd_T76 p k).f2 d = tab p k d := rfl
   rw [e2, Option.bind_some, if_pos (by simp only [List.length_nil]; omega), Option.bind_some, if_pos (by simp only [List.length_nil]; omega)]
   rfl
  ·rw [if_neg (by simp; omega), if_neg (fun h : okT p k d => h2 h.2)]
 ·rw [if_neg (by simp; omega), if_neg (fun h : okT p k d => h1 h.1)]
theorem table2 (p : List S76) (hp : nPgI p ≤ 1048576) (n a s k d : Int) : impl_TableIn.f n a s p k d = some (tableIn p k d) := by
 unfold impl_TableIn.f tableIn
 rw [isIx, Option.bind_some]
 by_cases h1 : 0 ≤ k ∧ k < (p.length : Int)
 ·rw [if_pos (decide_eq_true h1), if_pos h1.1, if_pos h1.2, isIx, Option.bind_some]
  by_cases h2 : 0 ≤ d ∧ d < ((rd_T76 p k).f2.length : Int)
  ·have hok : okT p k d := ⟨h1, h2⟩
   have htl := tab_len hp hok
   rw [if_pos (decide_eq_true h2), if_pos h2.1, if_pos h2.2, if_pos hok]
   have e2 : rd_T50 (rd_T76 p k).f2 d = tab p k d := rfl
   unfold impl_cloneTable.f slices_Clone_int_int.f
   rw [e2, if_pos (by omega), Option.bind_some, if_pos (by omega), Option.bind_some]
   rfl
  ·rw [if_neg (by simpa using h2), if_neg (fun h : okT p k d => h2 h.2)]
 ·rw [if_neg (by simpa using h1), if_neg (fun h : okT p k d => h1 h.1)]
end Go.Proofs.YthnlkgbhohchoaaGreat.fnExactRepairedAt
/- Walks in a finite graph: a set of nodes each of which leads to one of the set holds a circle. Conditions: none. -/
namespace Go.Proofs.YthnlkgbhohchoaaGreat.Graph

def Walk (E : Int → Int → Prop) : Nat → Int → Int → Prop
 | 0, x, y => x = y
 | m + 1, x, y => ∃ z, E x z ∧ Walk E m z y

theorem Walk.append {E : Int → Int → Prop} : ∀ {a b : Nat} {x y z : Int}, Walk E a x y → Walk E b y z → Walk E (a + b) x z
 | 0, b, x, y, z, h, k => by
  cases h
  rw [Nat.zero_add]
  exact k
 | a + 1, b, x, y, z, h, k => by
  obtain ⟨u, hu, hw⟩ := h
  rw [Nat.add_right_comm]
  exact ⟨u, hu, hw.append k⟩
theorem Walk.one {E : Int → Int → Prop} {x y : Int} (h : E x y) : Walk E 1 x y := ⟨y, h, rfl⟩
theorem Walk.snoc {E : Int → Int → Prop} {m : Nat} {x y z : Int} (h : Walk E m x y) (k : E y z) : Walk E (m + 1) x z := h.append (Walk.one k)
def Cyc (E : Int → Int → Prop) : Prop := ∃ i m, 0 < m ∧ Walk E m i i

theorem nodup_le : ∀ (n : Nat) (l : List Int), l.Nodup → (∀ x ∈ l, 0 ≤ x ∧ x < n) → l.length ≤ n
 | 0, l, _, h => by
  cases l with
  | nil => simp
  | cons x xs =>
   have := h x List.mem_cons_self
   omega
 | n + 1, l, hd, h => by
  have h1 := nodup_le n (l.erase (n : Int)) (hd.erase _) (fun x hx => by
   have h2 := (List.Nodup.mem_erase_iff hd).1 hx
   have h3 := h x h2.2
   refine ⟨h3.1, ?_⟩
   have := h2.1
   omega)
  by_cases hm : (n : Int) ∈ l
  ·rw [List.length_erase_of_mem hm] at h1
   omega
  ·rw [List.erase_of_not_mem hm] at h1
   omega

theorem pigeon (n : Nat) (f : Nat → Int) (hf : ∀ i, 0 ≤ f i ∧ f i < n) : ∃ a b, a < b ∧ b ≤ n ∧ f a = f b := by
 refine Classical.byContradiction fun hno => ?_
 have hd : ((List.range (n + 1)).map f).Nodup := by
  unfold List.Nodup
  rw [List.pairwise_map]
  refine List.Pairwise.imp_of_mem ?_ (List.pairwise_lt_range)
  intro a b _ hb hab he
  have := List.mem_range.1 hb
  exact hno ⟨a, b, hab, by omega, he⟩
 have := nodup_le n _ hd (fun x hx => by
  obtain ⟨i, _, rfl⟩ := List.mem_map.1 hx
  exact hf i)
 simp at this
 omega

theorem walk_of_seq {E : Int → Int → Prop} (f : Nat → Int) (hf : ∀ i, E (f i) (f (i + 1))) (a : Nat) : ∀ d, Walk E d (f a) (f (a + d))
 | 0 => rfl
 | d + 1 => (walk_of_seq f hf a d).snoc (hf (a + d))

theorem cyc_of_closed {E : Int → Int → Prop} {n : Nat} (U : Int → Prop) (hU : ∀ x, U x → 0 ≤ x ∧ x < n) (hs : ∀ x, U x → ∃ y, E x y ∧ U y) (x0 : Int) (h0 : U x0) :
  ∃ i m, 0 < m ∧ m ≤ n ∧ U i ∧ Walk E m i i := by
 classical
 let nxt : { x // U x } → { x // U x } := fun x => ⟨Classical.choose (hs x.1 x.2), (Classical.choose_spec (hs x.1 x.2)).2⟩
 have hn : ∀ x, E x.1 (nxt x).1 := fun x => (Classical.choose_spec (hs x.1 x.2)).1
 let g : Nat → { x // U x } := fun k => Nat.rec ⟨x0, h0⟩ (fun _ y => nxt y) k
 have hg : ∀ k, E (g k).1 (g (k + 1)).1 := fun k => hn (g k)
 obtain ⟨a, b, hab, hb, he⟩ := pigeon n (fun k => (g k).1) (fun k => hU _ (g k).2)
 refine ⟨(g a).1, b - a, by omega, by omega, (g a).2, ?_⟩
 have hw := walk_of_seq (E := E) (fun k => (g k).1) hg a (b - a)
 rw [show a + (b - a) = b by omega] at hw
 rw [← he] at hw
 exact hw

def On (E : Int → Int → Prop) (i x : Int) : Prop := (∃ a, Walk E a i x) ∧ ∃ b, 0 < b ∧ Walk E b x i
theorem on_next {E : Int → Int → Prop} {i : Int} {k : Nat} (hk : 0 < k) (hw : Walk E k i i) {x : Int} (h : On E i x) : ∃ y, E x y ∧ On E i y := by
 obtain ⟨⟨a, ha⟩, b, hb, hx⟩ := h
 obtain ⟨b, rfl⟩ : ∃ c, b = c + 1 := ⟨b - 1, by omega⟩
 obtain ⟨y, hy, hw2⟩ := hx
 exact ⟨y, hy, ⟨a + 1, ha.snoc hy⟩, b + k, by omega, hw2.append hw⟩
theorem on_self {E : Int → Int → Prop} {i : Int} {k : Nat} (hk : 0 < k) (hw : Walk E k i i) : On E i i := ⟨⟨0, rfl⟩, k, hk, hw⟩

/-! ### tables as a graph -/
def EdgeIn (l : List (List Int)) (n : Nat) (x y : Int) : Prop := ∃ t ∈ l, 0 ≤ x ∧ x < t.length ∧ t.getD x.toNat 0 = y ∧ 0 ≤ y ∧ y < n
def ld (n : Nat) (g : List Bool) (x : Nat) (acc : Bool) (t : List Int) : Bool := acc || (decide (x < t.length) && decide (0 ≤ t.getD x 0 ∧ t.getD x 0 < n) && !(g.getD (t.getD x 0).toNat false))
def leads (l : List (List Int)) (n : Nat) (g : List Bool) (x : Nat) : Bool := l.foldl (ld n g x) false
def ps1 (l : List (List Int)) (n : Nat) (s : List Bool × Bool) (x : Nat) : List Bool × Bool := if s.1.getD x false = true then s else if leads l n s.1 x = true then s else (s.1.set x true, true)
theorem ps1_gone {l : List (List Int)} {n : Nat} {s : List Bool × Bool} {x : Nat} (h : s.1.getD x false = true) : ps1 l n s x = s := by
 unfold ps1
 rw [if_pos h]
theorem foldl_or {α : Type} (p : α → Bool) : ∀ (l : List α) (b : Bool), l.foldl (fun acc t => acc || p t) b = (b || l.any p)
 | [], b => by simp
 | x :: xs, b => by
  rw [List.foldl_cons, foldl_or p xs, List.any_cons, Bool.or_assoc]
theorem leads_iff (l : List (List Int)) (n : Nat) (g : List Bool) (x : Nat) : leads l n g x = true ↔ ∃ y, EdgeIn l n (x : Int) y ∧ g.getD y.toNat false = false := by
 have e : leads l n g x = l.any (fun t => decide (x < t.length) && decide (0 ≤ t.getD x 0 ∧ t.getD x 0 < n) && !(g.getD (t.getD x 0).toNat false)) := by
  unfold leads ld
  rw [foldl_or, Bool.false_or]
 rw [e, List.any_eq_true]
 constructor
 ·rintro ⟨t, ht, h⟩
  simp only [Bool.and_eq_true, decide_eq_true_eq, Bool.not_eq_true'] at h
  exact ⟨t.getD x 0, ⟨t, ht, by omega, by omega, rfl, h.1.2.1, h.1.2.2⟩, h.2⟩
 ·rintro ⟨y, ⟨t, ht, _, h1, h2, h3, h4⟩, h5⟩
  refine ⟨t, ht, ?_⟩
  simp only [Int.toNat_natCast] at h2
  subst h2
  simp only [Bool.and_eq_true, decide_eq_true_eq, Bool.not_eq_true']
  exact ⟨⟨by omega, h3, h4⟩, h5⟩
def Keeps (l : List (List Int)) (n : Nat) (g : List Bool) : Prop := ∀ (i : Int) (k : Nat), 0 < k → Walk (EdgeIn l n) k i i → ∀ x : Nat, On (EdgeIn l n) i (x : Int) → g.getD x false = false
theorem getD_set_ne {g : List Bool} {x y : Nat} (h : x ≠ y) : (g.set x true).getD y false = g.getD y false := by
 simp [List.getD, List.getElem?_set_ne h]
theorem count_set {g : List Bool} {x : Nat} (h : x < g.length) (hx : g.getD x false = false) : (g.set x true).count false < g.count false := by
 induction g generalizing x with
 | nil => simp at h
 | cons b bs ih =>
  cases x with
  | zero =>
   simp at hx
   subst hx
   simp
  | succ x =>
   have := ih (x := x) (by simpa using h) (by simpa using hx)
   simp only [List.set_cons_succ, List.count_cons]
   omega
structure PassOk (l : List (List Int)) (n : Nat) (g : List Bool) (i : Nat) (s : List Bool × Bool) : Prop where
 len : s.1.length = n
 keeps : Keeps l n g → Keeps l n s.1
 same : s.2 = false → s.1 = g ∧ ∀ x, x < i → g.getD x false = false → leads l n g x = true
 less : s.2 = true → s.1.count false < g.count false
 le : s.1.count false ≤ g.count false
theorem pass_step {l : List (List Int)} {n : Nat} {g : List Bool} {i : Nat} {s : List Bool × Bool} (hi : i < n) (h : PassOk l n g i s) : PassOk l n g (i + 1) (ps1 l n s i) := by
 unfold ps1
 by_cases h1 : s.1.getD i false = true
 ·rw [if_pos h1]
  refine ⟨h.len, h.keeps, fun hs => ⟨(h.same hs).1, fun x hx hg => ?_⟩, h.less, h.le⟩
  rcases Nat.lt_succ_iff_lt_or_eq.1 hx with hx | rfl
  ·exact (h.same hs).2 x hx hg
  ·rw [(h.same hs).1, hg] at h1
   cases h1
 ·rw [if_neg h1]
  have h1' : s.1.getD i false = false := by simpa using h1
  by_cases h2 : leads l n s.1 i = true
  ·rw [if_pos h2]
   refine ⟨h.len, h.keeps, fun hs => ⟨(h.same hs).1, fun x hx hg => ?_⟩, h.less, h.le⟩
   rcases Nat.lt_succ_iff_lt_or_eq.1 hx with hx | rfl
   ·exact (h.same hs).2 x hx hg
   ·rw [(h.same hs).1] at h2
    exact h2
  ·rw [if_neg h2]
   have hc := count_set (g := s.1) (x := i) (by rw [h.len]; exact hi) h1'
   have hle := h.le
   refine ⟨by rw [List.length_set]; exact h.len, fun hk j k hk0 hw x hx => ?_, fun hs => (by cases hs), fun _ => by show (s.1.set i true).count false < _; omega, by show (s.1.set i true).count false ≤ _; omega⟩
   have hkx := h.keeps hk j k hk0 hw x hx
   by_cases e : i = x
   ·subst e
    exfalso
    apply h2
    rw [leads_iff]
    obtain ⟨y, hy, hon⟩ := on_next hk0 hw hx
    refine ⟨y, hy, ?_⟩
    have hy0 : 0 ≤ y := by obtain ⟨t, _, _, _, _, h3, _⟩ := hy; exact h3
    obtain ⟨m, rfl⟩ := Int.eq_ofNat_of_zero_le hy0
    exact h.keeps hk j k hk0 hw m hon
   ·show (s.1.set i true).getD x false = false
    rw [getD_set_ne e]
    exact hkx
open Go.Proofs.YthnlkgbhohchoaaGreat.Kit in
theorem pass_ok {l : List (List Int)} {n : Nat} {g : List Bool} (hg : g.length = n) : ∀ i, i ≤ n → PassOk l n g i (foldTo (ps1 l n) (g, false) (List.range n) i) := by
 intro i
 induction i with
 | zero =>
  intro _
  rw [foldTo_zero]
  exact ⟨hg, fun h => h, fun _ => ⟨rfl, fun x hx => (by omega)⟩, fun h => (by cases h), Nat.le_refl _⟩
 | succ i ih =>
  intro hi
  rw [foldTo_succ (ps1 l n) (g, false) (by rw [List.length_range]; omega) 0]
  have e : (List.range n).getD i 0 = i := by
   rw [getD_at (by rw [List.length_range]; omega)]
   simp
  rw [e]
  exact pass_step (by omega) (ih (by omega))
theorem left_iff {l : List (List Int)} {n : Nat} {g : List Bool} (hl : ∀ t ∈ l, t.length ≤ n) (hk : Keeps l n g) (hlead : ∀ x, x < n → g.getD x false = false → leads l n g x = true) : (∃ x, x < n ∧ g.getD x false = false) ↔ Cyc (EdgeIn l n) := by
 constructor
 ·rintro ⟨x, hx, hg⟩
  obtain ⟨i, m, hm, _, _, hw⟩ := cyc_of_closed (E := EdgeIn l n) (n := n) (fun z => 0 ≤ z ∧ z < n ∧ g.getD z.toNat false = false) (fun z hz => ⟨hz.1, hz.2.1⟩) (fun z hz => by
   obtain ⟨m, rfl⟩ := Int.eq_ofNat_of_zero_le hz.1
   obtain ⟨y, hy, hgy⟩ := (leads_iff l n g m).1 (hlead m (by omega) (by simpa using hz.2.2))
   refine ⟨y, hy, ?_⟩
   obtain ⟨t, _, _, _, _, h3, h4⟩ := hy
   exact ⟨h3, h4, hgy⟩) (x : Int) ⟨by omega, by omega, by simpa using hg⟩
  exact ⟨i, m, hm, hw⟩
 ·rintro ⟨i, m, hm, hw⟩
  have hon := on_self hm hw
  obtain ⟨y, hy, _⟩ := on_next hm hw hon
  obtain ⟨t, ht, h0, h1, _⟩ := hy
  obtain ⟨x, rfl⟩ := Int.eq_ofNat_of_zero_le h0
  have := hl t ht
  exact ⟨x, by omega, hk _ m hm hw x hon⟩

/-! ### the reference's search -/
def stp (n x : Nat) (acc : List Int) (t : List Int) : List Int := if x < t.length ∧ (0 ≤ t.getD x 0 ∧ t.getD x 0 < n) ∧ t.getD x 0 ∉ acc then acc ++ [t.getD x 0] else acc
def steps (l : List (List Int)) (n x : Nat) : List Int := l.foldl (stp n x) []
def Few (n : Nat) (l : List Int) : Prop := l.Nodup ∧ ∀ y ∈ l, 0 ≤ y ∧ y < n
theorem Few.le {n : Nat} {l : List Int} (h : Few n l) : l.length ≤ n := nodup_le n l h.1 h.2
theorem Few.nil (n : Nat) : Few n [] := ⟨List.nodup_nil, by simp⟩
theorem Few.snoc {n : Nat} {l : List Int} {y : Int} (h : Few n l) (hy : 0 ≤ y ∧ y < n) (hn : y ∉ l) : Few n (l ++ [y]) := by
 refine ⟨?_, fun z hz => ?_⟩
 ·rw [List.nodup_append]
  exact ⟨h.1, by simp, fun a ha b hb => by
   rw [List.mem_singleton.1 hb]
   rintro rfl
   exact hn ha⟩
 ·rcases List.mem_append.1 hz with hz | hz
  ·exact h.2 z hz
  ·rw [List.mem_singleton.1 hz]
   exact hy
theorem stp_few {n x : Nat} {acc t : List Int} (h : Few n acc) : Few n (stp n x acc t) := by
 unfold stp
 by_cases hc : x < t.length ∧ (0 ≤ t.getD x 0 ∧ t.getD x 0 < n) ∧ t.getD x 0 ∉ acc
 ·rw [if_pos hc]
  exact h.snoc hc.2.1 hc.2.2
 ·rw [if_neg hc]
  exact h
theorem foldl_stp_few {n x : Nat} : ∀ (l : List (List Int)) (acc : List Int), Few n acc → Few n (l.foldl (stp n x) acc)
 | [], _, h => h
 | _ :: ts, _, h => foldl_stp_few ts _ (stp_few h)
theorem steps_few (l : List (List Int)) (n x : Nat) : Few n (steps l n x) := foldl_stp_few l [] (Few.nil n)
theorem mem_stp {n x : Nat} {acc t : List Int} {y : Int} : y ∈ stp n x acc t ↔ y ∈ acc ∨ (x < t.length ∧ t.getD x 0 = y ∧ 0 ≤ y ∧ y < n) := by
 unfold stp
 by_cases hc : x < t.length ∧ (0 ≤ t.getD x 0 ∧ t.getD x 0 < n) ∧ t.getD x 0 ∉ acc
 ·rw [if_pos hc, List.mem_append, List.mem_singleton]
  constructor
  ·rintro (h | rfl)
   ·exact .inl h
   ·exact .inr ⟨hc.1, rfl, hc.2.1⟩
  ·rintro (h | ⟨_, rfl, _⟩)
   ·exact .inl h
   ·exact .inr rfl
 ·rw [if_neg hc]
  constructor
  ·exact .inl
  ·rintro (h | ⟨h1, rfl, h2⟩)
   ·exact h
   ·exact Classical.byContradiction fun hn => hc ⟨h1, h2, hn⟩
theorem mem_foldl_stp {n x : Nat} {y : Int} : ∀ (l : List (List Int)) (acc : List Int), y ∈ l.foldl (stp n x) acc ↔ y ∈ acc ∨ ∃ t ∈ l, x < t.length ∧ t.getD x 0 = y ∧ 0 ≤ y ∧ y < n
 | [], acc => by simp
 | t :: ts, acc => by
  rw [List.foldl_cons, mem_foldl_stp ts, mem_stp]
  simp only [List.mem_cons, exists_eq_or_imp]
  rw [or_assoc]
theorem mem_steps {l : List (List Int)} {n x : Nat} {y : Int} : y ∈ steps l n x ↔ EdgeIn l n (x : Int) y := by
 unfold steps
 rw [mem_foldl_stp]
 unfold EdgeIn
 simp only [List.not_mem_nil, false_or, Int.toNat_natCast]
 constructor
 ·rintro ⟨t, ht, h1, h2⟩
  exact ⟨t, ht, by omega, by omega, h2⟩
 ·rintro ⟨t, ht, _, h1, h2⟩
  exact ⟨t, ht, by omega, h2⟩
def addN (seen : List Int) (y : Int) : List Int := if y ∈ seen then seen else seen ++ [y]
theorem mem_addN {seen : List Int} {y z : Int} : z ∈ addN seen y ↔ z ∈ seen ∨ z = y := by
 unfold addN
 by_cases h : y ∈ seen
 ·rw [if_pos h]
  exact ⟨.inl, fun h' => h'.elim (fun h' => h') (fun e => e ▸ h)⟩
 ·rw [if_neg h]
  simp
theorem addN_few {n : Nat} {seen : List Int} {y : Int} (h : Few n seen) (hy : 0 ≤ y ∧ y < n) : Few n (addN seen y) := by
 unfold addN
 by_cases h' : y ∈ seen
 ·rw [if_pos h']
  exact h
 ·rw [if_neg h']
  exact h.snoc hy h'
theorem mem_addAll {z : Int} : ∀ (more seen : List Int), z ∈ more.foldl addN seen ↔ z ∈ seen ∨ z ∈ more
 | [], seen => by simp
 | y :: ys, seen => by
  rw [List.foldl_cons, mem_addAll ys, mem_addN, List.mem_cons, or_assoc]
theorem addAll_few {n : Nat} : ∀ (more seen : List Int), Few n seen → (∀ y ∈ more, 0 ≤ y ∧ y < n) → Few n (more.foldl addN seen)
 | [], _, h, _ => h
 | y :: ys, _, h, hy => addAll_few ys _ (addN_few h (hy y List.mem_cons_self)) (fun z hz => hy z (List.mem_cons_of_mem _ hz))
theorem addN_pre {seen : List Int} {y : Int} {j : Nat} (h : j < seen.length) : (addN seen y).getD j 0 = seen.getD j 0 ∧ seen.length ≤ (addN seen y).length := by
 unfold addN
 by_cases h' : y ∈ seen
 ·rw [if_pos h']
  exact ⟨rfl, Nat.le_refl _⟩
 ·rw [if_neg h']
  exact ⟨by simp [List.getD, List.getElem?_append_left h], by simp⟩
theorem addAll_pre {j : Nat} : ∀ (more seen : List Int), j < seen.length → (more.foldl addN seen).getD j 0 = seen.getD j 0 ∧ seen.length ≤ (more.foldl addN seen).length
 | [], _, _ => ⟨rfl, Nat.le_refl _⟩
 | y :: ys, seen, h => by
  have h1 := addN_pre (y := y) h
  have h2 := addAll_pre (j := j) ys (addN seen y) (Nat.lt_of_lt_of_le h h1.2)
  rw [List.foldl_cons]
  exact ⟨h2.1.trans h1.1, Nat.le_trans h1.2 h2.2⟩
structure Srch (l : List (List Int)) (n i : Nat) (seen : List Int) (k : Nat) : Prop where
 few : Few n seen
 le : k ≤ seen.length
 from_ : ∀ y ∈ seen, ∃ m, 0 < m ∧ Walk (EdgeIn l n) m i y
 first : ∀ y, EdgeIn l n i y → y ∈ seen
 closed : ∀ j, j < k → seen.getD j 0 ≠ i ∧ ∀ y, EdgeIn l n (seen.getD j 0) y → y ∈ seen
theorem srch_start (l : List (List Int)) (n i : Nat) : Srch l n i (steps l n i) 0 :=
 ⟨steps_few l n i, Nat.zero_le _, fun y hy => ⟨1, by omega, Walk.one (mem_steps.1 hy)⟩, fun y hy => mem_steps.2 hy, fun j hj => by omega⟩
open Go.Proofs.YthnlkgbhohchoaaGreat.Kit in
theorem srch_step {l : List (List Int)} {n i : Nat} {seen : List Int} {k : Nat} (h : Srch l n i seen k) (hk : k < seen.length) (hne : seen.getD k 0 ≠ i) {x : Nat} (hx : seen.getD k 0 = x) : Srch l n i ((steps l n x).foldl addN seen) (k + 1) := by
 have hm := getD_mem hk 0
 obtain ⟨m, hm0, hw⟩ := h.from_ _ hm
 refine ⟨addAll_few _ _ h.few (steps_few l n x).2, ?_, fun y hy => ?_, fun y hy => (mem_addAll _ _).2 (.inl (h.first y hy)), fun j hj => ?_⟩
 ·have := (addAll_pre (steps l n x) seen hk).2
  omega
 ·rcases (mem_addAll _ _).1 hy with hy | hy
  ·exact h.from_ y hy
  ·have he := mem_steps.1 hy
   rw [← hx] at he
   exact ⟨m + 1, by omega, hw.snoc he⟩
 ·rcases Nat.lt_succ_iff_lt_or_eq.1 hj with hj | rfl
  ·have hc := h.closed j hj
   rw [(addAll_pre (steps l n x) seen (by omega : j < seen.length)).1]
   exact ⟨hc.1, fun y hy => (mem_addAll _ _).2 (.inl (hc.2 y hy))⟩
  ·rw [(addAll_pre (steps l n x) seen hk).1]
   refine ⟨hne, fun y hy => (mem_addAll _ _).2 (.inr (mem_steps.2 ?_))⟩
   rw [← hx]
   exact hy
open Go.Proofs.YthnlkgbhohchoaaGreat.Kit in
theorem srch_end {l : List (List Int)} {n i : Nat} {seen : List Int} (h : Srch l n i seen seen.length) : ¬ ∃ m, 0 < m ∧ Walk (EdgeIn l n) m i i := by
 have key : ∀ m x y, x ∈ seen → Walk (EdgeIn l n) m x y → y ∈ seen := by
  intro m
  induction m with
  | zero => intro x y hx hw; cases hw; exact hx
  | succ m ih =>
   intro x y hx hw
   obtain ⟨z, hz, hw⟩ := hw
   obtain ⟨j, hj, e⟩ := List.getElem_of_mem hx
   have hc := (h.closed j hj).2 z
   rw [getD_at hj, e] at hc
   exact ih z y (hc hz) hw
 rintro ⟨m, hm, hw⟩
 obtain ⟨m, rfl⟩ : ∃ q, m = q + 1 := ⟨m - 1, by omega⟩
 obtain ⟨z, hz, hw⟩ := hw
 have hi := key m z i (h.first z hz) hw
 obtain ⟨j, hj, e⟩ := List.getElem_of_mem hi
 have hc := (h.closed j hj).1
 rw [getD_at hj] at hc
 exact hc e

/-! ### one table alone -/
end Go.Proofs.YthnlkgbhohchoaaGreat.Graph
/- The program's UnionHasLoop tells whether the tables, as one graph, hold a circle. Conditions: none. -/
namespace Go.Proofs.YthnlkgbhohchoaaGreat.fnExactRepairedAt
open Go.RowKit Go.Proofs.YthnlkgbhohchoaaGreatW.PrintWords Go.Proofs.YthnlkgbhohchoaaGreatW.PrintMore Go.Proofs.YthnlkgbhohchoaaGreat.QFnExactRepairedAt Go.Proofs.YthnlkgbhohchoaaGreat.Open Go.Proofs.YthnlkgbhohchoaaGreat.Kit Go.Proofs.YthnlkgbhohchoaaGreat.Graph
theorem ixU (a n : Int) : impl_isIndex.f a n = some (decide (0 ≤ a ∧ a < n)) := by
 unfold impl_isIndex.f
 by_cases h : 0 ≤ a <;> simp [h]
def msz (l : List (List Int)) : Int := l.foldl (fun m t => mx m (t.length : Int)) 0
theorem msz_ge (l : List (List Int)) (b : Int) (hb : 0 ≤ b) : 0 ≤ l.foldl (fun m t => mx m (t.length : Int)) b ∧ b ≤ l.foldl (fun m t => mx m (t.length : Int)) b ∧ (∀ t ∈ l, (t.length : Int) ≤ l.foldl (fun m t => mx m (t.length : Int)) b) ∧ ∀ B : Int, b ≤ B → (∀ t ∈ l, (t.length : Int) ≤ B) → l.foldl (fun m t => mx m (t.length : Int)) b ≤ B := by
 induction l generalizing b with
 | nil => exact ⟨hb, Int.le_refl _, by simp, fun B h _ => h⟩
 | cons t ts ih =>
  have hm : b ≤ mx b (t.length : Int) ∧ (t.length : Int) ≤ mx b (t.length : Int) ∧ ∀ B : Int, b ≤ B → (t.length : Int) ≤ B → mx b (t.length : Int) ≤ B := by
   rw [mx_def]
   exact ⟨by omega, by omega, fun B _ _ => by omega⟩
  obtain ⟨h1, h2, h3, h4⟩ := ih (mx b (t.length : Int)) (by omega)
  rw [List.foldl_cons]
  refine ⟨h1, by omega, fun u hu => ?_, fun B hB hu => h4 B (hm.2.2 B hB (hu t List.mem_cons_self)) (fun u hu' => hu u (List.mem_cons_of_mem _ hu'))⟩
  rcases List.mem_cons.1 hu with rfl | hu
  ·omega
  ·exact h3 u hu
theorem l3_ev {l : List (List Int)} {n : Nat} {g : List Bool} {ch : Bool} {x : Nat} {r : Bool} (hx : x < n) (hn : n ≤ 1048576) (hg : g.length = n) (hl : l.length ≤ 1048576) (hgx : g.getD x false = false)
  (h : Ev (fun k => impl_UnionHasLoop.l2 k l (n : Int) (ps1 l n (g, ch) x).1 (ps1 l n (g, ch) x).2 (n : Int) ((x + 1 : Nat) : Int)) r) :
  Ev (fun k => impl_UnionHasLoop.l3 k l (n : Int) g ch (x : Int) false (n : Int) (x : Int) l (l.length : Int) 0) r := by
 have h0 := foldTo_zero (ld n g x) false l
 rw [show (fun k => impl_UnionHasLoop.l3 k l (n : Int) g ch (x : Int) false (n : Int) (x : Int) l (l.length : Int) 0) = (fun k => impl_UnionHasLoop.l3 k l (n : Int) g ch (x : Int) (foldTo (ld n g x) false l 0) (n : Int) (x : Int) l (l.length : Int) ((0 : Nat) : Int)) by rw [h0]; rfl]
 refine Ev.up (n := l.length) (g := fun j k => impl_UnionHasLoop.l3 k l (n : Int) g ch (x : Int) (foldTo (ld n g x) false l j) (n : Int) (x : Int) l (l.length : Int) (j : Int)) ?_ ?_
 ·intro j hj ih
  rw [foldTo_succ (ld n g x) false hj []] at ih
  refine Ev.step (fun k => by rw [impl_UnionHasLoop.l3]) ?_
  repeat (first | (with_reducible refine Ev.ite_pos (by omega) ?_) | (with_reducible refine Ev.ite_neg (by omega) ?_))
  rw [w64n (by omega)]
  cases hacc : foldTo (ld n g x) false l j with
  | true =>
   rw [hacc] at ih
   exact Ev.ite_pos rfl (by simpa [ld] using ih)
  | false =>
   rw [hacc] at ih
   refine Ev.ite_neg (by simp) ?_
   by_cases hxl : x < (l.getD j []).length
   ·refine Ev.ite_pos (by show (x : Int) < (((l.getD j []).length : Nat) : Int); omega) ?_
    refine Ev.ite_pos (by omega) ?_
    refine Ev.bind0 (ixU ((l.getD j []).getD x 0) (n : Int)) ?_
    by_cases hy : 0 ≤ (l.getD j []).getD x 0 ∧ (l.getD j []).getD x 0 < (n : Int)
    ·refine Ev.ite_pos (by simp only [decide_eq_true_eq]; exact hy) ?_
     refine Ev.ite_pos hy.1 ?_
     refine Ev.ite_pos (by show (l.getD j []).getD x 0 < (g.length : Int); omega) ?_
     have e : ld n g x false (l.getD j []) = !(rdOf false g ((l.getD j []).getD x 0)) := by
      unfold ld
      rw [Bool.false_or, decide_eq_true hxl, decide_eq_true hy]
      rfl
     rw [e] at ih
     exact ih
    ·refine Ev.ite_neg (by simp only [decide_eq_true_eq]; exact hy) ?_
     have e : ld n g x false (l.getD j []) = false := by
      unfold ld
      rw [decide_eq_false hy]
      simp
     rw [e] at ih
     exact ih
   ·refine Ev.ite_neg (by show ¬ (x : Int) < (((l.getD j []).length : Nat) : Int); omega) ?_
    have e : ld n g x false (l.getD j []) = false := by
     unfold ld
     rw [decide_eq_false hxl]
     simp
    rw [e] at ih
    exact ih
 ·refine Ev.step (fun k => by rw [impl_UnionHasLoop.l3]) ?_
  repeat (first | (with_reducible refine Ev.ite_pos (by omega) ?_) | (with_reducible refine Ev.ite_neg (by omega) ?_))
  rw [foldTo_all]
  have hps : ps1 l n (g, ch) x = if leads l n g x = true then (g, ch) else (g.set x true, true) := by
   unfold ps1
   rw [if_neg (by simpa using hgx)]
  have e : l.foldl (ld n g x) false = leads l n g x := rfl
  rw [e]
  by_cases hL : leads l n g x = true
  ·refine Ev.ite_pos hL ?_
   rw [hps, if_pos hL] at h
   rw [w64n (by omega)]
   exact h
  ·refine Ev.ite_neg hL ?_
   rw [hps, if_neg hL] at h
   repeat (first | (with_reducible refine Ev.ite_pos (by omega) ?_) | (with_reducible refine Ev.ite_neg (by omega) ?_))
   rw [Int.toNat_natCast, w64n (by omega)]
   exact h
theorem l2_ev {l : List (List Int)} {n : Nat} {g : List Bool} {r : Bool} (hn : n ≤ 1048576) (hg : g.length = n) (hl : l.length ≤ 1048576)
  (h : Ev (fun k => impl_UnionHasLoop.l1 k l (n : Int) (foldTo (ps1 l n) (g, false) (List.range n) n).1 (foldTo (ps1 l n) (g, false) (List.range n) n).2) r) :
  Ev (fun k => impl_UnionHasLoop.l2 k l (n : Int) g false (n : Int) 0) r := by
 have h0 := foldTo_zero (ps1 l n) (g, false) (List.range n)
 rw [show (fun k => impl_UnionHasLoop.l2 k l (n : Int) g false (n : Int) 0) = (fun k => impl_UnionHasLoop.l2 k l (n : Int) (foldTo (ps1 l n) (g, false) (List.range n) 0).1 (foldTo (ps1 l n) (g, false) (List.range n) 0).2 (n : Int) ((0 : Nat) : Int)) by rw [h0]; rfl]
 refine Ev.up (n := n) (g := fun i k => impl_UnionHasLoop.l2 k l (n : Int) (foldTo (ps1 l n) (g, false) (List.range n) i).1 (foldTo (ps1 l n) (g, false) (List.range n) i).2 (n : Int) (i : Int)) ?_ ?_
 ·intro i hi ih
  have hlen := (pass_ok (l := l) hg i (by omega)).len
  have e : (List.range n).getD i 0 = i := by
   rw [getD_at (by rw [List.length_range]; omega)]
   simp
  rw [foldTo_succ (ps1 l n) (g, false) (by rw [List.length_range]; omega) 0, e] at ih
  refine Ev.step (fun k => by rw [impl_UnionHasLoop.l2]) ?_
  repeat (first | (with_reducible refine Ev.ite_pos (by omega) ?_) | (with_reducible refine Ev.ite_neg (by omega) ?_))
  by_cases hg1 : (foldTo (ps1 l n) (g, false) (List.range n) i).1.getD i false = true
  ·refine Ev.ite_pos hg1 ?_
   rw [w64n (by omega)]
   rw [ps1_gone hg1] at ih
   exact ih
  ·refine Ev.ite_neg hg1 ?_
   exact l3_ev hi hn hlen hl (by simpa using hg1) ih
 ·refine Ev.step (fun k => by rw [impl_UnionHasLoop.l2]) ?_
  repeat (first | (with_reducible refine Ev.ite_pos (by omega) ?_) | (with_reducible refine Ev.ite_neg (by omega) ?_))
  exact h
theorem l4_ev {n : Nat} {g : List Bool} (hn : n ≤ 1048576) (hg : g.length = n) : ∃ r, Ev (fun k => impl_UnionHasLoop.l4 k g (n : Int) 0) r ∧ (r = true ↔ ∃ x, x < n ∧ g.getD x false = false) := by
 have key : ∀ d i : Nat, i + d = n → ∃ r, Ev (fun k => impl_UnionHasLoop.l4 k g (n : Int) (i : Int)) r ∧ (r = true ↔ ∃ x, i ≤ x ∧ x < n ∧ g.getD x false = false) := by
  intro d
  induction d with
  | zero =>
   intro i hi
   refine ⟨false, ?_, by simp; intro x h1 h2; omega⟩
   refine Ev.step (fun k => by rw [impl_UnionHasLoop.l4]) ?_
   repeat (first | (with_reducible refine Ev.ite_pos (by omega) ?_) | (with_reducible refine Ev.ite_neg (by omega) ?_))
   exact Ev.now _
  | succ d ih =>
   intro i hi
   by_cases hb : g.getD i false = true
   ·obtain ⟨r, hr, hiff⟩ := ih (i + 1) (by omega)
    refine ⟨r, ?_, ?_⟩
    ·refine Ev.step (fun k => by rw [impl_UnionHasLoop.l4]) ?_
     repeat (first | (with_reducible refine Ev.ite_pos (by omega) ?_) | (with_reducible refine Ev.ite_neg (by omega) ?_))
     refine Ev.ite_pos hb ?_
     rw [w64n (by omega)]
     exact hr
    ·rw [hiff]
     constructor
     ·rintro ⟨x, h1, h2, h3⟩
      exact ⟨x, by omega, h2, h3⟩
     ·rintro ⟨x, h1, h2, h3⟩
      refine ⟨x, ?_, h2, h3⟩
      rcases Nat.eq_or_lt_of_le h1 with rfl | h1
      ·rw [hb] at h3
       cases h3
      ·exact h1
   ·refine ⟨true, ?_, ?_⟩
    ·refine Ev.step (fun k => by rw [impl_UnionHasLoop.l4]) ?_
     repeat (first | (with_reducible refine Ev.ite_pos (by omega) ?_) | (with_reducible refine Ev.ite_neg (by omega) ?_))
     exact Ev.ite_neg hb (Ev.now _)
    ·exact ⟨fun _ => ⟨i, Nat.le_refl _, by omega, by simpa using hb⟩, fun _ => rfl⟩
 obtain ⟨r, hr, hiff⟩ := key n 0 (by omega)
 refine ⟨r, hr, ?_⟩
 rw [hiff]
 exact ⟨fun ⟨x, _, h⟩ => ⟨x, h⟩, fun ⟨x, h⟩ => ⟨x, Nat.zero_le _, h⟩⟩
theorem l1_ev {l : List (List Int)} {n : Nat} (hn : n ≤ 1048576) (hl : l.length ≤ 1048576) (hlt : ∀ t ∈ l, t.length ≤ n) : ∀ (c : Nat) (g : List Bool), g.count false ≤ c → g.length = n → Keeps l n g →
  ∃ r, Ev (fun k => impl_UnionHasLoop.l1 k l (n : Int) g true) r ∧ (r = true ↔ Cyc (EdgeIn l n)) := by
 intro c
 induction c with
 | zero =>
  intro g hc hg hk
  have hp := pass_ok (l := l) hg n (Nat.le_refl _)
  cases hs : (foldTo (ps1 l n) (g, false) (List.range n) n).2 with
  | true =>
   have := hp.less hs
   omega
  | false =>
   obtain ⟨r, hr, hiff⟩ := l4_ev hn hp.len
   refine ⟨r, ?_, ?_⟩
   ·refine Ev.step (fun k => by rw [impl_UnionHasLoop.l1]) ?_
    refine Ev.ite_pos rfl ?_
    refine l2_ev hn hg hl ?_
    rw [hs]
    refine Ev.step (fun k => by rw [impl_UnionHasLoop.l1]) ?_
    exact Ev.ite_neg (by simp) hr
   ·rw [hiff, (hp.same hs).1]
    exact left_iff hlt hk (hp.same hs).2
 | succ c ih =>
  intro g hc hg hk
  have hp := pass_ok (l := l) hg n (Nat.le_refl _)
  cases hs : (foldTo (ps1 l n) (g, false) (List.range n) n).2 with
  | true =>
   have := hp.less hs
   obtain ⟨r, hr, hiff⟩ := ih _ (by omega) hp.len (hp.keeps hk)
   refine ⟨r, ?_, hiff⟩
   refine Ev.step (fun k => by rw [impl_UnionHasLoop.l1]) ?_
   refine Ev.ite_pos rfl ?_
   refine l2_ev hn hg hl ?_
   rw [hs]
   exact hr
  | false =>
   obtain ⟨r, hr, hiff⟩ := l4_ev hn hp.len
   refine ⟨r, ?_, ?_⟩
   ·refine Ev.step (fun k => by rw [impl_UnionHasLoop.l1]) ?_
    refine Ev.ite_pos rfl ?_
    refine l2_ev hn hg hl ?_
    rw [hs]
    refine Ev.step (fun k => by rw [impl_UnionHasLoop.l1]) ?_
    exact Ev.ite_neg (by simp) hr
   ·rw [hiff, (hp.same hs).1]
    exact left_iff hlt hk (hp.same hs).2
theorem union2 (l : List (List Int)) (hl : l.length ≤ 1048576) (hb : ∀ t ∈ l, t.length ≤ 1048576) : ∃ r, Ev (fun k => impl_UnionHasLoop.f k l) r ∧ (r = true ↔ Cyc (EdgeIn l (msz l).toNat)) := by
 obtain ⟨h1, _, h3, h4⟩ := msz_ge l 0 (by omega)
 have h5 := h4 1048576 (by omega) (fun t ht => by have := hb t ht; omega)
 obtain ⟨n, hn⟩ := Int.eq_ofNat_of_zero_le h1
 have hn' : msz l = (n : Int) := hn
 rw [hn] at h3 h5
 obtain ⟨r, hr, hiff⟩ := l1_ev (l := l) (n := n) (by omega) hl (fun t ht => by have := h3 t ht; omega) _ (List.replicate n false) (Nat.le_refl _) (List.length_replicate ..) (fun _ _ _ _ x _ => by
  by_cases hx : x < n <;> simp [List.getD, hx])
 refine ⟨r, ?_, by rw [hn']; exact hiff⟩
 have h0 := foldTo_zero (fun m (t : List Int) => mx m (t.length : Int)) 0 l
 show Ev (fun k => impl_UnionHasLoop.l0 k l 0 l (l.length : Int) 0) r
 rw [show (fun k => impl_UnionHasLoop.l0 k l 0 l (l.length : Int) 0) = (fun k => impl_UnionHasLoop.l0 k l (foldTo (fun m (t : List Int) => mx m (t.length : Int)) 0 l 0) l (l.length : Int) ((0 : Nat) : Int)) by rw [h0]; rfl]
 refine Ev.up (n := l.length) (g := fun i k => impl_UnionHasLoop.l0 k l (foldTo (fun m (t : List Int) => mx m (t.length : Int)) 0 l i) l (l.length : Int) (i : Int)) ?_ ?_
 ·intro i hi ih
  rw [foldTo_succ _ 0 hi []] at ih
  refine Ev.step (fun k => by rw [impl_UnionHasLoop.l0]) ?_
  repeat (first | (with_reducible refine Ev.ite_pos (by omega) ?_) | (with_reducible refine Ev.ite_neg (by omega) ?_))
  rw [w64n (by omega)]
  exact ih
 ·refine Ev.step (fun k => by rw [impl_UnionHasLoop.l0]) ?_
  repeat (first | (with_reducible refine Ev.ite_pos (by omega) ?_) | (with_reducible refine Ev.ite_neg (by omega) ?_))
  rw [foldTo_all]
  rw [show l.foldl (fun m (t : List Int) => mx m (t.length : Int)) 0 = (n : Int) from hn]
  repeat (first | (with_reducible refine Ev.ite_pos (by omega) ?_) | (with_reducible refine Ev.ite_neg (by omega) ?_))
  rw [Int.toNat_natCast]
  exact hr
end Go.Proofs.YthnlkgbhohchoaaGreat.fnExactRepairedAt
/- The reference's UnionHasLoop tells whether the tables, as one graph, hold a circle. Conditions: none. -/
namespace Go.Proofs.YthnlkgbhohchoaaGreat.fnExactRepairedAt
open Go.RowKit Go.Proofs.YthnlkgbhohchoaaGreatW.PrintWords Go.Proofs.YthnlkgbhohchoaaGreatW.PrintMore Go.Proofs.YthnlkgbhohchoaaGreat.QFnExactRepairedAt Go.Proofs.YthnlkgbhohchoaaGreat.Open Go.Proofs.YthnlkgbhohchoaaGreat.Kit Go.Proofs.YthnlkgbhohchoaaGreat.Graph
theorem inU (a b c : Int) : spec_l1In.f a b c = some (decide (b ≤ a ∧ a ≤ c)) := by
 unfold spec_l1In.f
 by_cases h : b ≤ a <;> simp [h]
theorem has_ev (l : List Int) (v : Int) (hl : l.length ≤ 1048576) : Ev (fun k => spec_l15Has.f k l v) (decide (v ∈ l)) := by
 have key : ∀ d i : Nat, i + d = l.length → Ev (fun k => spec_l15Has.l0 k l v (i : Int)) (decide (v ∈ l.drop i)) := by
  intro d
  induction d with
  | zero =>
   intro i hi
   refine Ev.step (fun k => by rw [spec_l15Has.l0]) ?_
   repeat (first | (with_reducible refine Ev.ite_pos (by omega) ?_) | (with_reducible refine Ev.ite_neg (by omega) ?_))
   refine Ev.some ?_
   rw [List.drop_of_length_le (by omega)]
   simp
  | succ d ih =>
   intro i hi
   have h1 := ih (i + 1) (by omega)
   refine Ev.step (fun k => by rw [spec_l15Has.l0]) ?_
   repeat (first | (with_reducible refine Ev.ite_pos (by omega) ?_) | (with_reducible refine Ev.ite_neg (by omega) ?_))
   rw [drop_getD (by omega : i < l.length) 0]
   by_cases he : l.getD i 0 = v
   ·refine Ev.ite_pos he (Ev.some ?_)
    rw [he]
    simp
   ·refine Ev.ite_neg he ?_
    rw [w64n (by omega)]
    have e : decide (v ∈ l.getD i 0 :: l.drop (i + 1)) = decide (v ∈ l.drop (i + 1)) := by
     rw [decide_eq_decide, List.mem_cons]
     exact ⟨fun h => h.elim (fun h => absurd h.symm he) (fun h => h), .inr⟩
    rw [e]
    exact h1
 exact key l.length 0 (by omega)
theorem foldTo_stp_few {l : List (List Int)} {n x : Nat} (i : Nat) : Few n (foldTo (stp n x) [] l i) := foldl_stp_few _ _ (Few.nil n)
theorem steps_ev (l : List (List Int)) (n x : Nat) (hl : l.length ≤ 1048576) (hn : n ≤ 1048576) : Ev (fun k => spec_l18Steps.f k l (n : Int) (x : Int)) (steps l n x) := by
 unfold steps
 rw [← foldTo_all]
 have h0 := foldTo_zero (stp n x) [] l
 show Ev (fun k => spec_l18Steps.l0 k l (n : Int) (x : Int) [] 0) _
 rw [show (fun k => spec_l18Steps.l0 k l (n : Int) (x : Int) [] 0) = (fun k => spec_l18Steps.l0 k l (n : Int) (x : Int) (foldTo (stp n x) [] l 0) ((0 : Nat) : Int)) by rw [h0]; rfl]
 refine Ev.up (n := l.length) (g := fun i k => spec_l18Steps.l0 k l (n : Int) (x : Int) (foldTo (stp n x) [] l i) (i : Int)) ?_ ?_
 ·intro i hi ih
  have hf := (foldTo_stp_few (l := l) (n := n) (x := x) i).le
  rw [foldTo_succ (stp n x) [] hi []] at ih
  refine Ev.step (fun k => by rw [spec_l18Steps.l0]) ?_
  repeat (first | (with_reducible refine Ev.ite_pos (by omega) ?_) | (with_reducible refine Ev.ite_neg (by omega) ?_))
  rw [w64n (by omega), w64 (x := (n : Int) - 1) (by omega) (by omega)]
  by_cases hx : x < (l.getD i []).length
  ·refine Ev.ite_pos (by show (x : Int) < (((l.getD i []).length : Nat) : Int); omega) ?_
   refine Ev.ite_pos (by omega) ?_
   refine Ev.bind0 (inU ((l.getD i []).getD x 0) 0 ((n : Int) - 1)) ?_
   by_cases hy : 0 ≤ (l.getD i []).getD x 0 ∧ (l.getD i []).getD x 0 < (n : Int)
   ·refine Ev.ite_pos (by simp only [decide_eq_true_eq]; omega) ?_
    refine Ev.bind (has_ev (foldTo (stp n x) [] l i) ((l.getD i []).getD x 0) (by omega)) ?_
    by_cases hm : (l.getD i []).getD x 0 ∈ foldTo (stp n x) [] l i
    ·refine Ev.ite_pos (by simpa using hm) ?_
     rw [show stp n x (foldTo (stp n x) [] l i) (l.getD i []) = foldTo (stp n x) [] l i from if_neg (fun h => h.2.2 hm)] at ih
     exact ih
    ·refine Ev.ite_neg (by simpa using hm) ?_
     rw [show stp n x (foldTo (stp n x) [] l i) (l.getD i []) = foldTo (stp n x) [] l i ++ [(l.getD i []).getD x 0] from if_pos ⟨hx, hy, hm⟩] at ih
     repeat (first | (with_reducible refine Ev.ite_pos (by omega) ?_) | (with_reducible refine Ev.ite_neg (by omega) ?_))
     exact ih
   ·refine Ev.ite_neg (by simp only [decide_eq_true_eq]; omega) ?_
    rw [show stp n x (foldTo (stp n x) [] l i) (l.getD i []) = foldTo (stp n x) [] l i from if_neg (fun h => hy h.2.1)] at ih
    exact ih
  ·refine Ev.ite_neg (by show ¬ (x : Int) < (((l.getD i []).length : Nat) : Int); omega) ?_
   rw [show stp n x (foldTo (stp n x) [] l i) (l.getD i []) = foldTo (stp n x) [] l i from if_neg (fun h => hx h.1)] at ih
   exact ih
 ·refine Ev.step (fun k => by rw [spec_l18Steps.l0]) ?_
  repeat (first | (with_reducible refine Ev.ite_pos (by omega) ?_) | (with_reducible refine Ev.ite_neg (by omega) ?_))
  exact Ev.now _
theorem foldTo_add_few {n : Nat} {seen more : List Int} (h : Few n seen) (hm : ∀ y ∈ more, 0 ≤ y ∧ y < n) (i : Nat) : Few n (foldTo addN seen more i) := addAll_few _ _ h (fun y hy => hm y (List.mem_of_mem_take hy))
theorem l2S_ev {l : List (List Int)} {n i : Nat} {seen more : List Int} {q : Nat} {r : Bool} (hn : n ≤ 1048576) (hs : Few n seen) (hm : Few n more) (hq : q < n)
  (h : Ev (fun k => spec_UnionHasLoop.l1 k l (n : Int) (i : Int) (more.foldl addN seen) ((q + 1 : Nat) : Int)) r) : Ev (fun k => spec_UnionHasLoop.l2 k l (n : Int) (i : Int) seen (q : Int) more 0) r := by
 have h0 := foldTo_zero addN seen more
 have hml := hm.le
 rw [show (fun k => spec_UnionHasLoop.l2 k l (n : Int) (i : Int) seen (q : Int) more 0) = (fun k => spec_UnionHasLoop.l2 k l (n : Int) (i : Int) (foldTo addN seen more 0) (q : Int) more ((0 : Nat) : Int)) by rw [h0]; rfl]
 refine Ev.up (n := more.length) (g := fun j k => spec_UnionHasLoop.l2 k l (n : Int) (i : Int) (foldTo addN seen more j) (q : Int) more (j : Int)) ?_ ?_
 ·intro j hj ih
  have hf := (foldTo_add_few hs hm.2 j).le
  rw [foldTo_succ addN seen hj 0] at ih
  refine Ev.step (fun k => by rw [spec_UnionHasLoop.l2]) ?_
  repeat (first | (with_reducible refine Ev.ite_pos (by omega) ?_) | (with_reducible refine Ev.ite_neg (by omega) ?_))
  rw [w64n (by omega)]
  refine Ev.bind (has_ev (foldTo addN seen more j) (more.getD j 0) (by omega)) ?_
  by_cases hy : more.getD j 0 ∈ foldTo addN seen more j
  ·refine Ev.ite_pos (by simpa using hy) ?_
   rw [show addN (foldTo addN seen more j) (more.getD j 0) = foldTo addN seen more j from if_pos hy] at ih
   exact ih
  ·refine Ev.ite_neg (by simpa using hy) ?_
   rw [show addN (foldTo addN seen more j) (more.getD j 0) = foldTo addN seen more j ++ [more.getD j 0] from if_neg hy] at ih
   repeat (first | (with_reducible refine Ev.ite_pos (by omega) ?_) | (with_reducible refine Ev.ite_neg (by omega) ?_))
   exact ih
 ·refine Ev.step (fun k => by rw [spec_UnionHasLoop.l2]) ?_
  repeat (first | (with_reducible refine Ev.ite_pos (by omega) ?_) | (with_reducible refine Ev.ite_neg (by omega) ?_))
  rw [foldTo_all, w64n (by omega)]
  exact h
theorem l1S_ev {l : List (List Int)} {n i : Nat} {r' : Bool} (hl : l.length ≤ 1048576) (hn : n ≤ 1048576) (hi : i < n) (h' : Ev (fun k => spec_UnionHasLoop.l0 k l (n : Int) ((i + 1 : Nat) : Int)) r') : ∀ (d : Nat) (seen : List Int) (q : Nat), q + d = n → Srch l n i seen q →
  ∃ r, Ev (fun k => spec_UnionHasLoop.l1 k l (n : Int) (i : Int) seen (q : Int)) r ∧ (r = true ↔ (∃ m, 0 < m ∧ Walk (EdgeIn l n) m i i) ∨ r' = true) := by
 intro d
 induction d with
 | zero =>
  intro seen q hd hs
  have h1 := hs.few.le
  have h2 := hs.le
  have e : q = seen.length := by omega
  subst e
  refine ⟨r', ?_, ?_⟩
  ·refine Ev.step (fun k => by rw [spec_UnionHasLoop.l1]) ?_
   repeat (first | (with_reducible refine Ev.ite_pos (by omega) ?_) | (with_reducible refine Ev.ite_neg (by omega) ?_))
   rw [w64n (by omega)]
   exact h'
  ·have := srch_end hs
   exact ⟨.inr, fun h => h.elim (fun h => absurd h this) (fun h => h)⟩
 | succ d ih =>
  intro seen q hd hs
  have h1 := hs.few.le
  by_cases hq : q < seen.length
  ·have hmem := getD_mem hq 0
   by_cases he : seen.getD q 0 = i
   ·refine ⟨true, ?_, ?_⟩
    ·refine Ev.step (fun k => by rw [spec_UnionHasLoop.l1]) ?_
     repeat (first | (with_reducible refine Ev.ite_pos (by omega) ?_) | (with_reducible refine Ev.ite_neg (by omega) ?_))
     exact Ev.ite_pos he (Ev.now _)
    ·have hw := hs.from_ _ hmem
     rw [he] at hw
     exact ⟨fun _ => .inl hw, fun _ => rfl⟩
   ·have hr := hs.few.2 _ hmem
    obtain ⟨x, hx⟩ := Int.eq_ofNat_of_zero_le hr.1
    obtain ⟨r, hr, hiff⟩ := ih _ (q + 1) (by omega) (srch_step hs hq he hx)
    refine ⟨r, ?_, hiff⟩
    refine Ev.step (fun k => by rw [spec_UnionHasLoop.l1]) ?_
    repeat (first | (with_reducible refine Ev.ite_pos (by omega) ?_) | (with_reducible refine Ev.ite_neg (by omega) ?_))
    refine Ev.ite_neg he ?_
    rw [rd_nat, hx]
    refine Ev.bind (steps_ev l n x hl hn) ?_
    exact l2S_ev hn hs.few (steps_few l n x) (by omega) hr
  ·have h2 := hs.le
   have e : q = seen.length := by omega
   subst e
   refine ⟨r', ?_, ?_⟩
   ·refine Ev.step (fun k => by rw [spec_UnionHasLoop.l1]) ?_
    repeat (first | (with_reducible refine Ev.ite_pos (by omega) ?_) | (with_reducible refine Ev.ite_neg (by omega) ?_))
    rw [w64n (by omega)]
    exact h'
   ·have := srch_end hs
    exact ⟨.inr, fun h => h.elim (fun h => absurd h this) (fun h => h)⟩
theorem l0S_ev {l : List (List Int)} {n : Nat} (hl : l.length ≤ 1048576) (hn : n ≤ 1048576) : ∀ d i : Nat, i + d = n → ∃ r, Ev (fun k => spec_UnionHasLoop.l0 k l (n : Int) (i : Int)) r ∧ (r = true ↔ ∃ x : Nat, i ≤ x ∧ x < n ∧ ∃ m, 0 < m ∧ Walk (EdgeIn l n) m x x) := by
 intro d
 induction d with
 | zero =>
  intro i hi
  refine ⟨false, ?_, ?_⟩
  ·refine Ev.step (fun k => by rw [spec_UnionHasLoop.l0]) ?_
   repeat (first | (with_reducible refine Ev.ite_pos (by omega) ?_) | (with_reducible refine Ev.ite_neg (by omega) ?_))
   exact Ev.now _
  ·constructor
   ·intro h
    cases h
   ·rintro ⟨x, h1, h2, _⟩
    omega
 | succ d ih =>
  intro i hi
  obtain ⟨r', h', hiff'⟩ := ih (i + 1) (by omega)
  obtain ⟨r, hr, hiff⟩ := l1S_ev hl hn (by omega : i < n) h' n (steps l n i) 0 (by omega) (srch_start l n i)
  refine ⟨r, ?_, ?_⟩
  ·refine Ev.step (fun k => by rw [spec_UnionHasLoop.l0]) ?_
   repeat (first | (with_reducible refine Ev.ite_pos (by omega) ?_) | (with_reducible refine Ev.ite_neg (by omega) ?_))
   refine Ev.bind (steps_ev l n i hl hn) ?_
   exact hr
  ·rw [hiff, hiff']
   constructor
   ·rintro (h | ⟨x, h1, h2, h3⟩)
    ·exact ⟨i, Nat.le_refl _, by omega, h⟩
    ·exact ⟨x, by omega, h2, h3⟩
   ·rintro ⟨x, h1, h2, h3⟩
    rcases Nat.eq_or_lt_of_le h1 with rfl | h1
    ·exact .inl h3
    ·exact .inr ⟨x, h1, h2, h3⟩
theorem maxU (a b : Int) : spec_Max.f a b = some (mx a b) := by
 unfold spec_Max.f mx
 by_cases h : a < b
 ·rw [if_pos h, if_pos h]
 ·rw [if_neg h, if_neg h]
theorem union1 (l : List (List Int)) (hl : l.length ≤ 1048576) (hb : ∀ t ∈ l, t.length ≤ 1048576) : ∃ r, Ev (fun k => spec_UnionHasLoop.f k l) r ∧ (r = true ↔ Cyc (EdgeIn l (msz l).toNat)) := by
 obtain ⟨h1, _, h3, h4⟩ := msz_ge l 0 (by omega)
 have h5 := h4 1048576 (by omega) (fun t ht => by have := hb t ht; omega)
 obtain ⟨n, hn⟩ := Int.eq_ofNat_of_zero_le h1
 have hn' : msz l = (n : Int) := hn
 rw [hn] at h3 h5
 obtain ⟨r, hr, hiff⟩ := l0S_ev hl (by omega : n ≤ 1048576) n 0 (by omega)
 have hsz : Ev (fun k => spec_l18Size.f k l) (n : Int) := by
  rw [← hn, ← foldTo_all (fun m (t : List Int) => mx m (t.length : Int)) 0 l]
  have h0 := foldTo_zero (fun m (t : List Int) => mx m (t.length : Int)) 0 l
  show Ev (fun k => spec_l18Size.l0 k l 0 0) _
  rw [show (fun k => spec_l18Size.l0 k l 0 0) = (fun k => spec_l18Size.l0 k l (foldTo (fun m (t : List Int) => mx m (t.length : Int)) 0 l 0) ((0 : Nat) : Int)) by rw [h0]; rfl]
  refine Ev.up (n := l.length) (g := fun i k => spec_l18Size.l0 k l (foldTo (fun m (t : List Int) => mx m (t.length : Int)) 0 l i) (i : Int)) ?_ ?_
  ·intro i hi ih
   rw [foldTo_succ _ 0 hi []] at ih
   refine Ev.step (fun k => by rw [spec_l18Size.l0]) ?_
   repeat (first | (with_reducible refine Ev.ite_pos (by omega) ?_) | (with_reducible refine Ev.ite_neg (by omega) ?_))
   refine Ev.bind0 (maxU _ ((l.getD i []).length : Int)) ?_
   rw [w64n (by omega)]
   exact ih
  ·refine Ev.step (fun k => by rw [spec_l18Size.l0]) ?_
   repeat (first | (with_reducible refine Ev.ite_pos (by omega) ?_) | (with_reducible refine Ev.ite_neg (by omega) ?_))
   exact Ev.now _
 refine ⟨r, Ev.bind hsz hr, ?_⟩
 rw [hiff, hn', Int.toNat_natCast]
 constructor
 ·rintro ⟨x, _, _, m, hm, hw⟩
  exact ⟨x, m, hm, hw⟩
 ·rintro ⟨i, m, hm, hw⟩
  obtain ⟨y, ⟨t, ht, h0, hx, _⟩, _⟩ := on_next hm hw (on_self hm hw)
  obtain ⟨x, rfl⟩ := Int.eq_ofNat_of_zero_le h0
  have := h3 t ht
  exact ⟨x, Nat.zero_le _, by omega, m, hm, hw⟩
end Go.Proofs.YthnlkgbhohchoaaGreat.fnExactRepairedAt
/- Whether a mixture of tables is safe, in the program and in the reference. Conditions: none. -/
namespace Go.Proofs.YthnlkgbhohchoaaGreat.fnExactRepairedAt
open Go.RowKit Go.Proofs.YthnlkgbhohchoaaGreatW.PrintWords Go.Proofs.YthnlkgbhohchoaaGreatW.PrintMore Go.Proofs.YthnlkgbhohchoaaGreat.QFnExactRepairedAt Go.Proofs.YthnlkgbhohchoaaGreat.Open Go.Proofs.YthnlkgbhohchoaaGreat.Kit Go.Proofs.YthnlkgbhohchoaaGreat.Graph
def rowsA (p : List S76) (d : Int) (ks : List Int) : List (List Int) := ks.map fun k => (tableIn p k d).2.2.1
def rowsT (p : List S76) (d : Int) (ks : List Int) : List (List Int) := (ks.filter fun k => decide (okT p k d)).map fun k => (tableIn p k d).2.2.1
theorem rows_same (p : List S76) (d : Int) (ks : List Int) (t : List Int) (ht : 0 < t.length) : t ∈ rowsA p d ks ↔ t ∈ rowsT p d ks := by
 unfold rowsA rowsT
 simp only [List.mem_map, List.mem_filter, decide_eq_true_eq]
 constructor
 ·rintro ⟨k, hk, rfl⟩
  refine ⟨k, ⟨hk, ?_⟩, rfl⟩
  refine Classical.byContradiction fun hn => ?_
  unfold tableIn at ht
  rw [if_neg hn] at ht
  exact absurd ht (by simp)
 ·rintro ⟨k, hk, rfl⟩
  exact ⟨k, hk.1, rfl⟩
theorem msz_le {l l' : List (List Int)} (h : ∀ t : List Int, 0 < t.length → t ∈ l → t ∈ l') : msz l ≤ msz l' := by
 have h1 := msz_ge l 0 (by omega)
 have h2 := msz_ge l' 0 (by omega)
 unfold msz
 refine h1.2.2.2 _ h2.1 (fun t ht => ?_)
 by_cases h0 : 0 < t.length
 ·exact h2.2.2.1 t (h t h0 ht)
 ·have := h2.1
  omega
theorem cyc_same {l l' : List (List Int)} (h : ∀ t : List Int, 0 < t.length → (t ∈ l ↔ t ∈ l')) : Cyc (EdgeIn l (msz l).toNat) ↔ Cyc (EdgeIn l' (msz l').toNat) := by
 have hm : msz l = msz l' := Int.le_antisymm (msz_le fun t h0 => (h t h0).1) (msz_le fun t h0 => (h t h0).2)
 have he : EdgeIn l (msz l).toNat = EdgeIn l' (msz l').toNat := by
  rw [hm]
  funext x y
  unfold EdgeIn
  apply propext
  constructor
  ·rintro ⟨t, ht, a, b, c⟩
   exact ⟨t, (h t (by omega)).1 ht, a, b, c⟩
  ·rintro ⟨t, ht, a, b, c⟩
   exact ⟨t, (h t (by omega)).2 ht, a, b, c⟩
 rw [he]
theorem row_len {p : List S76} (hp : nPgI p ≤ 1048576) (k d : Int) : (tableIn p k d).2.2.1.length ≤ 1048576 := by
 unfold tableIn
 by_cases h : okT p k d
 ·rw [if_pos h]
  exact (tab_len hp h).2.2
 ·rw [if_neg h]
  simp
theorem mix (p : List S76) (hp : nPgI p ≤ 1048576) (n a s d u v : Int) : ∃ r, Ev (fun k => spec_IsSafeMix.f k n a s p d u v) r ∧ Ev (fun k => impl_IsSafeMix.f k n a s p d u v) r := by
 have hl : p.length ≤ 1048576 := by unfold nPgI at hp; omega
 have hks := pcs_len u v p 0
 obtain ⟨ks, hk⟩ : ∃ ks, pcs u v p 0 = ks := ⟨_, rfl⟩
 rw [hk] at hks
 have hfl : (ks.filter fun k => decide (okT p k d)).length ≤ ks.length := List.length_filter_le _ _
 obtain ⟨r1, e1, i1⟩ := union1 (rowsT p d ks) (by unfold rowsT; rw [List.length_map]; omega) (by
  intro t ht
  unfold rowsT at ht
  obtain ⟨k, _, rfl⟩ := List.mem_map.1 ht
  exact row_len hp k d)
 obtain ⟨r2, e2, i2⟩ := union2 (rowsA p d ks) (by unfold rowsA; rw [List.length_map]; omega) (by
  intro t ht
  unfold rowsA at ht
  obtain ⟨k, _, rfl⟩ := List.mem_map.1 ht
  exact row_len hp k d)
 have hr : r1 = r2 := by
  have := (i1.trans (cyc_same (rows_same p d ks)).symm).trans i2.symm
  cases r1 <;> cases r2 <;> simp_all
 subst hr
 refine ⟨!r1, ?_, ?_⟩
 ·unfold spec_IsSafeMix.f
  refine Ev.bind (pcs1 p hl n a s u v) ?_
  rw [hk]
  have key : ∀ (c i : Nat) (acc : List (List Int)), i + c = ks.length → acc.length ≤ i → acc ++ rowsT p d (ks.drop i) = rowsT p d ks → Ev (fun k => spec_IsSafeMix.l0 k d acc ks (i : Int) n a s p) (!r1) := by
   intro c
   induction c with
   | zero =>
    intro i acc hi ha hacc
    refine Ev.step (fun k => by rw [spec_IsSafeMix.l0]) ?_
    repeat (first | (with_reducible refine Ev.ite_pos (by omega) ?_) | (with_reducible refine Ev.ite_neg (by omega) ?_))
    rw [List.drop_of_length_le (by omega), show rowsT p d [] = [] from rfl, List.append_nil] at hacc
    rw [hacc]
    exact Ev.bind e1 (Ev.now _)
   | succ c ih =>
    intro i acc hi ha hacc
    refine Ev.step (fun k => by rw [spec_IsSafeMix.l0]) ?_
    repeat (first | (with_reducible refine Ev.ite_pos (by omega) ?_) | (with_reducible refine Ev.ite_neg (by omega) ?_))
    rw [drop_getD (by omega : i < ks.length) 0] at hacc
    rw [rd_nat, w64n (by omega)]
    refine Ev.bind0 (table1 p hp n a s (ks.getD i 0) d) ?_
    by_cases hok : okT p (ks.getD i 0) d
    ·have ht : (tableIn p (ks.getD i 0) d).2.2.2 = true := by unfold tableIn; rw [if_pos hok]
     refine Ev.ite_pos ht ?_
     repeat (first | (with_reducible refine Ev.ite_pos (by omega) ?_) | (with_reducible refine Ev.ite_neg (by omega) ?_))
     refine ih (i + 1) _ (by omega) (by simp; omega) ?_
     rw [← hacc, List.append_assoc]
     congr 1
     unfold rowsT
     rw [List.filter_cons_of_pos (by simpa using hok)]
     rfl
    ·have ht : (tableIn p (ks.getD i 0) d).2.2.2 = false := by unfold tableIn; rw [if_neg hok]
     refine Ev.ite_neg (by rw [ht]; simp) ?_
     refine ih (i + 1) _ (by omega) (by omega) ?_
     rw [← hacc]
     congr 1
     unfold rowsT
     rw [List.filter_cons_of_neg (by simpa using hok)]
  exact key ks.length 0 [] (by omega) (by simp) (by simp)
 ·unfold impl_IsSafeMix.f
  refine Ev.bind (pcs2 p hl n a s u v) ?_
  rw [hk]
  have key : ∀ (c i : Nat) (acc : List (List Int)), i + c = ks.length → acc.length ≤ i → acc ++ rowsA p d (ks.drop i) = rowsA p d ks → Ev (fun k => impl_IsSafeMix.l0 k d acc ks (ks.length : Int) (i : Int) n a s p) (!r1) := by
   intro c
   induction c with
   | zero =>
    intro i acc hi ha hacc
    refine Ev.step (fun k => by rw [impl_IsSafeMix.l0]) ?_
    repeat (first | (with_reducible refine Ev.ite_pos (by omega) ?_) | (with_reducible refine Ev.ite_neg (by omega) ?_))
    rw [List.drop_of_length_le (by omega), show rowsA p d [] = [] from rfl, List.append_nil] at hacc
    rw [hacc]
    exact Ev.bind e2 (Ev.now _)
   | succ c ih =>
    intro i acc hi ha hacc
    refine Ev.step (fun k => by rw [impl_IsSafeMix.l0]) ?_
    repeat (first | (with_reducible refine Ev.ite_pos (by omega) ?_) | (with_reducible refine Ev.ite_neg (by omega) ?_))
    rw [drop_getD (by omega : i < ks.length) 0] at hacc
    rw [rd_nat, w64n (by omega)]
    refine Ev.bind0 (table2 p hp n a s (ks.getD i 0) d) ?_
    repeat (first | (with_reducible refine Ev.ite_pos (by omega) ?_) | (with_reducible refine Ev.ite_neg (by omega) ?_))
    refine ih (i + 1) _ (by omega) (by simp; omega) ?_
    rw [← hacc, List.append_assoc]
    rfl
  exact key ks.length 0 [] (by omega) (by simp) (by simp)
noncomputable def mixB (p : List S76) (hp : nPgI p ≤ 1048576) (n a s d u v : Int) : Bool := Classical.choose (mix p hp n a s d u v)
theorem mix1 (p : List S76) (hp : nPgI p ≤ 1048576) (n a s d u v : Int) : Ev (fun k => spec_IsSafeMix.f k n a s p d u v) (mixB p hp n a s d u v) := (Classical.choose_spec (mix p hp n a s d u v)).1
theorem mix2 (p : List S76) (hp : nPgI p ≤ 1048576) (n a s d u v : Int) : Ev (fun k => impl_IsSafeMix.f k n a s p d u v) (mixB p hp n a s d u v) := (Classical.choose_spec (mix p hp n a s d u v)).2
end Go.Proofs.YthnlkgbhohchoaaGreat.fnExactRepairedAt
/- The piece of a tick, in the program and in the reference. Conditions: none. -/
namespace Go.Proofs.YthnlkgbhohchoaaGreat.fnExactRepairedAt
open Go.RowKit Go.Proofs.YthnlkgbhohchoaaGreatW.PrintWords Go.Proofs.YthnlkgbhohchoaaGreatW.PrintMore Go.Proofs.YthnlkgbhohchoaaGreat.QFnExactRepairedAt Go.Proofs.YthnlkgbhohchoaaGreat.Open Go.Proofs.YthnlkgbhohchoaaGreat.Kit
theorem same_In (a b t : Int) : spec_InSpan.f a b t = impl_InSpan.f a b t := by
 unfold spec_InSpan.f impl_InSpan.f spec_IsSpan.f impl_IsSpan.f
 rfl
theorem piece1 (p : List S76) (hl : p.length ≤ 1048576) (n a s t : Int) : Ev (fun k => spec_PieceAt.f k n a s p t) (impl_PieceAt.go t p 0) := by
 have key : ∀ d i : Nat, i + d = p.length → Ev (fun k => spec_PieceAt.l0 k t (i : Int) n a s p) (impl_PieceAt.go t (p.drop i) i) := by
  intro d
  induction d with
  | zero =>
   intro i hi
   refine Ev.step (fun k => by rw [spec_PieceAt.l0]) ?_
   repeat (first | (with_reducible refine Ev.ite_pos (by omega) ?_) | (with_reducible refine Ev.ite_neg (by omega) ?_))
   refine Ev.some ?_
   rw [List.drop_of_length_le (by omega), impl_PieceAt.go]
  | succ d ih =>
   intro i hi
   have h1 := ih (i + 1) (by omega)
   refine Ev.step (fun k => by rw [spec_PieceAt.l0]) ?_
   repeat (first | (with_reducible refine Ev.ite_pos (by omega) ?_) | (with_reducible refine Ev.ite_neg (by omega) ?_))
   rw [drop_getD (by omega : i < p.length) z76, show rd_T76 p (i : Int) = p.getD i z76 from rfl, w64n (by omega), same_In, impl_PieceAt.go]
   obtain ⟨q, hq⟩ := impl_PieceAt.tot (p.getD i z76).f0.f0 (p.getD i z76).f0.f1 t
   refine Ev.bind0 hq ?_
   cases q with
   | true =>
    rw [if_pos (by unfold impl_PieceAt.hit; rw [hq]; rfl)]
    exact Ev.ite_pos rfl (Ev.now _)
   | false =>
    rw [if_neg (by unfold impl_PieceAt.hit; rw [hq]; decide)]
    exact Ev.ite_neg (by simp) h1
 exact key p.length 0 (by omega)
theorem piece2 (p : List S76) (hl : p.length ≤ 1048576) (n a s t : Int) : impl_PieceAt.f n a s p t = some (impl_PieceAt.go t p 0) := by
 unfold impl_PieceAt.f
 rw [if_pos (by omega)]
end Go.Proofs.YthnlkgbhohchoaaGreat.fnExactRepairedAt
/- The next node at a tick, in the program and in the reference. Conditions: none. -/
namespace Go.Proofs.YthnlkgbhohchoaaGreat.fnExactRepairedAt
open Go.RowKit Go.Proofs.YthnlkgbhohchoaaGreatW.PrintWords Go.Proofs.YthnlkgbhohchoaaGreatW.PrintMore Go.Proofs.YthnlkgbhohchoaaGreat.QFnExactRepairedAt Go.Proofs.YthnlkgbhohchoaaGreat.Open Go.Proofs.YthnlkgbhohchoaaGreat.Kit
theorem in2 (a b c : Int) : impl_InRange.f a b c = some (decide (b ≤ a ∧ a ≤ c)) := by
 unfold impl_InRange.f
 by_cases h : b ≤ a <;> simp [h]
def nx (p : List S76) (k d node : Int) : Int × Bool := if okT p k d ∧ 0 ≤ node ∧ node < ((tab p k d).f2.length : Int) then (rd (tab p k d).f2 node, true) else (-1, false)
theorem next1 (p : List S76) (hp : nPgI p ≤ 1048576) (n a s node d t : Int) : Ev (fun k => spec_l19Next.f k n a s p node d t) (nx p (impl_PieceAt.go t p 0) d node).1 := by
 have hl : p.length ≤ 1048576 := by unfold nPgI at hp; omega
 unfold spec_l19Next.f
 refine Ev.bind (piece1 p hl n a s t) ?_
 generalize impl_PieceAt.go t p 0 = k
 refine Ev.bind0 (table1 p hp n a s k d) (Ev.eq ?_)
 unfold nx
 by_cases hok : okT p k d
 ·have htl := (tab_len hp hok).2.2
  have e : tableIn p k d = ((tab p k d).f0, (tab p k d).f1, (tab p k d).f2, true) := if_pos hok
  rw [e]
  show (if true = true then (spec_l1In.f node 0 (wrap64 (((tab p k d).f2.length : Int) - 1))).bind (fun t => if t = true then (if 0 ≤ node then (if node < ((tab p k d).f2.length : Int) then some (rd (tab p k d).f2 node) else none) else none) else some (-1)) else some (-1)) = _
  rw [if_pos rfl, in1, Option.bind_some, w64 (x := ((tab p k d).f2.length : Int) - 1) (by omega) (by omega)]
  by_cases h : 0 ≤ node ∧ node < ((tab p k d).f2.length : Int)
  ·rw [if_pos (decide_eq_true (show 0 ≤ node ∧ node ≤ ((tab p k d).f2.length : Int) - 1 by omega)), if_pos h.1, if_pos h.2, if_pos ⟨hok, h⟩]
  ·rw [if_neg (by rw [decide_eq_false (show ¬ (0 ≤ node ∧ node ≤ ((tab p k d).f2.length : Int) - 1) by omega)]; decide), if_neg (fun h2 => h h2.2)]
 ·have e : tableIn p k d = (0, [], [], false) := if_neg hok
  rw [e]
  show (if false = true then _ else some (-1)) = _
  rw [if_neg (by decide), if_neg (fun h2 => hok h2.1)]
theorem next2 (p : List S76) (hp : nPgI p ≤ 1048576) (n a s k d node : Int) : impl_nextIn.f n a s p k d node = some (nx p k d node) := by
 unfold impl_nextIn.f
 rw [table2 p hp n a s k d, Option.bind_some]
 unfold nx
 by_cases hok : okT p k d
 ·have e : tableIn p k d = ((tab p k d).f0, (tab p k d).f1, (tab p k d).f2, true) := if_pos hok
  rw [e]
  show (if true = true then (impl_isIndex.f node ((tab p k d).f2.length : Int)).bind (fun t => if t = true then (if 0 ≤ node then (if node < ((tab p k d).f2.length : Int) then some (rd (tab p k d).f2 node, true) else none) else none) else some (-1, false)) else some (-1, false)) = _
  rw [if_pos rfl, isIx, Option.bind_some]
  by_cases h : 0 ≤ node ∧ node < ((tab p k d).f2.length : Int)
  ·rw [if_pos (decide_eq_true h), if_pos h.1, if_pos h.2, if_pos ⟨hok, h⟩]
  ·rw [if_neg (by rw [decide_eq_false h]; decide), if_neg (fun h2 => h h2.2)]
 ·have e : tableIn p k d = (0, [], [], false) := if_neg hok
  rw [e]
  show (if false = true then _ else some (-1, false)) = _
  rw [if_neg (by decide), if_neg (fun h2 => hok h2.1)]
noncomputable def hop (p : List S76) (hp : nPgI p ≤ 1048576) (n a s node d t : Int) : Int := if ((0 ≤ s ∧ s ≤ 5) ∧ (0 ≤ t ∧ t ≤ 1000)) ∧ mixB p hp n a s d (wrap64 (t - wrap64 (2 * s))) (wrap64 (t + wrap64 (2 * s))) = true then (nx p (impl_PieceAt.go t p 0) d node).1 else -1
theorem hop1 (p : List S76) (hp : nPgI p ≤ 1048576) (n a s node d t : Int) : Ev (fun k => spec_HopAt.f k n a s p node d t) (hop p hp n a s node d t) := by
 unfold spec_HopAt.f hop
 refine Ev.bind0 (in1 s 0 5) ?_
 by_cases h1 : 0 ≤ s ∧ s ≤ 5
 ·refine Ev.ite_pos (decide_eq_true h1) (Ev.bind0 (in1 t 0 1000) ?_)
  by_cases h2 : 0 ≤ t ∧ t ≤ 1000
  ·refine Ev.ite_pos (decide_eq_true h2) (Ev.bind (mix1 p hp n a s d _ _) ?_)
   by_cases h3 : mixB p hp n a s d (wrap64 (t - wrap64 (2 * s))) (wrap64 (t + wrap64 (2 * s))) = true
   ·rw [if_pos ⟨⟨h1, h2⟩, h3⟩]
    exact Ev.ite_pos h3 (Ev.bind (next1 p hp n a s node d t) (Ev.now _))
   ·rw [if_neg (fun h => h3 h.2)]
    exact Ev.ite_neg h3 (Ev.now _)
  ·rw [if_neg (fun h => h2 h.1.2)]
   exact Ev.ite_neg (by rw [decide_eq_false h2]; decide) (Ev.now _)
 ·rw [if_neg (fun h => h1 h.1.1)]
  exact Ev.ite_neg (by rw [decide_eq_false h1]; decide) (Ev.now _)
theorem skewed (p : List S76) (n a s t : Int) : impl_isSkewed.f n a s p t = some (decide ((0 ≤ s ∧ s ≤ 5) ∧ (0 ≤ t ∧ t ≤ 1000))) := by
 unfold impl_isSkewed.f
 rw [in2, in2]
 by_cases h1 : 0 ≤ s ∧ s ≤ 5 <;> simp [h1]
theorem hop2 (p : List S76) (hp : nPgI p ≤ 1048576) (n a s node d t : Int) : Ev (fun k => impl_HopAt.f k n a s p node d t) (hop p hp n a s node d t) := by
 have hl : p.length ≤ 1048576 := by unfold nPgI at hp; omega
 unfold impl_HopAt.f hop
 refine Ev.bind0 (piece2 p hl n a s t) ?_
 generalize impl_PieceAt.go t p 0 = k
 refine Ev.bind0 (next2 p hp n a s k d node) ?_
 have hno : (nx p k d node).2 = false → (nx p k d node).1 = -1 := by
  unfold nx
  intro h
  by_cases hc : okT p k d ∧ 0 ≤ node ∧ node < ((tab p k d).f2.length : Int)
  ·rw [if_pos hc] at h
   cases h
  ·rw [if_neg hc]
 cases h0 : (nx p k d node).2 with
 | false =>
  have h1 := hno h0
  refine Ev.ite_neg (by decide) (Ev.some ?_)
  rw [h1, ite_self]
 | true =>
  refine Ev.ite_pos rfl (Ev.bind0 (skewed p n a s t) ?_)
  by_cases h2 : (0 ≤ s ∧ s ≤ 5) ∧ (0 ≤ t ∧ t ≤ 1000)
  ·refine Ev.ite_pos (decide_eq_true h2) (Ev.bind (mix2 p hp n a s d _ _) ?_)
   by_cases h3 : mixB p hp n a s d (wrap64 (t - wrap64 (2 * s))) (wrap64 (t + wrap64 (2 * s))) = true
   ·refine Ev.ite_pos h3 (Ev.some ?_)
    rw [if_pos ⟨h2, h3⟩]
   ·refine Ev.ite_neg h3 (Ev.some ?_)
    rw [if_neg (fun h => h3 h.2)]
  ·rw [if_neg (fun h => h2 h.1)]
   exact Ev.ite_neg (by rw [decide_eq_false h2]; decide) (Ev.now _)
end Go.Proofs.YthnlkgbhohchoaaGreat.fnExactRepairedAt
/- A search in breadth from one node: what it comes to, and what holds of its answer. Conditions: none. -/
namespace Go.Proofs.YthnlkgbhohchoaaGreat.Bfs
open Go.RowKit Go.Proofs.YthnlkgbhohchoaaGreatW.PrintWords Go.Proofs.YthnlkgbhohchoaaGreat.Kit
def vis (n : Nat) (c : Int) : List Int → List Int → List Int → List Int × List Int
 | [], d, q => (d, q)
 | y :: ys, d, q => if 0 ≤ y ∧ y < n ∧ rd d y < 0 then vis n c ys (d.set y.toNat c) (q ++ [y]) else vis n c ys d q
def neg (d : List Int) : Nat := d.countP (fun x => decide (x < 0))
theorem neg_set : ∀ (d : List Int) (i : Nat) (c : Int), i < d.length → d.getD i 0 < 0 → 0 ≤ c → neg (d.set i c) + 1 = neg d
 | [], i, c, h, _, _ => by simp at h
 | x :: d, 0, c, _, h, hc => by
  have h' : x < 0 := by simpa using h
  have hc' : ¬ c < 0 := by omega
  simp [neg, h', hc']
 | x :: d, i + 1, c, h, hx, hc => by
  have := neg_set d i c (by simpa using h) (by simpa using hx) hc
  simp only [neg, List.set_cons_succ, List.countP_cons] at this ⊢
  omega
theorem rd_set {d : List Int} {i j c : Int} (hi : 0 ≤ i) (hj : 0 ≤ j) (h : i < d.length) : rd (d.set i.toNat c) j = if i = j then c else rd d j := by
 unfold rd
 rw [List.getD_eq_getElem?_getD, List.getElem?_set, List.getD_eq_getElem?_getD]
 by_cases e : i = j
 ·subst e
  rw [if_pos rfl, if_pos rfl, if_pos (by omega)]
  rfl
 ·rw [if_neg (by omega), if_neg e]
theorem vis_spec {n : Nat} {c : Int} (hc : 0 ≤ c) : ∀ (ys d q : List Int), d.length = n → ∃ a, (vis n c ys d q).2 = q ++ a ∧ (vis n c ys d q).1.length = n ∧ neg (vis n c ys d q).1 + a.length = neg d ∧
   (∀ y ∈ a, y ∈ ys ∧ 0 ≤ y ∧ y < n ∧ rd (vis n c ys d q).1 y = c) ∧ (∀ v : Int, 0 ≤ v → v < n → rd (vis n c ys d q).1 v = rd d v ∨ rd d v < 0 ∧ rd (vis n c ys d q).1 v = c ∧ v ∈ a) ∧ ∀ y ∈ ys, 0 ≤ y → y < n → 0 ≤ rd (vis n c ys d q).1 y
 | [], d, q, hd => ⟨[], by simp [vis], hd, by simp [vis], by simp, fun v _ _ => .inl rfl, by simp⟩
 | y :: ys, d, q, hd => by
  by_cases h : 0 ≤ y ∧ y < n ∧ rd d y < 0
  ·obtain ⟨a, h1, h2, h3, h4, h5, h6⟩ := vis_spec hc ys (d.set y.toNat c) (q ++ [y]) (by simpa using hd)
   have hs : ∀ v : Int, 0 ≤ v → rd (d.set y.toNat c) v = if y = v then c else rd d v := fun v hv => rd_set h.1 hv (by omega)
   have hy : rd (vis n c ys (d.set y.toNat c) (q ++ [y])).1 y = c := by
    rcases h5 y h.1 h.2.1 with e | ⟨e, _⟩
    ·rw [e, hs y h.1, if_pos rfl]
    ·rw [hs y h.1, if_pos rfl] at e
     omega
   refine ⟨y :: a, ?_, ?_, ?_, ?_, ?_, ?_⟩
   ·simp only [vis, if_pos h]
    rw [h1]
    simp
   ·simp only [vis, if_pos h]
    exact h2
   ·simp only [vis, if_pos h]
    have := neg_set d y.toNat c (by omega) h.2.2 hc
    rw [List.length_cons]
    omega
   ·simp only [vis, if_pos h]
    intro v hv
    rcases List.mem_cons.1 hv with rfl | hv
    ·exact ⟨List.mem_cons_self, h.1, h.2.1, hy⟩
    ·exact ⟨List.mem_cons_of_mem _ (h4 v hv).1, (h4 v hv).2⟩
   ·simp only [vis, if_pos h]
    intro v h0 hn
    by_cases e : y = v
    ·subst e
     exact .inr ⟨h.2.2, hy, List.mem_cons_self⟩
    ·rcases h5 v h0 hn with g | ⟨g1, g2, g3⟩
     ·rw [hs v h0, if_neg e] at g
      exact .inl g
     ·rw [hs v h0, if_neg e] at g1
      exact .inr ⟨g1, g2, List.mem_cons_of_mem _ g3⟩
   ·simp only [vis, if_pos h]
    intro v hv h0 hn
    rcases List.mem_cons.1 hv with rfl | hv
    ·rw [hy]
     exact hc
    ·exact h6 v hv h0 hn
  ·obtain ⟨a, h1, h2, h3, h4, h5, h6⟩ := vis_spec hc ys d q hd
   simp only [vis, if_neg h]
   refine ⟨a, h1, h2, h3, fun v hv => ⟨List.mem_cons_of_mem _ (h4 v hv).1, (h4 v hv).2⟩, h5, ?_⟩
   intro v hv h0 hn
   rcases List.mem_cons.1 hv with rfl | hv
   ·rcases h5 v h0 hn with g | ⟨_, g, _⟩
    ·rw [g]
     omega
    ·omega
   ·exact h6 v hv h0 hn
structure Inv (near : Int → List Int) (ex : Int → Bool) (n : Nat) (dst : Int) (d q : List Int) : Prop where
 len : d.length = n
 din : 0 ≤ dst ∧ dst < n
 d0 : rd d dst = 0
 zero : ∀ x : Int, 0 ≤ x → x < n → rd d x = 0 → x = dst
 qin : ∀ x ∈ q, 0 ≤ x ∧ x < n ∧ 0 ≤ rd d x
 low : ∀ x : Int, 0 ≤ x → x < n → -1 ≤ rd d x
 pred : ∀ v : Int, 0 ≤ v → v < n → 0 < rd d v → ∃ u : Int, 0 ≤ u ∧ u < n ∧ ex u = true ∧ v ∈ near u ∧ rd d u = rd d v - 1
 done : ∀ u : Int, 0 ≤ u → u < n → 0 ≤ rd d u → u ∈ q ∨ (ex u = true → ∀ v ∈ near u, 0 ≤ v → v < n → 0 ≤ rd d v ∧ rd d v ≤ rd d u + 1)
 sorted : q.Pairwise (fun x y => rd d x ≤ rd d y)
 head : ∀ h q', q = h :: q' → ∀ v : Int, 0 ≤ v → v < n → rd d v ≤ rd d h + 1
 bound : ∀ v : Int, 0 ≤ v → v < n → rd d v + neg d < n
theorem Inv.step {near : Int → List Int} {ex : Int → Bool} {n : Nat} {dst x : Int} {d q : List Int} (H : Inv near ex n dst d (x :: q)) (hx : ex x = true) :
  Inv near ex n dst (vis n (rd d x + 1) (near x) d q).1 (vis n (rd d x + 1) (near x) d q).2 ∧ neg (vis n (rd d x + 1) (near x) d q).1 + (vis n (rd d x + 1) (near x) d q).2.length + 1 = neg d + (x :: q).length := by
 have hs := List.pairwise_cons.1 H.sorted
 have hxi := H.qin x List.mem_cons_self
 obtain ⟨a, h1, h2, h3, h4, h5, h6⟩ := vis_spec (n := n) (c := rd d x + 1) (by omega) (near x) d q H.len
 generalize (vis n (rd d x + 1) (near x) d q).1 = d' at *
 generalize (vis n (rd d x + 1) (near x) d q).2 = q' at *
 subst h1
 have keep : ∀ v : Int, 0 ≤ v → v < n → 0 ≤ rd d v → rd d' v = rd d v := fun v h0 hn hv => by
  rcases h5 v h0 hn with e | ⟨e, _⟩
  ·exact e
  ·omega
 have up : ∀ v : Int, 0 ≤ v → v < n → rd d' v ≤ rd d x + 1 := fun v h0 hn => by
  rcases h5 v h0 hn with e | ⟨_, e, _⟩
  ·rw [e]
   exact H.head x q rfl v h0 hn
  ·omega
 have hbx := H.bound x hxi.1 hxi.2.1
 refine ⟨⟨h2, H.din, ?_, ?_, ?_, ?_, ?_, ?_, ?_, ?_, ?_⟩, ?_⟩
 ·rw [keep _ H.din.1 H.din.2 (by rw [H.d0]; omega), H.d0]
 ·intro v h0 hn e
  rcases h5 v h0 hn with g | ⟨_, g, _⟩
  ·exact H.zero v h0 hn (by omega)
  ·omega
 ·intro v hv
  rcases List.mem_append.1 hv with hv | hv
  ·have := H.qin v (List.mem_cons_of_mem _ hv)
   rw [keep v this.1 this.2.1 this.2.2]
   exact this
  ·have := h4 v hv
   exact ⟨this.2.1, this.2.2.1, by omega⟩
 ·intro v h0 hn
  have := H.low v h0 hn
  rcases h5 v h0 hn with g | ⟨_, g, _⟩ <;> omega
 ·intro v h0 hn hv
  rcases h5 v h0 hn with g | ⟨_, g, hm⟩
  ·obtain ⟨u, hu0, hun, he, hm, hd⟩ := H.pred v h0 hn (by omega)
   exact ⟨u, hu0, hun, he, hm, by rw [keep u hu0 hun (by omega)]; omega⟩
  ·exact ⟨x, hxi.1, hxi.2.1, hx, (h4 v hm).1, by rw [keep x hxi.1 hxi.2.1 hxi.2.2]; omega⟩
 ·intro u h0 hn hu
  rcases h5 u h0 hn with g | ⟨_, g, hm⟩
  ·rcases H.done u h0 hn (by omega) with h | h
   ·rcases List.mem_cons.1 h with rfl | h
    ·refine .inr fun _ v hv hv0 hvn => ⟨h6 v hv hv0 hvn, ?_⟩
     have := up v hv0 hvn
     omega
    ·exact .inl (List.mem_append_left _ h)
   ·refine .inr fun he v hv hv0 hvn => ?_
    have := h he v hv hv0 hvn
    rw [keep v hv0 hvn this.1]
    omega
  ·exact .inl (List.mem_append_right _ hm)
 ·refine List.pairwise_append.2 ⟨?_, ?_, ?_⟩
  ·refine List.Pairwise.imp_of_mem ?_ hs.2
   intro u v hu hv huv
   have h1 := H.qin u (List.mem_cons_of_mem _ hu)
   have h2 := H.qin v (List.mem_cons_of_mem _ hv)
   rw [keep u h1.1 h1.2.1 h1.2.2, keep v h2.1 h2.2.1 h2.2.2]
   exact huv
  ·refine List.Pairwise.imp_of_mem (R := fun _ _ => True) ?_ (List.pairwise_iff_getElem.2 fun _ _ _ _ _ => trivial)
   intro u v hu hv _
   rw [(h4 u hu).2.2.2, (h4 v hv).2.2.2]
   omega
  ·intro u hu v hv
   rw [(h4 v hv).2.2.2]
   have h1 := H.qin u (List.mem_cons_of_mem _ hu)
   exact up u h1.1 h1.2.1
 ·intro h q'' e v h0 hn
  have h1 := up v h0 hn
  have hm : h ∈ q ++ a := by rw [e]; exact List.mem_cons_self
  rcases List.mem_append.1 hm with hm | hm
  ·have h2 := hs.1 h hm
   have h3 := H.qin h (List.mem_cons_of_mem _ hm)
   rw [keep h h3.1 h3.2.1 h3.2.2]
   omega
  ·rw [(h4 h hm).2.2.2]
   omega
 ·intro v h0 hn
  rcases h5 v h0 hn with g | ⟨_, g, hm⟩
  ·have := H.bound v h0 hn
   omega
  ·have : 0 < a.length := List.length_pos_of_mem hm
   omega
 ·rw [List.length_append, List.length_cons]
  omega
end Go.Proofs.YthnlkgbhohchoaaGreat.Bfs
/- Rows of numbers in order, without doubles: there is one for each set. Conditions: none. -/
namespace Go.Proofs.YthnlkgbhohchoaaGreat.Nb
def Up (l : List Int) : Prop := l.Pairwise (fun x y => x < y)
theorem up_uniq : ∀ {a b : List Int}, Up a → Up b → (∀ x, x ∈ a ↔ x ∈ b) → a = b
 | [], [], _, _, _ => rfl
 | [], y :: b, _, _, h => by
  have := (h y).2 List.mem_cons_self
  cases this
 | x :: a, [], _, _, h => by
  have := (h x).1 List.mem_cons_self
  cases this
 | x :: a, y :: b, ha, hb, h => by
  have h1 := List.pairwise_cons.1 ha
  have h2 := List.pairwise_cons.1 hb
  have e : x = y := by
   rcases List.mem_cons.1 ((h x).1 List.mem_cons_self) with e | m1
   ·exact e
   ·rcases List.mem_cons.1 ((h y).2 List.mem_cons_self) with e | m2
    ·exact e.symm
    ·have := h2.1 x m1
     have := h1.1 y m2
     omega
  subst e
  rw [up_uniq h1.2 h2.2 fun z => ?_]
  constructor
  ·intro hz
   rcases List.mem_cons.1 ((h z).1 (List.mem_cons_of_mem _ hz)) with e | m
   ·have := h1.1 z hz
    omega
   ·exact m
  ·intro hz
   rcases List.mem_cons.1 ((h z).2 (List.mem_cons_of_mem _ hz)) with e | m
   ·have := h2.1 z hz
    omega
   ·exact m
theorem compact_up {zs : List Int} (hs : zs.Pairwise (fun x y => x ≤ y)) : Up (Go.Lib.compact zs) ∧ ∀ x, x ∈ Go.Lib.compact zs ↔ x ∈ zs := by
 have hg : ∀ i j, i < j → j < zs.length → zs.toArray[i]! ≤ zs.toArray[j]! := by
  intro i j hij hj
  have := List.pairwise_iff_getElem.1 hs i j (by omega) hj hij
  rw [getElem!_pos zs.toArray i (by simp; omega), getElem!_pos zs.toArray j (by simp; omega)]
  simpa using this
 have key : ∀ m, m ≤ zs.length → Up (Go.Lib.compactUpTo zs.toArray m) ∧ ∀ x, x ∈ Go.Lib.compactUpTo zs.toArray m ↔ ∃ j, j < m ∧ zs.toArray[j]! = x := by
  intro m
  induction m with
  | zero => exact fun _ => ⟨by simp [Up, Go.Lib.compactUpTo], fun x => by simp [Go.Lib.compactUpTo]⟩
  | succ m ih =>
   intro hm
   obtain ⟨h1, h2⟩ := ih (by omega)
   rw [Go.Lib.compactUpTo_succ]
   by_cases hk : Go.Lib.keeps zs.toArray m = true
   ·rw [if_pos hk]
    refine ⟨List.pairwise_append.2 ⟨h1, List.pairwise_singleton _ _, ?_⟩, ?_⟩
    ·intro x hx y hy
     rw [List.mem_singleton] at hy
     subst hy
     obtain ⟨j, hj, rfl⟩ := (h2 x).1 hx
     have h3 := hg j m hj (by omega)
     have h5 : zs.toArray[m]! ≠ zs.toArray[m - 1]! := by
      intro e
      rw [Go.Lib.keeps_neg (by omega) e] at hk
      cases hk
     have h4 : zs.toArray[j]! ≤ zs.toArray[m - 1]! := by
      by_cases e : j = m - 1
      ·rw [e]
       omega
      ·exact hg j (m - 1) (by omega) (by omega)
     have h6 := hg (m - 1) m (by omega) (by omega)
     omega
    ·intro x
     rw [List.mem_append, h2, List.mem_singleton]
     constructor
     ·rintro (⟨j, hj, e⟩ | e)
      ·exact ⟨j, by omega, e⟩
      ·exact ⟨m, by omega, e.symm⟩
     ·rintro ⟨j, hj, e⟩
      by_cases hjm : j = m
      ·subst hjm
       exact .inr e.symm
      ·exact .inl ⟨j, by omega, e⟩
   ·rw [if_neg hk, List.append_nil]
    refine ⟨h1, fun x => ?_⟩
    rw [h2]
    have hm0 : 0 < m := by
     refine Nat.pos_of_ne_zero fun e => ?_
     subst e
     exact hk (Go.Lib.keeps_lt_one _ 0 (by omega))
    have he : zs.toArray[m]! = zs.toArray[m - 1]! := by
     refine Classical.byContradiction fun h => ?_
     exact hk (Go.Lib.keeps_pos h)
    constructor
    ·rintro ⟨j, hj, e⟩
     exact ⟨j, by omega, e⟩
    ·rintro ⟨j, hj, e⟩
     by_cases hjm : j = m
     ·subst hjm
      exact ⟨j - 1, by omega, by rw [← he, e]⟩
     ·exact ⟨j, by omega, e⟩
 obtain ⟨h1, h2⟩ := key zs.length (Nat.le_refl _)
 refine ⟨h1, fun x => ?_⟩
 show x ∈ Go.Lib.compactUpTo zs.toArray zs.length ↔ _
 rw [h2]
 constructor
 ·rintro ⟨j, hj, rfl⟩
  rw [getElem!_pos zs.toArray j (by simpa using hj)]
  simp
 ·intro hx
  obtain ⟨j, hj, e⟩ := List.getElem_of_mem hx
  refine ⟨j, hj, ?_⟩
  rw [getElem!_pos zs.toArray j (by simpa using hj)]
  simpa using e
theorem sorted_up (zs : List Int) : Up (Go.Lib.compact (zs.mergeSort fun x y => decide (x ≤ y))) ∧ ∀ x, x ∈ Go.Lib.compact (zs.mergeSort fun x y => decide (x ≤ y)) ↔ x ∈ zs := by
 have h1 := List.pairwise_mergeSort (le := fun x y : Int => decide (x ≤ y)) (by intro a b c; simp; omega) (by intro a b; simp; omega) zs
 have h2 := compact_up (zs := zs.mergeSort fun x y => decide (x ≤ y)) (h1.imp (by intro a b h; simpa using h))
 refine ⟨h2.1, fun x => ?_⟩
 rw [h2.2, List.mem_mergeSort]
theorem up_put {out : List Int} {n : Int} {k : Nat} (hu : Up out) (hlt : ∀ x ∈ out.take k, x < n) (hge : ∀ x ∈ out.drop k, n < x) : Up (out.take k ++ n :: out.drop k) ∧ ∀ x, x ∈ out.take k ++ n :: out.drop k ↔ x ∈ out ∨ x = n := by
 have h0 := List.take_append_drop k out
 have hu' : Up (out.take k ++ out.drop k) := by rw [h0]; exact hu
 have h3 := List.pairwise_append.1 hu'
 refine ⟨List.pairwise_append.2 ⟨h3.1, List.pairwise_cons.2 ⟨hge, h3.2.1⟩, ?_⟩, ?_⟩
 ·intro x hx y hy
  rcases List.mem_cons.1 hy with rfl | hy
  ·exact hlt x hx
  ·exact h3.2.2 x hx y hy
 ·intro x
  have : x ∈ out ↔ x ∈ out.take k ∨ x ∈ out.drop k := by rw [← List.mem_append, h0]
  rw [this, List.mem_append, List.mem_cons]
  constructor
  ·rintro (h | h | h)
   ·exact .inl (.inl h)
   ·exact .inr h
   ·exact .inl (.inr h)
  ·rintro ((h | h) | h)
   ·exact .inl h
   ·exact .inr (.inr h)
   ·exact .inr (.inl h)
end Go.Proofs.YthnlkgbhohchoaaGreat.Nb
/- What neighbors, distances, next nodes and paths come to. Conditions: none. -/
namespace Go.Proofs.YthnlkgbhohchoaaGreat.fnExactRepairedAt
open Go.RowKit Go.Proofs.YthnlkgbhohchoaaGreatW.PrintWords Go.Proofs.YthnlkgbhohchoaaGreatW.PrintLast Go.Proofs.YthnlkgbhohchoaaGreatW.PrintMore Go.Proofs.YthnlkgbhohchoaaGreat.QFnExactRepairedAt Go.Proofs.YthnlkgbhohchoaaGreat.Open Go.Proofs.YthnlkgbhohchoaaGreat.Kit Go.Proofs.YthnlkgbhohchoaaGreat.Nb Go.Proofs.YthnlkgbhohchoaaGreat.Bfs
theorem ixP (a n : Int) : impl_isIndex.f a n = some (decide (0 ≤ a ∧ a < n)) := by
 unfold impl_isIndex.f
 by_cases h : a ≥ 0
 ·rw [if_pos h]
  simp [h]
 ·rw [if_neg h]
  simp
  omega
theorem inP (a b c : Int) : spec_l1In.f a b c = some (decide (b ≤ a ∧ a ≤ c)) := by
 unfold spec_l1In.f
 by_cases h : a ≥ b
 ·rw [if_pos h]
  simp [h]
 ·rw [if_neg h]
  simp
  omega
def nbOf (v : Int) (x : S90) : List Int := (if x.f0 = v then [x.f1] else []) ++ (if x.f1 = v then [x.f0] else [])
def nbRaw (l : List S90) (v : Int) : List Int := l.flatMap (nbOf v)
def nb (l : List S90) (v : Int) : List Int := Go.Lib.compact ((nbRaw l v).mergeSort fun x y => decide (x ≤ y))
def Links (l : List S90) (v y : Int) : Prop := ∃ x ∈ l, x.f0 = v ∧ x.f1 = y ∨ x.f1 = v ∧ x.f0 = y
theorem mem_nbOf {v y : Int} {x : S90} : y ∈ nbOf v x ↔ x.f0 = v ∧ x.f1 = y ∨ x.f1 = v ∧ x.f0 = y := by
 unfold nbOf
 rw [List.mem_append]
 constructor
 ·rintro (h | h)
  ·split at h
   ·rename_i c
    exact .inl ⟨c, (List.mem_singleton.1 h).symm⟩
   ·cases h
  ·split at h
   ·rename_i c
    exact .inr ⟨c, (List.mem_singleton.1 h).symm⟩
   ·cases h
 ·rintro (⟨h1, h2⟩ | ⟨h1, h2⟩)
  ·left
   rw [if_pos h1]
   exact List.mem_singleton.2 h2.symm
  ·right
   rw [if_pos h1]
   exact List.mem_singleton.2 h2.symm
theorem mem_nb {l : List S90} {v y : Int} : y ∈ nb l v ↔ Links l v y := by
 rw [nb, (sorted_up (nbRaw l v)).2 y, nbRaw, List.mem_flatMap]
 constructor
 ·rintro ⟨x, hx, h⟩
  exact ⟨x, hx, mem_nbOf.1 h⟩
 ·rintro ⟨x, hx, h⟩
  exact ⟨x, hx, mem_nbOf.2 h⟩
theorem nb_up (l : List S90) (v : Int) : Up (nb l v) := (sorted_up (nbRaw l v)).1
theorem nbOf_len (v : Int) (x : S90) : (nbOf v x).length ≤ 2 := by
 unfold nbOf
 split <;> split <;> simp
theorem nbRaw_len (l : List S90) (v : Int) : (nbRaw l v).length ≤ 2 * l.length := by
 unfold nbRaw
 induction l with
 | nil => simp
 | cons x l ih =>
  rw [List.flatMap_cons, List.length_append, List.length_cons]
  have := nbOf_len v x
  omega
theorem nb_len (l : List S90) (v : Int) : (nb l v).length ≤ 2 * l.length := by
 have h1 : (nb l v).length ≤ ((nbRaw l v).mergeSort fun x y => decide (x ≤ y)).length := by
  unfold nb Go.Lib.compact Go.Lib.compactUpTo
  rw [List.length_map]
  exact Nat.le_trans (List.length_filter_le _ _) (by simp)
 rw [List.length_mergeSort] at h1
 have := nbRaw_len l v
 omega
theorem nbI_l0 {l : List S90} (hl : l.length ≤ 1048576) (v : Int) : ∀ (d i : Nat), i + d = l.length → Ev (fun k => impl_NeighborsIn.l0 k v (nbRaw (l.take i) v) l (l.length : Int) (i : Int)) (nb l v) := by
 intro d
 induction d with
 | zero =>
  intro i hi
  have hr := nbRaw_len l v
  rw [List.take_of_length_le (by omega)]
  refine Ev.step (fun k => by rw [impl_NeighborsIn.l0]) ?_
  refine Ev.ite_neg (by omega) (Ev.bind0 (a := (nbRaw l v).mergeSort fun x y => decide (x ≤ y)) ?_ (Ev.bind0 (a := nb l v) ?_ (Ev.now _)))
  ·unfold slices_Sort_int_int.f
   rw [if_pos (by omega)]
  ·unfold slices_Compact_int_int.f
   rw [if_pos (by rw [List.length_mergeSort]; omega)]
   rfl
 | succ d ih =>
  intro i hi
  have hr := nbRaw_len (l.take i) v
  rw [List.length_take] at hr
  have h := ih (i + 1) (by omega)
  have he : nbRaw (l.take (i + 1)) v = nbRaw (l.take i) v ++ nbOf v (rd_T90 l (i : Int)) := by
   unfold nbRaw
   rw [take_succ_getD (show i < l.length by omega) z90, List.flatMap_append]
   simp
   rfl
  rw [he] at h
  refine Ev.step (fun k => by rw [impl_NeighborsIn.l0]) ?_
  refine Ev.ite_pos (by omega) (Ev.ite_pos (by omega) (Ev.ite_pos (by omega) ?_))
  rw [w64n (by omega)]
  by_cases c1 : (rd_T90 l (i : Int)).f0 = v
  ·refine Ev.ite_pos c1 (Ev.ite_pos (by omega) (Ev.bind0 rfl ?_))
   by_cases c2 : (rd_T90 l (i : Int)).f1 = v
   ·refine Ev.ite_pos c2 (Ev.ite_pos (by rw [List.length_append, List.length_singleton]; omega) ?_)
    unfold nbOf at h
    rw [if_pos c1, if_pos c2, ← List.append_assoc] at h
    exact h
   ·refine Ev.ite_neg c2 ?_
    unfold nbOf at h
    rw [if_pos c1, if_neg c2, List.append_nil] at h
    exact h
  ·refine Ev.ite_neg c1 ?_
   by_cases c2 : (rd_T90 l (i : Int)).f1 = v
   ·refine Ev.ite_pos c2 (Ev.ite_pos (by omega) ?_)
    unfold nbOf at h
    rw [if_neg c1, if_pos c2, List.nil_append] at h
    exact h
   ·refine Ev.ite_neg c2 ?_
    unfold nbOf at h
    rw [if_neg c1, if_neg c2, List.append_nil, List.append_nil] at h
    exact h
theorem nbI {l : List S90} (hl : l.length ≤ 1048576) (v : Int) : Ev (fun k => impl_NeighborsIn.f k l v) (nb l v) := nbI_l0 hl v l.length 0 (by omega)
def NbTo (l : List S90) (v : Int) (i : Nat) (out : List Int) : Prop := Up out ∧ out.length ≤ i ∧ ∀ y, y ∈ out ↔ Links (l.take i) v y
theorem nbS_l1 {l : List S90} {v n : Int} {i : Nat} {out r : List Int} (hl : l.length ≤ 1048576) (hi : i < l.length) (hu : Up out) (ho : out.length ≤ i)
  (hk : ∀ out', Up out' → out'.length ≤ i + 1 → (∀ x, x ∈ out' ↔ x ∈ out ∨ x = n) → Ev (fun k => spec_NeighborsIn.l0 k l v out' ((i + 1 : Nat) : Int)) r) :
  ∀ (d q : Nat), q + d = out.length → (∀ x ∈ out.take q, x < n) → Ev (fun k => spec_NeighborsIn.l1 k l v out (i : Int) n (q : Int)) r := by
 intro d
 induction d with
 | zero =>
  intro q hq hlt
  have hp := up_put (k := q) hu hlt (by rw [List.drop_of_length_le (by omega)]; simp)
  have hlen : (out.take q ++ n :: out.drop q).length = out.length + 1 := by
   rw [List.length_append, List.length_cons, List.length_take, List.length_drop]
   omega
  have h := hk _ hp.1 (by omega) hp.2
  refine Ev.step (fun k => by rw [spec_NeighborsIn.l1]) ?_
  refine Ev.ite_neg (by omega) (Ev.ite_pos (by omega) (Ev.bind0 rfl (Ev.ite_pos (by omega) (Ev.ite_pos (by omega) ?_))))
  rw [Int.toNat_natCast, w64n (by omega)]
  refine Ev.bind0 rfl (Ev.ite_pos ?_ (Ev.bind0 rfl (Ev.bind0 rfl (Ev.ite_pos ?_ (Ev.bind0 rfl (Ev.bind0 rfl (Ev.ite_pos ?_ ?_)))))))
  ·simp only [List.length_nil, List.length_take]
   omega
  ·simp only [List.length_append, List.length_nil, List.length_take, List.length_cons]
   omega
  ·simp only [List.length_append, List.length_nil, List.length_take, List.length_cons, List.length_drop]
   omega
  ·rw [List.nil_append, List.append_assoc]
   exact h
 | succ d ih =>
  intro q hq hlt
  have hql : q < out.length := by omega
  refine Ev.step (fun k => by rw [spec_NeighborsIn.l1]) ?_
  refine Ev.ite_pos (by omega) (Ev.ite_pos (by omega) ?_)
  rw [rd_nat]
  by_cases c : out.getD q 0 < n
  ·refine Ev.ite_pos c ?_
   rw [w64n (by omega)]
   refine ih (q + 1) (by omega) ?_
   intro x hx
   rw [take_succ_getD hql 0, List.mem_append, List.mem_singleton] at hx
   rcases hx with hx | rfl
   ·exact hlt x hx
   ·exact c
  ·refine Ev.ite_neg c (Ev.ite_neg (by omega) ?_)
   rw [w64n (by omega)]
   by_cases c2 : out.getD q 0 = n
   ·refine Ev.ite_pos c2 (hk out hu (by omega) fun x => ⟨.inl, ?_⟩)
    rintro (h | rfl)
    ·exact h
    ·rw [← c2]
     exact getD_mem hql 0
   ·have hge : ∀ x ∈ out.drop q, n < x := by
     intro x hx
     have h1 : Up (out.drop q) := List.Pairwise.sublist (List.drop_sublist q out) hu
     rw [drop_getD hql 0] at h1 hx
     rcases List.mem_cons.1 hx with rfl | hx
     ·omega
     ·have := (List.pairwise_cons.1 h1).1 x hx
      omega
    have hp := up_put (k := q) hu hlt hge
    have hlen : (out.take q ++ n :: out.drop q).length = out.length + 1 := by
     rw [List.length_append, List.length_cons, List.length_take, List.length_drop]
     omega
    have h := hk _ hp.1 (by omega) hp.2
    refine Ev.ite_neg c2 (Ev.bind0 rfl (Ev.ite_pos (by omega) ?_))
    rw [Int.toNat_natCast]
    refine Ev.bind0 rfl (Ev.ite_pos ?_ (Ev.bind0 rfl (Ev.bind0 rfl (Ev.ite_pos ?_ (Ev.bind0 rfl (Ev.bind0 rfl (Ev.ite_pos ?_ ?_)))))))
    ·simp only [List.length_nil, List.length_take]
     omega
    ·simp only [List.length_append, List.length_nil, List.length_take, List.length_cons]
     omega
    ·simp only [List.length_append, List.length_nil, List.length_take, List.length_cons, List.length_drop]
     omega
    ·rw [List.nil_append, List.append_assoc]
     exact h
theorem nbS_l0 {l : List S90} (hl : l.length ≤ 1048576) (v : Int) : ∀ (d i : Nat) (out : List Int), i + d = l.length → NbTo l v i out → Ev (fun k => spec_NeighborsIn.l0 k l v out (i : Int)) (nb l v) := by
 intro d
 induction d with
 | zero =>
  intro i out hi ho
  refine Ev.step (fun k => by rw [spec_NeighborsIn.l0]) ?_
  refine Ev.ite_neg (by omega) (Ev.some (up_uniq ho.1 (nb_up l v) fun x => ?_))
  rw [ho.2.2 x, mem_nb, List.take_of_length_le (by omega)]
 | succ d ih =>
  intro i out hi ho
  have hL : ∀ y, Links (l.take (i + 1)) v y ↔ Links (l.take i) v y ∨ ((rd_T90 l (i : Int)).f0 = v ∧ (rd_T90 l (i : Int)).f1 = y ∨ (rd_T90 l (i : Int)).f1 = v ∧ (rd_T90 l (i : Int)).f0 = y) := by
   intro y
   unfold Links
   rw [take_succ_getD (show i < l.length by omega) z90]
   constructor
   ·rintro ⟨x, hx, h⟩
    rcases List.mem_append.1 hx with hx | hx
    ·exact .inl ⟨x, hx, h⟩
    ·rw [List.mem_singleton.1 hx] at h
     exact .inr h
   ·rintro (⟨x, hx, h⟩ | h)
    ·exact ⟨x, List.mem_append_left _ hx, h⟩
    ·exact ⟨_, List.mem_append_right _ (List.mem_singleton.2 rfl), h⟩
  refine Ev.step (fun k => by rw [spec_NeighborsIn.l0]) ?_
  refine Ev.ite_pos (by omega) (Ev.ite_pos (by omega) ?_)
  by_cases c1 : (rd_T90 l (i : Int)).f0 = v
  ·refine Ev.ite_pos c1 ?_
   refine Ev.step (fun k => by rw [spec_NeighborsIn.j1]) ?_
   refine nbS_l1 (i := i) hl (by omega) ho.1 ho.2.1 (fun out' hu hlen hm => ih (i + 1) out' (by omega) ⟨hu, hlen, fun y => ?_⟩) out.length 0 (by omega) (by simp)
   rw [hm, hL, ho.2.2 y]
   constructor
   ·rintro (h | h)
    ·exact .inl h
    ·exact .inr (.inl ⟨c1, h.symm⟩)
   ·rintro (h | ⟨_, h⟩ | ⟨h1, h2⟩)
    ·exact .inl h
    ·exact .inr h.symm
    ·exact .inr (by omega)
  ·refine Ev.ite_neg c1 ?_
   by_cases c2 : (rd_T90 l (i : Int)).f1 = v
   ·refine Ev.ite_pos c2 ?_
    refine Ev.step (fun k => by rw [spec_NeighborsIn.j1]) ?_
    refine nbS_l1 (i := i) hl (by omega) ho.1 ho.2.1 (fun out' hu hlen hm => ih (i + 1) out' (by omega) ⟨hu, hlen, fun y => ?_⟩) out.length 0 (by omega) (by simp)
    rw [hm, hL, ho.2.2 y]
    constructor
    ·rintro (h | h)
     ·exact .inl h
     ·exact .inr (.inr ⟨c2, h.symm⟩)
    ·rintro (h | ⟨h, _⟩ | ⟨_, h⟩)
     ·exact .inl h
     ·exact absurd h c1
     ·exact .inr h.symm
   ·refine Ev.ite_neg c2 ?_
    rw [w64n (by omega)]
    refine ih (i + 1) out (by omega) ⟨ho.1, by have := ho.2.1; omega, fun y => ?_⟩
    rw [hL, ho.2.2 y]
    constructor
    ·exact .inl
    ·rintro (h | ⟨h, _⟩ | ⟨h, _⟩)
     ·exact h
     ·exact absurd h c1
     ·exact absurd h c2
theorem nbS {l : List S90} (hl : l.length ≤ 1048576) (v : Int) : Ev (fun k => spec_NeighborsIn.f k l v) (nb l v) := by
 refine nbS_l0 hl v l.length 0 [] (by omega) ⟨List.Pairwise.nil, by simp, fun y => ?_⟩
 simp [Links]
/-! ### distances -/
def nxB (n first dst : Int) (d : List Int) (dx y : Int) : Bool := decide (dx > 0 ∧ (0 ≤ y ∧ y < n) ∧ (y < first ∨ y = dst) ∧ rd d y = dx - 1)
def nxt (l : List S90) (n first dst : Int) (d : List Int) (x : Nat) : Int := ((nb l (x : Int)).find? (nxB n first dst d (rd d (x : Int)))).getD (-1)
structure Down (n first dst : Int) (d t : List Int) : Prop where
 dlen : d.length = n.toNat
 tlen : t.length = n.toNat
 rng : 1 ≤ n ∧ n ≤ 12
 din : 0 ≤ dst ∧ dst < n
 d0 : rd d dst = 0
 zero : ∀ x : Int, 0 ≤ x → x < n → rd d x = 0 → x = dst
 low : ∀ x : Int, 0 ≤ x → x < n → -1 ≤ rd d x ∧ rd d x < n
 stop : ∀ x : Int, 0 ≤ x → x < n → rd d x ≤ 0 → rd t x = -1
 step : ∀ x : Int, 0 ≤ x → x < n → 0 < rd d x → (0 ≤ rd t x ∧ rd t x < n) ∧ (rd t x < first ∨ rd t x = dst) ∧ rd d (rd t x) = rd d x - 1
end Go.Proofs.YthnlkgbhohchoaaGreat.fnExactRepairedAt
/- What the alternatives of a node come to. Conditions: none. -/
namespace Go.Proofs.YthnlkgbhohchoaaGreat.fnExactRepairedAt
open Go.RowKit Go.Proofs.YthnlkgbhohchoaaGreatW.PrintWords Go.Proofs.YthnlkgbhohchoaaGreatW.PrintLast Go.Proofs.YthnlkgbhohchoaaGreatW.PrintMore Go.Proofs.YthnlkgbhohchoaaGreat.QFnExactRepairedAt Go.Proofs.YthnlkgbhohchoaaGreat.Open Go.Proofs.YthnlkgbhohchoaaGreat.Kit Go.Proofs.YthnlkgbhohchoaaGreat.Nb Stb
theorem insK_len (key : Int → Int) (x : Int) : ∀ ys : List Int, (insK key x ys).length = ys.length + 1
 | [] => rfl
 | y :: ys => by
  unfold insK
  split
  ·rw [List.length_cons, insK_len key x ys, List.length_cons]
  ·rfl
theorem insK_cons (key : Int → Int) (x y : Int) (ys : List Int) : insK key x (y :: ys) = if key y ≤ key x then y :: insK key x ys else x :: y :: ys := rfl
def okA (D N : List Int) (t0 first node y : Int) : Bool := decide (y ≠ rd N node ∧ (y < first ∨ y = t0) ∧ (0 ≤ y ∧ y < (D.length : Int)) ∧ 0 ≤ rd D y ∧ rd D y < rd D node)
def alts (t0 : Int) (D N : List Int) (l : List S90) (first node : Int) : List Int :=
 if (0 ≤ node ∧ node < (D.length : Int)) ∧ 0 ≤ node ∧ node < (N.length : Int) then srt (fun x => rd D x) ((nb l node).filter (okA D N t0 first node)) else []
theorem altI_l0 {t0 first node : Int} {D N ys : List Int} (hy : ys.length ≤ 2097152) (hn : 0 ≤ node ∧ node < (D.length : Int)) (hN : node < (N.length : Int)) :
  ∀ (d i : Nat) (acc : List Int), i + d = ys.length → acc.length ≤ i → (∀ x ∈ acc, 0 ≤ x ∧ x < (D.length : Int)) →
   Ev (fun k => impl_AltsOf.l0 k first node acc ys (ys.length : Int) (i : Int) t0 D N) (srt (fun x => rd D x) (acc ++ (ys.drop i).filter (okA D N t0 first node))) := by
 intro d
 induction d with
 | zero =>
  intro i acc hi hl ha
  refine Ev.step (fun k => by rw [impl_AltsOf.l0]) ?_
  refine Ev.ite_neg (by omega) ?_
  rw [List.drop_of_length_le (by omega), List.filter_nil, List.append_nil]
  exact Ev.bind0 (if_pos ⟨by omega, ha⟩) (Ev.some rfl)
 | succ d ih =>
  intro i acc hi hl ha
  have hil : i < ys.length := by omega
  refine Ev.step (fun k => by rw [impl_AltsOf.l0]) ?_
  refine Ev.ite_pos (by omega) (Ev.ite_pos (by omega) (Ev.ite_pos (by omega) (Ev.ite_pos hn.1 (Ev.ite_pos hN ?_))))
  rw [drop_getD hil 0, List.filter_cons, rd_nat, w64n (by omega)]
  show Ev _ (srt _ (acc ++ if decide (_ ∧ _) = true then _ else _))
  by_cases h1 : ys.getD i 0 = rd N node
  ·rw [if_neg (by rw [decide_eq_false (fun h => h.1 h1)]; decide)]
   exact Ev.ite_pos h1 (ih (i + 1) acc (by omega) (by omega) ha)
  refine Ev.ite_neg h1 ?_
  by_cases h2 : ys.getD i 0 < first
  ·refine Ev.ite_pos h2 (Ev.bind0 (ixP _ _) ?_)
   by_cases h3 : 0 ≤ ys.getD i 0 ∧ ys.getD i 0 < (D.length : Int)
   ·refine Ev.ite_pos (decide_eq_true h3) (Ev.ite_pos h3.1 (Ev.ite_pos h3.2 ?_))
    by_cases h4 : rd D (ys.getD i 0) ≥ 0
    ·refine Ev.ite_pos h4 (Ev.ite_pos hn.2 ?_)
     by_cases h5 : rd D (ys.getD i 0) < rd D node
     ·refine Ev.ite_pos h5 (Ev.ite_pos (by omega) ?_)
      rw [if_pos (decide_eq_true ⟨h1, .inl h2, h3, h4, h5⟩)]
      have h6 := ih (i + 1) (acc ++ [ys.getD i 0]) (by omega) (by simp; omega) ?_
      ·rw [List.append_assoc] at h6
       exact h6
      intro x hx
      rcases List.mem_append.1 hx with hx | hx
      ·exact ha x hx
      ·rw [List.mem_singleton.1 hx]; exact h3
     ·rw [if_neg (by rw [decide_eq_false (fun h => h5 h.2.2.2.2)]; decide)]
      exact Ev.ite_neg h5 (ih (i + 1) acc (by omega) (by omega) ha)
    ·rw [if_neg (by rw [decide_eq_false (fun h => h4 h.2.2.2.1)]; decide)]
     exact Ev.ite_neg h4 (ih (i + 1) acc (by omega) (by omega) ha)
   ·rw [if_neg (by rw [decide_eq_false (fun h => h3 h.2.2.1)]; decide)]
    exact Ev.ite_neg (by rw [decide_eq_false h3]; decide) (ih (i + 1) acc (by omega) (by omega) ha)
  ·refine Ev.ite_neg h2 ?_
   by_cases h2' : ys.getD i 0 = t0
   ·refine Ev.ite_pos h2' (Ev.bind0 (ixP _ _) ?_)
    by_cases h3 : 0 ≤ ys.getD i 0 ∧ ys.getD i 0 < (D.length : Int)
    ·refine Ev.ite_pos (decide_eq_true h3) (Ev.ite_pos h3.1 (Ev.ite_pos h3.2 ?_))
     by_cases h4 : rd D (ys.getD i 0) ≥ 0
     ·refine Ev.ite_pos h4 (Ev.ite_pos hn.2 ?_)
      by_cases h5 : rd D (ys.getD i 0) < rd D node
      ·refine Ev.ite_pos h5 (Ev.ite_pos (by omega) ?_)
       rw [if_pos (decide_eq_true ⟨h1, .inr h2', h3, h4, h5⟩)]
       have h6 := ih (i + 1) (acc ++ [ys.getD i 0]) (by omega) (by simp; omega) ?_
       ·rw [List.append_assoc] at h6
        exact h6
       intro x hx
       rcases List.mem_append.1 hx with hx | hx
       ·exact ha x hx
       ·rw [List.mem_singleton.1 hx]; exact h3
      ·rw [if_neg (by rw [decide_eq_false (fun h => h5 h.2.2.2.2)]; decide)]
       exact Ev.ite_neg h5 (ih (i + 1) acc (by omega) (by omega) ha)
     ·rw [if_neg (by rw [decide_eq_false (fun h => h4 h.2.2.2.1)]; decide)]
      exact Ev.ite_neg h4 (ih (i + 1) acc (by omega) (by omega) ha)
    ·rw [if_neg (by rw [decide_eq_false (fun h => h3 h.2.2.1)]; decide)]
     exact Ev.ite_neg (by rw [decide_eq_false h3]; decide) (ih (i + 1) acc (by omega) (by omega) ha)
   ·rw [if_neg (by rw [decide_eq_false (fun h => h.2.1.elim h2 h2')]; decide)]
    exact Ev.ite_neg h2' (ih (i + 1) acc (by omega) (by omega) ha)
theorem altI {l : List S90} (hl : l.length ≤ 1048576) (t0 first node : Int) (D N : List Int) : Ev (fun k => impl_AltsOf.f k t0 D N l first node) (alts t0 D N l first node) := by
 unfold impl_AltsOf.f alts
 refine Ev.bind0 rfl (Ev.bind0 (ixP _ _) ?_)
 by_cases h1 : 0 ≤ node ∧ node < (D.length : Int)
 ·refine Ev.ite_pos (decide_eq_true h1) (Ev.bind0 (ixP _ _) ?_)
  refine Ev.step (fun k => by rw [impl_AltsOf.j0]) ?_
  by_cases h2 : 0 ≤ node ∧ node < (N.length : Int)
  ·rw [if_pos ⟨h1, h2⟩, decide_eq_true h2]
   refine Ev.ite_neg (by decide) (Ev.bind (nbI hl node) ?_)
   have := nb_len l node
   exact altI_l0 (ys := nb l node) (by omega) h1 h2.2 (nb l node).length 0 [] (Nat.zero_add _) (Nat.le_refl _) (fun x hx => absurd hx (List.not_mem_nil))
  ·rw [if_neg (fun h => h2 h.2), decide_eq_false h2]
   exact Ev.ite_pos rfl (Ev.some rfl)
 ·refine Ev.ite_neg (by rw [decide_eq_false h1]; decide) ?_
  refine Ev.step (fun k => by rw [impl_AltsOf.j0]) ?_
  rw [if_neg (fun h => h1 h.1)]
  exact Ev.ite_pos rfl (Ev.some rfl)
theorem altS_l1 {t0 first node x : Int} {D N ys out r : List Int} {i : Nat} (hi : i ≤ 2097152) (ho : out.length ≤ i) (ha : ∀ x ∈ out, 0 ≤ x ∧ x < (D.length : Int)) (hx : 0 ≤ x ∧ x < (D.length : Int))
  (hk : Ev (fun k => spec_AltsOf.l0 k first node (insK (fun x => rd D x) x out) ys ((i + 1 : Nat) : Int) t0 D N) r) :
  ∀ (d q : Nat), q + d = out.length → insK (fun x => rd D x) x out = out.take q ++ insK (fun x => rd D x) x (out.drop q) → Ev (fun k => spec_AltsOf.l1 k first node out ys (i : Int) x (q : Int) t0 D N) r := by
 intro d
 induction d with
 | zero =>
  intro q hq hins
  rw [hins, List.drop_of_length_le (by omega)] at hk
  refine Ev.step (fun k => by rw [spec_AltsOf.l1]) ?_
  refine Ev.ite_neg (by omega) (Ev.bind0 rfl (Ev.ite_pos (by omega) (Ev.ite_pos (by omega) ?_)))
  rw [Int.toNat_natCast, w64n (by omega)]
  refine Ev.bind0 rfl (Ev.ite_pos ?_ (Ev.bind0 rfl (Ev.bind0 rfl (Ev.ite_pos ?_ (Ev.bind0 rfl (Ev.bind0 rfl (Ev.ite_pos ?_ ?_)))))))
  ·simp only [List.length_nil, List.length_take]
   omega
  ·simp only [List.length_append, List.length_nil, List.length_take, List.length_cons]
   omega
  ·simp only [List.length_append, List.length_nil, List.length_take, List.length_cons, List.length_drop]
   omega
  ·rw [List.nil_append, List.append_assoc, List.drop_of_length_le (by omega), List.append_nil]
   exact hk
 | succ d ih =>
  intro q hq hins
  have hql : q < out.length := by omega
  have hm := ha _ (getD_mem hql 0)
  rw [drop_getD hql 0] at hins
  refine Ev.step (fun k => by rw [spec_AltsOf.l1]) ?_
  refine Ev.ite_pos (by omega) (Ev.ite_pos (by omega) ?_)
  rw [rd_nat]
  refine Ev.ite_pos hm.1 (Ev.ite_pos hm.2 (Ev.ite_pos hx.1 (Ev.ite_pos hx.2 ?_)))
  rw [insK_cons] at hins
  try dsimp only at hins
  by_cases c : rd D (out.getD q 0) ≤ rd D x
  ·refine Ev.ite_pos c ?_
   rw [w64n (by omega)]
   refine ih (q + 1) (by omega) ?_
   rw [if_pos c] at hins
   rw [take_succ_getD hql 0, List.append_assoc]
   exact hins
  ·rw [if_neg c] at hins
   have hk2 := hk
   rw [show insK (fun x => rd D x) x out = out.take q ++ x :: out.getD q 0 :: out.drop (q + 1) from hins] at hk2
   refine Ev.ite_neg c (Ev.bind0 rfl (Ev.ite_pos (by omega) ?_))
   rw [Int.toNat_natCast, w64n (by omega)]
   refine Ev.bind0 rfl (Ev.ite_pos ?_ (Ev.bind0 rfl (Ev.bind0 rfl (Ev.ite_pos ?_ (Ev.bind0 rfl (Ev.bind0 rfl (Ev.ite_pos ?_ ?_)))))))
   ·simp only [List.length_nil, List.length_take]
    omega
   ·simp only [List.length_append, List.length_nil, List.length_take, List.length_cons]
    omega
   ·simp only [List.length_append, List.length_nil, List.length_take, List.length_cons, List.length_drop]
    omega
   ·rw [List.nil_append, List.append_assoc, drop_getD hql 0]
    exact hk2
theorem altS_l0 {t0 first node : Int} {D N ys : List Int} (hy : ys.length ≤ 2097152) (hD : D.length ≤ 1048576) (hn : 0 ≤ node ∧ node < (D.length : Int)) (hN : node < (N.length : Int)) :
  ∀ (d i : Nat) (acc : List Int), i + d = ys.length → acc.length ≤ i → (∀ x ∈ acc, 0 ≤ x ∧ x < (D.length : Int)) →
   Ev (fun k => spec_AltsOf.l0 k first node acc ys (i : Int) t0 D N) (((ys.drop i).filter (okA D N t0 first node)).foldl (fun out x => insK (fun x => rd D x) x out) acc) := by
 intro d
 have hw : wrap64 ((D.length : Int) - 1) = (D.length : Int) - 1 := w64 (by omega) (by omega)
 induction d with
 | zero =>
  intro i acc hi hl ha
  refine Ev.step (fun k => by rw [spec_AltsOf.l0]) ?_
  refine Ev.ite_neg (by omega) ?_
  rw [List.drop_of_length_le (by omega), List.filter_nil]
  exact Ev.some rfl
 | succ d ih =>
  intro i acc hi hl ha
  have hil : i < ys.length := by omega
  refine Ev.step (fun k => by rw [spec_AltsOf.l0]) ?_
  refine Ev.ite_pos (by omega) (Ev.ite_pos (by omega) (Ev.ite_pos hn.1 (Ev.ite_pos hN ?_)))
  rw [drop_getD hil 0, List.filter_cons, rd_nat, hw]
  show Ev _ (List.foldl _ acc (if decide (_ ∧ _) = true then _ else _))
  by_cases h1 : ys.getD i 0 = rd N node
  ·rw [if_neg (by rw [decide_eq_false (fun h => h.1 h1)]; decide)]
   refine Ev.ite_pos h1 ?_
   refine Ev.step (fun k => by rw [spec_AltsOf.j2]) ?_
   refine Ev.ite_pos rfl ?_
   rw [w64n (by omega)]
   exact ih (i + 1) acc (by omega) (by omega) ha
  refine Ev.ite_neg h1 ?_
  by_cases h2 : ys.getD i 0 ≥ first
  ·refine Ev.ite_pos h2 ?_
   by_cases h2' : ys.getD i 0 = t0
   ·refine Ev.ite_pos h2' (Ev.bind0 (inP _ _ _) ?_)
    by_cases h3 : 0 ≤ ys.getD i 0 ∧ ys.getD i 0 < (D.length : Int)
    ·refine Ev.ite_pos (decide_eq_true (by omega)) (Ev.ite_pos h3.1 (Ev.ite_pos h3.2 ?_))
     by_cases h4 : rd D (ys.getD i 0) < 0
     ·rw [if_neg (by rw [decide_eq_false (fun h => absurd h.2.2.2.1 (by omega))]; decide)]
      refine Ev.ite_pos h4 ?_
      refine Ev.step (fun k => by rw [spec_AltsOf.j2]) ?_
      refine Ev.ite_pos rfl ?_
      rw [w64n (by omega)]
      exact ih (i + 1) acc (by omega) (by omega) ha
     ·refine Ev.ite_neg h4 (Ev.ite_pos hn.2 ?_)
      refine Ev.step (fun k => by rw [spec_AltsOf.j2]) ?_
      by_cases h5 : rd D (ys.getD i 0) < rd D node
      ·refine Ev.ite_neg (by rw [decide_eq_false (by omega)]; decide) ?_
       rw [if_pos (decide_eq_true ⟨h1, .inr h2', h3, by omega, h5⟩)]
       refine altS_l1 (by omega) (by omega) ha h3 ?_ acc.length 0 (by omega) rfl
       refine ih (i + 1) _ (by omega) (by rw [insK_len]; omega) ?_
       intro x hx
       rcases insK_mem _ _ _ _ hx with hx | hx
       ·rw [hx]; exact h3
       ·exact ha x hx
      ·rw [if_neg (by rw [decide_eq_false (fun h => h5 h.2.2.2.2)]; decide)]
       refine Ev.ite_pos (decide_eq_true (by omega)) ?_
       rw [w64n (by omega)]
       exact ih (i + 1) acc (by omega) (by omega) ha
    ·rw [if_neg (by rw [decide_eq_false (fun h => h3 h.2.2.1)]; decide)]
     refine Ev.ite_neg (by rw [decide_eq_false (by omega)]; decide) ?_
     refine Ev.step (fun k => by rw [spec_AltsOf.j2]) ?_
     refine Ev.ite_pos rfl ?_
     rw [w64n (by omega)]
     exact ih (i + 1) acc (by omega) (by omega) ha
   ·rw [if_neg (by rw [decide_eq_false (fun h => h.2.1.elim (by omega) h2')]; decide)]
    refine Ev.ite_neg h2' ?_
    refine Ev.step (fun k => by rw [spec_AltsOf.j2]) ?_
    refine Ev.ite_pos rfl ?_
    rw [w64n (by omega)]
    exact ih (i + 1) acc (by omega) (by omega) ha
  ·refine Ev.ite_neg h2 (Ev.bind0 (inP _ _ _) ?_)
   by_cases h3 : 0 ≤ ys.getD i 0 ∧ ys.getD i 0 < (D.length : Int)
   ·refine Ev.ite_pos (decide_eq_true (by omega)) (Ev.ite_pos h3.1 (Ev.ite_pos h3.2 ?_))
    by_cases h4 : rd D (ys.getD i 0) < 0
    ·rw [if_neg (by rw [decide_eq_false (fun h => absurd h.2.2.2.1 (by omega))]; decide)]
     refine Ev.ite_pos h4 ?_
     refine Ev.step (fun k => by rw [spec_AltsOf.j2]) ?_
     refine Ev.ite_pos rfl ?_
     rw [w64n (by omega)]
     exact ih (i + 1) acc (by omega) (by omega) ha
    ·refine Ev.ite_neg h4 (Ev.ite_pos hn.2 ?_)
     refine Ev.step (fun k => by rw [spec_AltsOf.j2]) ?_
     by_cases h5 : rd D (ys.getD i 0) < rd D node
     ·refine Ev.ite_neg (by rw [decide_eq_false (by omega)]; decide) ?_
      rw [if_pos (decide_eq_true ⟨h1, .inl (by omega), h3, by omega, h5⟩)]
      refine altS_l1 (by omega) (by omega) ha h3 ?_ acc.length 0 (by omega) rfl
      refine ih (i + 1) _ (by omega) (by rw [insK_len]; omega) ?_
      intro x hx
      rcases insK_mem _ _ _ _ hx with hx | hx
      ·rw [hx]; exact h3
      ·exact ha x hx
     ·rw [if_neg (by rw [decide_eq_false (fun h => h5 h.2.2.2.2)]; decide)]
      refine Ev.ite_pos (decide_eq_true (by omega)) ?_
      rw [w64n (by omega)]
      exact ih (i + 1) acc (by omega) (by omega) ha
   ·rw [if_neg (by rw [decide_eq_false (fun h => h3 h.2.2.1)]; decide)]
    refine Ev.ite_neg (by rw [decide_eq_false (by omega)]; decide) ?_
    refine Ev.step (fun k => by rw [spec_AltsOf.j2]) ?_
    refine Ev.ite_pos rfl ?_
    rw [w64n (by omega)]
    exact ih (i + 1) acc (by omega) (by omega) ha
theorem altS {l : List S90} (hl : l.length ≤ 1048576) (t0 first node : Int) (D N : List Int) (hD : D.length ≤ 1048576) (hN : N.length ≤ 1048576) : Ev (fun k => spec_AltsOf.f k t0 D N l first node) (alts t0 D N l first node) := by
 unfold spec_AltsOf.f alts
 rw [w64 (by omega) (by omega), w64 (by omega) (by omega)]
 refine Ev.bind0 rfl (Ev.bind0 (inP _ _ _) ?_)
 by_cases h1 : 0 ≤ node ∧ node < (D.length : Int)
 ·refine Ev.ite_pos (decide_eq_true (by omega)) (Ev.bind0 (inP _ _ _) ?_)
  refine Ev.step (fun k => by rw [spec_AltsOf.j0]) ?_
  by_cases h2 : 0 ≤ node ∧ node < (N.length : Int)
  ·rw [if_pos ⟨h1, h2⟩, decide_eq_true (by omega)]
   refine Ev.ite_neg (by decide) (Ev.bind (nbS hl node) ?_)
   have := nb_len l node
   exact altS_l0 (ys := nb l node) (by omega) hD h1 h2.2 (nb l node).length 0 [] (Nat.zero_add _) (Nat.le_refl _) (fun x hx => absurd hx (List.not_mem_nil))
  ·rw [if_neg (fun h => h2 h.2), decide_eq_false (by omega)]
   exact Ev.ite_pos rfl (Ev.some rfl)
 ·refine Ev.ite_neg (by rw [decide_eq_false (by omega)]; decide) ?_
  refine Ev.step (fun k => by rw [spec_AltsOf.j0]) ?_
  rw [if_neg (fun h => h1 h.1)]
  exact Ev.ite_pos rfl (Ev.some rfl)
theorem alts_len (t0 : Int) (D N : List Int) (l : List S90) (first node : Int) : (alts t0 D N l first node).length ≤ 2 * l.length := by
 unfold alts
 have h : ∀ ys out : List Int, (ys.foldl (fun out x => insK (fun x => rd D x) x out) out).length = out.length + ys.length := by
  intro ys
  induction ys with
  | nil => intro out; rfl
  | cons y ys ih => intro out; rw [List.foldl_cons, ih, insK_len, List.length_cons]; omega
 split
 ·show (List.foldl _ [] _).length ≤ _
  rw [h]
  have := nb_len l node
  have := List.length_filter_le (okA D N t0 first node) (nb l node)
  simp only [List.length_nil]
  omega
 ·simp
end Go.Proofs.YthnlkgbhohchoaaGreat.fnExactRepairedAt
/- The repaired next node of a node, in the program and in the reference. Conditions: none. -/
namespace Go.Proofs.YthnlkgbhohchoaaGreat.fnExactRepairedAt
open Go.RowKit Go.Proofs.YthnlkgbhohchoaaGreatW.PrintWords Go.Proofs.YthnlkgbhohchoaaGreatW.PrintMore Go.Proofs.YthnlkgbhohchoaaGreat.QFnExactRepairedAt Go.Proofs.YthnlkgbhohchoaaGreat.Open Go.Proofs.YthnlkgbhohchoaaGreat.Kit Go.Proofs.YthnlkgbhohchoaaGreat.Nb
theorem has2 (l : List Int) (v : Int) (hl : l.length ≤ 1048576) : Ev (fun k => slices_Contains_int_int.f k l v) (decide (v ∈ l)) := by
 have key : ∀ d i : Nat, i + d = l.length → ∃ r, Ev (fun k => slices_Index_int_int.l0 k l v (l.length : Int) (i : Int)) r ∧ (r ≥ 0 ↔ v ∈ l.drop i) := by
  intro d
  induction d with
  | zero =>
   intro i hi
   refine ⟨-1, ?_, ?_⟩
   ·refine Ev.step (fun k => by rw [slices_Index_int_int.l0]) ?_
    exact Ev.ite_neg (by omega) (Ev.some rfl)
   ·rw [List.drop_of_length_le (by omega)]
    exact ⟨fun h => by omega, fun h => absurd h List.not_mem_nil⟩
  | succ d ih =>
   intro i hi
   have hil : i < l.length := by omega
   by_cases c : v = l.getD i 0
   ·refine ⟨(i : Int), ?_, ?_⟩
    ·refine Ev.step (fun k => by rw [slices_Index_int_int.l0]) ?_
     refine Ev.ite_pos (by omega) (Ev.ite_pos (by omega) (Ev.ite_pos (by omega) ?_))
     rw [rd_nat]
     exact Ev.ite_pos c (Ev.some rfl)
    ·rw [drop_getD hil 0]
     exact ⟨fun _ => by rw [c]; exact List.mem_cons_self .., fun _ => by omega⟩
   ·obtain ⟨r, h1, h2⟩ := ih (i + 1) (by omega)
    refine ⟨r, ?_, ?_⟩
    ·refine Ev.step (fun k => by rw [slices_Index_int_int.l0]) ?_
     refine Ev.ite_pos (by omega) (Ev.ite_pos (by omega) (Ev.ite_pos (by omega) ?_))
     rw [rd_nat, w64n (by omega)]
     exact Ev.ite_neg c h1
    ·rw [drop_getD hil 0, List.mem_cons]
     exact h2.trans ⟨.inr, fun h => h.resolve_left c⟩
 obtain ⟨r, h1, h2⟩ := key l.length 0 (by omega)
 unfold slices_Contains_int_int.f
 refine Ev.bind h1 (Ev.some ?_)
 exact decide_eq_decide.2 h2
def pick (dead : List Int) : List Int → Int
 | [] => -1
 | y :: ys => if y ∈ dead then pick dead ys else y
theorem pickI (dead xs : List Int) (hd : dead.length ≤ 1048576) (hx : xs.length ≤ 2097152) : ∀ d i : Nat, i + d = xs.length → Ev (fun k => impl_RepairHop.l0 k dead xs (xs.length : Int) (i : Int)) (pick dead (xs.drop i)) := by
 intro d
 induction d with
 | zero =>
  intro i hi
  refine Ev.step (fun k => by rw [impl_RepairHop.l0]) ?_
  rw [List.drop_of_length_le (by omega)]
  exact Ev.ite_neg (by omega) (Ev.some rfl)
 | succ d ih =>
  intro i hi
  refine Ev.step (fun k => by rw [impl_RepairHop.l0]) ?_
  refine Ev.ite_pos (by omega) (Ev.ite_pos (by omega) (Ev.ite_pos (by omega) (Ev.bind (has2 dead _ hd) ?_)))
  rw [drop_getD (by omega : i < xs.length) 0, rd_nat, w64n (by omega), pick]
  by_cases c : xs.getD i 0 ∈ dead
  ·rw [if_pos c]
   exact Ev.ite_pos (decide_eq_true c) (ih (i + 1) (by omega))
  ·rw [if_neg c]
   exact Ev.ite_neg (by rw [decide_eq_false c]; decide) (Ev.some rfl)
theorem pickS (dead xs : List Int) (hd : dead.length ≤ 1048576) (hx : xs.length ≤ 2097152) : ∀ d i : Nat, i + d = xs.length → Ev (fun k => spec_RepairHop.l0 k dead xs (i : Int)) (pick dead (xs.drop i)) := by
 intro d
 induction d with
 | zero =>
  intro i hi
  refine Ev.step (fun k => by rw [spec_RepairHop.l0]) ?_
  rw [List.drop_of_length_le (by omega)]
  exact Ev.ite_neg (by omega) (Ev.some rfl)
 | succ d ih =>
  intro i hi
  refine Ev.step (fun k => by rw [spec_RepairHop.l0]) ?_
  refine Ev.ite_pos (by omega) (Ev.ite_pos (by omega) (Ev.bind (has_ev dead _ hd) ?_))
  rw [drop_getD (by omega : i < xs.length) 0, rd_nat, w64n (by omega), pick]
  by_cases c : xs.getD i 0 ∈ dead
  ·rw [if_pos c]
   exact Ev.ite_pos (decide_eq_true c) (ih (i + 1) (by omega))
  ·rw [if_neg c]
   exact Ev.ite_neg (by rw [decide_eq_false c]; decide) (Ev.some rfl)
def calm (p : List S76) (s t : Int) : Bool := decide (0 ≤ s ∧ s ≤ 5) && (decide (0 ≤ t ∧ t ≤ 1000) && (((pcs (wrap64 (t - wrap64 (2 * s))) (wrap64 (t + wrap64 (2 * s))) p 0).length : Int) == 1))
theorem calm1 (p : List S76) (hl : p.length ≤ 1048576) (n a s t : Int) : Ev (fun k => spec_IsCalm.f k n a s p t) (calm p s t) := by
 unfold spec_IsCalm.f calm
 refine Ev.bind0 (in1 s 0 5) ?_
 by_cases h1 : 0 ≤ s ∧ s ≤ 5
 ·rw [decide_eq_true h1, Bool.true_and]
  refine Ev.ite_pos rfl (Ev.bind0 (in1 t 0 1000) ?_)
  by_cases h2 : 0 ≤ t ∧ t ≤ 1000
  ·rw [decide_eq_true h2, Bool.true_and]
   refine Ev.ite_pos rfl ?_
   exact Ev.bind (pcs1 p hl n a s _ _) (Ev.now _)
  ·rw [decide_eq_false h2, Bool.false_and]
   exact Ev.ite_neg (by simp) (Ev.now _)
 ·rw [decide_eq_false h1, Bool.false_and]
  exact Ev.ite_neg (by simp) (Ev.now _)
theorem calm2 (p : List S76) (hl : p.length ≤ 1048576) (n a s t : Int) : Ev (fun k => impl_IsCalm.f k n a s p t) (calm p s t) := by
 unfold impl_IsCalm.f calm
 refine Ev.bind0 (skewed p n a s t) ?_
 by_cases h1 : (0 ≤ s ∧ s ≤ 5) ∧ (0 ≤ t ∧ t ≤ 1000)
 ·rw [decide_eq_true h1.1, decide_eq_true h1.2, Bool.true_and, Bool.true_and]
  refine Ev.ite_pos (decide_eq_true h1) ?_
  exact Ev.bind (pcs2 p hl n a s _ _) (Ev.now _)
 ·have e : (decide (0 ≤ s ∧ s ≤ 5) && (decide (0 ≤ t ∧ t ≤ 1000) && (((pcs (wrap64 (t - wrap64 (2 * s))) (wrap64 (t + wrap64 (2 * s))) p 0).length : Int) == 1))) = false := by
   by_cases h2 : 0 ≤ s ∧ s ≤ 5
   ·rw [decide_eq_false (fun h3 => h1 ⟨h2, h3⟩), Bool.false_and, Bool.and_false]
   ·rw [decide_eq_false h2, Bool.false_and]
  rw [e]
  exact Ev.ite_neg (by rw [decide_eq_false h1]; decide) (Ev.now _)
theorem lnk_len {p : List S76} (hp : nPgI p ≤ 1048576) {k : Int} (h : 0 ≤ k ∧ k < (p.length : Int)) : (rd_T76 p k).f1.length ≤ 1048576 := by
 have hm := le_sum n76 (getD_mem (show k.toNat < p.length by omega) z76)
 unfold nPgI at hp
 have e : rd_T76 p k = p.getD k.toNat z76 := rfl
 rw [← e] at hm
 have h0 : n76 (rd_T76 p k) = (rd_T76 p k).f1.length + ((rd_T76 p k).f2.length + ((rd_T76 p k).f2.map n50).sum) := rfl
 omega
theorem hop_ok {p : List S76} (hp : nPgI p ≤ 1048576) {n a s node d t : Int} (h : 0 ≤ hop p hp n a s node d t) : okT p (impl_PieceAt.go t p 0) d := by
 unfold hop at h
 split at h
 ·unfold nx at h
  split at h
  ·rename_i h2
   exact h2.1
  ·exact absurd h (by decide)
 ·exact absurd h (by decide)
noncomputable def rep (p : List S76) (hp : nPgI p ≤ 1048576) (n a s node d t : Int) (dead : List Int) : Int :=
 if hop p hp n a s node d t ∈ dead then (if hop p hp n a s node d t < 0 ∨ calm p s t = false then -1 else pick dead (alts (tab p (impl_PieceAt.go t p 0) d).f0 (tab p (impl_PieceAt.go t p 0) d).f1 (tab p (impl_PieceAt.go t p 0) d).f2 (rd_T76 p (impl_PieceAt.go t p 0)).f1 a node)) else hop p hp n a s node d t
theorem rep2 (p : List S76) (hp : nPgI p ≤ 1048576) (n a s node d t : Int) (dead : List Int) (hd : dead.length ≤ 1048576) : Ev (fun k => impl_RepairHop.f k n a s p node d t dead) (rep p hp n a s node d t dead) := by
 have hl : p.length ≤ 1048576 := by unfold nPgI at hp; omega
 unfold impl_RepairHop.f rep
 refine Ev.bind (hop2 p hp n a s node d t) (Ev.bind (has2 dead _ hd) ?_)
 by_cases c : hop p hp n a s node d t ∈ dead
 ·rw [if_pos c]
  refine Ev.ite_pos (decide_eq_true c) ?_
  by_cases c2 : hop p hp n a s node d t < 0
  ·rw [if_pos (.inl c2)]
   refine Ev.ite_pos c2 ?_
   refine Ev.step (fun k => by rw [impl_RepairHop.j0]) ?_
   exact Ev.ite_pos rfl (Ev.some rfl)
  ·refine Ev.ite_neg c2 (Ev.bind (calm2 p hl n a s t) ?_)
   refine Ev.step (fun k => by rw [impl_RepairHop.j0]) ?_
   cases c3 : calm p s t with
   | false =>
    rw [if_pos (.inr rfl)]
    exact Ev.ite_pos rfl (Ev.some rfl)
   | true =>
    rw [if_neg (fun h => h.elim c2 (by decide))]
    have hok := hop_ok hp (n := n) (a := a) (s := s) (node := node) (d := d) (t := t) (by omega)
    have hk := hok.1
    have e : tableIn p (impl_PieceAt.go t p 0) d = ((tab p (impl_PieceAt.go t p 0) d).f0, (tab p (impl_PieceAt.go t p 0) d).f1, (tab p (impl_PieceAt.go t p 0) d).f2, true) := if_pos hok
    refine Ev.ite_neg (by decide) (Ev.bind0 (piece2 p hl n a s t) (Ev.bind0 ((table2 p hp n a s _ d).trans (congrArg some e)) (Ev.ite_pos hk.1 (Ev.ite_pos hk.2 (Ev.bind (altI (lnk_len hp hk) (tab p (impl_PieceAt.go t p 0) d).f0 a node (tab p (impl_PieceAt.go t p 0) d).f1 (tab p (impl_PieceAt.go t p 0) d).f2) ?_)))))
    have := alts_len (tab p (impl_PieceAt.go t p 0) d).f0 (tab p (impl_PieceAt.go t p 0) d).f1 (tab p (impl_PieceAt.go t p 0) d).f2 (rd_T76 p (impl_PieceAt.go t p 0)).f1 a node
    have := lnk_len hp hk
    exact pickI dead (alts (tab p (impl_PieceAt.go t p 0) d).f0 (tab p (impl_PieceAt.go t p 0) d).f1 (tab p (impl_PieceAt.go t p 0) d).f2 (rd_T76 p (impl_PieceAt.go t p 0)).f1 a node) hd (by omega) _ 0 (Nat.zero_add _)
 ·rw [if_neg c]
  exact Ev.ite_neg (by rw [decide_eq_false c]; decide) (Ev.some rfl)
theorem rep1 (p : List S76) (hp : nPgI p ≤ 1048576) (n a s node d t : Int) (dead : List Int) (hd : dead.length ≤ 1048576) : Ev (fun k => spec_RepairHop.f k n a s p node d t dead) (rep p hp n a s node d t dead) := by
 have hl : p.length ≤ 1048576 := by unfold nPgI at hp; omega
 unfold spec_RepairHop.f rep
 refine Ev.bind (hop1 p hp n a s node d t) (Ev.bind (has_ev dead _ hd) ?_)
 by_cases c : hop p hp n a s node d t ∈ dead
 ·rw [if_pos c]
  refine Ev.ite_pos (decide_eq_true c) (Ev.bind (piece1 p hl n a s t) (Ev.bind0 (table1 p hp n a s _ d) ?_))
  by_cases c2 : hop p hp n a s node d t < 0
  ·rw [if_pos (.inl c2)]
   refine Ev.ite_pos c2 ?_
   refine Ev.step (fun k => by rw [spec_RepairHop.j0]) ?_
   exact Ev.ite_pos rfl (Ev.some rfl)
  ·have hok := hop_ok hp (n := n) (a := a) (s := s) (node := node) (d := d) (t := t) (by omega)
   have hk := hok.1
   have e : tableIn p (impl_PieceAt.go t p 0) d = ((tab p (impl_PieceAt.go t p 0) d).f0, (tab p (impl_PieceAt.go t p 0) d).f1, (tab p (impl_PieceAt.go t p 0) d).f2, true) := if_pos hok
   rw [e]
   refine Ev.ite_neg c2 (Ev.ite_pos rfl (Ev.bind (calm1 p hl n a s t) ?_))
   refine Ev.step (fun k => by rw [spec_RepairHop.j0]) ?_
   cases c3 : calm p s t with
   | false =>
    rw [if_pos (.inr rfl)]
    exact Ev.ite_pos rfl (Ev.some rfl)
   | true =>
    rw [if_neg (fun h => h.elim c2 (by decide))]
    have ht := tab_len hp hok
    have := alts_len (tab p (impl_PieceAt.go t p 0) d).f0 (tab p (impl_PieceAt.go t p 0) d).f1 (tab p (impl_PieceAt.go t p 0) d).f2 (rd_T76 p (impl_PieceAt.go t p 0)).f1 a node
    have := lnk_len hp hk
    refine Ev.ite_neg (by decide) (Ev.ite_pos hk.1 (Ev.ite_pos hk.2 (Ev.bind (altS (lnk_len hp hk) (tab p (impl_PieceAt.go t p 0) d).f0 a node (tab p (impl_PieceAt.go t p 0) d).f1 (tab p (impl_PieceAt.go t p 0) d).f2 ht.2.1 ht.2.2) ?_)))
    exact pickS dead (alts (tab p (impl_PieceAt.go t p 0) d).f0 (tab p (impl_PieceAt.go t p 0) d).f1 (tab p (impl_PieceAt.go t p 0) d).f2 (rd_T76 p (impl_PieceAt.go t p 0)).f1 a node) hd (by omega) _ 0 (Nat.zero_add _)
 ·rw [if_neg c]
  exact Ev.ite_neg (by rw [decide_eq_false c]; decide) (Ev.some rfl)
end Go.Proofs.YthnlkgbhohchoaaGreat.fnExactRepairedAt
/- Offsets for all nodes, in the program and in the reference. Conditions: none. -/
namespace Go.Proofs.YthnlkgbhohchoaaGreat.fnExactRepairedAt
open Go.RowKit Go.Proofs.YthnlkgbhohchoaaGreatW.PrintWords Go.Proofs.YthnlkgbhohchoaaGreatW.PrintMore Go.Proofs.YthnlkgbhohchoaaGreat.QFnExactRepairedAt Go.Proofs.YthnlkgbhohchoaaGreat.Open Go.Proofs.YthnlkgbhohchoaaGreat.Kit
def okO (s x : Int) : Bool := decide (0 ≤ s ∧ s ≤ 5) && decide (wrap64 (-s) ≤ x ∧ x ≤ s)
theorem off1 (l : List Int) (hl : l.length ≤ 1048576) (n a s : Int) (p : List S76) : Ev (fun k => spec_AreOffsets.f k n a s p l) (l.all (okO s) && ((l.length : Int) == n)) := by
 have key : ∀ d i : Nat, i + d = l.length → Ev (fun k => spec_AreOffsets.l0 k l (i : Int) n a s p) ((l.drop i).all (okO s) && ((l.length : Int) == n)) := by
  intro d
  induction d with
  | zero =>
   intro i hi
   refine Ev.step (fun k => by rw [spec_AreOffsets.l0]) ?_
   repeat (first | (with_reducible refine Ev.ite_pos (by omega) ?_) | (with_reducible refine Ev.ite_neg (by omega) ?_))
   refine Ev.some ?_
   rw [List.drop_of_length_le (by omega)]
   simp
  | succ d ih =>
   intro i hi
   have h1 := ih (i + 1) (by omega)
   refine Ev.step (fun k => by rw [spec_AreOffsets.l0]) ?_
   repeat (first | (with_reducible refine Ev.ite_pos (by omega) ?_) | (with_reducible refine Ev.ite_neg (by omega) ?_))
   rw [drop_getD (by omega : i < l.length) 0, List.all_cons, rd_nat, w64n (by omega)]
   refine Ev.bind0 (in1 s 0 5) ?_
   rw [show okO s (l.getD i 0) = (decide (0 ≤ s ∧ s ≤ 5) && decide (wrap64 (-s) ≤ l.getD i 0 ∧ l.getD i 0 ≤ s)) from rfl]
   by_cases h2 : 0 ≤ s ∧ s ≤ 5
   ·refine Ev.ite_pos (by simpa using h2) ?_
    repeat (first | (with_reducible refine Ev.ite_pos (by omega) ?_) | (with_reducible refine Ev.ite_neg (by omega) ?_))
    refine Ev.bind0 (in1 _ _ _) ?_
    by_cases h3 : wrap64 (-s) ≤ l.getD i 0 ∧ l.getD i 0 ≤ s
    ·refine Ev.ite_pos (by simpa using h3) ?_
     rw [decide_eq_true h2, decide_eq_true h3, Bool.true_and, Bool.true_and]
     exact h1
    ·refine Ev.ite_neg (by simpa using h3) (Ev.some ?_)
     rw [decide_eq_false h3, Bool.and_false, Bool.false_and, Bool.false_and]
   ·refine Ev.ite_neg (by simpa using h2) (Ev.some ?_)
    rw [decide_eq_false h2, Bool.false_and, Bool.false_and, Bool.false_and]
 exact key l.length 0 (by omega)
theorem off2 (l : List Int) (hl : l.length ≤ 1048576) (n a s : Int) (p : List S76) : Ev (fun k => impl_AreOffsets.f k n a s p l) (l.all (okO s) && ((l.length : Int) == n)) := by
 unfold impl_AreOffsets.f
 by_cases hn : (l.length : Int) = n
 ·refine Ev.ite_pos hn ?_
  rw [show (((l.length : Int) == n) : Bool) = true by simpa using hn, Bool.and_true]
  have key : ∀ d i : Nat, i + d = l.length → Ev (fun k => impl_AreOffsets.l0 k l (l.length : Int) (i : Int) n a s p) ((l.drop i).all (okO s)) := by
   intro d
   induction d with
   | zero =>
    intro i hi
    refine Ev.step (fun k => by rw [impl_AreOffsets.l0]) ?_
    repeat (first | (with_reducible refine Ev.ite_pos (by omega) ?_) | (with_reducible refine Ev.ite_neg (by omega) ?_))
    refine Ev.some ?_
    rw [List.drop_of_length_le (by omega)]
    simp
   | succ d ih =>
    intro i hi
    have h1 := ih (i + 1) (by omega)
    refine Ev.step (fun k => by rw [impl_AreOffsets.l0]) ?_
    repeat (first | (with_reducible refine Ev.ite_pos (by omega) ?_) | (with_reducible refine Ev.ite_neg (by omega) ?_))
    rw [drop_getD (by omega : i < l.length) 0, List.all_cons, rd_nat, w64n (by omega)]
    refine Ev.bind0 (in2 s 0 5) ?_
    rw [show okO s (l.getD i 0) = (decide (0 ≤ s ∧ s ≤ 5) && decide (wrap64 (-s) ≤ l.getD i 0 ∧ l.getD i 0 ≤ s)) from rfl]
    by_cases h2 : 0 ≤ s ∧ s ≤ 5
    ·refine Ev.ite_pos (by simpa using h2) ?_
     refine Ev.bind0 (in2 _ _ _) ?_
     by_cases h3 : wrap64 (-s) ≤ l.getD i 0 ∧ l.getD i 0 ≤ s
     ·refine Ev.ite_pos (by simpa using h3) ?_
      rw [decide_eq_true h2, decide_eq_true h3, Bool.true_and, Bool.true_and]
      exact h1
     ·refine Ev.ite_neg (by simpa using h3) (Ev.some ?_)
      rw [decide_eq_false h3, Bool.and_false, Bool.false_and]
    ·refine Ev.ite_neg (by simpa using h2) (Ev.some ?_)
     rw [decide_eq_false h2, Bool.false_and, Bool.false_and]
  exact key l.length 0 (by omega)
 ·refine Ev.ite_neg hn (Ev.some ?_)
  rw [show (((l.length : Int) == n) : Bool) = false by simpa using hn, Bool.and_false]
end Go.Proofs.YthnlkgbhohchoaaGreat.fnExactRepairedAt
/- The repaired next nodes of all nodes at a tick, in the program and in the reference. Conditions: none. -/
namespace Go.Proofs.YthnlkgbhohchoaaGreat.fnExactRepairedAt
open Go.RowKit Go.Proofs.YthnlkgbhohchoaaGreatW.PrintWords Go.Proofs.YthnlkgbhohchoaaGreatW.PrintMore Go.Proofs.YthnlkgbhohchoaaGreat.QFnExactRepairedAt Go.Proofs.YthnlkgbhohchoaaGreat.Open Go.Proofs.YthnlkgbhohchoaaGreat.Kit
theorem getL (dead : List (List Int)) (i : Nat) (h : dead.length ≤ i) : dead.getD i [] = [] := by simp [List.getD, h]
section
variable (p : List S76) (hp : nPgI p ≤ 1048576) (n a s d t : Int) (l : List Int) (dead : List (List Int))
noncomputable def reps : Nat → Nat → List Int → List Int
 | 0, _, m => m
 | c + 1, i, m => reps c (i + 1) (m ++ [rep p hp n a s (i : Int) d (wrap64 (t + l.getD i 0)) (dead.getD i [])])
theorem reps_len : ∀ (c i : Nat) (m : List Int), (reps p hp n a s d t l dead c i m).length = m.length + c
 | 0, _, _ => rfl
 | c + 1, i, m => by rw [reps, reps_len c (i + 1), List.length_append, List.length_singleton]; omega
noncomputable def repsAt : List Int := if (l.all (okO s) && ((l.length : Int) == n)) = true ∧ 0 ≤ t ∧ t ≤ 1000 then reps p hp n a s d t l dead l.length 0 [] else []
theorem repsAt_len : (repsAt p hp n a s d t l dead).length ≤ l.length := by
 unfold repsAt
 split
 ·rw [reps_len]; simp
 ·simp
end
theorem repsS (p : List S76) (hp : nPgI p ≤ 1048576) (n a s d t : Int) (l : List Int) (dead : List (List Int)) (hl : l.length ≤ 1048576) (hd : ∀ i, (dead.getD i []).length ≤ 1048576) : ∀ (c i : Nat) (m : List Int), i + c = l.length → m.length = i → Ev (fun k => spec_RepairedAt.l0 k d t l dead m (i : Int) n a s p) (reps p hp n a s d t l dead c i m) := by
 intro c
 induction c with
 | zero =>
  intro i m hi hm
  refine Ev.step (fun k => by rw [spec_RepairedAt.l0]) ?_
  repeat (first | (with_reducible refine Ev.ite_pos (by omega) ?_) | (with_reducible refine Ev.ite_neg (by omega) ?_))
  exact Ev.now _
 | succ c ih =>
  intro i m hi hm
  rw [reps]
  refine Ev.step (fun k => by rw [spec_RepairedAt.l0]) ?_
  refine Ev.ite_pos (by omega) ?_
  rw [rd_nat, w64n (by omega)]
  by_cases c1 : (i : Int) < (dead.length : Int)
  ·refine Ev.ite_pos c1 (Ev.ite_pos (by omega) (Ev.bind (rep1 p hp n a s (i : Int) d _ (dead.getD i []) (hd i)) ?_))
   refine Ev.ite_pos (by omega) (ih (i + 1) _ (by omega) (by rw [List.length_append, List.length_singleton, hm]))
  ·refine Ev.ite_neg c1 (Ev.ite_pos (by omega) ?_)
   rw [getL dead i (by omega)]
   refine Ev.bind (rep1 p hp n a s (i : Int) d _ [] (Nat.zero_le _)) ?_
   refine Ev.ite_pos (by omega) (ih (i + 1) _ (by omega) (by rw [List.length_append, List.length_singleton, hm]))
theorem repsI (p : List S76) (hp : nPgI p ≤ 1048576) (n a s d t : Int) (l : List Int) (dead : List (List Int)) (hl : l.length ≤ 1048576) (hd : ∀ i, (dead.getD i []).length ≤ 1048576) : ∀ (c i : Nat) (m : List Int), i + c = l.length → m.length = i → Ev (fun k => impl_RepairedAt.l0 k d t dead m l (l.length : Int) (i : Int) n a s p) (reps p hp n a s d t l dead c i m) := by
 intro c
 induction c with
 | zero =>
  intro i m hi hm
  refine Ev.step (fun k => by rw [impl_RepairedAt.l0]) ?_
  repeat (first | (with_reducible refine Ev.ite_pos (by omega) ?_) | (with_reducible refine Ev.ite_neg (by omega) ?_))
  exact Ev.now _
 | succ c ih =>
  intro i m hi hm
  rw [reps]
  refine Ev.step (fun k => by rw [impl_RepairedAt.l0]) ?_
  refine Ev.ite_pos (by omega) (Ev.ite_pos (by omega) (Ev.ite_pos (by omega) ?_))
  rw [rd_nat, w64n (by omega)]
  by_cases c1 : (i : Int) < (dead.length : Int)
  ·refine Ev.ite_pos c1 (Ev.bind (rep2 p hp n a s (i : Int) d _ (dead.getD i []) (hd i)) ?_)
   refine Ev.ite_pos (by omega) (ih (i + 1) _ (by omega) (by rw [List.length_append, List.length_singleton, hm]))
  ·refine Ev.ite_neg c1 ?_
   rw [getL dead i (by omega)]
   refine Ev.bind (rep2 p hp n a s (i : Int) d _ [] (Nat.zero_le _)) ?_
   refine Ev.ite_pos (by omega) (ih (i + 1) _ (by omega) (by rw [List.length_append, List.length_singleton, hm]))
theorem reps1 (p : List S76) (hp : nPgI p ≤ 1048576) (n a s d t : Int) (l : List Int) (dead : List (List Int)) (hl : l.length ≤ 1048576) (hd : ∀ i, (dead.getD i []).length ≤ 1048576) : Ev (fun k => spec_RepairedAt.f k n a s p d t l dead) (repsAt p hp n a s d t l dead) := by
 unfold spec_RepairedAt.f repsAt
 refine Ev.bind0 rfl ?_
 have hz : Ev (fun k => spec_RepairedAt.j0 k d t l dead [] true n a s p) [] := by
  refine Ev.step (fun k => by rw [spec_RepairedAt.j0]) ?_
  exact Ev.ite_pos rfl (Ev.now _)
 refine Ev.bind (off1 l hl n a s p) ?_
 cases ho : (l.all (okO s) && ((l.length : Int) == n)) with
 | false =>
  rw [if_neg (by simp)]
  exact Ev.ite_neg (by simp) hz
 | true =>
  refine Ev.ite_pos rfl (Ev.bind0 (in1 t 0 1000) ?_)
  by_cases h : 0 ≤ t ∧ t ≤ 1000
  ·rw [if_pos ⟨rfl, h⟩, decide_eq_true h]
   refine Ev.step (fun k => by rw [spec_RepairedAt.j0]) ?_
   refine Ev.ite_neg (by simp) ?_
   exact repsS p hp n a s d t l dead hl hd l.length 0 [] (by omega) rfl
  ·rw [if_neg (fun h2 => h h2.2), decide_eq_false h]
   exact hz
theorem reps2 (p : List S76) (hp : nPgI p ≤ 1048576) (n a s d t : Int) (l : List Int) (dead : List (List Int)) (hl : l.length ≤ 1048576) (hd : ∀ i, (dead.getD i []).length ≤ 1048576) : Ev (fun k => impl_RepairedAt.f k n a s p d t l dead) (repsAt p hp n a s d t l dead) := by
 unfold impl_RepairedAt.f repsAt
 refine Ev.bind0 rfl ?_
 have hm : Ev (fun k => impl_isMoment.f k n a s p t l) ((l.all (okO s) && ((l.length : Int) == n)) && decide (0 ≤ t ∧ t ≤ 1000)) := by
  unfold impl_isMoment.f
  refine Ev.bind (off2 l hl n a s p) ?_
  cases ho : (l.all (okO s) && ((l.length : Int) == n)) with
  | false => exact Ev.ite_neg (by simp) (Ev.now _)
  | true => exact Ev.ite_pos rfl (Ev.bind0 (in2 t 0 1000) (Ev.now _))
 refine Ev.bind hm ?_
 by_cases h : (l.all (okO s) && ((l.length : Int) == n)) = true ∧ 0 ≤ t ∧ t ≤ 1000
 ·rw [if_pos h, h.1, decide_eq_true h.2]
  exact Ev.ite_pos rfl (repsI p hp n a s d t l dead hl hd l.length 0 [] (by omega) rfl)
 ·rw [if_neg h]
  refine Ev.ite_neg (fun h2 => h ?_) (Ev.now _)
  rw [Bool.and_eq_true] at h2
  exact ⟨h2.1, of_decide_eq_true h2.2⟩
end Go.Proofs.YthnlkgbhohchoaaGreat.fnExactRepairedAt
/- What a program's marks come to. Conditions: none. -/
namespace Go.Proofs.YthnlkgbhohchoaaGreat.fnExactRepairedAt
open Go.RowKit Go.Proofs.YthnlkgbhohchoaaGreatW.PrintWords Go.Proofs.YthnlkgbhohchoaaGreatW.PrintMore Go.Proofs.YthnlkgbhohchoaaGreat.QFnExactRepairedAt Go.Proofs.YthnlkgbhohchoaaGreat.Open Go.Proofs.YthnlkgbhohchoaaGreat.Kit
theorem sumT_le (l : List S50) : Mk.sumT (l.map fun t => (t.f1.length, t.f2.length)) = l.length + (l.map n50).sum := by
 unfold Mk.sumT
 rw [List.map_map]
 induction l with
 | nil => rfl
 | cons t l ih =>
  rw [List.map_cons, List.sum_cons, ih, List.map_cons, List.sum_cons, List.length_cons]
  have h3 : n50 t = t.f1.length + t.f2.length := rfl
  rw [h3]
  simp only [Function.comp]
  omega
theorem sumP_le (l : List S76) : Mk.sumP (laws_markProgram.cnt l) ≤ 2 * (l.length + (l.map n76).sum) := by
 unfold Mk.sumP laws_markProgram.cnt
 rw [List.map_map]
 induction l with
 | nil => simp
 | cons x l ih =>
  rw [List.map_cons, List.sum_cons, List.map_cons, List.sum_cons, List.length_cons]
  have h0 : n76 x = x.f1.length + (x.f2.length + (x.f2.map n50).sum) := rfl
  rw [h0]
  simp only [Function.comp]
  rw [sumT_le]
  omega
theorem mark_Program (a0 a1 a2 : Int) (l : List S76) (a : Int) (hn : (l.length + (l.map n76).sum) ≤ 1048576) (h0 : 0 ≤ a) (h1 : a ≤ 1000000000) : ∃ r : Int, laws_markProgram.f a0 a1 a2 l a = some r ∧ a ≤ r ∧ r ≤ a + 2097152 := by
 have h := sumP_le l
 refine ⟨_, rfl, ?_, ?_⟩ <;> rw [Mk.bump_num h0 (by omega)] <;> omega
end Go.Proofs.YthnlkgbhohchoaaGreat.fnExactRepairedAt
namespace Go.Proofs.YthnlkgbhohchoaaGreat.fnExactRepairedAt
open Go.RowKit Go.Proofs.YthnlkgbhohchoaaGreatW.PrintWords Go.Proofs.YthnlkgbhohchoaaGreatW.PrintMore Go.Proofs.YthnlkgbhohchoaaGreat.QFnExactRepairedAt Go.Proofs.YthnlkgbhohchoaaGreat.Open Go.Proofs.YthnlkgbhohchoaaGreat.Kit
theorem rows_le (l : List (List Int)) : ∀ i, (l.getD i []).length ≤ l.length + (l.map List.length).sum := by
 intro i
 by_cases h : i < l.length
 ·have := le_sum List.length (getD_mem h [])
  omega
 ·simp [List.getD, List.getElem?_eq_none (Nat.le_of_not_lt h)]
theorem pure : PureFnExactRepairedAt := by
 intro n f s p d t l dead _ _ _ hp _ _ hl hd
 have hb : p.length ≤ 140737488351232 ∧ (∀ y ∈ p, b97 y) := ⟨Len.le hp.1 (by omega), fun y hy => bPiece (hp.2 y hy)⟩
 have hbd : dead.length ≤ 140737488351232 ∧ (∀ y ∈ dead, y.length ≤ 140737488351232) := ⟨Len.le hd.1 (by omega), fun y hy => Len.le (hd.2 y hy).1 (by omega)⟩
 by_cases hc : (l.length : Int) > 1048576
 ·exact ⟨0, .inl hc⟩
 have hll : l.length ≤ 1048576 := by omega
 have h0 := sz_Program n f s p 1048576 hb (by omega) (by omega)
 by_cases hn : ((nPg p : Nat) : Int) ≤ 1048576
 ·have hs : szOf 1048576 (p.length + (p.map n97).sum) = 1048576 - ((nPg p : Nat) : Int) := by unfold szOf nPg; rw [if_pos (by exact hn)]
  rw [hs] at h0
  have h1 := sz_IntSS dead (1048576 - ((nPg p : Nat) : Int)) hbd (by omega) (by omega)
  by_cases hm : ((dead.length + (dead.map List.length).sum : Nat) : Int) ≤ 1048576 - ((nPg p : Nat) : Int)
  ·have hs1 : szOf (1048576 - ((nPg p : Nat) : Int)) (dead.length + (dead.map List.length).sum) = 1048576 - ((nPg p : Nat) : Int) - ((dead.length + (dead.map List.length).sum : Nat) : Int) := by unfold szOf; rw [if_pos hm]
   rw [hs1] at h1
   have hq : nPg p ≤ 1048576 := by omega
   have hqi : nPgI (p.map cPiece) ≤ 1048576 := by rw [nPgI_c]; exact hq
   have hqj := hqi
   have hdn : dead.length + (dead.map List.length).sum ≤ 1048576 := by omega
   unfold nPgI at hqj
   have h2 := to_Program n f s p (by unfold nPg at hq; exact hq)
   have h3 := to_IntS l hll
   have h4 := to_IntSS dead hdn
   have hdg : ∀ i, (dead.getD i []).length ≤ 1048576 := fun i => Nat.le_trans (rows_le dead i) hdn
   have h5 := reps1 (p.map cPiece) hqi n f s d t l dead hll hdg
   have h6 := reps2 (p.map cPiece) hqi n f s d t l dead hll hdg
   have hlen := repsAt_len (p.map cPiece) hqi n f s d t l dead
   generalize repsAt (p.map cPiece) hqi n f s d t l dead = R at h5 h6 hlen
   have h7 := eq_IntS R (by omega)
   have h8 := eq_Program n f s _ hqj
   have h9 := eq_IntS l (by omega)
   have h10 := eq_IntSS dead hdn
   obtain ⟨m1, h11, hr0, hr1⟩ := mark_Program n f s (p.map cPiece) 1 hqj (by omega) (by omega)
   have h12 := mark_IntS l m1 (by omega) (by omega) (by omega)
   have h13 : laws_markIntSS.f dead (m1 + (l.length : Int)) = some (Mk.bump (dead.map List.length).sum (m1 + (l.length : Int))) := rfl
   rw [Mk.bump_num (by omega) (by omega)] at h13
   have h14 := mark_IntS R 1 (by omega) (by omega) (by omega)
   have h15 := held_IntS R.length 1 (by omega) (by omega) (by omega)
   obtain ⟨k0, h0⟩ := h0
   obtain ⟨k1, h1⟩ := h1
   obtain ⟨k2, h2⟩ := h2
   obtain ⟨k3, h3⟩ := h3
   obtain ⟨k4, h4⟩ := h4
   obtain ⟨k5, h5⟩ := h5
   obtain ⟨k6, h6⟩ := h6
   obtain ⟨k7, h7⟩ := h7
   obtain ⟨k8, h8⟩ := h8
   obtain ⟨k9, h9⟩ := h9
   obtain ⟨k10, h10⟩ := h10
   obtain ⟨k12, h12⟩ := h12
   obtain ⟨k14, h14⟩ := h14
   obtain ⟨k15, h15⟩ := h15
   exact ⟨k0 + k1 + k2 + k3 + k4 + k5 + k6 + k7 + k8 + k9 + k10 + k12 + k14 + k15, .inr ⟨hc, .inr (.inr ⟨_, _, n, f, s, _, m1, _, _, p.map cPiece, l, _, R, _, dead, h0 _ (by omega), by omega, h1 _ (by omega), by omega, h2 _ (by omega), h3 _ (by omega), h4 _ (by omega), h5 _ (by omega), h6 _ (by omega), h7 _ (by omega), h8 _ (by omega), h9 _ (by omega), h10 _ (by omega), h11, h12 _ (by omega), h13, by omega, h14 _ (by omega), h15 _ (by omega), by omega⟩)⟩⟩
  ·have hs1 : szOf (1048576 - ((nPg p : Nat) : Int)) (dead.length + (dead.map List.length).sum) = -1 := by unfold szOf; rw [if_neg hm]
   rw [hs1] at h1
   obtain ⟨k0, h0⟩ := h0
   obtain ⟨k1, h1⟩ := h1
   exact ⟨k0 + k1, .inr ⟨hc, .inr (.inl ⟨_, _, h0 _ (by omega), by omega, h1 _ (by omega), by omega⟩)⟩⟩
 ·have hs : szOf 1048576 (p.length + (p.map n97).sum) = -1 := by unfold szOf; rw [if_neg (by exact hn)]
  rw [hs] at h0
  obtain ⟨k0, h0⟩ := h0
  exact ⟨k0, .inr ⟨hc, .inl ⟨_, h0 _ (by omega), by omega⟩⟩⟩
end Go.Proofs.YthnlkgbhohchoaaGreat.fnExactRepairedAt
namespace Go.Proofs.YthnlkgbhohchoaaGreat
theorem fnExactRepairedAt_holds : Rows.FnExactRepairedAtSaid := fnExactRepairedAt.row fnExactRepairedAt.pure
end Go.Proofs.YthnlkgbhohchoaaGreat
