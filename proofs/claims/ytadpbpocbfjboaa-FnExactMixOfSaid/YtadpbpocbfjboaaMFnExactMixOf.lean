/- FnExactMixOf: the program and the reference agree on a mixture of tables. Conditions: none. -/
import Derived.Test.YtadpbpocbfjboaaWMore
import Derived.Test.YtadpbpocbfjboaaOpen
import Derived.Test.YtadpbpocbfjboaaQFnExactMixOfx
import Derived.Test.YtadpbpocbfjboaaRowFnExactMixOf
import Derived.Test.YtadpbpocbfjboaaMk
/- Small words on answers that come with enough rounds. Conditions: none. -/
namespace Go.Proofs.Ytadpbpocbfjboaa.Kit
open Go.RowKit Go.Proofs.YtadpbpocbfjboaaW.PrintWords Go.Proofs.YtadpbpocbfjboaaW.PrintLast Go.Proofs.YtadpbpocbfjboaaW.PrintMore Go.Proofs.Ytadpbpocbfjboaa.Open

theorem Ev.ite_pos {α : Type} {c : Prop} [Decidable c] {f g : Nat → Option α} {r : α} (h : c) (k : Ev f r) : Ev (fun n => if c then f n else g n) r := by simpa only [if_pos h] using k
theorem Ev.ite_neg {α : Type} {c : Prop} [Decidable c] {f g : Nat → Option α} {r : α} (h : ¬ c) (k : Ev g r) : Ev (fun n => if c then f n else g n) r := by simpa only [if_neg h] using k
theorem Ev.bind0 {α β : Type} {o : Option α} {f : Nat → α → Option β} {a : α} {r : β} (h : o = some a) (k : Ev (fun n => f n a) r) : Ev (fun n => o.bind (f n)) r := by subst h; exact k
theorem Ev.some {α : Type} {r r' : α} (h : r' = r) : Ev (fun _ => some r') r := by subst h; exact Ev.now _
theorem Ev.eq {α : Type} {o : Option α} {r : α} (h : o = Option.some r) : Ev (fun _ => o) r := ⟨0, fun _ _ => h⟩
theorem Ev.uniq {α : Type} {g : Nat → Option α} {r r' : α} (h : Ev g r) (h' : Ev g r') : r = r' := by
  obtain ⟨K, h⟩ := h
  obtain ⟨K', h'⟩ := h'
  exact Option.some.inj ((h (max K K') (Nat.le_max_left _ _)).symm.trans (h' (max K K') (Nat.le_max_right _ _)))
theorem w64 {x : Int} (h0 : -9223372036854775808 ≤ x) (h1 : x ≤ 9223372036854775807) : wrap64 x = x := by
  unfold wrap64
  omega
theorem w64s {i : Int} {n : Nat} (h0 : 0 ≤ i) (h1 : i < (n : Int)) (hn : n ≤ 140737488351232) : wrap64 (i + 1) = i + 1 := w64 (by omega) (by omega)
theorem mx_def (a b : Int) : mx a b = max a b := by unfold mx; omega
theorem mn_def (a b : Int) : mn a b = min a b := by unfold mn; omega
theorem Len.le {B : Nat} {α : Type} {l : List α} (h : Len B l) (hB : 0 < B) : l.length ≤ 140737488351232 := by
  unfold Len at h
  exact Nat.le_trans (Nat.le_mul_of_pos_right _ hB) h
/-! ### loops that count up -/
/-- A loop from 0 to n with one answer: at each i the answer behind one round is the answer, and at n it is there. p: what holds at i. -/
theorem Ev.upIf {ρ : Type} {n : Nat} (p : Nat → Prop) {g : Nat → Nat → Option ρ} {r : ρ} (hs : ∀ i, i < n → p i → (p (i + 1) → Ev (g (i + 1)) r) → Ev (g i) r) (he : p n → Ev (g n) r) (h0 : p 0) : Ev (g 0) r := by
  have key : ∀ d i, i + d = n → p i → Ev (g i) r := by
    intro d
    induction d with
    | zero => intro i hi hp; obtain rfl : i = n := by omega
              exact he hp
    | succ d ih => intro i hi hp; exact hs i (by omega) hp (fun hp' => ih (i + 1) (by omega) hp')
  exact key n 0 (by omega) h0
theorem Ev.up {ρ : Type} {n : Nat} {g : Nat → Nat → Option ρ} {r : ρ} (hs : ∀ i, i < n → Ev (g (i + 1)) r → Ev (g i) r) (he : Ev (g n) r) : Ev (g 0) r :=
  Ev.upIf (fun _ => True) (fun i hi _ h => hs i hi (h trivial)) (fun _ => he) trivial
theorem w64n {i : Nat} (h : i ≤ 140737488351232) : wrap64 ((i : Int) + 1) = ((i + 1 : Nat) : Int) := by
  rw [w64 (by omega) (by omega)]
  omega
theorem rd_nat (xs : List Int) (i : Nat) : rd xs (i : Int) = xs.getD i 0 := rfl
theorem getD_at {α : Type} {xs : List α} {i : Nat} (h : i < xs.length) (z : α) : xs.getD i z = xs[i] := by simp [List.getD, h]
theorem getD_mem {α : Type} {xs : List α} {i : Nat} (h : i < xs.length) (z : α) : xs.getD i z ∈ xs := by rw [getD_at h]; exact List.getElem_mem h
theorem take_succ_getD {α : Type} {xs : List α} {i : Nat} (h : i < xs.length) (z : α) : xs.take (i + 1) = xs.take i ++ [xs.getD i z] := by
  rw [List.take_succ_eq_append_getElem h, getD_at h]
theorem drop_getD {α : Type} {xs : List α} {i : Nat} (h : i < xs.length) (z : α) : xs.drop i = xs.getD i z :: xs.drop (i + 1) := by
  rw [List.drop_eq_getElem_cons h, getD_at h]
/-- A row of zeros that is filled from the left. -/
def fillTo {α β : Type} (c : α → β) (z : β) (xs : List α) (i : Nat) : List β := (xs.take i).map c ++ List.replicate (xs.length - i) z
theorem fillTo_zero {α β : Type} (c : α → β) (z : β) (xs : List α) : fillTo c z xs 0 = List.replicate xs.length z := by simp [fillTo]
theorem fillTo_all {α β : Type} (c : α → β) (z : β) (xs : List α) : fillTo c z xs xs.length = xs.map c := by simp [fillTo]
theorem fillTo_length {α β : Type} (c : α → β) (z : β) (xs : List α) {i : Nat} (h : i ≤ xs.length) : (fillTo c z xs i).length = xs.length := by
  simp [fillTo]
  omega
theorem fillTo_set {α β : Type} (c : α → β) (z : β) (xs : List α) {i : Nat} (h : i < xs.length) (a : α) : (fillTo c z xs i).set i (c (xs.getD i a)) = fillTo c z xs (i + 1) := by
  have hl : ((xs.take i).map c).length = i := by simp; omega
  unfold fillTo
  rw [List.set_append_right _ _ (by omega), hl, Nat.sub_self, take_succ_getD h a, List.map_append, show xs.length - i = (xs.length - (i + 1)) + 1 by omega, List.replicate_succ]
  simp
/-- What the elements from the first up to i weigh. -/
def sumTo {α : Type} (f : α → Nat) (xs : List α) (i : Nat) : Nat := ((xs.take i).map f).sum
theorem sumTo_succ {α : Type} (f : α → Nat) {xs : List α} {i : Nat} (h : i < xs.length) (z : α) : sumTo f xs (i + 1) = sumTo f xs i + f (xs.getD i z) := by
  unfold sumTo
  rw [take_succ_getD h z]
  simp
theorem sumTo_all {α : Type} (f : α → Nat) (xs : List α) : sumTo f xs xs.length = (xs.map f).sum := by simp [sumTo]
theorem sumTo_le {α : Type} (f : α → Nat) (xs : List α) (i : Nat) : sumTo f xs i ≤ (xs.map f).sum := by
  unfold sumTo
  have h := congrArg List.sum (List.take_append_drop i (xs.map f))
  rw [List.sum_append, ← List.map_take] at h
  omega
theorem le_sum {α : Type} (f : α → Nat) {xs : List α} {x : α} (h : x ∈ xs) : f x ≤ (xs.map f).sum := by
  induction xs with
  | nil => cases h
  | cons y ys ih =>
    simp only [List.map_cons, List.sum_cons]
    rcases List.mem_cons.1 h with rfl | h
    · omega
    · have := ih h
      omega
/-- 'left' behind a value of the size n: -1 where it doesn't suffice. -/
def szOf (left : Int) (n : Nat) : Int := if (n : Int) ≤ left then left - n else -1
/-- A fold over the first i elements. -/
def foldTo {α σ : Type} (f : σ → α → σ) (s : σ) (xs : List α) (i : Nat) : σ := (xs.take i).foldl f s
theorem foldTo_zero {α σ : Type} (f : σ → α → σ) (s : σ) (xs : List α) : foldTo f s xs 0 = s := by simp [foldTo]
theorem foldTo_succ {α σ : Type} (f : σ → α → σ) (s : σ) {xs : List α} {i : Nat} (h : i < xs.length) (z : α) : foldTo f s xs (i + 1) = f (foldTo f s xs i) (xs.getD i z) := by
  unfold foldTo
  rw [take_succ_getD h z, List.foldl_append]
  rfl
theorem foldTo_all {α σ : Type} (f : σ → α → σ) (s : σ) (xs : List α) : foldTo f s xs xs.length = xs.foldl f s := by simp [foldTo]
/-! ### lists told by their index -/
theorem map_range_set {β : Type} (n : Nat) (f : Nat → β) (u : Nat) (v : β) : ((List.range n).map f).set u v = (List.range n).map (fun j => if j = u then v else f j) := by
  apply List.ext_getElem
  · simp
  · intro i h1 h2
    rw [List.getElem_set]
    by_cases h : u = i
    · rw [if_pos h]
      simp [h]
    · rw [if_neg h]
      simp [Ne.symm h]
theorem map_range_getD {β : Type} {n : Nat} (f : Nat → β) {u : Nat} (h : u < n) (z : β) : ((List.range n).map f).getD u z = f u := by
  rw [getD_at (by simpa using h)]
  simp
theorem map_range_congr {β : Type} {n : Nat} {f g : Nat → β} (h : ∀ i, i < n → f i = g i) : (List.range n).map f = (List.range n).map g :=
  List.map_congr_left fun i hi => h i (List.mem_range.1 hi)
/-- A loop that counts down from t + n - 1 to t. -/
theorem Ev.down {ρ : Type} {n : Nat} {g : Nat → Nat → Option ρ} {r : ρ} (hs : ∀ m, m < n → Ev (g m) r → Ev (g (m + 1)) r) (he : Ev (g 0) r) : Ev (g n) r := by
  have key : ∀ m, m ≤ n → Ev (g m) r := by
    intro m
    induction m with
    | zero => intro _; exact he
    | succ m ih => intro hm; exact hs m (by omega) (ih (by omega))
  exact key n (Nat.le_refl _)
theorem set_mid {α : Type} (pre suf : List α) (x y : α) {i : Nat} (h : pre.length = i) : (pre ++ x :: suf).set i y = pre ++ y :: suf := by
  rw [List.set_append_right _ _ (by omega), h, Nat.sub_self]
  rfl
theorem getD_mid {α : Type} (pre suf : List α) (x z : α) {i : Nat} (h : pre.length = i) : (pre ++ x :: suf).getD i z = x := by
  subst h
  simp [List.getD]
end Go.Proofs.Ytadpbpocbfjboaa.Kit
/- The helpers of the law FnExactMixOf: sizes, conversions, equality with itself. Conditions: none. -/
namespace Go.Proofs.Ytadpbpocbfjboaa.fnExactMixOf
open Go.RowKit Go.Proofs.YtadpbpocbfjboaaW.PrintWords Go.Proofs.YtadpbpocbfjboaaW.PrintLast Go.Proofs.YtadpbpocbfjboaaW.PrintMore Go.Proofs.Ytadpbpocbfjboaa.QFnExactMixOf Go.Proofs.Ytadpbpocbfjboaa.Open Go.Proofs.Ytadpbpocbfjboaa.Kit
def cSpan (x : S93) : S65 := ⟨x.f0, x.f1⟩
def cLink (x : S137) : S71 := ⟨x.f0, x.f1⟩
def n135 (x : S135) : Nat := x.f1.length + x.f2.length
def b135 (x : S135) : Prop := x.f1.length ≤ 140737488351232 ∧ x.f2.length ≤ 140737488351232
def cTable (x : S135) : S44 := ⟨x.f0, x.f1, x.f2⟩
def n97 (x : S97) : Nat := x.f1.length + (x.f2.length + (x.f2.map n135).sum)
def b97 (x : S97) : Prop := x.f1.length ≤ 140737488351232 ∧ x.f2.length ≤ 140737488351232 ∧ (∀ y ∈ x.f2, b135 y)
def cPiece (x : S97) : S69 := ⟨(cSpan x.f0), (x.f1.map cLink), (x.f2.map cTable)⟩
def n44 (x : S44) : Nat := x.f1.length + x.f2.length
def n69 (x : S69) : Nat := x.f1.length + (x.f2.length + (x.f2.map n44).sum)
theorem n_cTable (x : S135) : n44 (cTable x) = n135 x := by
  simp [cTable, n135, n44]
theorem n_cPiece (x : S97) : n69 (cPiece x) = n97 x := by
  simp [cPiece, n69, n97, Function.comp_def, n_cTable]
theorem sz_LinkS (l : List S137) (left : Int) (hb : l.length ≤ 140737488351232) (h0 : 0 ≤ left) (h1 : left ≤ 1048576) : laws_szLinkS.f l left = some (szOf left l.length) := by
  unfold laws_szLinkS.f szOf
  rw [w64 (by omega) (by omega)]
  by_cases h : (l.length : Int) ≤ left
  · rw [if_neg (by omega), if_pos h]
  · rw [if_pos (by omega), if_neg h]
theorem sz_IntS (l : List Int) (left : Int) (hb : l.length ≤ 140737488351232) (h0 : 0 ≤ left) (h1 : left ≤ 1048576) : laws_szIntS.f l left = some (szOf left l.length) := by
  unfold laws_szIntS.f szOf
  rw [w64 (by omega) (by omega)]
  by_cases h : (l.length : Int) ≤ left
  · rw [if_neg (by omega), if_pos h]
  · rw [if_pos (by omega), if_neg h]
theorem sz_Table (x : S135) (left : Int) (hb : b135 x) (h0 : 0 ≤ left) (h1 : left ≤ 1048576) : laws_szTable.f (x.f0) (x.f1) (x.f2) left = some (szOf left (n135 x)) := by
  obtain ⟨hba1, hba2⟩ := hb
  unfold laws_szTable.f n135
  rw [(sz_IntS x.f1 left hba1 (by omega) (by omega)), Option.bind_some]
  by_cases hc0 : ((x.f1.length : Nat) : Int) ≤ left
  · have e0 : szOf left (x.f1.length) = left - ((x.f1.length : Nat) : Int) := by
      unfold szOf
      rw [if_pos (by omega)]
    rw [e0]
    rw [if_neg (by omega)]
    rw [(sz_IntS x.f2 _ hba2 (by omega) (by omega)), Option.bind_some]
    by_cases hc1 : ((x.f1.length + x.f2.length : Nat) : Int) ≤ left
    · have e1 : szOf (left - ((x.f1.length : Nat) : Int)) (x.f2.length) = left - ((x.f1.length + x.f2.length : Nat) : Int) := by
        unfold szOf
        rw [if_pos (by omega)]
        omega
      rw [e1]
      rw [if_neg (by omega)]
      unfold szOf
      rw [if_pos (by omega)]
    · have e1 : szOf (left - ((x.f1.length : Nat) : Int)) (x.f2.length) = -1 := by
        unfold szOf
        rw [if_neg (by omega)]
      rw [e1]
      rw [if_pos (by omega)]
      unfold szOf
      rw [if_neg (by omega)]
  · have e0 : szOf left (x.f1.length) = -1 := by
      unfold szOf
      rw [if_neg (by omega)]
    rw [e0]
    rw [if_pos (by omega)]
    unfold szOf
    rw [if_neg (by omega)]
theorem sz_TableS (l : List S135) (left : Int) (hb : l.length ≤ 140737488351232 ∧ (∀ y ∈ l, b135 y)) (h0 : 0 ≤ left) (h1 : left ≤ 1048576) : Ev (fun k => laws_szTableS.f k l left) (szOf left (l.length + (l.map n135).sum)) := by
  obtain ⟨hl, hb⟩ := hb
  unfold laws_szTableS.f
  rw [w64 (by omega) (by omega)]
  by_cases hn : left - (l.length : Int) < 0
  · refine Ev.ite_pos hn (Ev.some ?_)
    unfold szOf
    rw [if_neg (by omega)]
  · refine Ev.ite_neg hn ?_
    have hs0 : sumTo n135 l 0 = 0 := by simp [sumTo]
    have e0 : left - (l.length : Int) = left - (l.length : Int) - (sumTo n135 l 0 : Nat) := by rw [hs0]; omega
    rw [e0]
    refine Ev.upIf (n := l.length) (fun i => (l.length : Int) + (sumTo n135 l i : Nat) ≤ left) (g := fun i k => laws_szTableS.l0 k l (left - (l.length : Int) - (sumTo n135 l i : Nat)) (i : Int)) ?_ ?_ (by rw [hs0]; omega)
    · intro i hi hp ih
      have hm := hb _ (getD_mem hi z135)
      have hS := sumTo_succ n135 hi z135
      have hA := sumTo_le n135 l (i + 1)
      refine Ev.step (fun k => by rw [laws_szTableS.l0]) ?_
      repeat (first | (with_reducible refine Ev.ite_pos (by omega) ?_) | (with_reducible refine Ev.ite_neg (by omega) ?_))
      refine Ev.bind0 (sz_Table (l.getD i z135) _ hm (by omega) (by omega)) ?_
      by_cases hc : (l.length : Int) + (sumTo n135 l (i + 1) : Nat) ≤ left
      · have e1 : szOf (left - (l.length : Int) - (sumTo n135 l i : Nat)) (n135 (l.getD i z135)) = left - (l.length : Int) - (sumTo n135 l (i + 1) : Nat) := by
          unfold szOf
          rw [if_pos (by omega)]
          omega
        rw [e1, w64n (by omega)]
        exact Ev.ite_neg (by omega) (ih hc)
      · have e1 : szOf (left - (l.length : Int) - (sumTo n135 l i : Nat)) (n135 (l.getD i z135)) = -1 := by
          unfold szOf
          rw [if_neg (by omega)]
        rw [e1]
        refine Ev.ite_pos (by omega) (Ev.some ?_)
        unfold szOf
        rw [if_neg]
        have : sumTo n135 l l.length = (l.map n135).sum := sumTo_all _ _
        have hA2 := sumTo_le n135 l (i + 1)
        omega
    · intro hp
      refine Ev.step (fun k => by rw [laws_szTableS.l0]) ?_
      repeat (first | (with_reducible refine Ev.ite_pos (by omega) ?_) | (with_reducible refine Ev.ite_neg (by omega) ?_))
      refine Ev.some ?_
      rw [sumTo_all] at hp ⊢
      unfold szOf
      rw [if_pos (by omega)]
      omega
theorem sz_Piece (x : S97) (left : Int) (hb : b97 x) (h0 : 0 ≤ left) (h1 : left ≤ 1048576) : Ev (fun k => laws_szPiece.f k (x.f0.f0) (x.f0.f1) (x.f1) (x.f2) left) (szOf left (n97 x)) := by
  unfold b97 at hb
  unfold laws_szPiece.f n97
  refine Ev.bind0 (sz_LinkS x.f1 left (by first | exact hb.1 | exact hb.2 | exact ⟨hb.1, hb.2.1⟩ | exact ⟨hb.2.2.1, hb.2.2.2⟩ | exact hb.2.2 | exact ⟨hb.2.1, hb.2.2⟩) (by omega) (by omega)) ?_
  by_cases hc0 : ((x.f1.length : Nat) : Int) ≤ left
  · have e0 : szOf left (x.f1.length) = left - ((x.f1.length : Nat) : Int) := by
      unfold szOf
      rw [if_pos (by omega)]
    rw [e0]
    refine Ev.ite_neg (by omega) ?_
    refine Ev.bind (sz_TableS x.f2 _ (by first | exact hb.1 | exact hb.2 | exact ⟨hb.1, hb.2.1⟩ | exact ⟨hb.2.2.1, hb.2.2.2⟩ | exact hb.2.2 | exact ⟨hb.2.1, hb.2.2⟩) (by omega) (by omega)) ?_
    by_cases hc1 : ((x.f1.length + (x.f2.length + (x.f2.map n135).sum) : Nat) : Int) ≤ left
    · have e1 : szOf (left - ((x.f1.length : Nat) : Int)) ((x.f2.length + (x.f2.map n135).sum)) = left - ((x.f1.length + (x.f2.length + (x.f2.map n135).sum) : Nat) : Int) := by
        unfold szOf
        rw [if_pos (by omega)]
        omega
      rw [e1]
      refine Ev.ite_neg (by omega) ?_
      refine Ev.some ?_
      unfold szOf
      rw [if_pos (by omega)]
    · have e1 : szOf (left - ((x.f1.length : Nat) : Int)) ((x.f2.length + (x.f2.map n135).sum)) = -1 := by
        unfold szOf
        rw [if_neg (by omega)]
      rw [e1]
      refine Ev.ite_pos (by omega) (Ev.some ?_)
      unfold szOf
      rw [if_neg (by omega)]
  · have e0 : szOf left (x.f1.length) = -1 := by
      unfold szOf
      rw [if_neg (by omega)]
    rw [e0]
    refine Ev.ite_pos (by omega) (Ev.some ?_)
    unfold szOf
    rw [if_neg (by omega)]
theorem sz_PieceS (l : List S97) (left : Int) (hb : l.length ≤ 140737488351232 ∧ (∀ y ∈ l, b97 y)) (h0 : 0 ≤ left) (h1 : left ≤ 1048576) : Ev (fun k => laws_szPieceS.f k l left) (szOf left (l.length + (l.map n97).sum)) := by
  obtain ⟨hl, hb⟩ := hb
  unfold laws_szPieceS.f
  rw [w64 (by omega) (by omega)]
  by_cases hn : left - (l.length : Int) < 0
  · refine Ev.ite_pos hn (Ev.some ?_)
    unfold szOf
    rw [if_neg (by omega)]
  · refine Ev.ite_neg hn ?_
    have hs0 : sumTo n97 l 0 = 0 := by simp [sumTo]
    have e0 : left - (l.length : Int) = left - (l.length : Int) - (sumTo n97 l 0 : Nat) := by rw [hs0]; omega
    rw [e0]
    refine Ev.upIf (n := l.length) (fun i => (l.length : Int) + (sumTo n97 l i : Nat) ≤ left) (g := fun i k => laws_szPieceS.l0 k l (left - (l.length : Int) - (sumTo n97 l i : Nat)) (i : Int)) ?_ ?_ (by rw [hs0]; omega)
    · intro i hi hp ih
      have hm := hb _ (getD_mem hi z97)
      have hS := sumTo_succ n97 hi z97
      have hA := sumTo_le n97 l (i + 1)
      refine Ev.step (fun k => by rw [laws_szPieceS.l0]) ?_
      repeat (first | (with_reducible refine Ev.ite_pos (by omega) ?_) | (with_reducible refine Ev.ite_neg (by omega) ?_))
      refine Ev.bind (sz_Piece (l.getD i z97) _ hm (by omega) (by omega)) ?_
      by_cases hc : (l.length : Int) + (sumTo n97 l (i + 1) : Nat) ≤ left
      · have e1 : szOf (left - (l.length : Int) - (sumTo n97 l i : Nat)) (n97 (l.getD i z97)) = left - (l.length : Int) - (sumTo n97 l (i + 1) : Nat) := by
          unfold szOf
          rw [if_pos (by omega)]
          omega
        rw [e1, w64n (by omega)]
        exact Ev.ite_neg (by omega) (ih hc)
      · have e1 : szOf (left - (l.length : Int) - (sumTo n97 l i : Nat)) (n97 (l.getD i z97)) = -1 := by
          unfold szOf
          rw [if_neg (by omega)]
        rw [e1]
        refine Ev.ite_pos (by omega) (Ev.some ?_)
        unfold szOf
        rw [if_neg]
        have : sumTo n97 l l.length = (l.map n97).sum := sumTo_all _ _
        have hA2 := sumTo_le n97 l (i + 1)
        omega
    · intro hp
      refine Ev.step (fun k => by rw [laws_szPieceS.l0]) ?_
      repeat (first | (with_reducible refine Ev.ite_pos (by omega) ?_) | (with_reducible refine Ev.ite_neg (by omega) ?_))
      refine Ev.some ?_
      rw [sumTo_all] at hp ⊢
      unfold szOf
      rw [if_pos (by omega)]
      omega
theorem sz_Program (a0 : Int) (a1 : Int) (a2 : Int) (a3 : (List S97)) (left : Int) (hba3 : a3.length ≤ 140737488351232 ∧ (∀ y ∈ a3, b97 y)) (h0 : 0 ≤ left) (h1 : left ≤ 1048576) : Ev (fun k => laws_szProgram.f k a0 a1 a2 a3 left) (szOf left ((a3.length + (a3.map n97).sum))) := by
  unfold laws_szProgram.f
  refine Ev.bind (sz_PieceS a3 left hba3 (by omega) (by omega)) ?_
  by_cases hc0 : (((a3.length + (a3.map n97).sum) : Nat) : Int) ≤ left
  · have e0 : szOf left ((a3.length + (a3.map n97).sum)) = left - (((a3.length + (a3.map n97).sum) : Nat) : Int) := by
      unfold szOf
      rw [if_pos (by omega)]
    rw [e0]
    exact Ev.ite_neg (by omega) (Ev.now _)
  · have e0 : szOf left ((a3.length + (a3.map n97).sum)) = -1 := by
      unfold szOf
      rw [if_neg (by omega)]
    rw [e0]
    exact Ev.ite_pos (by omega) (Ev.now _)
theorem to_Link (x : S137) : laws_toLink.f (x.f0) (x.f1) = some (x.f0, x.f1) := by
  unfold laws_toLink.f
  rfl
theorem to_LinkS (l : List S137) (hn : l.length ≤ 1048576) : Ev (fun k => laws_toLinkS.f k l) (l.map cLink) := by
  unfold laws_toLinkS.f
  repeat (first | (with_reducible refine Ev.ite_pos (by omega) ?_) | (with_reducible refine Ev.ite_neg (by omega) ?_))
  rw [Int.toNat_natCast, ← fillTo_zero cLink z71 l]
  refine Ev.up (n := l.length) (g := fun i k => laws_toLinkS.l0 k l (fillTo cLink z71 l i) (i : Int)) ?_ ?_
  · intro i hi ih
    have hlen := fillTo_length cLink z71 l (Nat.le_of_lt hi)
    rw [← fillTo_set cLink z71 l hi z137] at ih
    refine Ev.step (fun k => by rw [laws_toLinkS.l0]) ?_
    repeat (first | (with_reducible refine Ev.ite_pos (by omega) ?_) | (with_reducible refine Ev.ite_neg (by omega) ?_))
    refine Ev.bind0 (to_Link (l.getD i z137)) ?_
    repeat (first | (with_reducible refine Ev.ite_pos (by omega) ?_) | (with_reducible refine Ev.ite_neg (by omega) ?_))
    rw [Int.toNat_natCast, w64n (by omega)]
    exact ih
  · refine Ev.step (fun k => by rw [laws_toLinkS.l0]) ?_
    repeat (first | (with_reducible refine Ev.ite_pos (by omega) ?_) | (with_reducible refine Ev.ite_neg (by omega) ?_))
    refine Ev.some ?_
    rw [fillTo_all]
theorem to_IntS (l : List Int) (hn : l.length ≤ 1048576) : Ev (fun k => laws_toIntS.f k l) l := by
  unfold laws_toIntS.f
  repeat (first | (with_reducible refine Ev.ite_pos (by omega) ?_) | (with_reducible refine Ev.ite_neg (by omega) ?_))
  rw [Int.toNat_natCast, ← fillTo_zero (fun x => x) 0 l]
  refine Ev.up (n := l.length) (g := fun i k => laws_toIntS.l0 k l (fillTo (fun x => x) 0 l i) (i : Int)) ?_ ?_
  · intro i hi ih
    have hlen := fillTo_length (fun x => x) 0 l (Nat.le_of_lt hi)
    rw [← fillTo_set (fun x => x) 0 l hi 0] at ih
    refine Ev.step (fun k => by rw [laws_toIntS.l0]) ?_
    repeat (first | (with_reducible refine Ev.ite_pos (by omega) ?_) | (with_reducible refine Ev.ite_neg (by omega) ?_))
    rw [Int.toNat_natCast, w64n (by omega)]
    exact ih
  · refine Ev.step (fun k => by rw [laws_toIntS.l0]) ?_
    repeat (first | (with_reducible refine Ev.ite_pos (by omega) ?_) | (with_reducible refine Ev.ite_neg (by omega) ?_))
    refine Ev.some ?_
    rw [fillTo_all]
    simp
theorem to_Table (x : S135) (hn : n135 x ≤ 1048576) : Ev (fun k => laws_toTable.f k (x.f0) (x.f1) (x.f2)) (x.f0, x.f1, x.f2) := by
  unfold n135 at hn
  unfold laws_toTable.f
  refine Ev.bind (to_IntS (x.f1) (by omega)) ?_
  refine Ev.bind (to_IntS (x.f2) (by omega)) ?_
  exact Ev.now _
theorem to_TableS (l : List S135) (hn : (l.length + (l.map n135).sum) ≤ 1048576) : Ev (fun k => laws_toTableS.f k l) (l.map cTable) := by
  unfold laws_toTableS.f
  repeat (first | (with_reducible refine Ev.ite_pos (by omega) ?_) | (with_reducible refine Ev.ite_neg (by omega) ?_))
  rw [Int.toNat_natCast, ← fillTo_zero cTable z44 l]
  refine Ev.up (n := l.length) (g := fun i k => laws_toTableS.l0 k l (fillTo cTable z44 l i) (i : Int)) ?_ ?_
  · intro i hi ih
    have hlen := fillTo_length cTable z44 l (Nat.le_of_lt hi)
    rw [← fillTo_set cTable z44 l hi z135] at ih
    refine Ev.step (fun k => by rw [laws_toTableS.l0]) ?_
    repeat (first | (with_reducible refine Ev.ite_pos (by omega) ?_) | (with_reducible refine Ev.ite_neg (by omega) ?_))
    have hm := le_sum n135 (getD_mem hi z135)
    refine Ev.bind (to_Table (l.getD i z135) (by omega)) ?_
    repeat (first | (with_reducible refine Ev.ite_pos (by omega) ?_) | (with_reducible refine Ev.ite_neg (by omega) ?_))
    rw [Int.toNat_natCast, w64n (by omega)]
    exact ih
  · refine Ev.step (fun k => by rw [laws_toTableS.l0]) ?_
    repeat (first | (with_reducible refine Ev.ite_pos (by omega) ?_) | (with_reducible refine Ev.ite_neg (by omega) ?_))
    refine Ev.some ?_
    rw [fillTo_all]
theorem to_Span (x : S93) : laws_toSpan.f (x.f0) (x.f1) = some (x.f0, x.f1) := by
  unfold laws_toSpan.f
  rfl
theorem to_Piece (x : S97) (hn : n97 x ≤ 1048576) : Ev (fun k => laws_toPiece.f k (x.f0.f0) (x.f0.f1) (x.f1) (x.f2)) (x.f0.f0, x.f0.f1, (x.f1.map cLink), (x.f2.map cTable)) := by
  unfold n97 at hn
  unfold laws_toPiece.f
  refine Ev.bind0 (to_Span (x.f0)) ?_
  refine Ev.bind (to_LinkS (x.f1) (by omega)) ?_
  refine Ev.bind (to_TableS (x.f2) (by omega)) ?_
  exact Ev.now _
theorem to_PieceS (l : List S97) (hn : (l.length + (l.map n97).sum) ≤ 1048576) : Ev (fun k => laws_toPieceS.f k l) (l.map cPiece) := by
  unfold laws_toPieceS.f
  repeat (first | (with_reducible refine Ev.ite_pos (by omega) ?_) | (with_reducible refine Ev.ite_neg (by omega) ?_))
  rw [Int.toNat_natCast, ← fillTo_zero cPiece z69 l]
  refine Ev.up (n := l.length) (g := fun i k => laws_toPieceS.l0 k l (fillTo cPiece z69 l i) (i : Int)) ?_ ?_
  · intro i hi ih
    have hlen := fillTo_length cPiece z69 l (Nat.le_of_lt hi)
    rw [← fillTo_set cPiece z69 l hi z97] at ih
    refine Ev.step (fun k => by rw [laws_toPieceS.l0]) ?_
    repeat (first | (with_reducible refine Ev.ite_pos (by omega) ?_) | (with_reducible refine Ev.ite_neg (by omega) ?_))
    have hm := le_sum n97 (getD_mem hi z97)
    refine Ev.bind (to_Piece (l.getD i z97) (by omega)) ?_
    repeat (first | (with_reducible refine Ev.ite_pos (by omega) ?_) | (with_reducible refine Ev.ite_neg (by omega) ?_))
    rw [Int.toNat_natCast, w64n (by omega)]
    exact ih
  · refine Ev.step (fun k => by rw [laws_toPieceS.l0]) ?_
    repeat (first | (with_reducible refine Ev.ite_pos (by omega) ?_) | (with_reducible refine Ev.ite_neg (by omega) ?_))
    refine Ev.some ?_
    rw [fillTo_all]
theorem to_Program (a0 : Int) (a1 : Int) (a2 : Int) (a3 : (List S97)) (hn : (a3.length + (a3.map n97).sum) ≤ 1048576) : Ev (fun k => laws_toProgram.f k a0 a1 a2 a3) (a0, a1, a2, (a3.map cPiece)) := by
  unfold laws_toProgram.f
  refine Ev.bind (to_PieceS (a3) (by omega)) ?_
  exact Ev.now _
theorem eq_Span (x : S65) : laws_eqSpan.f (x.f0) (x.f1) (x.f0) (x.f1) = some true := by
  unfold laws_eqSpan.f
  simp
theorem eq_Link (x : S71) : laws_eqLink.f (x.f0) (x.f1) (x.f0) (x.f1) = some true := by
  unfold laws_eqLink.f
  simp
theorem eq_LinkS (l : List S71) (hn : l.length ≤ 1048576) : Ev (fun k => laws_eqLinkS.f k l l) true := by
  unfold laws_eqLinkS.f
  refine Ev.ite_pos rfl ?_
  refine Ev.up (n := l.length) (g := fun i k => laws_eqLinkS.l0 k l l (i : Int)) ?_ ?_
  · intro i hi ih
    refine Ev.step (fun k => by rw [laws_eqLinkS.l0]) ?_
    repeat (first | (with_reducible refine Ev.ite_pos (by omega) ?_) | (with_reducible refine Ev.ite_neg (by omega) ?_))
    refine Ev.bind0 (eq_Link (l.getD i z71)) ?_
    refine Ev.ite_pos rfl ?_
    rw [w64n (by omega)]
    exact ih
  · refine Ev.step (fun k => by rw [laws_eqLinkS.l0]) ?_
    repeat (first | (with_reducible refine Ev.ite_pos (by omega) ?_) | (with_reducible refine Ev.ite_neg (by omega) ?_))
    exact Ev.now _
theorem eq_IntS (l : List Int) (hn : l.length ≤ 2097152) : Ev (fun k => laws_eqIntS.f k l l) true := by
  unfold laws_eqIntS.f
  refine Ev.ite_pos rfl ?_
  refine Ev.up (n := l.length) (g := fun i k => laws_eqIntS.l0 k l l (i : Int)) ?_ ?_
  · intro i hi ih
    refine Ev.step (fun k => by rw [laws_eqIntS.l0]) ?_
    repeat (first | (with_reducible refine Ev.ite_pos (by omega) ?_) | (with_reducible refine Ev.ite_neg (by omega) ?_))
    rw [w64n (by omega)]
    exact ih
  · refine Ev.step (fun k => by rw [laws_eqIntS.l0]) ?_
    repeat (first | (with_reducible refine Ev.ite_pos (by omega) ?_) | (with_reducible refine Ev.ite_neg (by omega) ?_))
    exact Ev.now _
theorem eq_Table (x : S44) (hn : n44 x ≤ 1048576) : Ev (fun k => laws_eqTable.f k (x.f0) (x.f1) (x.f2) (x.f0) (x.f1) (x.f2)) true := by
  unfold n44 at hn
  unfold laws_eqTable.f
  refine Ev.ite_pos rfl ?_
  refine Ev.bind (eq_IntS (x.f1) (by omega)) ?_
  refine Ev.ite_pos rfl ?_
  refine Ev.bind (eq_IntS (x.f2) (by omega)) ?_
  refine Ev.ite_pos rfl ?_
  exact Ev.now _
theorem eq_TableS (l : List S44) (hn : (l.length + (l.map n44).sum) ≤ 1048576) : Ev (fun k => laws_eqTableS.f k l l) true := by
  unfold laws_eqTableS.f
  refine Ev.ite_pos rfl ?_
  refine Ev.up (n := l.length) (g := fun i k => laws_eqTableS.l0 k l l (i : Int)) ?_ ?_
  · intro i hi ih
    refine Ev.step (fun k => by rw [laws_eqTableS.l0]) ?_
    repeat (first | (with_reducible refine Ev.ite_pos (by omega) ?_) | (with_reducible refine Ev.ite_neg (by omega) ?_))
    have hm := le_sum n44 (getD_mem hi z44)
    refine Ev.bind (eq_Table (l.getD i z44) (by omega)) ?_
    refine Ev.ite_pos rfl ?_
    rw [w64n (by omega)]
    exact ih
  · refine Ev.step (fun k => by rw [laws_eqTableS.l0]) ?_
    repeat (first | (with_reducible refine Ev.ite_pos (by omega) ?_) | (with_reducible refine Ev.ite_neg (by omega) ?_))
    exact Ev.now _
theorem eq_Piece (x : S69) (hn : n69 x ≤ 1048576) : Ev (fun k => laws_eqPiece.f k (x.f0.f0) (x.f0.f1) (x.f1) (x.f2) (x.f0.f0) (x.f0.f1) (x.f1) (x.f2)) true := by
  unfold n69 at hn
  unfold laws_eqPiece.f
  refine Ev.bind0 (eq_Span (x.f0)) ?_
  refine Ev.ite_pos rfl ?_
  refine Ev.bind (eq_LinkS (x.f1) (by omega)) ?_
  refine Ev.ite_pos rfl ?_
  refine Ev.bind (eq_TableS (x.f2) (by omega)) ?_
  refine Ev.ite_pos rfl ?_
  exact Ev.now _
theorem eq_PieceS (l : List S69) (hn : (l.length + (l.map n69).sum) ≤ 1048576) : Ev (fun k => laws_eqPieceS.f k l l) true := by
  unfold laws_eqPieceS.f
  refine Ev.ite_pos rfl ?_
  refine Ev.up (n := l.length) (g := fun i k => laws_eqPieceS.l0 k l l (i : Int)) ?_ ?_
  · intro i hi ih
    refine Ev.step (fun k => by rw [laws_eqPieceS.l0]) ?_
    repeat (first | (with_reducible refine Ev.ite_pos (by omega) ?_) | (with_reducible refine Ev.ite_neg (by omega) ?_))
    have hm := le_sum n69 (getD_mem hi z69)
    refine Ev.bind (eq_Piece (l.getD i z69) (by omega)) ?_
    refine Ev.ite_pos rfl ?_
    rw [w64n (by omega)]
    exact ih
  · refine Ev.step (fun k => by rw [laws_eqPieceS.l0]) ?_
    repeat (first | (with_reducible refine Ev.ite_pos (by omega) ?_) | (with_reducible refine Ev.ite_neg (by omega) ?_))
    exact Ev.now _
theorem eq_Program (a0 : Int) (a1 : Int) (a2 : Int) (a3 : (List S69)) (hn : (a3.length + (a3.map n69).sum) ≤ 1048576) : Ev (fun k => laws_eqProgram.f k a0 a1 a2 a3 a0 a1 a2 a3) true := by
  unfold laws_eqProgram.f
  refine Ev.ite_pos rfl ?_
  refine Ev.ite_pos rfl ?_
  refine Ev.ite_pos rfl ?_
  refine Ev.bind (eq_PieceS a3 (by omega)) ?_
  refine Ev.ite_pos rfl ?_
  exact Ev.now _
def cntInt (a : Int) (n : Nat) : List Int := (List.range n).map fun j : Nat => a + (j : Int)
theorem mark_IntS (l : List Int) (a : Int) (h0 : 0 ≤ a) (h1 : a ≤ 1000000000) (hl : l.length ≤ 2097152) : Ev (fun k => laws_markIntS.f k l a) (a + (l.length : Int), cntInt a l.length) := by
  have e1 : cntInt a 0 ++ l.drop 0 = l := by simp [cntInt]
  have e2 : a + ((0 : Nat) : Int) = a := by omega
  show Ev (fun k => laws_markIntS.l0 k l a 0) _
  rw [show (fun k => laws_markIntS.l0 k l a 0) = (fun k => laws_markIntS.l0 k (cntInt a 0 ++ l.drop 0) (a + ((0 : Nat) : Int)) ((0 : Nat) : Int)) by rw [e1, e2]; rfl]
  refine Ev.up (n := l.length) (g := fun i k => laws_markIntS.l0 k (cntInt a i ++ l.drop i) (a + (i : Int)) (i : Int)) ?_ ?_
  · intro i hi ih
    have hlen : (cntInt a i).length = i := by simp [cntInt]
    have hlen2 : (cntInt a i ++ l.drop i).length = l.length := by rw [List.length_append, hlen, List.length_drop]; omega
    refine Ev.step (fun k => by rw [laws_markIntS.l0]) ?_
    repeat (first | (with_reducible refine Ev.ite_pos (by omega) ?_) | (with_reducible refine Ev.ite_neg (by omega) ?_))
    rw [drop_getD hi 0]
    have w0 : wrap64 (a + (i : Int) + 1) = a + (i : Int) + 1 := w64 (by omega) (by omega)
    simp only [Int.toNat_natCast, set_mid _ _ _ _ hlen, w0, w64n (by omega : i ≤ 140737488351232)]
    have e3 : cntInt a (i + 1) ++ l.drop (i + 1) = cntInt a i ++ (a + (i : Int)) :: l.drop (i + 1) := by
      simp [cntInt, List.range_succ]
    have e4 : a + ((i + 1 : Nat) : Int) = a + (i : Int) + 1 := by omega
    rw [e3, e4] at ih
    exact ih
  · have hlen2 : (cntInt a l.length ++ l.drop l.length).length = l.length := by simp [cntInt]
    refine Ev.step (fun k => by rw [laws_markIntS.l0]) ?_
    repeat (first | (with_reducible refine Ev.ite_pos (by omega) ?_) | (with_reducible refine Ev.ite_neg (by omega) ?_))
    refine Ev.some ?_
    simp
theorem held_IntS (n : Nat) (a : Int) (h0 : 0 ≤ a) (h1 : a ≤ 1000000000) (hl : n ≤ 2097152) : Ev (fun k => laws_heldIntS.f k (cntInt a n) a) (a + (n : Int)) := by
  have hlen : (cntInt a n).length = n := by simp [cntInt]
  have e2 : a + ((0 : Nat) : Int) = a := by omega
  show Ev (fun k => laws_heldIntS.l0 k (cntInt a n) a 0) _
  rw [show (fun k => laws_heldIntS.l0 k (cntInt a n) a 0) = (fun k => laws_heldIntS.l0 k (cntInt a n) (a + ((0 : Nat) : Int)) ((0 : Nat) : Int)) by rw [e2]; rfl]
  refine Ev.up (n := n) (g := fun i k => laws_heldIntS.l0 k (cntInt a n) (a + (i : Int)) (i : Int)) ?_ ?_
  · intro i hi ih
    have hg : rd (cntInt a n) (i : Int) = a + (i : Int) := map_range_getD _ hi _
    refine Ev.step (fun k => by rw [laws_heldIntS.l0]) ?_
    repeat (first | (with_reducible refine Ev.ite_pos (by omega) ?_) | (with_reducible refine Ev.ite_neg (by omega) ?_))
    have w0 : wrap64 (a + (i : Int) + 1) = a + (i : Int) + 1 := w64 (by omega) (by omega)
    simp only [w0, w64n (by omega : i ≤ 140737488351232)]
    have e4 : a + ((i + 1 : Nat) : Int) = a + (i : Int) + 1 := by omega
    rw [e4] at ih
    exact ih
  · refine Ev.step (fun k => by rw [laws_heldIntS.l0]) ?_
    repeat (first | (with_reducible refine Ev.ite_pos (by omega) ?_) | (with_reducible refine Ev.ite_neg (by omega) ?_))
    exact Ev.now _
def mkLink (b : Int) : S71 := ⟨b, b + 1⟩
def cntLink (a : Int) (n : Nat) : List S71 := (List.range n).map fun j : Nat => mkLink (a + 2 * (j : Int))
theorem mark_LinkS (l : List S71) (a : Int) (h0 : 0 ≤ a) (h1 : a ≤ 1000000000) (hl : l.length ≤ 2097152) : Ev (fun k => laws_markLinkS.f k l a) (a + 2 * (l.length : Int), cntLink a l.length) := by
  have e1 : cntLink a 0 ++ l.drop 0 = l := by simp [cntLink]
  have e2 : a + 2 * ((0 : Nat) : Int) = a := by omega
  show Ev (fun k => laws_markLinkS.l0 k l a 0) _
  rw [show (fun k => laws_markLinkS.l0 k l a 0) = (fun k => laws_markLinkS.l0 k (cntLink a 0 ++ l.drop 0) (a + 2 * ((0 : Nat) : Int)) ((0 : Nat) : Int)) by rw [e1, e2]; rfl]
  refine Ev.up (n := l.length) (g := fun i k => laws_markLinkS.l0 k (cntLink a i ++ l.drop i) (a + 2 * (i : Int)) (i : Int)) ?_ ?_
  · intro i hi ih
    have hlen : (cntLink a i).length = i := by simp [cntLink]
    have hlen2 : (cntLink a i ++ l.drop i).length = l.length := by rw [List.length_append, hlen, List.length_drop]; omega
    refine Ev.step (fun k => by rw [laws_markLinkS.l0]) ?_
    repeat (first | (with_reducible refine Ev.ite_pos (by omega) ?_) | (with_reducible refine Ev.ite_neg (by omega) ?_))
    rw [drop_getD hi z71]
    have w0 : wrap64 (a + 2 * (i : Int) + 1) = a + 2 * (i : Int) + 1 := w64 (by omega) (by omega)
    have w1 : wrap64 (a + 2 * (i : Int) + 1 + 1) = a + 2 * (i : Int) + 1 + 1 := w64 (by omega) (by omega)
    simp only [rd_T71, getD_mid _ _ _ _ hlen, Option.bind_some, Int.toNat_natCast, set_mid _ _ _ _ hlen, w0, w1, w64n (by omega : i ≤ 140737488351232)]
    have e3 : cntLink a (i + 1) ++ l.drop (i + 1) = cntLink a i ++ mkLink (a + 2 * (i : Int)) :: l.drop (i + 1) := by
      simp [cntLink, List.range_succ]
    have e4 : a + 2 * ((i + 1 : Nat) : Int) = a + 2 * (i : Int) + 1 + 1 := by omega
    rw [e3, e4] at ih
    exact ih
  · have hlen2 : (cntLink a l.length ++ l.drop l.length).length = l.length := by simp [cntLink]
    refine Ev.step (fun k => by rw [laws_markLinkS.l0]) ?_
    repeat (first | (with_reducible refine Ev.ite_pos (by omega) ?_) | (with_reducible refine Ev.ite_neg (by omega) ?_))
    refine Ev.some ?_
    simp
end Go.Proofs.Ytadpbpocbfjboaa.fnExactMixOf
/- Bounds on programs that a law is handed. Conditions: none. -/
namespace Go.Proofs.Ytadpbpocbfjboaa.fnExactMixOf
open Go.RowKit Go.Proofs.YtadpbpocbfjboaaW.PrintWords Go.Proofs.YtadpbpocbfjboaaW.PrintMore Go.Proofs.Ytadpbpocbfjboaa.QFnExactMixOf Go.Proofs.Ytadpbpocbfjboaa.Open Go.Proofs.Ytadpbpocbfjboaa.Kit
theorem bTable {x : S135} (h : g135 x) : b135 x := ⟨Len.le h.2.1.1 (by omega), Len.le h.2.2.1 (by omega)⟩
theorem bPiece {x : S97} (h : g97 x) : b97 x := ⟨Len.le h.2.1.1 (by omega), Len.le h.2.2.1 (by omega), fun y hy => bTable (h.2.2.2 y hy)⟩
/-- How many elements a program has in all. -/
def nPg (l : List S97) : Nat := l.length + (l.map n97).sum
def nPgI (l : List S69) : Nat := l.length + (l.map n69).sum
theorem nPgI_c (l : List S97) : nPgI (l.map cPiece) = nPg l := by
  unfold nPgI nPg
  rw [List.length_map, List.map_map]
  congr 2
  exact List.map_congr_left fun x _ => n_cPiece x
end Go.Proofs.Ytadpbpocbfjboaa.fnExactMixOf
/- The pieces that lie in a span of ticks, in the program and in the reference. Conditions: none. -/
namespace Go.Proofs.Ytadpbpocbfjboaa.fnExactMixOf
open Go.RowKit Go.Proofs.YtadpbpocbfjboaaW.PrintWords Go.Proofs.YtadpbpocbfjboaaW.PrintMore Go.Proofs.Ytadpbpocbfjboaa.QFnExactMixOf Go.Proofs.Ytadpbpocbfjboaa.Open Go.Proofs.Ytadpbpocbfjboaa.Kit
/-- A piece that meets the ticks from u to v. -/
def meets (u v : Int) (x : S69) : Bool := decide ((0 ≤ x.f0.f0 ∧ x.f0.f1 ≤ 1000 ∧ x.f0.f0 < x.f0.f1) ∧ u ≤ v ∧ x.f0.f0 ≤ v ∧ u < x.f0.f1)
def pcs (u v : Int) : List S69 → Nat → List Int
  | [], _ => []
  | x :: xs, i => if meets u v x = true then (i : Int) :: pcs u v xs (i + 1) else pcs u v xs (i + 1)
theorem pcs_len (u v : Int) : ∀ (l : List S69) (i : Nat), (pcs u v l i).length ≤ l.length
  | [], _ => Nat.le_refl _
  | x :: xs, i => by
    unfold pcs
    have := pcs_len u v xs (i + 1)
    split <;> simp only [List.length_cons] <;> omega
end Go.Proofs.Ytadpbpocbfjboaa.fnExactMixOf
/- The table of a piece, in the program and in the reference. Conditions: none. -/
namespace Go.Proofs.Ytadpbpocbfjboaa.fnExactMixOf
open Go.RowKit Go.Proofs.YtadpbpocbfjboaaW.PrintWords Go.Proofs.YtadpbpocbfjboaaW.PrintMore Go.Proofs.Ytadpbpocbfjboaa.QFnExactMixOf Go.Proofs.Ytadpbpocbfjboaa.Open Go.Proofs.Ytadpbpocbfjboaa.Kit
theorem in1 (a b c : Int) : spec_l1In.f a b c = some (decide (b ≤ a ∧ a ≤ c)) := by
  unfold spec_l1In.f
  by_cases h : b ≤ a <;> simp [h]
theorem isIx (i n : Int) : impl_isIndex.f i n = some (decide (0 ≤ i ∧ i < n)) := by
  unfold impl_isIndex.f
  by_cases h : 0 ≤ i <;> simp [h]
/-- Whether a piece is there, and has a table for a destination. -/
def okT (p : List S69) (k d : Int) : Prop := (0 ≤ k ∧ k < (p.length : Int)) ∧ (0 ≤ d ∧ d < ((rd_T69 p k).f2.length : Int))
instance (p : List S69) (k d : Int) : Decidable (okT p k d) := by unfold okT; infer_instance
def tab (p : List S69) (k d : Int) : S44 := rd_T44 (rd_T69 p k).f2 d
def tableIn (p : List S69) (k d : Int) : Int × List Int × List Int × Bool := if okT p k d then ((tab p k d).f0, (tab p k d).f1, (tab p k d).f2, true) else (0, [], [], false)
theorem tab_len {p : List S69} (hp : nPgI p ≤ 1048576) {k d : Int} (h : okT p k d) : (rd_T69 p k).f2.length ≤ 1048576 ∧ (tab p k d).f1.length ≤ 1048576 ∧ (tab p k d).f2.length ≤ 1048576 := by
  unfold okT at h
  have hm := le_sum n69 (getD_mem (show k.toNat < p.length by omega) z69)
  have hm2 := le_sum n44 (getD_mem (show d.toNat < (rd_T69 p k).f2.length by omega) z44)
  unfold nPgI at hp
  have e : rd_T69 p k = p.getD k.toNat z69 := rfl
  rw [← e] at hm
  have e2 : tab p k d = (rd_T69 p k).f2.getD d.toNat z44 := rfl
  rw [← e2] at hm2
  have h0 : n69 (rd_T69 p k) = (rd_T69 p k).f1.length + ((rd_T69 p k).f2.length + ((rd_T69 p k).f2.map n44).sum) := rfl
  have h3 : n44 (tab p k d) = (tab p k d).f1.length + (tab p k d).f2.length := rfl
  have h4 : (rd_T69 p k).f2.length ≤ p.length + (p.map n69).sum := by omega
  have h5 : ((rd_T69 p k).f2.map n44).sum ≤ p.length + (p.map n69).sum := by omega
  omega
theorem table1 (p : List S69) (hp : nPgI p ≤ 1048576) (n a s k d : Int) : spec_TableIn.f n a s p k d = some (tableIn p k d) := by
  have hl : p.length ≤ 1048576 := by unfold nPgI at hp; omega
  unfold spec_TableIn.f tableIn
  rw [in1, Option.bind_some, w64 (x := (p.length : Int) - 1) (by omega) (by omega)]
  by_cases h1 : 0 ≤ k ∧ k < (p.length : Int)
  · rw [if_pos (decide_eq_true (show 0 ≤ k ∧ k ≤ (p.length : Int) - 1 by omega)), if_pos h1.1, if_pos h1.2]
    have hf : (rd_T69 p k).f2.length ≤ 1048576 := by
      have hm := le_sum n69 (getD_mem (show k.toNat < p.length by omega) z69)
      unfold nPgI at hp
      have e : rd_T69 p k = p.getD k.toNat z69 := rfl
      rw [← e] at hm
      have h0 : n69 (rd_T69 p k) = (rd_T69 p k).f1.length + ((rd_T69 p k).f2.length + ((rd_T69 p k).f2.map n44).sum) := rfl
      have h4 : (rd_T69 p k).f2.length ≤ p.length + (p.map n69).sum := by omega
      omega
    rw [in1, Option.bind_some, w64 (x := ((rd_T69 p k).f2.length : Int) - 1) (by omega) (by omega)]
    by_cases h2 : 0 ≤ d ∧ d < ((rd_T69 p k).f2.length : Int)
    · have hok : okT p k d := ⟨h1, h2⟩
      have htl := tab_len hp hok
      rw [if_pos (decide_eq_true (show 0 ≤ d ∧ d ≤ ((rd_T69 p k).f2.length : Int) - 1 by omega)), if_pos h2.1, if_pos h2.2, if_pos hok]
      unfold spec_l15Copy.f
      have e2 : rd_T44 (rd_T69 p k).f2 d = tab p k d := rfl
      rw [e2, Option.bind_some, if_pos (by simp only [List.length_nil]; omega), Option.bind_some, if_pos (by simp only [List.length_nil]; omega)]
      rfl
    · rw [if_neg (by simp; omega), if_neg (fun h : okT p k d => h2 h.2)]
  · rw [if_neg (by simp; omega), if_neg (fun h : okT p k d => h1 h.1)]
theorem table2 (p : List S69) (hp : nPgI p ≤ 1048576) (n a s k d : Int) : impl_TableIn.f n a s p k d = some (tableIn p k d) := by
  unfold impl_TableIn.f tableIn
  rw [isIx, Option.bind_some]
  by_cases h1 : 0 ≤ k ∧ k < (p.length : Int)
  · rw [if_pos (decide_eq_true h1), if_pos h1.1, if_pos h1.2, isIx, Option.bind_some]
    by_cases h2 : 0 ≤ d ∧ d < ((rd_T69 p k).f2.length : Int)
    · have hok : okT p k d := ⟨h1, h2⟩
      have htl := tab_len hp hok
      rw [if_pos (decide_eq_true h2), if_pos h2.1, if_pos h2.2, if_pos hok]
      have e2 : rd_T44 (rd_T69 p k).f2 d = tab p k d := rfl
      unfold impl_cloneTable.f slices_Clone_int_int.f
      rw [e2, if_pos (by omega), Option.bind_some, if_pos (by omega), Option.bind_some]
      rfl
    · rw [if_neg (by simpa using h2), if_neg (fun h : okT p k d => h2 h.2)]
  · rw [if_neg (by simpa using h1), if_neg (fun h : okT p k d => h1 h.1)]
end Go.Proofs.Ytadpbpocbfjboaa.fnExactMixOf
/- What a program's marks come to. Conditions: none. -/
namespace Go.Proofs.Ytadpbpocbfjboaa.fnExactMixOf
open Go.RowKit Go.Proofs.YtadpbpocbfjboaaW.PrintWords Go.Proofs.YtadpbpocbfjboaaW.PrintMore Go.Proofs.Ytadpbpocbfjboaa.QFnExactMixOf Go.Proofs.Ytadpbpocbfjboaa.Open Go.Proofs.Ytadpbpocbfjboaa.Kit
theorem sumT_le (l : List S44) : Mk.sumT (l.map fun t => (t.f1.length, t.f2.length)) = l.length + (l.map n44).sum := by
  unfold Mk.sumT
  rw [List.map_map]
  induction l with
  | nil => rfl
  | cons t l ih =>
    rw [List.map_cons, List.sum_cons, ih, List.map_cons, List.sum_cons, List.length_cons]
    have h3 : n44 t = t.f1.length + t.f2.length := rfl
    rw [h3]
    simp only [Function.comp]
    omega
theorem sumP_le (l : List S69) : Mk.sumP (laws_markProgram.cnt l) ≤ 2 * (l.length + (l.map n69).sum) := by
  unfold Mk.sumP laws_markProgram.cnt
  rw [List.map_map]
  induction l with
  | nil => simp
  | cons x l ih =>
    rw [List.map_cons, List.sum_cons, List.map_cons, List.sum_cons, List.length_cons]
    have h0 : n69 x = x.f1.length + (x.f2.length + (x.f2.map n44).sum) := rfl
    rw [h0]
    simp only [Function.comp]
    rw [sumT_le]
    omega
theorem mark_Program (a0 a1 a2 : Int) (l : List S69) (a : Int) (hn : (l.length + (l.map n69).sum) ≤ 1048576) (h0 : 0 ≤ a) (h1 : a ≤ 1000000000) : ∃ r : Int, laws_markProgram.f a0 a1 a2 l a = some r ∧ a ≤ r ∧ r ≤ a + 2097152 := by
  have h := sumP_le l
  refine ⟨_, rfl, ?_, ?_⟩ <;> rw [Mk.bump_num h0 (by omega)] <;> omega
end Go.Proofs.Ytadpbpocbfjboaa.fnExactMixOf
namespace Go.Proofs.Ytadpbpocbfjboaa.fnExactMixOf
open Go.RowKit Go.Proofs.YtadpbpocbfjboaaW.PrintWords Go.Proofs.YtadpbpocbfjboaaW.PrintMore Go.Proofs.Ytadpbpocbfjboaa.QFnExactMixOf Go.Proofs.Ytadpbpocbfjboaa.Open Go.Proofs.Ytadpbpocbfjboaa.Kit
/-- The element of a node in the table of a piece, and whether there is one. -/
def nx (p : List S69) (k d node : Int) : Int × Bool := if okT p k d ∧ 0 ≤ node ∧ node < ((tab p k d).f2.length : Int) then (rd (tab p k d).f2 node, true) else (-1, false)
theorem next2 (p : List S69) (hp : nPgI p ≤ 1048576) (n a s k d node : Int) : impl_nextIn.f n a s p k d node = some (nx p k d node) := by
  unfold impl_nextIn.f
  rw [table2 p hp n a s k d, Option.bind_some]
  unfold nx
  by_cases hok : okT p k d
  · have e : tableIn p k d = ((tab p k d).f0, (tab p k d).f1, (tab p k d).f2, true) := if_pos hok
    rw [e]
    show (if true = true then (impl_isIndex.f node ((tab p k d).f2.length : Int)).bind (fun t => if t = true then (if 0 ≤ node then (if node < ((tab p k d).f2.length : Int) then some (rd (tab p k d).f2 node, true) else none) else none) else some (-1, false)) else some (-1, false)) = _
    rw [if_pos rfl, isIx, Option.bind_some]
    by_cases h : 0 ≤ node ∧ node < ((tab p k d).f2.length : Int)
    · rw [if_pos (decide_eq_true h), if_pos h.1, if_pos h.2, if_pos ⟨hok, h⟩]
    · rw [if_neg (by rw [decide_eq_false h]; decide), if_neg (fun h2 => h h2.2)]
  · have e : tableIn p k d = (0, [], [], false) := if_neg hok
    rw [e]
    show (if false = true then _ else some (-1, false)) = _
    rw [if_neg (by decide), if_neg (fun h2 => hok h2.1)]
/-- m and the elements of c nodes from i on, each in the table of its own piece. -/
def mixL (p : List S69) (d : Int) (l : List Int) : Nat → Nat → List Int → List Int
  | 0, _, m => m
  | c + 1, i, m => mixL p d l c (i + 1) (m ++ [(nx p (l.getD i 0) d (i : Int)).1])
theorem mixL_len (p : List S69) (d : Int) (l : List Int) : ∀ (c i : Nat) (m : List Int), (mixL p d l c i m).length = m.length + c
  | 0, _, _ => rfl
  | c + 1, i, m => by rw [mixL, mixL_len p d l c (i + 1), List.length_append, List.length_singleton]; omega
theorem mixS (p : List S69) (hp : nPgI p ≤ 1048576) (n a s d : Int) (l : List Int) (hl : l.length ≤ 1048576) : ∀ (c i : Nat) (m : List Int), i + c = l.length → m.length = i → Ev (fun k => spec_MixOf.l0 k d l m (i : Int) n a s p) (mixL p d l c i m) := by
  intro c
  induction c with
  | zero =>
    intro i m hi hm
    refine Ev.step (fun k => by rw [spec_MixOf.l0]) ?_
    repeat (first | (with_reducible refine Ev.ite_pos (by omega) ?_) | (with_reducible refine Ev.ite_neg (by omega) ?_))
    exact Ev.now _
  | succ c ih =>
    intro i m hi hm
    rw [mixL]
    have h1 := ih (i + 1) (m ++ [(nx p (l.getD i 0) d (i : Int)).1]) (by omega) (by rw [List.length_append, List.length_singleton, hm])
    refine Ev.step (fun k => by rw [spec_MixOf.l0]) ?_
    refine Ev.ite_pos (by omega) (Ev.ite_pos (by omega) ?_)
    rw [rd_nat, w64n (by omega)]
    refine Ev.bind0 (table1 p hp n a s (l.getD i 0) d) ?_
    unfold tableIn
    by_cases hok : okT p (l.getD i 0) d
    · rw [if_pos hok]
      refine Ev.ite_pos rfl ?_
      by_cases h2 : (i : Int) < ((tab p (l.getD i 0) d).f2.length : Int)
      · have e : nx p (l.getD i 0) d (i : Int) = (rd (tab p (l.getD i 0) d).f2 (i : Int), true) := if_pos ⟨hok, by omega, h2⟩
        rw [e] at h1 ⊢
        exact Ev.ite_pos h2 (Ev.ite_pos (by omega) h1)
      · have e : nx p (l.getD i 0) d (i : Int) = (-1, false) := if_neg (fun h3 => h2 h3.2.2)
        rw [e] at h1 ⊢
        exact Ev.ite_neg h2 (Ev.ite_pos (by omega) h1)
    · have e : nx p (l.getD i 0) d (i : Int) = (-1, false) := if_neg (fun h3 => hok h3.1)
      rw [if_neg hok]
      rw [e] at h1 ⊢
      exact Ev.ite_neg (by simp) (Ev.ite_pos (by omega) h1)
theorem mixI (p : List S69) (hp : nPgI p ≤ 1048576) (n a s d : Int) (l : List Int) (hl : l.length ≤ 1048576) : ∀ (c i : Nat) (m : List Int), i + c = l.length → m.length = i → Ev (fun k => impl_MixOf.l0 k d m l (l.length : Int) (i : Int) n a s p) (mixL p d l c i m) := by
  intro c
  induction c with
  | zero =>
    intro i m hi hm
    refine Ev.step (fun k => by rw [impl_MixOf.l0]) ?_
    repeat (first | (with_reducible refine Ev.ite_pos (by omega) ?_) | (with_reducible refine Ev.ite_neg (by omega) ?_))
    exact Ev.now _
  | succ c ih =>
    intro i m hi hm
    rw [mixL]
    refine Ev.step (fun k => by rw [impl_MixOf.l0]) ?_
    refine Ev.ite_pos (by omega) (Ev.ite_pos (by omega) (Ev.ite_pos (by omega) ?_))
    rw [rd_nat, w64n (by omega)]
    refine Ev.bind0 (next2 p hp n a s _ d (i : Int)) ?_
    exact Ev.ite_pos (by omega) (ih (i + 1) _ (by omega) (by rw [List.length_append, List.length_singleton, hm]))
theorem mix1 (p : List S69) (hp : nPgI p ≤ 1048576) (n a s d : Int) (l : List Int) (hl : l.length ≤ 1048576) : Ev (fun k => spec_MixOf.f k n a s p d l) (mixL p d l l.length 0 []) := by
  unfold spec_MixOf.f
  exact mixS p hp n a s d l hl l.length 0 [] (by omega) rfl
theorem mix2 (p : List S69) (hp : nPgI p ≤ 1048576) (n a s d : Int) (l : List Int) (hl : l.length ≤ 1048576) : Ev (fun k => impl_MixOf.f k n a s p d l) (mixL p d l l.length 0 []) := by
  unfold impl_MixOf.f
  exact mixI p hp n a s d l hl l.length 0 [] (by omega) rfl
theorem pure : PureFnExactMixOf := by
  intro n f s p d l _ _ _ hp _ hl
  have hb : p.length ≤ 140737488351232 ∧ (∀ y ∈ p, b97 y) := ⟨Len.le hp.1 (by omega), fun y hy => bPiece (hp.2 y hy)⟩
  refine Ev.rounds (r := true) ?_
  unfold laws_FnExactMixOf.f
  by_cases hc : (l.length : Int) > 1048576
  · exact Ev.ite_pos hc (Ev.now _)
  refine Ev.ite_neg hc ?_
  have hll : l.length ≤ 1048576 := by omega
  refine Ev.bind (sz_Program n f s p 1048576 hb (by omega) (by omega)) ?_
  by_cases hn : ((nPg p : Nat) : Int) ≤ 1048576
  · have hs : szOf 1048576 (p.length + (p.map n97).sum) = 1048576 - ((nPg p : Nat) : Int) := by unfold szOf nPg; rw [if_pos (by exact hn)]
    rw [hs]
    have hq : nPg p ≤ 1048576 := by omega
    have hqi : nPgI (p.map cPiece) ≤ 1048576 := by rw [nPgI_c]; exact hq
    have hqj := hqi
    unfold nPg at hq
    unfold nPgI at hqj
    have hpl : (p.map cPiece).length ≤ 1048576 := by omega
    refine Ev.ite_neg (by omega) ?_
    refine Ev.bind (to_Program n f s p hq) ?_
    refine Ev.bind (to_IntS l hll) ?_
    have hlen := mixL_len (p.map cPiece) d l l.length 0 []
    rw [List.length_nil] at hlen
    refine Ev.bind (mix1 _ hqi n f s d l hll) ?_
    refine Ev.bind (to_Program n f s p hq) ?_
    refine Ev.bind (to_IntS l hll) ?_
    refine Ev.bind (mix2 _ hqi n f s d l hll) ?_
    refine Ev.bind (eq_IntS _ (by omega)) ?_
    refine Ev.ite_pos rfl ?_
    refine Ev.bind (to_Program n f s p hq) ?_
    refine Ev.bind (eq_Program n f s _ hqj) ?_
    refine Ev.ite_pos rfl ?_
    refine Ev.bind (to_IntS l hll) ?_
    refine Ev.bind (eq_IntS _ (by omega)) ?_
    refine Ev.ite_pos rfl ?_
    obtain ⟨r, hr, hr0, hr1⟩ := mark_Program n f s (p.map cPiece) 1 hqj (by omega) (by omega)
    refine Ev.bind0 hr ?_
    refine Ev.bind (mark_IntS l r (by omega) (by omega) (by omega)) ?_
    refine Ev.ite_neg (by simp only []; omega) ?_
    refine Ev.bind (eq_IntS _ (by omega)) ?_
    refine Ev.step (fun k => by rw [laws_FnExactMixOf.j0]) ?_
    refine Ev.ite_neg (by simp) ?_
    have hh := held_IntS (mixL (p.map cPiece) d l l.length 0 []).length 1 (by omega) (by omega) (by omega)
    refine Ev.bind (mark_IntS _ 1 (by omega) (by omega) (by omega)) ?_
    refine Ev.bind hh ?_
    refine Ev.ite_neg (by omega) ?_
    refine Ev.ite_pos rfl ?_
    refine Ev.bind (to_Program n f s p hq) ?_
    refine Ev.bind (to_IntS l hll) ?_
    refine Ev.bind (mix2 _ hqi n f s d l hll) ?_
    refine Ev.bind (eq_IntS _ (by omega)) ?_
    refine Ev.ite_pos rfl ?_
    refine Ev.bind hh ?_
    refine Ev.ite_neg (by omega) ?_
    exact Ev.ite_pos rfl (Ev.now _)
  · have hs : szOf 1048576 (p.length + (p.map n97).sum) = -1 := by unfold szOf; rw [if_neg (by exact hn)]
    rw [hs]
    exact Ev.ite_pos (by omega) (Ev.now _)
end Go.Proofs.Ytadpbpocbfjboaa.fnExactMixOf
namespace Go.Proofs.Ytadpbpocbfjboaa
theorem fnExactMixOf_holds : Rows.FnExactMixOfSaid := fnExactMixOf.row fnExactMixOf.pure
end Go.Proofs.Ytadpbpocbfjboaa
