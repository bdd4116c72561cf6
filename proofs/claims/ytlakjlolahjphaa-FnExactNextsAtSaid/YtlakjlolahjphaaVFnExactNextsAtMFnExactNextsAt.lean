/- FnExactNextsAt: the program and the reference agree on all next nodes at a tick. Conditions: none. -/
import Derived.Test.YtlakjlolahjphaaVFnExactNextsAtWMore
import Derived.Test.YtlakjlolahjphaaVFnExactNextsAtOpen
import Derived.Test.YtlakjlolahjphaaVFnExactNextsAtQFnExactNextsAtx
import Derived.Test.YtlakjlolahjphaaVFnExactNextsAtRowFnExactNextsAt
import Derived.Test.YtlakjlolahjphaaVFnExactNextsAtMk
/- Small words on answers that come with enough rounds. Conditions: none. -/
namespace Go.Proofs.Ytlakjlolahjphaa.Kit
open Go.RowKit Go.Proofs.YtlakjlolahjphaaW.PrintWords Go.Proofs.YtlakjlolahjphaaW.PrintLast Go.Proofs.YtlakjlolahjphaaW.PrintMore Go.Proofs.Ytlakjlolahjphaa.Open

theorem Ev.ite_pos {α : Type} {c : Prop} [Decidable c] {f g : Nat → Option α} {r : α} (h : c) (k : Ev f r) : Ev (fun n => if c then f n else g n) r := by simpa only [if_pos h] using k
theorem Ev.ite_neg {α : Type} {c : Prop} [Decidable c] {f g : Nat → Option α} {r : α} (h : ¬ c) (k : Ev g r) : Ev (fun n => if c then f n else g n) r := by simpa only [if_neg h] using k
theorem Ev.bind0 {α β : Type} {o : Option α} {f : Nat → α → Option β} {a : α} {r : β} (h : o = some a) (k : Ev (fun n => f n a) r) : Ev (fun n => o.bind (f n)) r := by subst h; exact k
theorem Ev.some {α : Type} {r r' : α} (h : r' = r) : Ev (fun _ => some r') r := by subst h; exact Ev.now _
theorem Ev.eq {α : Type} {o : Option α} {r : α} (h : o = Option.some r) : Ev (fun _ => o) r := ⟨0, fun _ _ => h⟩
theorem Ev.uniq {α : Type} {g : Nat → Option α} {r r' : α} (h : Ev g r) (h' : Ev g r') : r = r' := by
  obtain ⟨K, h⟩ := h
  obtain ⟨K', h'⟩ := h'
  exact Option.some.inj ((h (max K K') (Nat.le_max_left _ _)).symm.trans (h' (max K K') (Nat.le_max_right _ _)))
theorem w64 {x : Int} (h0 : -9223372036854775808 ≤ x) (h1 : x ≤ 9223372036854775807) : wrap64 x = x := by
  unfold wrap64
  omega
theorem w64s {i : Int} {n : Nat} (h0 : 0 ≤ i) (h1 : i < (n : Int)) (hn : n ≤ 140737488351232) : wrap64 (i + 1) = i + 1 := w64 (by omega) (by omega)
theorem mx_def (a b : Int) : mx a b = max a b := by unfold mx; omega
theorem mn_def (a b : Int) : mn a b = min a b := by unfold mn; omega
theorem Len.le {B : Nat} {α : Type} {l : List α} (h : Len B l) (hB : 0 < B) : l.length ≤ 140737488351232 := by
  unfold Len at h
  exact Nat.le_trans (Nat.le_mul_of_pos_right _ hB) h
/-! ### loops that count up -/
/-- A loop from 0 to n with one answer: at each i the answer behind one round is the answer, and at n it is there. p: what holds at i. -/
theorem Ev.upIf {ρ : Type} {n : Nat} (p : Nat → Prop) {g : Nat → Nat → Option ρ} {r : ρ} (hs : ∀ i, i < n → p i → (p (i + 1) → Ev (g (i + 1)) r) → Ev (g i) r) (he : p n → Ev (g n) r) (h0 : p 0) : Ev (g 0) r := by
  have key : ∀ d i, i + d = n → p i → Ev (g i) r := by
    intro d
    induction d with
    | zero => intro i hi hp; obtain rfl : i = n := by omega
              exact he hp
    | succ d ih => intro i hi hp; exact hs i (by omega) hp (fun hp' => ih (i + 1) (by omega) hp')
  exact key n 0 (by omega) h0
theorem Ev.up {ρ : Type} {n : Nat} {g : Nat → Nat → Option ρ} {r : ρ} (hs : ∀ i, i < n → Ev (g (i + 1)) r → Ev (g i) r) (he : Ev (g n) r) : Ev (g 0) r :=
  Ev.upIf (fun _ => True) (fun i hi _ h => hs i hi (h trivial)) (fun _ => he) trivial
theorem w64n {i : Nat} (h : i ≤ 140737488351232) : wrap64 ((i : Int) + 1) = ((i + 1 : Nat) : Int) := by
  rw [w64 (by omega) (by omega)]
  omega
theorem rd_nat (xs : List Int) (i : Nat) : rd xs (i : Int) = xs.getD i 0 := rfl
theorem getD_at {α : Type} {xs : List α} {i : Nat} (h : i < xs.length) (z : α) : xs.getD i z = xs[i] := by simp [List.getD, h]
theorem getD_mem {α : Type} {xs : List α} {i : Nat} (h : i < xs.length) (z : α) : xs.getD i z ∈ xs := by rw [getD_at h]; exact List.getElem_mem h
theorem take_succ_getD {α : Type} {xs : List α} {i : Nat} (h : i < xs.length) (z : α) : xs.take (i + 1) = xs.take i ++ [xs.getD i z] := by
  rw [List.take_succ_eq_append_getElem h, getD_at h]
theorem drop_getD {α : Type} {xs : List α} {i : Nat} (h : i < xs.length) (z : α) : xs.drop i = xs.getD i z :: xs.drop (i + 1) := by
  rw [List.drop_eq_getElem_cons h, getD_at h]
/-- A row of zeros that is filled from the left. -/
def fillTo {α β : Type} (c : α → β) (z : β) (xs : List α) (i : Nat) : List β := (xs.take i).map c ++ List.replicate (xs.length - i) z
theorem fillTo_zero {α β : Type} (c : α → β) (z : β) (xs : List α) : fillTo c z xs 0 = List.replicate xs.length z := by simp [fillTo]
theorem fillTo_all {α β : Type} (c : α → β) (z : β) (xs : List α) : fillTo c z xs xs.length = xs.map c := by simp [fillTo]
theorem fillTo_length {α β : Type} (c : α → β) (z : β) (xs : List α) {i : Nat} (h : i ≤ xs.length) : (fillTo c z xs i).length = xs.length := by
  simp [fillTo]
  omega
theorem fillTo_set {α β : Type} (c : α → β) (z : β) (xs : List α) {i : Nat} (h : i < xs.length) (a : α) : (fillTo c z xs i).set i (c (xs.getD i a)) = fillTo c z xs (i + 1) := by
  have hl : ((xs.take i).map c).length = i := by simp; omega
  unfold fillTo
  rw [List.set_append_right _ _ (by omega), hl, Nat.sub_self, take_succ_getD h a, List.map_append, show xs.length - i = (xs.length - (i + 1)) + 1 by omega, List.replicate_succ]
  simp
/-- What the elements from the first up to i weigh. -/
def sumTo {α : Type} (f : α → Nat) (xs : List α) (i : Nat) : Nat := ((xs.take i).map f).sum
theorem sumTo_succ {α : Type} (f : α → Nat) {xs : List α} {i : Nat} (h : i < xs.length) (z : α) : sumTo f xs (i + 1) = sumTo f xs i + f (xs.getD i z) := by
  unfold sumTo
  rw [take_succ_getD h z]
  simp
theorem sumTo_all {α : Type} (f : α → Nat) (xs : List α) : sumTo f xs xs.length = (xs.map f).sum := by simp [sumTo]
theorem sumTo_le {α : Type} (f : α → Nat) (xs : List α) (i : Nat) : sumTo f xs i ≤ (xs.map f).sum := by
  unfold sumTo
  have h := congrArg List.sum (List.take_append_drop i (xs.map f))
  rw [List.sum_append, ← List.map_take] at h
  omega
theorem le_sum {α : Type} (f : α → Nat) {xs : List α} {x : α} (h : x ∈ xs) : f x ≤ (xs.map f).sum := by
  induction xs with
  | nil => cases h
  | cons y ys ih =>
    simp only [List.map_cons, List.sum_cons]
    rcases List.mem_cons.1 h with rfl | h
    · omega
    · have := ih h
      omega
/-- 'left' behind a value of the size n: -1 where it doesn't suffice. -/
def szOf (left : Int) (n : Nat) : Int := if (n : Int) ≤ left then left - n else -1
/-- A fold over the first i elements. -/
def foldTo {α σ : Type} (f : σ → α → σ) (s : σ) (xs : List α) (i : Nat) : σ := (xs.take i).foldl f s
theorem foldTo_zero {α σ : Type} (f : σ → α → σ) (s : σ) (xs : List α) : foldTo f s xs 0 = s := by simp [foldTo]
theorem foldTo_succ {α σ : Type} (f : σ → α → σ) (s : σ) {xs : List α} {i : Nat} (h : i < xs.length) (z : α) : foldTo f s xs (i + 1) = f (foldTo f s xs i) (xs.getD i z) := by
  unfold foldTo
  rw [take_succ_getD h z, List.foldl_append]
  rfl
theorem foldTo_all {α σ : Type} (f : σ → α → σ) (s : σ) (xs : List α) : foldTo f s xs xs.length = xs.foldl f s := by simp [foldTo]
/-! ### lists told by their index -/
theorem map_range_set {β : Type} (n : Nat) (f : Nat → β) (u : Nat) (v : β) : ((List.range n).map f).set u v = (List.range n).map (fun j => if j = u then v else f j) := by
  apply List.ext_getElem
  · simp
  · intro i h1 h2
    rw [List.getElem_set]
    by_cases h : u = i
    · rw [if_pos h]
      simp [h]
    · rw [if_neg h]
      simp [Ne.symm h]
theorem map_range_getD {β : Type} {n : Nat} (f : Nat → β) {u : Nat} (h : u < n) (z : β) : ((List.range n).map f).getD u z = f u := by
  rw [getD_at (by simpa using h)]
  simp
theorem map_range_congr {β : Type} {n : Nat} {f g : Nat → β} (h : ∀ i, i < n → f i = g i) : (List.range n).map f = (List.range n).map g :=
  List.map_congr_left fun i hi => h i (List.mem_range.1 hi)
/-- A loop that counts down from t + n - 1 to t. -/
theorem Ev.down {ρ : Type} {n : Nat} {g : Nat → Nat → Option ρ} {r : ρ} (hs : ∀ m, m < n → Ev (g m) r → Ev (g (m + 1)) r) (he : Ev (g 0) r) : Ev (g n) r := by
  have key : ∀ m, m ≤ n → Ev (g m) r := by
    intro m
    induction m with
    | zero => intro _; exact he
    | succ m ih => intro hm; exact hs m (by omega) (ih (by omega))
  exact key n (Nat.le_refl _)
theorem set_mid {α : Type} (pre suf : List α) (x y : α) {i : Nat} (h : pre.length = i) : (pre ++ x :: suf).set i y = pre ++ y :: suf := by
  rw [List.set_append_right _ _ (by omega), h, Nat.sub_self]
  rfl
theorem getD_mid {α : Type} (pre suf : List α) (x z : α) {i : Nat} (h : pre.length = i) : (pre ++ x :: suf).getD i z = x := by
  subst h
  simp [List.getD]
end Go.Proofs.Ytlakjlolahjphaa.Kit
/- The helpers of the law FnExactNextsAt: sizes, conversions, equality with itself. Conditions: none. -/
namespace Go.Proofs.Ytlakjlolahjphaa.fnExactNextsAt
open Go.RowKit Go.Proofs.YtlakjlolahjphaaW.PrintWords Go.Proofs.YtlakjlolahjphaaW.PrintLast Go.Proofs.YtlakjlolahjphaaW.PrintMore Go.Proofs.Ytlakjlolahjphaa.QFnExactNextsAt Go.Proofs.Ytlakjlolahjphaa.Open Go.Proofs.Ytlakjlolahjphaa.Kit
def cSpan (x : S135) : S91 := ⟨x.f0, x.f1⟩
def cLink (x : S180) : S128 := ⟨x.f0, x.f1⟩
def n178 (x : S178) : Nat := x.f1.length + x.f2.length
def b178 (x : S178) : Prop := x.f1.length ≤ 140737488351232 ∧ x.f2.length ≤ 140737488351232
def cTable (x : S178) : S65 := ⟨x.f0, x.f1, x.f2⟩
def n139 (x : S139) : Nat := x.f1.length + (x.f2.length + (x.f2.map n178).sum)
def b139 (x : S139) : Prop := x.f1.length ≤ 140737488351232 ∧ x.f2.length ≤ 140737488351232 ∧ (∀ y ∈ x.f2, b178 y)
def cPiece (x : S139) : S106 := ⟨(cSpan x.f0), (x.f1.map cLink), (x.f2.map cTable)⟩
def n65 (x : S65) : Nat := x.f1.length + x.f2.length
def n106 (x : S106) : Nat := x.f1.length + (x.f2.length + (x.f2.map n65).sum)
theorem n_cTable (x : S178) : n65 (cTable x) = n178 x := by
  simp [cTable, n178, n65]
theorem n_cPiece (x : S139) : n106 (cPiece x) = n139 x := by
  simp [cPiece, n106, n139, Function.comp_def, n_cTable]
theorem sz_LinkS (l : List S180) (left : Int) (hb : l.length ≤ 140737488351232) (h0 : 0 ≤ left) (h1 : left ≤ 1048576) : laws_szLinkS.f l left = some (szOf left l.length) := by
  unfold laws_szLinkS.f szOf
  rw [w64 (by omega) (by omega)]
  by_cases h : (l.length : Int) ≤ left
  · rw [if_neg (by omega), if_pos h]
  · rw [if_pos (by omega), if_neg h]
theorem sz_IntS (l : List Int) (left : Int) (hb : l.length ≤ 140737488351232) (h0 : 0 ≤ left) (h1 : left ≤ 1048576) : laws_szIntS.f l left = some (szOf left l.length) := by
  unfold laws_szIntS.f szOf
  rw [w64 (by omega) (by omega)]
  by_cases h : (l.length : Int) ≤ left
  · rw [if_neg (by omega), if_pos h]
  · rw [if_pos (by omega), if_neg h]
theorem sz_Table (x : S178) (left : Int) (hb : b178 x) (h0 : 0 ≤ left) (h1 : left ≤ 1048576) : laws_szTable.f (x.f0) (x.f1) (x.f2) left = some (szOf left (n178 x)) := by
  obtain ⟨hba1, hba2⟩ := hb
  unfold laws_szTable.f n178
  rw [(sz_IntS x.f1 left hba1 (by omega) (by omega)), Option.bind_some]
  by_cases hc0 : ((x.f1.length : Nat) : Int) ≤ left
  · have e0 : szOf left (x.f1.length) = left - ((x.f1.length : Nat) : Int) := by
      unfold szOf
      rw [if_pos (by omega)]
    rw [e0]
    rw [if_neg (by omega)]
    rw [(sz_IntS x.f2 _ hba2 (by omega) (by omega)), Option.bind_some]
    by_cases hc1 : ((x.f1.length + x.f2.length : Nat) : Int) ≤ left
    · have e1 : szOf (left - ((x.f1.length : Nat) : Int)) (x.f2.length) = left - ((x.f1.length + x.f2.length : Nat) : Int) := by
        unfold szOf
        rw [if_pos (by omega)]
        omega
      rw [e1]
      rw [if_neg (by omega)]
      unfold szOf
      rw [if_pos (by omega)]
    · have e1 : szOf (left - ((x.f1.length : Nat) : Int)) (x.f2.length) = -1 := by
        unfold szOf
        rw [if_neg (by omega)]
      rw [e1]
      rw [if_pos (by omega)]
      unfold szOf
      rw [if_neg (by omega)]
  · have e0 : szOf left (x.f1.length) = -1 := by
      unfold szOf
      rw [if_neg (by omega)]
    rw [e0]
    rw [if_pos (by omega)]
    unfold szOf
    rw [if_neg (by omega)]
theorem sz_TableS (l : List S178) (left : Int) (hb : l.length ≤ 140737488351232 ∧ (∀ y ∈ l, b178 y)) (h0 : 0 ≤ left) (h1 : left ≤ 1048576) : Ev (fun k => laws_szTableS.f k l left) (szOf left (l.length + (l.map n178).sum)) := by
  obtain ⟨hl, hb⟩ := hb
  unfold laws_szTableS.f
  rw [w64 (by omega) (by omega)]
  by_cases hn : left - (l.length : Int) < 0
  · refine Ev.ite_pos hn (Ev.some ?_)
    unfold szOf
    rw [if_neg (by omega)]
  · refine Ev.ite_neg hn ?_
    have hs0 : sumTo n178 l 0 = 0 := by simp [sumTo]
    have e0 : left - (l.length : Int) = left - (l.length : Int) - (sumTo n178 l 0 : Nat) := by rw [hs0]; omega
    rw [e0]
    refine Ev.upIf (n := l.length) (fun i => (l.length : Int) + (sumTo n178 l i : Nat) ≤ left) (g := fun i k => laws_szTableS.l0 k l (left - (l.length : Int) - (sumTo n178 l i : Nat)) (i : Int)) ?_ ?_ (by rw [hs0]; omega)
    · intro i hi hp ih
      have hm := hb _ (getD_mem hi z178)
      have hS := sumTo_succ n178 hi z178
      have hA := sumTo_le n178 l (i + 1)
      refine Ev.step (fun k => by rw [laws_szTableS.l0]) ?_
      repeat (first | (with_reducible refine Ev.ite_pos (by omega) ?_) | (with_reducible refine Ev.ite_neg (by omega) ?_))
      refine Ev.bind0 (sz_Table (l.getD i z178) _ hm (by omega) (by omega)) ?_
      by_cases hc : (l.length : Int) + (sumTo n178 l (i + 1) : Nat) ≤ left
      · have e1 : szOf (left - (l.length : Int) - (sumTo n178 l i : Nat)) (n178 (l.getD i z178)) = left - (l.length : Int) - (sumTo n178 l (i + 1) : Nat) := by
          unfold szOf
          rw [if_pos (by omega)]
          omega
        rw [e1, w64n (by omega)]
        exact Ev.ite_neg (by omega) (ih hc)
      · have e1 : szOf (left - (l.length : Int) - (sumTo n178 l i : Nat)) (n178 (l.getD i z178)) = -1 := by
          unfold szOf
          rw [if_neg (by omega)]
        rw [e1]
        refine Ev.ite_pos (by omega) (Ev.some ?_)
        unfold szOf
        rw [if_neg]
        have : sumTo n178 l l.length = (l.map n178).sum := sumTo_all _ _
        have hA2 := sumTo_le n178 l (i + 1)
        omega
    · intro hp
      refine Ev.step (fun k => by rw [laws_szTableS.l0]) ?_
      repeat (first | (with_reducible refine Ev.ite_pos (by omega) ?_) | (with_reducible refine Ev.ite_neg (by omega) ?_))
      refine Ev.some ?_
      rw [sumTo_all] at hp ⊢
      unfold szOf
      rw [if_pos (by omega)]
      omega
theorem sz_Piece (x : S139) (left : Int) (hb : b139 x) (h0 : 0 ≤ left) (h1 : left ≤ 1048576) : Ev (fun k => laws_szPiece.f k (x.f0.f0) (x.f0.f1) (x.f1) (x.f2) left) (szOf left (n139 x)) := by
  unfold b139 at hb
  unfold laws_szPiece.f n139
  refine Ev.bind0 (sz_LinkS x.f1 left (by first | exact hb.1 | exact hb.2 | exact ⟨hb.1, hb.2.1⟩ | exact ⟨hb.2.2.1, hb.2.2.2⟩ | exact hb.2.2 | exact ⟨hb.2.1, hb.2.2⟩) (by omega) (by omega)) ?_
  by_cases hc0 : ((x.f1.length : Nat) : Int) ≤ left
  · have e0 : szOf left (x.f1.length) = left - ((x.f1.length : Nat) : Int) := by
      unfold szOf
      rw [if_pos (by omega)]
    rw [e0]
    refine Ev.ite_neg (by omega) ?_
    refine Ev.bind (sz_TableS x.f2 _ (by first | exact hb.1 | exact hb.2 | exact ⟨hb.1, hb.2.1⟩ | exact ⟨hb.2.2.1, hb.2.2.2⟩ | exact hb.2.2 | exact ⟨hb.2.1, hb.2.2⟩) (by omega) (by omega)) ?_
    by_cases hc1 : ((x.f1.length + (x.f2.length + (x.f2.map n178).sum) : Nat) : Int) ≤ left
    · have e1 : szOf (left - ((x.f1.length : Nat) : Int)) ((x.f2.length + (x.f2.map n178).sum)) = left - ((x.f1.length + (x.f2.length + (x.f2.map n178).sum) : Nat) : Int) := by
        unfold szOf
        rw [if_pos (by omega)]
        omega
      rw [e1]
      refine Ev.ite_neg (by omega) ?_
      refine Ev.some ?_
      unfold szOf
      rw [if_pos (by omega)]
    · have e1 : szOf (left - ((x.f1.length : Nat) : Int)) ((x.f2.length + (x.f2.map n178).sum)) = -1 := by
        unfold szOf
        rw [if_neg (by omega)]
      rw [e1]
      refine Ev.ite_pos (by omega) (Ev.some ?_)
      unfold szOf
      rw [if_neg (by omega)]
  · have e0 : szOf left (x.f1.length) = -1 := by
      unfold szOf
      rw [if_neg (by omega)]
    rw [e0]
    refine Ev.ite_pos (by omega) (Ev.some ?_)
    unfold szOf
    rw [if_neg (by omega)]
theorem sz_PieceS (l : List S139) (left : Int) (hb : l.length ≤ 140737488351232 ∧ (∀ y ∈ l, b139 y)) (h0 : 0 ≤ left) (h1 : left ≤ 1048576) : Ev (fun k => laws_szPieceS.f k l left) (szOf left (l.length + (l.map n139).sum)) := by
  obtain ⟨hl, hb⟩ := hb
  unfold laws_szPieceS.f
  rw [w64 (by omega) (by omega)]
  by_cases hn : left - (l.length : Int) < 0
  · refine Ev.ite_pos hn (Ev.some ?_)
    unfold szOf
    rw [if_neg (by omega)]
  · refine Ev.ite_neg hn ?_
    have hs0 : sumTo n139 l 0 = 0 := by simp [sumTo]
    have e0 : left - (l.length : Int) = left - (l.length : Int) - (sumTo n139 l 0 : Nat) := by rw [hs0]; omega
    rw [e0]
    refine Ev.upIf (n := l.length) (fun i => (l.length : Int) + (sumTo n139 l i : Nat) ≤ left) (g := fun i k => laws_szPieceS.l0 k l (left - (l.length : Int) - (sumTo n139 l i : Nat)) (i : Int)) ?_ ?_ (by rw [hs0]; omega)
    · intro i hi hp ih
      have hm := hb _ (getD_mem hi z139)
      have hS := sumTo_succ n139 hi z139
      have hA := sumTo_le n139 l (i + 1)
      refine Ev.step (fun k => by rw [laws_szPieceS.l0]) ?_
      repeat (first | (with_reducible refine Ev.ite_pos (by omega) ?_) | (with_reducible refine Ev.ite_neg (by omega) ?_))
      refine Ev.bind (sz_Piece (l.getD i z139) _ hm (by omega) (by omega)) ?_
      by_cases hc : (l.length : Int) + (sumTo n139 l (i + 1) : Nat) ≤ left
      · have e1 : szOf (left - (l.length : Int) - (sumTo n139 l i : Nat)) (n139 (l.getD i z139)) = left - (l.length : Int) - (sumTo n139 l (i + 1) : Nat) := by
          unfold szOf
          rw [if_pos (by omega)]
          omega
        rw [e1, w64n (by omega)]
        exact Ev.ite_neg (by omega) (ih hc)
      · have e1 : szOf (left - (l.length : Int) - (sumTo n139 l i : Nat)) (n139 (l.getD i z139)) = -1 := by
          unfold szOf
          rw [if_neg (by omega)]
        rw [e1]
        refine Ev.ite_pos (by omega) (Ev.some ?_)
        unfold szOf
        rw [if_neg]
        have : sumTo n139 l l.length = (l.map n139).sum := sumTo_all _ _
        have hA2 := sumTo_le n139 l (i + 1)
        omega
    · intro hp
      refine Ev.step (fun k => by rw [laws_szPieceS.l0]) ?_
      repeat (first | (with_reducible refine Ev.ite_pos (by omega) ?_) | (with_reducible refine Ev.ite_neg (by omega) ?_))
      refine Ev.some ?_
      rw [sumTo_all] at hp ⊢
      unfold szOf
      rw [if_pos (by omega)]
      omega
theorem sz_Program (a0 : Int) (a1 : Int) (a2 : Int) (a3 : (List S139)) (left : Int) (hba3 : a3.length ≤ 140737488351232 ∧ (∀ y ∈ a3, b139 y)) (h0 : 0 ≤ left) (h1 : left ≤ 1048576) : Ev (fun k => laws_szProgram.f k a0 a1 a2 a3 left) (szOf left ((a3.length + (a3.map n139).sum))) := by
  unfold laws_szProgram.f
  refine Ev.bind (sz_PieceS a3 left hba3 (by omega) (by omega)) ?_
  by_cases hc0 : (((a3.length + (a3.map n139).sum) : Nat) : Int) ≤ left
  · have e0 : szOf left ((a3.length + (a3.map n139).sum)) = left - (((a3.length + (a3.map n139).sum) : Nat) : Int) := by
      unfold szOf
      rw [if_pos (by omega)]
    rw [e0]
    exact Ev.ite_neg (by omega) (Ev.now _)
  · have e0 : szOf left ((a3.length + (a3.map n139).sum)) = -1 := by
      unfold szOf
      rw [if_neg (by omega)]
    rw [e0]
    exact Ev.ite_pos (by omega) (Ev.now _)
theorem to_Link (x : S180) : laws_toLink.f (x.f0) (x.f1) = some (x.f0, x.f1) := by
  unfold laws_toLink.f
  rfl
theorem to_LinkS (l : List S180) (hn : l.length ≤ 1048576) : Ev (fun k => laws_toLinkS.f k l) (l.map cLink) := by
  unfold laws_toLinkS.f
  repeat (first | (with_reducible refine Ev.ite_pos (by omega) ?_) | (with_reducible refine Ev.ite_neg (by omega) ?_))
  rw [Int.toNat_natCast, ← fillTo_zero cLink z128 l]
  refine Ev.up (n := l.length) (g := fun i k => laws_toLinkS.l0 k l (fillTo cLink z128 l i) (i : Int)) ?_ ?_
  · intro i hi ih
    have hlen := fillTo_length cLink z128 l (Nat.le_of_lt hi)
    rw [← fillTo_set cLink z128 l hi z180] at ih
    refine Ev.step (fun k => by rw [laws_toLinkS.l0]) ?_
    repeat (first | (with_reducible refine Ev.ite_pos (by omega) ?_) | (with_reducible refine Ev.ite_neg (by omega) ?_))
    refine Ev.bind0 (to_Link (l.getD i z180)) ?_
    repeat (first | (with_reducible refine Ev.ite_pos (by omega) ?_) | (with_reducible refine Ev.ite_neg (by omega) ?_))
    rw [Int.toNat_natCast, w64n (by omega)]
    exact ih
  · refine Ev.step (fun k => by rw [laws_toLinkS.l0]) ?_
    repeat (first | (with_reducible refine Ev.ite_pos (by omega) ?_) | (with_reducible refine Ev.ite_neg (by omega) ?_))
    refine Ev.some ?_
    rw [fillTo_all]
theorem to_IntS (l : List Int) (hn : l.length ≤ 1048576) : Ev (fun k => laws_toIntS.f k l) l := by
  unfold laws_toIntS.f
  repeat (first | (with_reducible refine Ev.ite_pos (by omega) ?_) | (with_reducible refine Ev.ite_neg (by omega) ?_))
  rw [Int.toNat_natCast, ← fillTo_zero (fun x => x) 0 l]
  refine Ev.up (n := l.length) (g := fun i k => laws_toIntS.l0 k l (fillTo (fun x => x) 0 l i) (i : Int)) ?_ ?_
  · intro i hi ih
    have hlen := fillTo_length (fun x => x) 0 l (Nat.le_of_lt hi)
    rw [← fillTo_set (fun x => x) 0 l hi 0] at ih
    refine Ev.step (fun k => by rw [laws_toIntS.l0]) ?_
    repeat (first | (with_reducible refine Ev.ite_pos (by omega) ?_) | (with_reducible refine Ev.ite_neg (by omega) ?_))
    rw [Int.toNat_natCast, w64n (by omega)]
    exact ih
  · refine Ev.step (fun k => by rw [laws_toIntS.l0]) ?_
    repeat (first | (with_reducible refine Ev.ite_pos (by omega) ?_) | (with_reducible refine Ev.ite_neg (by omega) ?_))
    refine Ev.some ?_
    rw [fillTo_all]
    simp
theorem to_Table (x : S178) (hn : n178 x ≤ 1048576) : Ev (fun k => laws_toTable.f k (x.f0) (x.f1) (x.f2)) (x.f0, x.f1, x.f2) := by
  unfold n178 at hn
  unfold laws_toTable.f
  refine Ev.bind (to_IntS (x.f1) (by omega)) ?_
  refine Ev.bind (to_IntS (x.f2) (by omega)) ?_
  exact Ev.now _
theorem to_TableS (l : List S178) (hn : (l.length + (l.map n178).sum) ≤ 1048576) : Ev (fun k => laws_toTableS.f k l) (l.map cTable) := by
  unfold laws_toTableS.f
  repeat (first | (with_reducible refine Ev.ite_pos (by omega) ?_) | (with_reducible refine Ev.ite_neg (by omega) ?_))
  rw [Int.toNat_natCast, ← fillTo_zero cTable z65 l]
  refine Ev.up (n := l.length) (g := fun i k => laws_toTableS.l0 k l (fillTo cTable z65 l i) (i : Int)) ?_ ?_
  · intro i hi ih
    have hlen := fillTo_length cTable z65 l (Nat.le_of_lt hi)
    rw [← fillTo_set cTable z65 l hi z178] at ih
    refine Ev.step (fun k => by rw [laws_toTableS.l0]) ?_
    repeat (first | (with_reducible refine Ev.ite_pos (by omega) ?_) | (with_reducible refine Ev.ite_neg (by omega) ?_))
    have hm := le_sum n178 (getD_mem hi z178)
    refine Ev.bind (to_Table (l.getD i z178) (by omega)) ?_
    repeat (first | (with_reducible refine Ev.ite_pos (by omega) ?_) | (with_reducible refine Ev.ite_neg (by omega) ?_))
    rw [Int.toNat_natCast, w64n (by omega)]
    exact ih
  · refine Ev.step (fun k => by rw [laws_toTableS.l0]) ?_
    repeat (first | (with_reducible refine Ev.ite_pos (by omega) ?_) | (with_reducible refine Ev.ite_neg (by omega) ?_))
    refine Ev.some ?_
    rw [fillTo_all]
theorem to_Span (x : S135) : laws_toSpan.f (x.f0) (x.f1) = some (x.f0, x.f1) := by
  unfold laws_toSpan.f
  rfl
theorem to_Piece (x : S139) (hn : n139 x ≤ 1048576) : Ev (fun k => laws_toPiece.f k (x.f0.f0) (x.f0.f1) (x.f1) (x.f2)) (x.f0.f0, x.f0.f1, (x.f1.map cLink), (x.f2.map cTable)) := by
  unfold n139 at hn
  unfold laws_toPiece.f
  refine Ev.bind0 (to_Span (x.f0)) ?_
  refine Ev.bind (to_LinkS (x.f1) (by omega)) ?_
  refine Ev.bind (to_TableS (x.f2) (by omega)) ?_
  exact Ev.now _
theorem to_PieceS (l : List S139) (hn : (l.length + (l.map n139).sum) ≤ 1048576) : Ev (fun k => laws_toPieceS.f k l) (l.map cPiece) := by
  unfold laws_toPieceS.f
  repeat (first | (with_reducible refine Ev.ite_pos (by omega) ?_) | (with_reducible refine Ev.ite_neg (by omega) ?_))
  rw [Int.toNat_natCast, ← fillTo_zero cPiece z106 l]
  refine Ev.up (n := l.length) (g := fun i k => laws_toPieceS.l0 k l (fillTo cPiece z106 l i) (i : Int)) ?_ ?_
  · intro i hi ih
    have hlen := fillTo_length cPiece z106 l (Nat.le_of_lt hi)
    rw [← fillTo_set cPiece z106 l hi z139] at ih
    refine Ev.step (fun k => by rw [laws_toPieceS.l0]) ?_
    repeat (first | (with_reducible refine Ev.ite_pos (by omega) ?_) | (with_reducible refine Ev.ite_neg (by omega) ?_))
    have hm := le_sum n139 (getD_mem hi z139)
    refine Ev.bind (to_Piece (l.getD i z139) (by omega)) ?_
    repeat (first | (with_reducible refine Ev.ite_pos (by omega) ?_) | (with_reducible refine Ev.ite_neg (by omega) ?_))
    rw [Int.toNat_natCast, w64n (by omega)]
    exact ih
  · refine Ev.step (fun k => by rw [laws_toPieceS.l0]) ?_
    repeat (first | (with_reducible refine Ev.ite_pos (by omega) ?_) | (with_reducible refine Ev.ite_neg (by omega) ?_))
    refine Ev.some ?_
    rw [fillTo_all]
theorem to_Program (a0 : Int) (a1 : Int) (a2 : Int) (a3 : (List S139)) (hn : (a3.length + (a3.map n139).sum) ≤ 1048576) : Ev (fun k => laws_toProgram.f k a0 a1 a2 a3) (a0, a1, a2, (a3.map cPiece)) := by
  unfold laws_toProgram.f
  refine Ev.bind (to_PieceS (a3) (by omega)) ?_
  exact Ev.now _
theorem eq_Span (x : S91) : laws_eqSpan.f (x.f0) (x.f1) (x.f0) (x.f1) = some true := by
  unfold laws_eqSpan.f
  simp
theorem eq_Link (x : S128) : laws_eqLink.f (x.f0) (x.f1) (x.f0) (x.f1) = some true := by
  unfold laws_eqLink.f
  simp
theorem eq_LinkS (l : List S128) (hn : l.length ≤ 1048576) : Ev (fun k => laws_eqLinkS.f k l l) true := by
  unfold laws_eqLinkS.f
  refine Ev.ite_pos rfl ?_
  refine Ev.up (n := l.length) (g := fun i k => laws_eqLinkS.l0 k l l (i : Int)) ?_ ?_
  · intro i hi ih
    refine Ev.step (fun k => by rw [laws_eqLinkS.l0]) ?_
    repeat (first | (with_reducible refine Ev.ite_pos (by omega) ?_) | (with_reducible refine Ev.ite_neg (by omega) ?_))
    refine Ev.bind0 (eq_Link (l.getD i z128)) ?_
    refine Ev.ite_pos rfl ?_
    rw [w64n (by omega)]
    exact ih
  · refine Ev.step (fun k => by rw [laws_eqLinkS.l0]) ?_
    repeat (first | (with_reducible refine Ev.ite_pos (by omega) ?_) | (with_reducible refine Ev.ite_neg (by omega) ?_))
    exact Ev.now _
theorem eq_IntS (l : List Int) (hn : l.length ≤ 2097152) : Ev (fun k => laws_eqIntS.f k l l) true := by
  unfold laws_eqIntS.f
  refine Ev.ite_pos rfl ?_
  refine Ev.up (n := l.length) (g := fun i k => laws_eqIntS.l0 k l l (i : Int)) ?_ ?_
  · intro i hi ih
    refine Ev.step (fun k => by rw [laws_eqIntS.l0]) ?_
    repeat (first | (with_reducible refine Ev.ite_pos (by omega) ?_) | (with_reducible refine Ev.ite_neg (by omega) ?_))
    rw [w64n (by omega)]
    exact ih
  · refine Ev.step (fun k => by rw [laws_eqIntS.l0]) ?_
    repeat (first | (with_reducible refine Ev.ite_pos (by omega) ?_) | (with_reducible refine Ev.ite_neg (by omega) ?_))
    exact Ev.now _
theorem eq_Table (x : S65) (hn : n65 x ≤ 1048576) : Ev (fun k => laws_eqTable.f k (x.f0) (x.f1) (x.f2) (x.f0) (x.f1) (x.f2)) true := by
  unfold n65 at hn
  unfold laws_eqTable.f
  refine Ev.ite_pos rfl ?_
  refine Ev.bind (eq_IntS (x.f1) (by omega)) ?_
  refine Ev.ite_pos rfl ?_
  refine Ev.bind (eq_IntS (x.f2) (by omega)) ?_
  refine Ev.ite_pos rfl ?_
  exact Ev.now _
theorem eq_TableS (l : List S65) (hn : (l.length + (l.map n65).sum) ≤ 1048576) : Ev (fun k => laws_eqTableS.f k l l) true := by
  unfold laws_eqTableS.f
  refine Ev.ite_pos rfl ?_
  refine Ev.up (n := l.length) (g := fun i k => laws_eqTableS.l0 k l l (i : Int)) ?_ ?_
  · intro i hi ih
    refine Ev.step (fun k => by rw [laws_eqTableS.l0]) ?_
    repeat (first | (with_reducible refine Ev.ite_pos (by omega) ?_) | (with_reducible refine Ev.ite_neg (by omega) ?_))
    have hm := le_sum n65 (getD_mem hi z65)
    refine Ev.bind (eq_Table (l.getD i z65) (by omega)) ?_
    refine Ev.ite_pos rfl ?_
    rw [w64n (by omega)]
    exact ih
  · refine Ev.step (fun k => by rw [laws_eqTableS.l0]) ?_
    repeat (first | (with_reducible refine Ev.ite_pos (by omega) ?_) | (with_reducible refine Ev.ite_neg (by omega) ?_))
    exact Ev.now _
theorem eq_Piece (x : S106) (hn : n106 x ≤ 1048576) : Ev (fun k => laws_eqPiece.f k (x.f0.f0) (x.f0.f1) (x.f1) (x.f2) (x.f0.f0) (x.f0.f1) (x.f1) (x.f2)) true := by
  unfold n106 at hn
  unfold laws_eqPiece.f
  refine Ev.bind0 (eq_Span (x.f0)) ?_
  refine Ev.ite_pos rfl ?_
  refine Ev.bind (eq_LinkS (x.f1) (by omega)) ?_
  refine Ev.ite_pos rfl ?_
  refine Ev.bind (eq_TableS (x.f2) (by omega)) ?_
  refine Ev.ite_pos rfl ?_
  exact Ev.now _
theorem eq_PieceS (l : List S106) (hn : (l.length + (l.map n106).sum) ≤ 1048576) : Ev (fun k => laws_eqPieceS.f k l l) true := by
  unfold laws_eqPieceS.f
  refine Ev.ite_pos rfl ?_
  refine Ev.up (n := l.length) (g := fun i k => laws_eqPieceS.l0 k l l (i : Int)) ?_ ?_
  · intro i hi ih
    refine Ev.step (fun k => by rw [laws_eqPieceS.l0]) ?_
    repeat (first | (with_reducible refine Ev.ite_pos (by omega) ?_) | (with_reducible refine Ev.ite_neg (by omega) ?_))
    have hm := le_sum n106 (getD_mem hi z106)
    refine Ev.bind (eq_Piece (l.getD i z106) (by omega)) ?_
    refine Ev.ite_pos rfl ?_
    rw [w64n (by omega)]
    exact ih
  · refine Ev.step (fun k => by rw [laws_eqPieceS.l0]) ?_
    repeat (first | (with_reducible refine Ev.ite_pos (by omega) ?_) | (with_reducible refine Ev.ite_neg (by omega) ?_))
    exact Ev.now _
theorem eq_Program (a0 : Int) (a1 : Int) (a2 : Int) (a3 : (List S106)) (hn : (a3.length + (a3.map n106).sum) ≤ 1048576) : Ev (fun k => laws_eqProgram.f k a0 a1 a2 a3 a0 a1 a2 a3) true := by
  unfold laws_eqProgram.f
  refine Ev.ite_pos rfl ?_
  refine Ev.ite_pos rfl ?_
  refine Ev.ite_pos rfl ?_
  refine Ev.bind (eq_PieceS a3 (by omega)) ?_
  refine Ev.ite_pos rfl ?_
  exact Ev.now _
def cntInt (a : Int) (n : Nat) : List Int := (List.range n).map fun j : Nat => a + (j : Int)
theorem mark_IntS (l : List Int) (a : Int) (h0 : 0 ≤ a) (h1 : a ≤ 1000000000) (hl : l.length ≤ 2097152) : Ev (fun k => laws_markIntS.f k l a) (a + (l.length : Int), cntInt a l.length) := by
  have e1 : cntInt a 0 ++ l.drop 0 = l := by simp [cntInt]
  have e2 : a + ((0 : Nat) : Int) = a := by omega
  show Ev (fun k => laws_markIntS.l0 k l a 0) _
  rw [show (fun k => laws_markIntS.l0 k l a 0) = (fun k => laws_markIntS.l0 k (cntInt a 0 ++ l.drop 0) (a + ((0 : Nat) : Int)) ((0 : Nat) : Int)) by rw [e1, e2]; rfl]
  refine Ev.up (n := l.length) (g := fun i k => laws_markIntS.l0 k (cntInt a i ++ l.drop i) (a + (i : Int)) (i : Int)) ?_ ?_
  · intro i hi ih
    have hlen : (cntInt a i).length = i := by simp [cntInt]
    have hlen2 : (cntInt a i ++ l.drop i).length = l.length := by rw [List.length_append, hlen, List.length_drop]; omega
    refine Ev.step (fun k => by rw [laws_markIntS.l0]) ?_
    repeat (first | (with_reducible refine Ev.ite_pos (by omega) ?_) | (with_reducible refine Ev.ite_neg (by omega) ?_))
    rw [drop_getD hi 0]
    have w0 : wrap64 (a + (i : Int) + 1) = a + (i : Int) + 1 := w64 (by omega) (by omega)
    simp only [Int.toNat_natCast, set_mid _ _ _ _ hlen, w0, w64n (by omega : i ≤ 140737488351232)]
    have e3 : cntInt a (i + 1) ++ l.drop (i + 1) = cntInt a i ++ (a + (i : Int)) :: l.drop (i + 1) := by
      simp [cntInt, List.range_succ]
    have e4 : a + ((i + 1 : Nat) : Int) = a + (i : Int) + 1 := by omega
    rw [e3, e4] at ih
    exact ih
  · have hlen2 : (cntInt a l.length ++ l.drop l.length).length = l.length := by simp [cntInt]
    refine Ev.step (fun k => by rw [laws_markIntS.l0]) ?_
    repeat (first | (with_reducible refine Ev.ite_pos (by omega) ?_) | (with_reducible refine Ev.ite_neg (by omega) ?_))
    refine Ev.some ?_
    simp
theorem held_IntS (n : Nat) (a : Int) (h0 : 0 ≤ a) (h1 : a ≤ 1000000000) (hl : n ≤ 2097152) : Ev (fun k => laws_heldIntS.f k (cntInt a n) a) (a + (n : Int)) := by
  have hlen : (cntInt a n).length = n := by simp [cntInt]
  have e2 : a + ((0 : Nat) : Int) = a := by omega
  show Ev (fun k => laws_heldIntS.l0 k (cntInt a n) a 0) _
  rw [show (fun k => laws_heldIntS.l0 k (cntInt a n) a 0) = (fun k => laws_heldIntS.l0 k (cntInt a n) (a + ((0 : Nat) : Int)) ((0 : Nat) : Int)) by rw [e2]; rfl]
  refine Ev.up (n := n) (g := fun i k => laws_heldIntS.l0 k (cntInt a n) (a + (i : Int)) (i : Int)) ?_ ?_
  · intro i hi ih
    have hg : rd (cntInt a n) (i : Int) = a + (i : Int) := map_range_getD _ hi _
    refine Ev.step (fun k => by rw [laws_heldIntS.l0]) ?_
    repeat (first | (with_reducible refine Ev.ite_pos (by omega) ?_) | (with_reducible refine Ev.ite_neg (by omega) ?_))
    have w0 : wrap64 (a + (i : Int) + 1) = a + (i : Int) + 1 := w64 (by omega) (by omega)
    simp only [w0, w64n (by omega : i ≤ 140737488351232)]
    have e4 : a + ((i + 1 : Nat) : Int) = a + (i : Int) + 1 := by omega
    rw [e4] at ih
    exact ih
  · refine Ev.step (fun k => by rw [laws_heldIntS.l0]) ?_
    repeat (first | (with_reducible refine Ev.ite_pos (by omega) ?_) | (with_reducible refine Ev.ite_neg (by omega) ?_))
    exact Ev.now _
def mkLink (b : Int) : S128 := ⟨b, b + 1⟩
def cntLink (a : Int) (n : Nat) : List S128 := (List.range n).map fun j : Nat => mkLink (a + 2 * (j : Int))
theorem mark_LinkS (l : List S128) (a : Int) (h0 : 0 ≤ a) (h1 : a ≤ 1000000000) (hl : l.length ≤ 2097152) : Ev (fun k => laws_markLinkS.f k l a) (a + 2 * (l.length : Int), cntLink a l.length) := by
  have e1 : cntLink a 0 ++ l.drop 0 = l := by simp [cntLink]
  have e2 : a + 2 * ((0 : Nat) : Int) = a := by omega
  show Ev (fun k => laws_markLinkS.l0 k l a 0) _
  rw [show (fun k => laws_markLinkS.l0 k l a 0) = (fun k => laws_markLinkS.l0 k (cntLink a 0 ++ l.drop 0) (a + 2 * ((0 : Nat) : Int)) ((0 : Nat) : Int)) by rw [e1, e2]; rfl]
  refine Ev.up (n := l.length) (g := fun i k => laws_markLinkS.l0 k (cntLink a i ++ l.drop i) (a + 2 * (i : Int)) (i : Int)) ?_ ?_
  · intro i hi ih
    have hlen : (cntLink a i).length = i := by simp [cntLink]
    have hlen2 : (cntLink a i ++ l.drop i).length = l.length := by rw [List.length_append, hlen, List.length_drop]; omega
    refine Ev.step (fun k => by rw [laws_markLinkS.l0]) ?_
    repeat (first | (with_reducible refine Ev.ite_pos (by omega) ?_) | (with_reducible refine Ev.ite_neg (by omega) ?_))
    rw [drop_getD hi z128]
    have w0 : wrap64 (a + 2 * (i : Int) + 1) = a + 2 * (i : Int) + 1 := w64 (by omega) (by omega)
    have w1 : wrap64 (a + 2 * (i : Int) + 1 + 1) = a + 2 * (i : Int) + 1 + 1 := w64 (by omega) (by omega)
    simp only [rd_T128, getD_mid _ _ _ _ hlen, Option.bind_some, Int.toNat_natCast, set_mid _ _ _ _ hlen, w0, w1, w64n (by omega : i ≤ 140737488351232)]
    have e3 : cntLink a (i + 1) ++ l.drop (i + 1) = cntLink a i ++ mkLink (a + 2 * (i : Int)) :: l.drop (i + 1) := by
      simp [cntLink, List.range_succ]
    have e4 : a + 2 * ((i + 1 : Nat) : Int) = a + 2 * (i : Int) + 1 + 1 := by omega
    rw [e3, e4] at ih
    exact ih
  · have hlen2 : (cntLink a l.length ++ l.drop l.length).length = l.length := by simp [cntLink]
    refine Ev.step (fun k => by rw [laws_markLinkS.l0]) ?_
    repeat (first | (with_reducible refine Ev.ite_pos (by omega) ?_) | (with_reducible refine Ev.ite_neg (by omega) ?_))
    refine Ev.some ?_
    simp
end Go.Proofs.Ytlakjlolahjphaa.fnExactNextsAt
/- Bounds on programs that a law is handed. Conditions: none. -/
namespace Go.Proofs.Ytlakjlolahjphaa.fnExactNextsAt
open Go.RowKit Go.Proofs.YtlakjlolahjphaaW.PrintWords Go.Proofs.YtlakjlolahjphaaW.PrintMore Go.Proofs.Ytlakjlolahjphaa.QFnExactNextsAt Go.Proofs.Ytlakjlolahjphaa.Open Go.Proofs.Ytlakjlolahjphaa.Kit
theorem bTable {x : S178} (h : g178 x) : b178 x := ⟨Len.le h.2.1.1 (by omega), Len.le h.2.2.1 (by omega)⟩
theorem bPiece {x : S139} (h : g139 x) : b139 x := ⟨Len.le h.2.1.1 (by omega), Len.le h.2.2.1 (by omega), fun y hy => bTable (h.2.2.2 y hy)⟩
/-- How many elements a program has in all. -/
def nPg (l : List S139) : Nat := l.length + (l.map n139).sum
def nPgI (l : List S106) : Nat := l.length + (l.map n106).sum
theorem nPgI_c (l : List S139) : nPgI (l.map cPiece) = nPg l := by
  unfold nPgI nPg
  rw [List.length_map, List.map_map]
  congr 2
  exact List.map_congr_left fun x _ => n_cPiece x
end Go.Proofs.Ytlakjlolahjphaa.fnExactNextsAt
/- The pieces that lie in a span of ticks, in the program and in the reference. Conditions: none. -/
namespace Go.Proofs.Ytlakjlolahjphaa.fnExactNextsAt
open Go.RowKit Go.Proofs.YtlakjlolahjphaaW.PrintWords Go.Proofs.YtlakjlolahjphaaW.PrintMore Go.Proofs.Ytlakjlolahjphaa.QFnExactNextsAt Go.Proofs.Ytlakjlolahjphaa.Open Go.Proofs.Ytlakjlolahjphaa.Kit
/-- A piece that meets the ticks from u to v. -/
def meets (u v : Int) (x : S106) : Bool := decide ((0 ≤ x.f0.f0 ∧ x.f0.f1 ≤ 1000 ∧ x.f0.f0 < x.f0.f1) ∧ u ≤ v ∧ x.f0.f0 ≤ v ∧ u < x.f0.f1)
def pcs (u v : Int) : List S106 → Nat → List Int
  | [], _ => []
  | x :: xs, i => if meets u v x = true then (i : Int) :: pcs u v xs (i + 1) else pcs u v xs (i + 1)
theorem pcs_len (u v : Int) : ∀ (l : List S106) (i : Nat), (pcs u v l i).length ≤ l.length
  | [], _ => Nat.le_refl _
  | x :: xs, i => by
    unfold pcs
    have := pcs_len u v xs (i + 1)
    split <;> simp only [List.length_cons] <;> omega
theorem isSpan1 (a b : Int) : spec_IsSpan.f a b = some (decide (0 ≤ a ∧ b ≤ 1000 ∧ a < b)) := by
  unfold spec_IsSpan.f
  by_cases h1 : 0 ≤ a <;> by_cases h2 : b ≤ 1000 <;> simp [h1, h2]
theorem isSpan2 (a b : Int) : impl_IsSpan.f a b = some (decide (0 ≤ a ∧ b ≤ 1000 ∧ a < b)) := by
  unfold impl_IsSpan.f
  by_cases h1 : 0 ≤ a <;> by_cases h2 : b ≤ 1000 <;> simp [h1, h2]
theorem pcs1 (p : List S106) (hl : p.length ≤ 1048576) (n a s u v : Int) : Ev (fun k => spec_PiecesIn.f k n a s p u v) (pcs u v p 0) := by
  have key : ∀ (d i : Nat) (acc : List Int), i + d = p.length → acc.length ≤ i → Ev (fun k => spec_PiecesIn.l0 k u v acc (i : Int) n a s p) (acc ++ pcs u v (p.drop i) i) := by
    intro d
    induction d with
    | zero =>
      intro i acc hi ha
      refine Ev.step (fun k => by rw [spec_PiecesIn.l0]) ?_
      repeat (first | (with_reducible refine Ev.ite_pos (by omega) ?_) | (with_reducible refine Ev.ite_neg (by omega) ?_))
      refine Ev.some ?_
      rw [List.drop_of_length_le (by omega), pcs, List.append_nil]
    | succ d ih =>
      intro i acc hi ha
      have h0 := ih (i + 1) acc (by omega) (by omega)
      have h1 := ih (i + 1) (acc ++ [(i : Int)]) (by omega) (by simp; omega)
      rw [List.append_assoc] at h1
      refine Ev.step (fun k => by rw [spec_PiecesIn.l0]) ?_
      repeat (first | (with_reducible refine Ev.ite_pos (by omega) ?_) | (with_reducible refine Ev.ite_neg (by omega) ?_))
      rw [drop_getD (by omega : i < p.length) z106, show rd_T106 p (i : Int) = p.getD i z106 from rfl, w64n (by omega), pcs]
      generalize p.getD i z106 = x
      refine Ev.bind0 (isSpan1 x.f0.f0 x.f0.f1) ?_
      unfold meets
      by_cases c1 : 0 ≤ x.f0.f0 ∧ x.f0.f1 ≤ 1000 ∧ x.f0.f0 < x.f0.f1
      · refine Ev.ite_pos (by simpa using c1) ?_
        by_cases c2 : u ≤ v
        · refine Ev.ite_pos c2 ?_
          by_cases c3 : x.f0.f0 ≤ v
          · refine Ev.ite_pos c3 ?_
            by_cases c4 : u < x.f0.f1
            · refine Ev.ite_pos c4 ?_
              rw [if_pos (decide_eq_true ⟨c1, c2, c3, c4⟩)]
              refine Ev.ite_pos (by omega) ?_
              exact h1
            · refine Ev.ite_neg c4 ?_
              rw [if_neg (fun h => c4 (of_decide_eq_true h).2.2.2)]
              exact h0
          · refine Ev.ite_neg c3 ?_
            rw [if_neg (fun h => c3 (of_decide_eq_true h).2.2.1)]
            exact h0
        · refine Ev.ite_neg c2 ?_
          rw [if_neg (fun h => c2 (of_decide_eq_true h).2.1)]
          exact h0
      · refine Ev.ite_neg (by simpa using c1) ?_
        rw [if_neg (fun h => c1 (of_decide_eq_true h).1)]
        exact h0
  exact key p.length 0 [] (by omega) (by simp)
theorem pcs2 (p : List S106) (hl : p.length ≤ 1048576) (n a s u v : Int) : Ev (fun k => impl_PiecesIn.f k n a s p u v) (pcs u v p 0) := by
  have key : ∀ (d i : Nat) (acc : List Int), i + d = p.length → acc.length ≤ i → Ev (fun k => impl_PiecesIn.l0 k u v acc p (p.length : Int) (i : Int)) (acc ++ pcs u v (p.drop i) i) := by
    intro d
    induction d with
    | zero =>
      intro i acc hi ha
      refine Ev.step (fun k => by rw [impl_PiecesIn.l0]) ?_
      repeat (first | (with_reducible refine Ev.ite_pos (by omega) ?_) | (with_reducible refine Ev.ite_neg (by omega) ?_))
      refine Ev.some ?_
      rw [List.drop_of_length_le (by omega), pcs, List.append_nil]
    | succ d ih =>
      intro i acc hi ha
      have h0 := ih (i + 1) acc (by omega) (by omega)
      have h1 := ih (i + 1) (acc ++ [(i : Int)]) (by omega) (by simp; omega)
      rw [List.append_assoc] at h1
      refine Ev.step (fun k => by rw [impl_PiecesIn.l0]) ?_
      repeat (first | (with_reducible refine Ev.ite_pos (by omega) ?_) | (with_reducible refine Ev.ite_neg (by omega) ?_))
      rw [drop_getD (by omega : i < p.length) z106, show rd_T106 p (i : Int) = p.getD i z106 from rfl, w64n (by omega), pcs]
      generalize p.getD i z106 = x
      refine Ev.bind0 (isSpan2 x.f0.f0 x.f0.f1) ?_
      unfold meets
      by_cases c1 : 0 ≤ x.f0.f0 ∧ x.f0.f1 ≤ 1000 ∧ x.f0.f0 < x.f0.f1
      · refine Ev.ite_pos (by simpa using c1) ?_
        by_cases c2 : u ≤ v
        · refine Ev.ite_pos c2 ?_
          by_cases c3 : x.f0.f0 ≤ v
          · refine Ev.ite_pos c3 ?_
            by_cases c4 : u < x.f0.f1
            · refine Ev.ite_pos c4 ?_
              rw [if_pos (decide_eq_true ⟨c1, c2, c3, c4⟩)]
              refine Ev.ite_pos (by omega) ?_
              exact h1
            · refine Ev.ite_neg c4 ?_
              rw [if_neg (fun h => c4 (of_decide_eq_true h).2.2.2)]
              exact h0
          · refine Ev.ite_neg c3 ?_
            rw [if_neg (fun h => c3 (of_decide_eq_true h).2.2.1)]
            exact h0
        · refine Ev.ite_neg c2 ?_
          rw [if_neg (fun h => c2 (of_decide_eq_true h).2.1)]
          exact h0
      · refine Ev.ite_neg (by simpa using c1) ?_
        rw [if_neg (fun h => c1 (of_decide_eq_true h).1)]
        exact h0
  exact key p.length 0 [] (by omega) (by simp)
end Go.Proofs.Ytlakjlolahjphaa.fnExactNextsAt
/- The table of a piece, in the program and in the reference. Conditions: none. -/
namespace Go.Proofs.Ytlakjlolahjphaa.fnExactNextsAt
open Go.RowKit Go.Proofs.YtlakjlolahjphaaW.PrintWords Go.Proofs.YtlakjlolahjphaaW.PrintMore Go.Proofs.Ytlakjlolahjphaa.QFnExactNextsAt Go.Proofs.Ytlakjlolahjphaa.Open Go.Proofs.Ytlakjlolahjphaa.Kit
theorem in1 (a b c : Int) : spec_l1In.f a b c = some (decide (b ≤ a ∧ a ≤ c)) := by
  unfold spec_l1In.f
  by_cases h : b ≤ a <;> simp [h]
theorem isIx (i n : Int) : impl_isIndex.f i n = some (decide (0 ≤ i ∧ i < n)) := by
  unfold impl_isIndex.f
  by_cases h : 0 ≤ i <;> simp [h]
/-- Whether a piece is there, and has a table for a destination. -/
def okT (p : List S106) (k d : Int) : Prop := (0 ≤ k ∧ k < (p.length : Int)) ∧ (0 ≤ d ∧ d < ((rd_T106 p k).f2.length : Int))
instance (p : List S106) (k d : Int) : Decidable (okT p k d) := by unfold okT; infer_instance
def tab (p : List S106) (k d : Int) : S65 := rd_T65 (rd_T106 p k).f2 d
def tableIn (p : List S106) (k d : Int) : Int × List Int × List Int × Bool := if okT p k d then ((tab p k d).f0, (tab p k d).f1, (tab p k d).f2, true) else (0, [], [], false)
theorem tab_len {p : List S106} (hp : nPgI p ≤ 1048576) {k d : Int} (h : okT p k d) : (rd_T106 p k).f2.length ≤ 1048576 ∧ (tab p k d).f1.length ≤ 1048576 ∧ (tab p k d).f2.length ≤ 1048576 := by
  unfold okT at h
  have hm := le_sum n106 (getD_mem (show k.toNat < p.length by omega) z106)
  have hm2 := le_sum n65 (getD_mem (show d.toNat < (rd_T106 p k).f2.length by omega) z65)
  unfold nPgI at hp
  have e : rd_T106 p k = p.getD k.toNat z106 := rfl
  rw [← e] at hm
  have e2 : tab p k d = (rd_T106 p k).f2.getD d.toNat z65 := rfl
  rw [← e2] at hm2
  have h0 : n106 (rd_T106 p k) = (rd_T106 p k).f1.length + ((rd_T106 p k).f2.length + ((rd_T106 p k).f2.map n65).sum) := rfl
  have h3 : n65 (tab p k d) = (tab p k d).f1.length + (tab p k d).f2.length := rfl
  have h4 : (rd_T106 p k).f2.length ≤ p.length + (p.map n106).sum := by omega
  have h5 : ((rd_T106 p k).f2.map n65).sum ≤ p.length + (p.map n106).sum := by omega
  omega
theorem table1 (p : List S106) (hp : nPgI p ≤ 1048576) (n a s k d : Int) : spec_TableIn.f n a s p k d = some (tableIn p k d) := by
  have hl : p.length ≤ 1048576 := by unfold nPgI at hp; omega
  unfold spec_TableIn.f tableIn
  rw [in1, Option.bind_some, w64 (x := (p.length : Int) - 1) (by omega) (by omega)]
  by_cases h1 : 0 ≤ k ∧ k < (p.length : Int)
  · rw [if_pos (decide_eq_true (show 0 ≤ k ∧ k ≤ (p.length : Int) - 1 by omega)), if_pos h1.1, if_pos h1.2]
    have hf : (rd_T106 p k).f2.length ≤ 1048576 := by
      have hm := le_sum n106 (getD_mem (show k.toNat < p.length by omega) z106)
      unfold nPgI at hp
      have e : rd_T106 p k = p.getD k.toNat z106 := rfl
      rw [← e] at hm
      have h0 : n106 (rd_T106 p k) = (rd_T106 p k).f1.length + ((rd_T106 p k).f2.length + ((rd_T106 p k).f2.map n65).sum) := rfl
      have h4 : (rd_T106 p k).f2.length ≤ p.length + (p.map n106).sum := by omega
      omega
    rw [in1, Option.bind_some, w64 (x := ((rd_T106 p k).f2.length : Int) - 1) (by omega) (by omega)]
    by_cases h2 : 0 ≤ d ∧ d < ((rd_T106 p k).f2.length : Int)
    · have hok : okT p k d := ⟨h1, h2⟩
      have htl := tab_len hp hok
      rw [if_pos (decide_eq_true (show 0 ≤ d ∧ d ≤ ((rd_T106 p k).f2.length : Int) - 1 by omega)), if_pos h2.1, if_pos h2.2, if_pos hok]
      unfold spec_l15Copy.f
      have e2 : rd_T65 (rd_T106 p k).f2 d = tab p k d := rfl
      rw [e2, Option.bind_some, if_pos (by simp only [List.length_nil]; omega), Option.bind_some, if_pos (by simp only [List.length_nil]; omega)]
      rfl
    · rw [if_neg (by simp; omega), if_neg (fun h : okT p k d => h2 h.2)]
  · rw [if_neg (by simp; omega), if_neg (fun h : okT p k d => h1 h.1)]
theorem table2 (p : List S106) (hp : nPgI p ≤ 1048576) (n a s k d : Int) : impl_TableIn.f n a s p k d = some (tableIn p k d) := by
  unfold impl_TableIn.f tableIn
  rw [isIx, Option.bind_some]
  by_cases h1 : 0 ≤ k ∧ k < (p.length : Int)
  · rw [if_pos (decide_eq_true h1), if_pos h1.1, if_pos h1.2, isIx, Option.bind_some]
    by_cases h2 : 0 ≤ d ∧ d < ((rd_T106 p k).f2.length : Int)
    · have hok : okT p k d := ⟨h1, h2⟩
      have htl := tab_len hp hok
      rw [if_pos (decide_eq_true h2), if_pos h2.1, if_pos h2.2, if_pos hok]
      have e2 : rd_T65 (rd_T106 p k).f2 d = tab p k d := rfl
      unfold impl_cloneTable.f slices_Clone_int_int.f
      rw [e2, if_pos (by omega), Option.bind_some, if_pos (by omega), Option.bind_some]
      rfl
    · rw [if_neg (by simpa using h2), if_neg (fun h : okT p k d => h2 h.2)]
  · rw [if_neg (by simpa using h1), if_neg (fun h : okT p k d => h1 h.1)]
end Go.Proofs.Ytlakjlolahjphaa.fnExactNextsAt
/- Walks in a finite graph: a set of nodes each of which leads to one of the set holds a circle. Conditions: none. -/
namespace Go.Proofs.Ytlakjlolahjphaa.Graph

/-- m steps lead from x to y. -/
def Walk (E : Int → Int → Prop) : Nat → Int → Int → Prop
  | 0, x, y => x = y
  | m + 1, x, y => ∃ z, E x z ∧ Walk E m z y

theorem Walk.append {E : Int → Int → Prop} : ∀ {a b : Nat} {x y z : Int}, Walk E a x y → Walk E b y z → Walk E (a + b) x z
  | 0, b, x, y, z, h, k => by
    cases h
    rw [Nat.zero_add]
    exact k
  | a + 1, b, x, y, z, h, k => by
    obtain ⟨u, hu, hw⟩ := h
    rw [Nat.add_right_comm]
    exact ⟨u, hu, hw.append k⟩
theorem Walk.one {E : Int → Int → Prop} {x y : Int} (h : E x y) : Walk E 1 x y := ⟨y, h, rfl⟩
theorem Walk.snoc {E : Int → Int → Prop} {m : Nat} {x y z : Int} (h : Walk E m x y) (k : E y z) : Walk E (m + 1) x z := h.append (Walk.one k)
/-- There is a circle. -/
def Cyc (E : Int → Int → Prop) : Prop := ∃ i m, 0 < m ∧ Walk E m i i

/-- Different numbers below n are no more than n. -/
theorem nodup_le : ∀ (n : Nat) (l : List Int), l.Nodup → (∀ x ∈ l, 0 ≤ x ∧ x < n) → l.length ≤ n
  | 0, l, _, h => by
    cases l with
    | nil => simp
    | cons x xs =>
      have := h x List.mem_cons_self
      omega
  | n + 1, l, hd, h => by
    have h1 := nodup_le n (l.erase (n : Int)) (hd.erase _) (fun x hx => by
      have h2 := (List.Nodup.mem_erase_iff hd).1 hx
      have h3 := h x h2.2
      refine ⟨h3.1, ?_⟩
      have := h2.1
      omega)
    by_cases hm : (n : Int) ∈ l
    · rw [List.length_erase_of_mem hm] at h1
      omega
    · rw [List.erase_of_not_mem hm] at h1
      omega

theorem pigeon (n : Nat) (f : Nat → Int) (hf : ∀ i, 0 ≤ f i ∧ f i < n) : ∃ a b, a < b ∧ b ≤ n ∧ f a = f b := by
  refine Classical.byContradiction fun hno => ?_
  have hd : ((List.range (n + 1)).map f).Nodup := by
    unfold List.Nodup
    rw [List.pairwise_map]
    refine List.Pairwise.imp_of_mem ?_ (List.pairwise_lt_range)
    intro a b _ hb hab he
    have := List.mem_range.1 hb
    exact hno ⟨a, b, hab, by omega, he⟩
  have := nodup_le n _ hd (fun x hx => by
    obtain ⟨i, _, rfl⟩ := List.mem_map.1 hx
    exact hf i)
  simp at this
  omega

theorem walk_of_seq {E : Int → Int → Prop} (f : Nat → Int) (hf : ∀ i, E (f i) (f (i + 1))) (a : Nat) : ∀ d, Walk E d (f a) (f (a + d))
  | 0 => rfl
  | d + 1 => (walk_of_seq f hf a d).snoc (hf (a + d))

/-- A set of nodes below n each of which leads to one of the set: there is a circle of at most n steps in it. -/
theorem cyc_of_closed {E : Int → Int → Prop} {n : Nat} (U : Int → Prop) (hU : ∀ x, U x → 0 ≤ x ∧ x < n) (hs : ∀ x, U x → ∃ y, E x y ∧ U y) (x0 : Int) (h0 : U x0) :
    ∃ i m, 0 < m ∧ m ≤ n ∧ U i ∧ Walk E m i i := by
  classical
  let nxt : { x // U x } → { x // U x } := fun x => ⟨Classical.choose (hs x.1 x.2), (Classical.choose_spec (hs x.1 x.2)).2⟩
  have hn : ∀ x, E x.1 (nxt x).1 := fun x => (Classical.choose_spec (hs x.1 x.2)).1
  let g : Nat → { x // U x } := fun k => Nat.rec ⟨x0, h0⟩ (fun _ y => nxt y) k
  have hg : ∀ k, E (g k).1 (g (k + 1)).1 := fun k => hn (g k)
  obtain ⟨a, b, hab, hb, he⟩ := pigeon n (fun k => (g k).1) (fun k => hU _ (g k).2)
  refine ⟨(g a).1, b - a, by omega, by omega, (g a).2, ?_⟩
  have hw := walk_of_seq (E := E) (fun k => (g k).1) hg a (b - a)
  rw [show a + (b - a) = b by omega] at hw
  rw [← he] at hw
  exact hw

/-- The nodes of a circle: each leads to one of them. -/
def On (E : Int → Int → Prop) (i x : Int) : Prop := (∃ a, Walk E a i x) ∧ ∃ b, 0 < b ∧ Walk E b x i
theorem on_next {E : Int → Int → Prop} {i : Int} {k : Nat} (hk : 0 < k) (hw : Walk E k i i) {x : Int} (h : On E i x) : ∃ y, E x y ∧ On E i y := by
  obtain ⟨⟨a, ha⟩, b, hb, hx⟩ := h
  obtain ⟨b, rfl⟩ : ∃ c, b = c + 1 := ⟨b - 1, by omega⟩
  obtain ⟨y, hy, hw2⟩ := hx
  exact ⟨y, hy, ⟨a + 1, ha.snoc hy⟩, b + k, by omega, hw2.append hw⟩
theorem on_self {E : Int → Int → Prop} {i : Int} {k : Nat} (hk : 0 < k) (hw : Walk E k i i) : On E i i := ⟨⟨0, rfl⟩, k, hk, hw⟩

/-! ### tables as a graph -/
/-- From node x some table leads on to node y, one of the first n. -/
def EdgeIn (l : List (List Int)) (n : Nat) (x y : Int) : Prop := ∃ t ∈ l, 0 ≤ x ∧ x < t.length ∧ t.getD x.toNat 0 = y ∧ 0 ≤ y ∧ y < n
/-- Does one more table lead on to a node that is not gone? -/
def ld (n : Nat) (g : List Bool) (x : Nat) (acc : Bool) (t : List Int) : Bool := acc || (decide (x < t.length) && decide (0 ≤ t.getD x 0 ∧ t.getD x 0 < n) && !(g.getD (t.getD x 0).toNat false))
def leads (l : List (List Int)) (n : Nat) (g : List Bool) (x : Nat) : Bool := l.foldl (ld n g x) false
def ps1 (l : List (List Int)) (n : Nat) (s : List Bool × Bool) (x : Nat) : List Bool × Bool := if s.1.getD x false = true then s else if leads l n s.1 x = true then s else (s.1.set x true, true)
theorem ps1_gone {l : List (List Int)} {n : Nat} {s : List Bool × Bool} {x : Nat} (h : s.1.getD x false = true) : ps1 l n s x = s := by
  unfold ps1
  rw [if_pos h]
theorem foldl_or {α : Type} (p : α → Bool) : ∀ (l : List α) (b : Bool), l.foldl (fun acc t => acc || p t) b = (b || l.any p)
  | [], b => by simp
  | x :: xs, b => by
    rw [List.foldl_cons, foldl_or p xs, List.any_cons, Bool.or_assoc]
theorem leads_iff (l : List (List Int)) (n : Nat) (g : List Bool) (x : Nat) : leads l n g x = true ↔ ∃ y, EdgeIn l n (x : Int) y ∧ g.getD y.toNat false = false := by
  have e : leads l n g x = l.any (fun t => decide (x < t.length) && decide (0 ≤ t.getD x 0 ∧ t.getD x 0 < n) && !(g.getD (t.getD x 0).toNat false)) := by
    unfold leads ld
    rw [foldl_or, Bool.false_or]
  rw [e, List.any_eq_true]
  constructor
  · rintro ⟨t, ht, h⟩
    simp only [Bool.and_eq_true, decide_eq_true_eq, Bool.not_eq_true'] at h
    exact ⟨t.getD x 0, ⟨t, ht, by omega, by omega, rfl, h.1.2.1, h.1.2.2⟩, h.2⟩
  · rintro ⟨y, ⟨t, ht, _, h1, h2, h3, h4⟩, h5⟩
    refine ⟨t, ht, ?_⟩
    simp only [Int.toNat_natCast] at h2
    subst h2
    simp only [Bool.and_eq_true, decide_eq_true_eq, Bool.not_eq_true']
    exact ⟨⟨by omega, h3, h4⟩, h5⟩
/-- What every pass keeps: the nodes of each circle. -/
def Keeps (l : List (List Int)) (n : Nat) (g : List Bool) : Prop := ∀ (i : Int) (k : Nat), 0 < k → Walk (EdgeIn l n) k i i → ∀ x : Nat, On (EdgeIn l n) i (x : Int) → g.getD x false = false
theorem getD_set_ne {g : List Bool} {x y : Nat} (h : x ≠ y) : (g.set x true).getD y false = g.getD y false := by
  simp [List.getD, List.getElem?_set_ne h]
theorem count_set {g : List Bool} {x : Nat} (h : x < g.length) (hx : g.getD x false = false) : (g.set x true).count false < g.count false := by
  induction g generalizing x with
  | nil => simp at h
  | cons b bs ih =>
    cases x with
    | zero =>
      simp at hx
      subst hx
      simp
    | succ x =>
      have := ih (x := x) (by simpa using h) (by simpa using hx)
      simp only [List.set_cons_succ, List.count_cons]
      omega
structure PassOk (l : List (List Int)) (n : Nat) (g : List Bool) (i : Nat) (s : List Bool × Bool) : Prop where
  len : s.1.length = n
  keeps : Keeps l n g → Keeps l n s.1
  same : s.2 = false → s.1 = g ∧ ∀ x, x < i → g.getD x false = false → leads l n g x = true
  less : s.2 = true → s.1.count false < g.count false
  le : s.1.count false ≤ g.count false
theorem pass_step {l : List (List Int)} {n : Nat} {g : List Bool} {i : Nat} {s : List Bool × Bool} (hi : i < n) (h : PassOk l n g i s) : PassOk l n g (i + 1) (ps1 l n s i) := by
  unfold ps1
  by_cases h1 : s.1.getD i false = true
  · rw [if_pos h1]
    refine ⟨h.len, h.keeps, fun hs => ⟨(h.same hs).1, fun x hx hg => ?_⟩, h.less, h.le⟩
    rcases Nat.lt_succ_iff_lt_or_eq.1 hx with hx | rfl
    · exact (h.same hs).2 x hx hg
    · rw [(h.same hs).1, hg] at h1
      cases h1
  · rw [if_neg h1]
    have h1' : s.1.getD i false = false := by simpa using h1
    by_cases h2 : leads l n s.1 i = true
    · rw [if_pos h2]
      refine ⟨h.len, h.keeps, fun hs => ⟨(h.same hs).1, fun x hx hg => ?_⟩, h.less, h.le⟩
      rcases Nat.lt_succ_iff_lt_or_eq.1 hx with hx | rfl
      · exact (h.same hs).2 x hx hg
      · rw [(h.same hs).1] at h2
        exact h2
    · rw [if_neg h2]
      have hc := count_set (g := s.1) (x := i) (by rw [h.len]; exact hi) h1'
      have hle := h.le
      refine ⟨by rw [List.length_set]; exact h.len, fun hk j k hk0 hw x hx => ?_, fun hs => (by cases hs), fun _ => by show (s.1.set i true).count false < _; omega, by show (s.1.set i true).count false ≤ _; omega⟩
      have hkx := h.keeps hk j k hk0 hw x hx
      by_cases e : i = x
      · subst e
        exfalso
        apply h2
        rw [leads_iff]
        obtain ⟨y, hy, hon⟩ := on_next hk0 hw hx
        refine ⟨y, hy, ?_⟩
        have hy0 : 0 ≤ y := by obtain ⟨t, _, _, _, _, h3, _⟩ := hy; exact h3
        obtain ⟨m, rfl⟩ := Int.eq_ofNat_of_zero_le hy0
        exact h.keeps hk j k hk0 hw m hon
      · show (s.1.set i true).getD x false = false
        rw [getD_set_ne e]
        exact hkx
open Go.Proofs.Ytlakjlolahjphaa.Kit in
theorem pass_ok {l : List (List Int)} {n : Nat} {g : List Bool} (hg : g.length = n) : ∀ i, i ≤ n → PassOk l n g i (foldTo (ps1 l n) (g, false) (List.range n) i) := by
  intro i
  induction i with
  | zero =>
    intro _
    rw [foldTo_zero]
    exact ⟨hg, fun h => h, fun _ => ⟨rfl, fun x hx => (by omega)⟩, fun h => (by cases h), Nat.le_refl _⟩
  | succ i ih =>
    intro hi
    rw [foldTo_succ (ps1 l n) (g, false) (by rw [List.length_range]; omega) 0]
    have e : (List.range n).getD i 0 = i := by
      rw [getD_at (by rw [List.length_range]; omega)]
      simp
    rw [e]
    exact pass_step (by omega) (ih (by omega))
/-- Behind a pass that changes nothing: some node is left just where there is a circle. -/
theorem left_iff {l : List (List Int)} {n : Nat} {g : List Bool} (hl : ∀ t ∈ l, t.length ≤ n) (hk : Keeps l n g) (hlead : ∀ x, x < n → g.getD x false = false → leads l n g x = true) : (∃ x, x < n ∧ g.getD x false = false) ↔ Cyc (EdgeIn l n) := by
  constructor
  · rintro ⟨x, hx, hg⟩
    obtain ⟨i, m, hm, _, _, hw⟩ := cyc_of_closed (E := EdgeIn l n) (n := n) (fun z => 0 ≤ z ∧ z < n ∧ g.getD z.toNat false = false) (fun z hz => ⟨hz.1, hz.2.1⟩) (fun z hz => by
      obtain ⟨m, rfl⟩ := Int.eq_ofNat_of_zero_le hz.1
      obtain ⟨y, hy, hgy⟩ := (leads_iff l n g m).1 (hlead m (by omega) (by simpa using hz.2.2))
      refine ⟨y, hy, ?_⟩
      obtain ⟨t, _, _, _, _, h3, h4⟩ := hy
      exact ⟨h3, h4, hgy⟩) (x : Int) ⟨by omega, by omega, by simpa using hg⟩
    exact ⟨i, m, hm, hw⟩
  · rintro ⟨i, m, hm, hw⟩
    have hon := on_self hm hw
    obtain ⟨y, hy, _⟩ := on_next hm hw hon
    obtain ⟨t, ht, h0, h1, _⟩ := hy
    obtain ⟨x, rfl⟩ := Int.eq_ofNat_of_zero_le h0
    have := hl t ht
    exact ⟨x, by omega, hk _ m hm hw x hon⟩

/-! ### the reference's search -/
/-- One more table's step from node x. -/
def stp (n x : Nat) (acc : List Int) (t : List Int) : List Int := if x < t.length ∧ (0 ≤ t.getD x 0 ∧ t.getD x 0 < n) ∧ t.getD x 0 ∉ acc then acc ++ [t.getD x 0] else acc
def steps (l : List (List Int)) (n x : Nat) : List Int := l.foldl (stp n x) []
/-- Different numbers below n. -/
def Few (n : Nat) (l : List Int) : Prop := l.Nodup ∧ ∀ y ∈ l, 0 ≤ y ∧ y < n
theorem Few.le {n : Nat} {l : List Int} (h : Few n l) : l.length ≤ n := nodup_le n l h.1 h.2
theorem Few.nil (n : Nat) : Few n [] := ⟨List.nodup_nil, by simp⟩
theorem Few.snoc {n : Nat} {l : List Int} {y : Int} (h : Few n l) (hy : 0 ≤ y ∧ y < n) (hn : y ∉ l) : Few n (l ++ [y]) := by
  refine ⟨?_, fun z hz => ?_⟩
  · rw [List.nodup_append]
    exact ⟨h.1, by simp, fun a ha b hb => by
      rw [List.mem_singleton.1 hb]
      rintro rfl
      exact hn ha⟩
  · rcases List.mem_append.1 hz with hz | hz
    · exact h.2 z hz
    · rw [List.mem_singleton.1 hz]
      exact hy
theorem stp_few {n x : Nat} {acc t : List Int} (h : Few n acc) : Few n (stp n x acc t) := by
  unfold stp
  by_cases hc : x < t.length ∧ (0 ≤ t.getD x 0 ∧ t.getD x 0 < n) ∧ t.getD x 0 ∉ acc
  · rw [if_pos hc]
    exact h.snoc hc.2.1 hc.2.2
  · rw [if_neg hc]
    exact h
theorem foldl_stp_few {n x : Nat} : ∀ (l : List (List Int)) (acc : List Int), Few n acc → Few n (l.foldl (stp n x) acc)
  | [], _, h => h
  | _ :: ts, _, h => foldl_stp_few ts _ (stp_few h)
theorem steps_few (l : List (List Int)) (n x : Nat) : Few n (steps l n x) := foldl_stp_few l [] (Few.nil n)
theorem mem_stp {n x : Nat} {acc t : List Int} {y : Int} : y ∈ stp n x acc t ↔ y ∈ acc ∨ (x < t.length ∧ t.getD x 0 = y ∧ 0 ≤ y ∧ y < n) := by
  unfold stp
  by_cases hc : x < t.length ∧ (0 ≤ t.getD x 0 ∧ t.getD x 0 < n) ∧ t.getD x 0 ∉ acc
  · rw [if_pos hc, List.mem_append, List.mem_singleton]
    constructor
    · rintro (h | rfl)
      · exact .inl h
      · exact .inr ⟨hc.1, rfl, hc.2.1⟩
    · rintro (h | ⟨_, rfl, _⟩)
      · exact .inl h
      · exact .inr rfl
  · rw [if_neg hc]
    constructor
    · exact .inl
    · rintro (h | ⟨h1, rfl, h2⟩)
      · exact h
      · exact Classical.byContradiction fun hn => hc ⟨h1, h2, hn⟩
theorem mem_foldl_stp {n x : Nat} {y : Int} : ∀ (l : List (List Int)) (acc : List Int), y ∈ l.foldl (stp n x) acc ↔ y ∈ acc ∨ ∃ t ∈ l, x < t.length ∧ t.getD x 0 = y ∧ 0 ≤ y ∧ y < n
  | [], acc => by simp
  | t :: ts, acc => by
    rw [List.foldl_cons, mem_foldl_stp ts, mem_stp]
    simp only [List.mem_cons, exists_eq_or_imp]
    rw [or_assoc]
theorem mem_steps {l : List (List Int)} {n x : Nat} {y : Int} : y ∈ steps l n x ↔ EdgeIn l n (x : Int) y := by
  unfold steps
  rw [mem_foldl_stp]
  unfold EdgeIn
  simp only [List.not_mem_nil, false_or, Int.toNat_natCast]
  constructor
  · rintro ⟨t, ht, h1, h2⟩
    exact ⟨t, ht, by omega, by omega, h2⟩
  · rintro ⟨t, ht, _, h1, h2⟩
    exact ⟨t, ht, by omega, h2⟩
/-- One more node that was seen. -/
def addN (seen : List Int) (y : Int) : List Int := if y ∈ seen then seen else seen ++ [y]
theorem mem_addN {seen : List Int} {y z : Int} : z ∈ addN seen y ↔ z ∈ seen ∨ z = y := by
  unfold addN
  by_cases h : y ∈ seen
  · rw [if_pos h]
    exact ⟨.inl, fun h' => h'.elim (fun h' => h') (fun e => e ▸ h)⟩
  · rw [if_neg h]
    simp
theorem addN_few {n : Nat} {seen : List Int} {y : Int} (h : Few n seen) (hy : 0 ≤ y ∧ y < n) : Few n (addN seen y) := by
  unfold addN
  by_cases h' : y ∈ seen
  · rw [if_pos h']
    exact h
  · rw [if_neg h']
    exact h.snoc hy h'
theorem mem_addAll {z : Int} : ∀ (more seen : List Int), z ∈ more.foldl addN seen ↔ z ∈ seen ∨ z ∈ more
  | [], seen => by simp
  | y :: ys, seen => by
    rw [List.foldl_cons, mem_addAll ys, mem_addN, List.mem_cons, or_assoc]
theorem addAll_few {n : Nat} : ∀ (more seen : List Int), Few n seen → (∀ y ∈ more, 0 ≤ y ∧ y < n) → Few n (more.foldl addN seen)
  | [], _, h, _ => h
  | y :: ys, _, h, hy => addAll_few ys _ (addN_few h (hy y List.mem_cons_self)) (fun z hz => hy z (List.mem_cons_of_mem _ hz))
theorem addN_pre {seen : List Int} {y : Int} {j : Nat} (h : j < seen.length) : (addN seen y).getD j 0 = seen.getD j 0 ∧ seen.length ≤ (addN seen y).length := by
  unfold addN
  by_cases h' : y ∈ seen
  · rw [if_pos h']
    exact ⟨rfl, Nat.le_refl _⟩
  · rw [if_neg h']
    exact ⟨by simp [List.getD, List.getElem?_append_left h], by simp⟩
theorem addAll_pre {j : Nat} : ∀ (more seen : List Int), j < seen.length → (more.foldl addN seen).getD j 0 = seen.getD j 0 ∧ seen.length ≤ (more.foldl addN seen).length
  | [], _, _ => ⟨rfl, Nat.le_refl _⟩
  | y :: ys, seen, h => by
    have h1 := addN_pre (y := y) h
    have h2 := addAll_pre (j := j) ys (addN seen y) (Nat.lt_of_lt_of_le h h1.2)
    rw [List.foldl_cons]
    exact ⟨h2.1.trans h1.1, Nat.le_trans h1.2 h2.2⟩
/-- What holds of the search from node i, when the first k of what was seen have been looked at. -/
structure Srch (l : List (List Int)) (n i : Nat) (seen : List Int) (k : Nat) : Prop where
  few : Few n seen
  le : k ≤ seen.length
  from_ : ∀ y ∈ seen, ∃ m, 0 < m ∧ Walk (EdgeIn l n) m i y
  first : ∀ y, EdgeIn l n i y → y ∈ seen
  closed : ∀ j, j < k → seen.getD j 0 ≠ i ∧ ∀ y, EdgeIn l n (seen.getD j 0) y → y ∈ seen
theorem srch_start (l : List (List Int)) (n i : Nat) : Srch l n i (steps l n i) 0 :=
  ⟨steps_few l n i, Nat.zero_le _, fun y hy => ⟨1, by omega, Walk.one (mem_steps.1 hy)⟩, fun y hy => mem_steps.2 hy, fun j hj => by omega⟩
open Go.Proofs.Ytlakjlolahjphaa.Kit in
theorem srch_step {l : List (List Int)} {n i : Nat} {seen : List Int} {k : Nat} (h : Srch l n i seen k) (hk : k < seen.length) (hne : seen.getD k 0 ≠ i) {x : Nat} (hx : seen.getD k 0 = x) : Srch l n i ((steps l n x).foldl addN seen) (k + 1) := by
  have hm := getD_mem hk 0
  obtain ⟨m, hm0, hw⟩ := h.from_ _ hm
  refine ⟨addAll_few _ _ h.few (steps_few l n x).2, ?_, fun y hy => ?_, fun y hy => (mem_addAll _ _).2 (.inl (h.first y hy)), fun j hj => ?_⟩
  · have := (addAll_pre (steps l n x) seen hk).2
    omega
  · rcases (mem_addAll _ _).1 hy with hy | hy
    · exact h.from_ y hy
    · have he := mem_steps.1 hy
      rw [← hx] at he
      exact ⟨m + 1, by omega, hw.snoc he⟩
  · rcases Nat.lt_succ_iff_lt_or_eq.1 hj with hj | rfl
    · have hc := h.closed j hj
      rw [(addAll_pre (steps l n x) seen (by omega : j < seen.length)).1]
      exact ⟨hc.1, fun y hy => (mem_addAll _ _).2 (.inl (hc.2 y hy))⟩
    · rw [(addAll_pre (steps l n x) seen hk).1]
      refine ⟨hne, fun y hy => (mem_addAll _ _).2 (.inr (mem_steps.2 ?_))⟩
      rw [← hx]
      exact hy
open Go.Proofs.Ytlakjlolahjphaa.Kit in
theorem srch_end {l : List (List Int)} {n i : Nat} {seen : List Int} (h : Srch l n i seen seen.length) : ¬ ∃ m, 0 < m ∧ Walk (EdgeIn l n) m i i := by
  have key : ∀ m x y, x ∈ seen → Walk (EdgeIn l n) m x y → y ∈ seen := by
    intro m
    induction m with
    | zero => intro x y hx hw; cases hw; exact hx
    | succ m ih =>
      intro x y hx hw
      obtain ⟨z, hz, hw⟩ := hw
      obtain ⟨j, hj, e⟩ := List.getElem_of_mem hx
      have hc := (h.closed j hj).2 z
      rw [getD_at hj, e] at hc
      exact ih z y (hc hz) hw
  rintro ⟨m, hm, hw⟩
  obtain ⟨m, rfl⟩ : ∃ q, m = q + 1 := ⟨m - 1, by omega⟩
  obtain ⟨z, hz, hw⟩ := hw
  have hi := key m z i (h.first z hz) hw
  obtain ⟨j, hj, e⟩ := List.getElem_of_mem hi
  have hc := (h.closed j hj).1
  rw [getD_at hj] at hc
  exact hc e

/-! ### one table alone -/
theorem walk_split {E : Int → Int → Prop} : ∀ {a b : Nat} {x z : Int}, Walk E (a + b) x z → ∃ y, Walk E a x y ∧ Walk E b y z
  | 0, b, x, z, h => by
    rw [Nat.zero_add] at h
    exact ⟨x, rfl, h⟩
  | a + 1, b, x, z, h => by
    rw [Nat.add_right_comm] at h
    obtain ⟨u, hu, hw⟩ := h
    obtain ⟨y, h1, h2⟩ := walk_split hw
    exact ⟨y, ⟨u, hu, h1⟩, h2⟩
theorem walk_det {E : Int → Int → Prop} (hE : ∀ x y z, E x y → E x z → y = z) : ∀ {a : Nat} {x y z : Int}, Walk E a x y → Walk E a x z → y = z
  | 0, _, _, _, h, k => by cases h; exact k
  | a + 1, x, y, z, h, k => by
    obtain ⟨u, hu, hw⟩ := h
    obtain ⟨v, hv, kw⟩ := k
    rw [hE x u v hu hv] at hw
    exact walk_det hE hw kw
theorem edge_one {l : List Int} {n : Nat} {x y : Int} : EdgeIn [l] n x y ↔ 0 ≤ x ∧ x < l.length ∧ l.getD x.toNat 0 = y ∧ 0 ≤ y ∧ y < n := by
  unfold EdgeIn
  simp
theorem edge_det {l : List Int} {n : Nat} (x y z : Int) (h : EdgeIn [l] n x y) (k : EdgeIn [l] n x z) : y = z := by
  rw [edge_one] at h k
  rw [← h.2.2.1, ← k.2.2.1]
end Go.Proofs.Ytlakjlolahjphaa.Graph
/- The program's UnionHasLoop tells whether the tables, as one graph, hold a circle. Conditions: none. -/
namespace Go.Proofs.Ytlakjlolahjphaa.fnExactNextsAt
open Go.RowKit Go.Proofs.YtlakjlolahjphaaW.PrintWords Go.Proofs.YtlakjlolahjphaaW.PrintMore Go.Proofs.Ytlakjlolahjphaa.QFnExactNextsAt Go.Proofs.Ytlakjlolahjphaa.Open Go.Proofs.Ytlakjlolahjphaa.Kit Go.Proofs.Ytlakjlolahjphaa.Graph
theorem ixU (a n : Int) : impl_isIndex.f a n = some (decide (0 ≤ a ∧ a < n)) := by
  unfold impl_isIndex.f
  by_cases h : 0 ≤ a <;> simp [h]
/-- The number of nodes: the length of the longest table. -/
def msz (l : List (List Int)) : Int := l.foldl (fun m t => mx m (t.length : Int)) 0
theorem msz_ge (l : List (List Int)) (b : Int) (hb : 0 ≤ b) : 0 ≤ l.foldl (fun m t => mx m (t.length : Int)) b ∧ b ≤ l.foldl (fun m t => mx m (t.length : Int)) b ∧ (∀ t ∈ l, (t.length : Int) ≤ l.foldl (fun m t => mx m (t.length : Int)) b) ∧ ∀ B : Int, b ≤ B → (∀ t ∈ l, (t.length : Int) ≤ B) → l.foldl (fun m t => mx m (t.length : Int)) b ≤ B := by
  induction l generalizing b with
  | nil => exact ⟨hb, Int.le_refl _, by simp, fun B h _ => h⟩
  | cons t ts ih =>
    have hm : b ≤ mx b (t.length : Int) ∧ (t.length : Int) ≤ mx b (t.length : Int) ∧ ∀ B : Int, b ≤ B → (t.length : Int) ≤ B → mx b (t.length : Int) ≤ B := by
      rw [mx_def]
      exact ⟨by omega, by omega, fun B _ _ => by omega⟩
    obtain ⟨h1, h2, h3, h4⟩ := ih (mx b (t.length : Int)) (by omega)
    rw [List.foldl_cons]
    refine ⟨h1, by omega, fun u hu => ?_, fun B hB hu => h4 B (hm.2.2 B hB (hu t List.mem_cons_self)) (fun u hu' => hu u (List.mem_cons_of_mem _ hu'))⟩
    rcases List.mem_cons.1 hu with rfl | hu
    · omega
    · exact h3 u hu
theorem rdOf_nat (g : List Bool) (x : Nat) : rdOf false g (x : Int) = g.getD x false := rfl
/-- The inmost loop: does a node lead on? -/
theorem l3_ev {l : List (List Int)} {n : Nat} {g : List Bool} {ch : Bool} {x : Nat} {r : Bool} (hx : x < n) (hn : n ≤ 1048576) (hg : g.length = n) (hl : l.length ≤ 1048576) (hgx : g.getD x false = false)
    (h : Ev (fun k => impl_UnionHasLoop.l2 k l (n : Int) (ps1 l n (g, ch) x).1 (ps1 l n (g, ch) x).2 (n : Int) ((x + 1 : Nat) : Int)) r) :
    Ev (fun k => impl_UnionHasLoop.l3 k l (n : Int) g ch (x : Int) false (n : Int) (x : Int) l (l.length : Int) 0) r := by
  have h0 := foldTo_zero (ld n g x) false l
  rw [show (fun k => impl_UnionHasLoop.l3 k l (n : Int) g ch (x : Int) false (n : Int) (x : Int) l (l.length : Int) 0) = (fun k => impl_UnionHasLoop.l3 k l (n : Int) g ch (x : Int) (foldTo (ld n g x) false l 0) (n : Int) (x : Int) l (l.length : Int) ((0 : Nat) : Int)) by rw [h0]; rfl]
  refine Ev.up (n := l.length) (g := fun j k => impl_UnionHasLoop.l3 k l (n : Int) g ch (x : Int) (foldTo (ld n g x) false l j) (n : Int) (x : Int) l (l.length : Int) (j : Int)) ?_ ?_
  · intro j hj ih
    rw [foldTo_succ (ld n g x) false hj []] at ih
    refine Ev.step (fun k => by rw [impl_UnionHasLoop.l3]) ?_
    repeat (first | (with_reducible refine Ev.ite_pos (by omega) ?_) | (with_reducible refine Ev.ite_neg (by omega) ?_))
    rw [w64n (by omega)]
    cases hacc : foldTo (ld n g x) false l j with
    | true =>
      rw [hacc] at ih
      exact Ev.ite_pos rfl (by simpa [ld] using ih)
    | false =>
      rw [hacc] at ih
      refine Ev.ite_neg (by simp) ?_
      by_cases hxl : x < (l.getD j []).length
      · refine Ev.ite_pos (by show (x : Int) < (((l.getD j []).length : Nat) : Int); omega) ?_
        refine Ev.ite_pos (by omega) ?_
        refine Ev.bind0 (ixU ((l.getD j []).getD x 0) (n : Int)) ?_
        by_cases hy : 0 ≤ (l.getD j []).getD x 0 ∧ (l.getD j []).getD x 0 < (n : Int)
        · refine Ev.ite_pos (by simp only [decide_eq_true_eq]; exact hy) ?_
          refine Ev.ite_pos hy.1 ?_
          refine Ev.ite_pos (by show (l.getD j []).getD x 0 < (g.length : Int); omega) ?_
          have e : ld n g x false (l.getD j []) = !(rdOf false g ((l.getD j []).getD x 0)) := by
            unfold ld
            rw [Bool.false_or, decide_eq_true hxl, decide_eq_true hy]
            rfl
          rw [e] at ih
          exact ih
        · refine Ev.ite_neg (by simp only [decide_eq_true_eq]; exact hy) ?_
          have e : ld n g x false (l.getD j []) = false := by
            unfold ld
            rw [decide_eq_false hy]
            simp
          rw [e] at ih
          exact ih
      · refine Ev.ite_neg (by show ¬ (x : Int) < (((l.getD j []).length : Nat) : Int); omega) ?_
        have e : ld n g x false (l.getD j []) = false := by
          unfold ld
          rw [decide_eq_false hxl]
          simp
        rw [e] at ih
        exact ih
  · refine Ev.step (fun k => by rw [impl_UnionHasLoop.l3]) ?_
    repeat (first | (with_reducible refine Ev.ite_pos (by omega) ?_) | (with_reducible refine Ev.ite_neg (by omega) ?_))
    rw [foldTo_all]
    have hps : ps1 l n (g, ch) x = if leads l n g x = true then (g, ch) else (g.set x true, true) := by
      unfold ps1
      rw [if_neg (by simpa using hgx)]
    have e : l.foldl (ld n g x) false = leads l n g x := rfl
    rw [e]
    by_cases hL : leads l n g x = true
    · refine Ev.ite_pos hL ?_
      rw [hps, if_pos hL] at h
      rw [w64n (by omega)]
      exact h
    · refine Ev.ite_neg hL ?_
      rw [hps, if_neg hL] at h
      repeat (first | (with_reducible refine Ev.ite_pos (by omega) ?_) | (with_reducible refine Ev.ite_neg (by omega) ?_))
      rw [Int.toNat_natCast, w64n (by omega)]
      exact h
/-- A pass. -/
theorem l2_ev {l : List (List Int)} {n : Nat} {g : List Bool} {r : Bool} (hn : n ≤ 1048576) (hg : g.length = n) (hl : l.length ≤ 1048576)
    (h : Ev (fun k => impl_UnionHasLoop.l1 k l (n : Int) (foldTo (ps1 l n) (g, false) (List.range n) n).1 (foldTo (ps1 l n) (g, false) (List.range n) n).2) r) :
    Ev (fun k => impl_UnionHasLoop.l2 k l (n : Int) g false (n : Int) 0) r := by
  have h0 := foldTo_zero (ps1 l n) (g, false) (List.range n)
  rw [show (fun k => impl_UnionHasLoop.l2 k l (n : Int) g false (n : Int) 0) = (fun k => impl_UnionHasLoop.l2 k l (n : Int) (foldTo (ps1 l n) (g, false) (List.range n) 0).1 (foldTo (ps1 l n) (g, false) (List.range n) 0).2 (n : Int) ((0 : Nat) : Int)) by rw [h0]; rfl]
  refine Ev.up (n := n) (g := fun i k => impl_UnionHasLoop.l2 k l (n : Int) (foldTo (ps1 l n) (g, false) (List.range n) i).1 (foldTo (ps1 l n) (g, false) (List.range n) i).2 (n : Int) (i : Int)) ?_ ?_
  · intro i hi ih
    have hlen := (pass_ok (l := l) hg i (by omega)).len
    have e : (List.range n).getD i 0 = i := by
      rw [getD_at (by rw [List.length_range]; omega)]
      simp
    rw [foldTo_succ (ps1 l n) (g, false) (by rw [List.length_range]; omega) 0, e] at ih
    refine Ev.step (fun k => by rw [impl_UnionHasLoop.l2]) ?_
    repeat (first | (with_reducible refine Ev.ite_pos (by omega) ?_) | (with_reducible refine Ev.ite_neg (by omega) ?_))
    by_cases hg1 : (foldTo (ps1 l n) (g, false) (List.range n) i).1.getD i false = true
    · refine Ev.ite_pos hg1 ?_
      rw [w64n (by omega)]
      rw [ps1_gone hg1] at ih
      exact ih
    · refine Ev.ite_neg hg1 ?_
      exact l3_ev hi hn hlen hl (by simpa using hg1) ih
  · refine Ev.step (fun k => by rw [impl_UnionHasLoop.l2]) ?_
    repeat (first | (with_reducible refine Ev.ite_pos (by omega) ?_) | (with_reducible refine Ev.ite_neg (by omega) ?_))
    exact h
theorem l4_ev {n : Nat} {g : List Bool} (hn : n ≤ 1048576) (hg : g.length = n) : ∃ r, Ev (fun k => impl_UnionHasLoop.l4 k g (n : Int) 0) r ∧ (r = true ↔ ∃ x, x < n ∧ g.getD x false = false) := by
  have key : ∀ d i : Nat, i + d = n → ∃ r, Ev (fun k => impl_UnionHasLoop.l4 k g (n : Int) (i : Int)) r ∧ (r = true ↔ ∃ x, i ≤ x ∧ x < n ∧ g.getD x false = false) := by
    intro d
    induction d with
    | zero =>
      intro i hi
      refine ⟨false, ?_, by simp; intro x h1 h2; omega⟩
      refine Ev.step (fun k => by rw [impl_UnionHasLoop.l4]) ?_
      repeat (first | (with_reducible refine Ev.ite_pos (by omega) ?_) | (with_reducible refine Ev.ite_neg (by omega) ?_))
      exact Ev.now _
    | succ d ih =>
      intro i hi
      by_cases hb : g.getD i false = true
      · obtain ⟨r, hr, hiff⟩ := ih (i + 1) (by omega)
        refine ⟨r, ?_, ?_⟩
        · refine Ev.step (fun k => by rw [impl_UnionHasLoop.l4]) ?_
          repeat (first | (with_reducible refine Ev.ite_pos (by omega) ?_) | (with_reducible refine Ev.ite_neg (by omega) ?_))
          refine Ev.ite_pos hb ?_
          rw [w64n (by omega)]
          exact hr
        · rw [hiff]
          constructor
          · rintro ⟨x, h1, h2, h3⟩
            exact ⟨x, by omega, h2, h3⟩
          · rintro ⟨x, h1, h2, h3⟩
            refine ⟨x, ?_, h2, h3⟩
            rcases Nat.eq_or_lt_of_le h1 with rfl | h1
            · rw [hb] at h3
              cases h3
            · exact h1
      · refine ⟨true, ?_, ?_⟩
        · refine Ev.step (fun k => by rw [impl_UnionHasLoop.l4]) ?_
          repeat (first | (with_reducible refine Ev.ite_pos (by omega) ?_) | (with_reducible refine Ev.ite_neg (by omega) ?_))
          exact Ev.ite_neg hb (Ev.now _)
        · exact ⟨fun _ => ⟨i, Nat.le_refl _, by omega, by simpa using hb⟩, fun _ => rfl⟩
  obtain ⟨r, hr, hiff⟩ := key n 0 (by omega)
  refine ⟨r, hr, ?_⟩
  rw [hiff]
  exact ⟨fun ⟨x, _, h⟩ => ⟨x, h⟩, fun ⟨x, h⟩ => ⟨x, Nat.zero_le _, h⟩⟩
/-- Passes till nothing changes. -/
theorem l1_ev {l : List (List Int)} {n : Nat} (hn : n ≤ 1048576) (hl : l.length ≤ 1048576) (hlt : ∀ t ∈ l, t.length ≤ n) : ∀ (c : Nat) (g : List Bool), g.count false ≤ c → g.length = n → Keeps l n g →
    ∃ r, Ev (fun k => impl_UnionHasLoop.l1 k l (n : Int) g true) r ∧ (r = true ↔ Cyc (EdgeIn l n)) := by
  intro c
  induction c with
  | zero =>
    intro g hc hg hk
    have hp := pass_ok (l := l) hg n (Nat.le_refl _)
    cases hs : (foldTo (ps1 l n) (g, false) (List.range n) n).2 with
    | true =>
      have := hp.less hs
      omega
    | false =>
      obtain ⟨r, hr, hiff⟩ := l4_ev hn hp.len
      refine ⟨r, ?_, ?_⟩
      · refine Ev.step (fun k => by rw [impl_UnionHasLoop.l1]) ?_
        refine Ev.ite_pos rfl ?_
        refine l2_ev hn hg hl ?_
        rw [hs]
        refine Ev.step (fun k => by rw [impl_UnionHasLoop.l1]) ?_
        exact Ev.ite_neg (by simp) hr
      · rw [hiff, (hp.same hs).1]
        exact left_iff hlt hk (hp.same hs).2
  | succ c ih =>
    intro g hc hg hk
    have hp := pass_ok (l := l) hg n (Nat.le_refl _)
    cases hs : (foldTo (ps1 l n) (g, false) (List.range n) n).2 with
    | true =>
      have := hp.less hs
      obtain ⟨r, hr, hiff⟩ := ih _ (by omega) hp.len (hp.keeps hk)
      refine ⟨r, ?_, hiff⟩
      refine Ev.step (fun k => by rw [impl_UnionHasLoop.l1]) ?_
      refine Ev.ite_pos rfl ?_
      refine l2_ev hn hg hl ?_
      rw [hs]
      exact hr
    | false =>
      obtain ⟨r, hr, hiff⟩ := l4_ev hn hp.len
      refine ⟨r, ?_, ?_⟩
      · refine Ev.step (fun k => by rw [impl_UnionHasLoop.l1]) ?_
        refine Ev.ite_pos rfl ?_
        refine l2_ev hn hg hl ?_
        rw [hs]
        refine Ev.step (fun k => by rw [impl_UnionHasLoop.l1]) ?_
        exact Ev.ite_neg (by simp) hr
      · rw [hiff, (hp.same hs).1]
        exact left_iff hlt hk (hp.same hs).2
theorem union2 (l : List (List Int)) (hl : l.length ≤ 1048576) (hb : ∀ t ∈ l, t.length ≤ 1048576) : ∃ r, Ev (fun k => impl_UnionHasLoop.f k l) r ∧ (r = true ↔ Cyc (EdgeIn l (msz l).toNat)) := by
  obtain ⟨h1, _, h3, h4⟩ := msz_ge l 0 (by omega)
  have h5 := h4 1048576 (by omega) (fun t ht => by have := hb t ht; omega)
  obtain ⟨n, hn⟩ := Int.eq_ofNat_of_zero_le h1
  have hn' : msz l = (n : Int) := hn
  rw [hn] at h3 h5
  obtain ⟨r, hr, hiff⟩ := l1_ev (l := l) (n := n) (by omega) hl (fun t ht => by have := h3 t ht; omega) _ (List.replicate n false) (Nat.le_refl _) (List.length_replicate ..) (fun _ _ _ _ x _ => by
    by_cases hx : x < n <;> simp [List.getD, hx])
  refine ⟨r, ?_, by rw [hn']; exact hiff⟩
  have h0 := foldTo_zero (fun m (t : List Int) => mx m (t.length : Int)) 0 l
  show Ev (fun k => impl_UnionHasLoop.l0 k l 0 l (l.length : Int) 0) r
  rw [show (fun k => impl_UnionHasLoop.l0 k l 0 l (l.length : Int) 0) = (fun k => impl_UnionHasLoop.l0 k l (foldTo (fun m (t : List Int) => mx m (t.length : Int)) 0 l 0) l (l.length : Int) ((0 : Nat) : Int)) by rw [h0]; rfl]
  refine Ev.up (n := l.length) (g := fun i k => impl_UnionHasLoop.l0 k l (foldTo (fun m (t : List Int) => mx m (t.length : Int)) 0 l i) l (l.length : Int) (i : Int)) ?_ ?_
  · intro i hi ih
    rw [foldTo_succ _ 0 hi []] at ih
    refine Ev.step (fun k => by rw [impl_UnionHasLoop.l0]) ?_
    repeat (first | (with_reducible refine Ev.ite_pos (by omega) ?_) | (with_reducible refine Ev.ite_neg (by omega) ?_))
    rw [w64n (by omega)]
    exact ih
  · refine Ev.step (fun k => by rw [impl_UnionHasLoop.l0]) ?_
    repeat (first | (with_reducible refine Ev.ite_pos (by omega) ?_) | (with_reducible refine Ev.ite_neg (by omega) ?_))
    rw [foldTo_all]
    rw [show l.foldl (fun m (t : List Int) => mx m (t.length : Int)) 0 = (n : Int) from hn]
    repeat (first | (with_reducible refine Ev.ite_pos (by omega) ?_) | (with_reducible refine Ev.ite_neg (by omega) ?_))
    rw [Int.toNat_natCast]
    exact hr
end Go.Proofs.Ytlakjlolahjphaa.fnExactNextsAt
/- The reference's UnionHasLoop tells whether the tables, as one graph, hold a circle. Conditions: none. -/
namespace Go.Proofs.Ytlakjlolahjphaa.fnExactNextsAt
open Go.RowKit Go.Proofs.YtlakjlolahjphaaW.PrintWords Go.Proofs.YtlakjlolahjphaaW.PrintMore Go.Proofs.Ytlakjlolahjphaa.QFnExactNextsAt Go.Proofs.Ytlakjlolahjphaa.Open Go.Proofs.Ytlakjlolahjphaa.Kit Go.Proofs.Ytlakjlolahjphaa.Graph
theorem inU (a b c : Int) : spec_l1In.f a b c = some (decide (b ≤ a ∧ a ≤ c)) := by
  unfold spec_l1In.f
  by_cases h : b ≤ a <;> simp [h]
theorem has_ev (l : List Int) (v : Int) (hl : l.length ≤ 1048576) : Ev (fun k => spec_l15Has.f k l v) (decide (v ∈ l)) := by
  have key : ∀ d i : Nat, i + d = l.length → Ev (fun k => spec_l15Has.l0 k l v (i : Int)) (decide (v ∈ l.drop i)) := by
    intro d
    induction d with
    | zero =>
      intro i hi
      refine Ev.step (fun k => by rw [spec_l15Has.l0]) ?_
      repeat (first | (with_reducible refine Ev.ite_pos (by omega) ?_) | (with_reducible refine Ev.ite_neg (by omega) ?_))
      refine Ev.some ?_
      rw [List.drop_of_length_le (by omega)]
      simp
    | succ d ih =>
      intro i hi
      have h1 := ih (i + 1) (by omega)
      refine Ev.step (fun k => by rw [spec_l15Has.l0]) ?_
      repeat (first | (with_reducible refine Ev.ite_pos (by omega) ?_) | (with_reducible refine Ev.ite_neg (by omega) ?_))
      rw [drop_getD (by omega : i < l.length) 0]
      by_cases he : l.getD i 0 = v
      · refine Ev.ite_pos he (Ev.some ?_)
        rw [he]
        simp
      · refine Ev.ite_neg he ?_
        rw [w64n (by omega)]
        have e : decide (v ∈ l.getD i 0 :: l.drop (i + 1)) = decide (v ∈ l.drop (i + 1)) := by
          rw [decide_eq_decide, List.mem_cons]
          exact ⟨fun h => h.elim (fun h => absurd h.symm he) (fun h => h), .inr⟩
        rw [e]
        exact h1
  exact key l.length 0 (by omega)
theorem foldTo_stp_few {l : List (List Int)} {n x : Nat} (i : Nat) : Few n (foldTo (stp n x) [] l i) := foldl_stp_few _ _ (Few.nil n)
theorem steps_ev (l : List (List Int)) (n x : Nat) (hl : l.length ≤ 1048576) (hn : n ≤ 1048576) : Ev (fun k => spec_l18Steps.f k l (n : Int) (x : Int)) (steps l n x) := by
  unfold steps
  rw [← foldTo_all]
  have h0 := foldTo_zero (stp n x) [] l
  show Ev (fun k => spec_l18Steps.l0 k l (n : Int) (x : Int) [] 0) _
  rw [show (fun k => spec_l18Steps.l0 k l (n : Int) (x : Int) [] 0) = (fun k => spec_l18Steps.l0 k l (n : Int) (x : Int) (foldTo (stp n x) [] l 0) ((0 : Nat) : Int)) by rw [h0]; rfl]
  refine Ev.up (n := l.length) (g := fun i k => spec_l18Steps.l0 k l (n : Int) (x : Int) (foldTo (stp n x) [] l i) (i : Int)) ?_ ?_
  · intro i hi ih
    have hf := (foldTo_stp_few (l := l) (n := n) (x := x) i).le
    rw [foldTo_succ (stp n x) [] hi []] at ih
    refine Ev.step (fun k => by rw [spec_l18Steps.l0]) ?_
    repeat (first | (with_reducible refine Ev.ite_pos (by omega) ?_) | (with_reducible refine Ev.ite_neg (by omega) ?_))
    rw [w64n (by omega), w64 (x := (n : Int) - 1) (by omega) (by omega)]
    by_cases hx : x < (l.getD i []).length
    · refine Ev.ite_pos (by show (x : Int) < (((l.getD i []).length : Nat) : Int); omega) ?_
      refine Ev.ite_pos (by omega) ?_
      refine Ev.bind0 (inU ((l.getD i []).getD x 0) 0 ((n : Int) - 1)) ?_
      by_cases hy : 0 ≤ (l.getD i []).getD x 0 ∧ (l.getD i []).getD x 0 < (n : Int)
      · refine Ev.ite_pos (by simp only [decide_eq_true_eq]; omega) ?_
        refine Ev.bind (has_ev (foldTo (stp n x) [] l i) ((l.getD i []).getD x 0) (by omega)) ?_
        by_cases hm : (l.getD i []).getD x 0 ∈ foldTo (stp n x) [] l i
        · refine Ev.ite_pos (by simpa using hm) ?_
          rw [show stp n x (foldTo (stp n x) [] l i) (l.getD i []) = foldTo (stp n x) [] l i from if_neg (fun h => h.2.2 hm)] at ih
          exact ih
        · refine Ev.ite_neg (by simpa using hm) ?_
          rw [show stp n x (foldTo (stp n x) [] l i) (l.getD i []) = foldTo (stp n x) [] l i ++ [(l.getD i []).getD x 0] from if_pos ⟨hx, hy, hm⟩] at ih
          repeat (first | (with_reducible refine Ev.ite_pos (by omega) ?_) | (with_reducible refine Ev.ite_neg (by omega) ?_))
          exact ih
      · refine Ev.ite_neg (by simp only [decide_eq_true_eq]; omega) ?_
        rw [show stp n x (foldTo (stp n x) [] l i) (l.getD i []) = foldTo (stp n x) [] l i from if_neg (fun h => hy h.2.1)] at ih
        exact ih
    · refine Ev.ite_neg (by show ¬ (x : Int) < (((l.getD i []).length : Nat) : Int); omega) ?_
      rw [show stp n x (foldTo (stp n x) [] l i) (l.getD i []) = foldTo (stp n x) [] l i from if_neg (fun h => hx h.1)] at ih
      exact ih
  · refine Ev.step (fun k => by rw [spec_l18Steps.l0]) ?_
    repeat (first | (with_reducible refine Ev.ite_pos (by omega) ?_) | (with_reducible refine Ev.ite_neg (by omega) ?_))
    exact Ev.now _
theorem foldTo_add_few {n : Nat} {seen more : List Int} (h : Few n seen) (hm : ∀ y ∈ more, 0 ≤ y ∧ y < n) (i : Nat) : Few n (foldTo addN seen more i) := addAll_few _ _ h (fun y hy => hm y (List.mem_of_mem_take hy))
theorem l2S_ev {l : List (List Int)} {n i : Nat} {seen more : List Int} {q : Nat} {r : Bool} (hn : n ≤ 1048576) (hs : Few n seen) (hm : Few n more) (hq : q < n)
    (h : Ev (fun k => spec_UnionHasLoop.l1 k l (n : Int) (i : Int) (more.foldl addN seen) ((q + 1 : Nat) : Int)) r) : Ev (fun k => spec_UnionHasLoop.l2 k l (n : Int) (i : Int) seen (q : Int) more 0) r := by
  have h0 := foldTo_zero addN seen more
  have hml := hm.le
  rw [show (fun k => spec_UnionHasLoop.l2 k l (n : Int) (i : Int) seen (q : Int) more 0) = (fun k => spec_UnionHasLoop.l2 k l (n : Int) (i : Int) (foldTo addN seen more 0) (q : Int) more ((0 : Nat) : Int)) by rw [h0]; rfl]
  refine Ev.up (n := more.length) (g := fun j k => spec_UnionHasLoop.l2 k l (n : Int) (i : Int) (foldTo addN seen more j) (q : Int) more (j : Int)) ?_ ?_
  · intro j hj ih
    have hf := (foldTo_add_few hs hm.2 j).le
    rw [foldTo_succ addN seen hj 0] at ih
    refine Ev.step (fun k => by rw [spec_UnionHasLoop.l2]) ?_
    repeat (first | (with_reducible refine Ev.ite_pos (by omega) ?_) | (with_reducible refine Ev.ite_neg (by omega) ?_))
    rw [w64n (by omega)]
    refine Ev.bind (has_ev (foldTo addN seen more j) (more.getD j 0) (by omega)) ?_
    by_cases hy : more.getD j 0 ∈ foldTo addN seen more j
    · refine Ev.ite_pos (by simpa using hy) ?_
      rw [show addN (foldTo addN seen more j) (more.getD j 0) = foldTo addN seen more j from if_pos hy] at ih
      exact ih
    · refine Ev.ite_neg (by simpa using hy) ?_
      rw [show addN (foldTo addN seen more j) (more.getD j 0) = foldTo addN seen more j ++ [more.getD j 0] from if_neg hy] at ih
      repeat (first | (with_reducible refine Ev.ite_pos (by omega) ?_) | (with_reducible refine Ev.ite_neg (by omega) ?_))
      exact ih
  · refine Ev.step (fun k => by rw [spec_UnionHasLoop.l2]) ?_
    repeat (first | (with_reducible refine Ev.ite_pos (by omega) ?_) | (with_reducible refine Ev.ite_neg (by omega) ?_))
    rw [foldTo_all, w64n (by omega)]
    exact h
theorem l1S_ev {l : List (List Int)} {n i : Nat} {r' : Bool} (hl : l.length ≤ 1048576) (hn : n ≤ 1048576) (hi : i < n) (h' : Ev (fun k => spec_UnionHasLoop.l0 k l (n : Int) ((i + 1 : Nat) : Int)) r') : ∀ (d : Nat) (seen : List Int) (q : Nat), q + d = n → Srch l n i seen q →
    ∃ r, Ev (fun k => spec_UnionHasLoop.l1 k l (n : Int) (i : Int) seen (q : Int)) r ∧ (r = true ↔ (∃ m, 0 < m ∧ Walk (EdgeIn l n) m i i) ∨ r' = true) := by
  intro d
  induction d with
  | zero =>
    intro seen q hd hs
    have h1 := hs.few.le
    have h2 := hs.le
    have e : q = seen.length := by omega
    subst e
    refine ⟨r', ?_, ?_⟩
    · refine Ev.step (fun k => by rw [spec_UnionHasLoop.l1]) ?_
      repeat (first | (with_reducible refine Ev.ite_pos (by omega) ?_) | (with_reducible refine Ev.ite_neg (by omega) ?_))
      rw [w64n (by omega)]
      exact h'
    · have := srch_end hs
      exact ⟨.inr, fun h => h.elim (fun h => absurd h this) (fun h => h)⟩
  | succ d ih =>
    intro seen q hd hs
    have h1 := hs.few.le
    by_cases hq : q < seen.length
    · have hmem := getD_mem hq 0
      by_cases he : seen.getD q 0 = i
      · refine ⟨true, ?_, ?_⟩
        · refine Ev.step (fun k => by rw [spec_UnionHasLoop.l1]) ?_
          repeat (first | (with_reducible refine Ev.ite_pos (by omega) ?_) | (with_reducible refine Ev.ite_neg (by omega) ?_))
          exact Ev.ite_pos he (Ev.now _)
        · have hw := hs.from_ _ hmem
          rw [he] at hw
          exact ⟨fun _ => .inl hw, fun _ => rfl⟩
      · have hr := hs.few.2 _ hmem
        obtain ⟨x, hx⟩ := Int.eq_ofNat_of_zero_le hr.1
        obtain ⟨r, hr, hiff⟩ := ih _ (q + 1) (by omega) (srch_step hs hq he hx)
        refine ⟨r, ?_, hiff⟩
        refine Ev.step (fun k => by rw [spec_UnionHasLoop.l1]) ?_
        repeat (first | (with_reducible refine Ev.ite_pos (by omega) ?_) | (with_reducible refine Ev.ite_neg (by omega) ?_))
        refine Ev.ite_neg he ?_
        rw [rd_nat, hx]
        refine Ev.bind (steps_ev l n x hl hn) ?_
        exact l2S_ev hn hs.few (steps_few l n x) (by omega) hr
    · have h2 := hs.le
      have e : q = seen.length := by omega
      subst e
      refine ⟨r', ?_, ?_⟩
      · refine Ev.step (fun k => by rw [spec_UnionHasLoop.l1]) ?_
        repeat (first | (with_reducible refine Ev.ite_pos (by omega) ?_) | (with_reducible refine Ev.ite_neg (by omega) ?_))
        rw [w64n (by omega)]
        exact h'
      · have := srch_end hs
        exact ⟨.inr, fun h => h.elim (fun h => absurd h this) (fun h => h)⟩
theorem l0S_ev {l : List (List Int)} {n : Nat} (hl : l.length ≤ 1048576) (hn : n ≤ 1048576) : ∀ d i : Nat, i + d = n → ∃ r, Ev (fun k => spec_UnionHasLoop.l0 k l (n : Int) (i : Int)) r ∧ (r = true ↔ ∃ x : Nat, i ≤ x ∧ x < n ∧ ∃ m, 0 < m ∧ Walk (EdgeIn l n) m x x) := by
  intro d
  induction d with
  | zero =>
    intro i hi
    refine ⟨false, ?_, ?_⟩
    · refine Ev.step (fun k => by rw [spec_UnionHasLoop.l0]) ?_
      repeat (first | (with_reducible refine Ev.ite_pos (by omega) ?_) | (with_reducible refine Ev.ite_neg (by omega) ?_))
      exact Ev.now _
    · constructor
      · intro h
        cases h
      · rintro ⟨x, h1, h2, _⟩
        omega
  | succ d ih =>
    intro i hi
    obtain ⟨r', h', hiff'⟩ := ih (i + 1) (by omega)
    obtain ⟨r, hr, hiff⟩ := l1S_ev hl hn (by omega : i < n) h' n (steps l n i) 0 (by omega) (srch_start l n i)
    refine ⟨r, ?_, ?_⟩
    · refine Ev.step (fun k => by rw [spec_UnionHasLoop.l0]) ?_
      repeat (first | (with_reducible refine Ev.ite_pos (by omega) ?_) | (with_reducible refine Ev.ite_neg (by omega) ?_))
      refine Ev.bind (steps_ev l n i hl hn) ?_
      exact hr
    · rw [hiff, hiff']
      constructor
      · rintro (h | ⟨x, h1, h2, h3⟩)
        · exact ⟨i, Nat.le_refl _, by omega, h⟩
        · exact ⟨x, by omega, h2, h3⟩
      · rintro ⟨x, h1, h2, h3⟩
        rcases Nat.eq_or_lt_of_le h1 with rfl | h1
        · exact .inl h3
        · exact .inr ⟨x, h1, h2, h3⟩
theorem maxU (a b : Int) : spec_Max.f a b = some (mx a b) := by
  unfold spec_Max.f mx
  by_cases h : a < b
  · rw [if_pos h, if_pos h]
  · rw [if_neg h, if_neg h]
theorem union1 (l : List (List Int)) (hl : l.length ≤ 1048576) (hb : ∀ t ∈ l, t.length ≤ 1048576) : ∃ r, Ev (fun k => spec_UnionHasLoop.f k l) r ∧ (r = true ↔ Cyc (EdgeIn l (msz l).toNat)) := by
  obtain ⟨h1, _, h3, h4⟩ := msz_ge l 0 (by omega)
  have h5 := h4 1048576 (by omega) (fun t ht => by have := hb t ht; omega)
  obtain ⟨n, hn⟩ := Int.eq_ofNat_of_zero_le h1
  have hn' : msz l = (n : Int) := hn
  rw [hn] at h3 h5
  obtain ⟨r, hr, hiff⟩ := l0S_ev hl (by omega : n ≤ 1048576) n 0 (by omega)
  have hsz : Ev (fun k => spec_l18Size.f k l) (n : Int) := by
    rw [← hn, ← foldTo_all (fun m (t : List Int) => mx m (t.length : Int)) 0 l]
    have h0 := foldTo_zero (fun m (t : List Int) => mx m (t.length : Int)) 0 l
    show Ev (fun k => spec_l18Size.l0 k l 0 0) _
    rw [show (fun k => spec_l18Size.l0 k l 0 0) = (fun k => spec_l18Size.l0 k l (foldTo (fun m (t : List Int) => mx m (t.length : Int)) 0 l 0) ((0 : Nat) : Int)) by rw [h0]; rfl]
    refine Ev.up (n := l.length) (g := fun i k => spec_l18Size.l0 k l (foldTo (fun m (t : List Int) => mx m (t.length : Int)) 0 l i) (i : Int)) ?_ ?_
    · intro i hi ih
      rw [foldTo_succ _ 0 hi []] at ih
      refine Ev.step (fun k => by rw [spec_l18Size.l0]) ?_
      repeat (first | (with_reducible refine Ev.ite_pos (by omega) ?_) | (with_reducible refine Ev.ite_neg (by omega) ?_))
      refine Ev.bind0 (maxU _ ((l.getD i []).length : Int)) ?_
      rw [w64n (by omega)]
      exact ih
    · refine Ev.step (fun k => by rw [spec_l18Size.l0]) ?_
      repeat (first | (with_reducible refine Ev.ite_pos (by omega) ?_) | (with_reducible refine Ev.ite_neg (by omega) ?_))
      exact Ev.now _
  refine ⟨r, Ev.bind hsz hr, ?_⟩
  rw [hiff, hn', Int.toNat_natCast]
  constructor
  · rintro ⟨x, _, _, m, hm, hw⟩
    exact ⟨x, m, hm, hw⟩
  · rintro ⟨i, m, hm, hw⟩
    obtain ⟨y, ⟨t, ht, h0, hx, _⟩, _⟩ := on_next hm hw (on_self hm hw)
    obtain ⟨x, rfl⟩ := Int.eq_ofNat_of_zero_le h0
    have := h3 t ht
    exact ⟨x, Nat.zero_le _, by omega, m, hm, hw⟩
end Go.Proofs.Ytlakjlolahjphaa.fnExactNextsAt
/- Whether a mixture of tables is safe, in the program and in the reference. Conditions: none. -/
namespace Go.Proofs.Ytlakjlolahjphaa.fnExactNextsAt
open Go.RowKit Go.Proofs.YtlakjlolahjphaaW.PrintWords Go.Proofs.YtlakjlolahjphaaW.PrintMore Go.Proofs.Ytlakjlolahjphaa.QFnExactNextsAt Go.Proofs.Ytlakjlolahjphaa.Open Go.Proofs.Ytlakjlolahjphaa.Kit Go.Proofs.Ytlakjlolahjphaa.Graph
/-- The rows of the tables of some pieces: all (an empty one where there is none), and those that are there. -/
def rowsA (p : List S106) (d : Int) (ks : List Int) : List (List Int) := ks.map fun k => (tableIn p k d).2.2.1
def rowsT (p : List S106) (d : Int) (ks : List Int) : List (List Int) := (ks.filter fun k => decide (okT p k d)).map fun k => (tableIn p k d).2.2.1
theorem rows_same (p : List S106) (d : Int) (ks : List Int) (t : List Int) (ht : 0 < t.length) : t ∈ rowsA p d ks ↔ t ∈ rowsT p d ks := by
  unfold rowsA rowsT
  simp only [List.mem_map, List.mem_filter, decide_eq_true_eq]
  constructor
  · rintro ⟨k, hk, rfl⟩
    refine ⟨k, ⟨hk, ?_⟩, rfl⟩
    refine Classical.byContradiction fun hn => ?_
    unfold tableIn at ht
    rw [if_neg hn] at ht
    exact absurd ht (by simp)
  · rintro ⟨k, hk, rfl⟩
    exact ⟨k, hk.1, rfl⟩
theorem msz_le {l l' : List (List Int)} (h : ∀ t : List Int, 0 < t.length → t ∈ l → t ∈ l') : msz l ≤ msz l' := by
  have h1 := msz_ge l 0 (by omega)
  have h2 := msz_ge l' 0 (by omega)
  unfold msz
  refine h1.2.2.2 _ h2.1 (fun t ht => ?_)
  by_cases h0 : 0 < t.length
  · exact h2.2.2.1 t (h t h0 ht)
  · have := h2.1
    omega
theorem cyc_same {l l' : List (List Int)} (h : ∀ t : List Int, 0 < t.length → (t ∈ l ↔ t ∈ l')) : Cyc (EdgeIn l (msz l).toNat) ↔ Cyc (EdgeIn l' (msz l').toNat) := by
  have hm : msz l = msz l' := Int.le_antisymm (msz_le fun t h0 => (h t h0).1) (msz_le fun t h0 => (h t h0).2)
  have he : EdgeIn l (msz l).toNat = EdgeIn l' (msz l').toNat := by
    rw [hm]
    funext x y
    unfold EdgeIn
    apply propext
    constructor
    · rintro ⟨t, ht, a, b, c⟩
      exact ⟨t, (h t (by omega)).1 ht, a, b, c⟩
    · rintro ⟨t, ht, a, b, c⟩
      exact ⟨t, (h t (by omega)).2 ht, a, b, c⟩
  rw [he]
theorem row_len {p : List S106} (hp : nPgI p ≤ 1048576) (k d : Int) : (tableIn p k d).2.2.1.length ≤ 1048576 := by
  unfold tableIn
  by_cases h : okT p k d
  · rw [if_pos h]
    exact (tab_len hp h).2.2
  · rw [if_neg h]
    simp
/-- Both tell the same: whether the rows, as one graph, hold no circle. -/
theorem mix (p : List S106) (hp : nPgI p ≤ 1048576) (n a s d u v : Int) : ∃ r, Ev (fun k => spec_IsSafeMix.f k n a s p d u v) r ∧ Ev (fun k => impl_IsSafeMix.f k n a s p d u v) r := by
  have hl : p.length ≤ 1048576 := by unfold nPgI at hp; omega
  have hks := pcs_len u v p 0
  obtain ⟨ks, hk⟩ : ∃ ks, pcs u v p 0 = ks := ⟨_, rfl⟩
  rw [hk] at hks
  have hfl : (ks.filter fun k => decide (okT p k d)).length ≤ ks.length := List.length_filter_le _ _
  obtain ⟨r1, e1, i1⟩ := union1 (rowsT p d ks) (by unfold rowsT; rw [List.length_map]; omega) (by
    intro t ht
    unfold rowsT at ht
    obtain ⟨k, _, rfl⟩ := List.mem_map.1 ht
    exact row_len hp k d)
  obtain ⟨r2, e2, i2⟩ := union2 (rowsA p d ks) (by unfold rowsA; rw [List.length_map]; omega) (by
    intro t ht
    unfold rowsA at ht
    obtain ⟨k, _, rfl⟩ := List.mem_map.1 ht
    exact row_len hp k d)
  have hr : r1 = r2 := by
    have := (i1.trans (cyc_same (rows_same p d ks)).symm).trans i2.symm
    cases r1 <;> cases r2 <;> simp_all
  subst hr
  refine ⟨!r1, ?_, ?_⟩
  · unfold spec_IsSafeMix.f
    refine Ev.bind (pcs1 p hl n a s u v) ?_
    rw [hk]
    have key : ∀ (c i : Nat) (acc : List (List Int)), i + c = ks.length → acc.length ≤ i → acc ++ rowsT p d (ks.drop i) = rowsT p d ks → Ev (fun k => spec_IsSafeMix.l0 k d acc ks (i : Int) n a s p) (!r1) := by
      intro c
      induction c with
      | zero =>
        intro i acc hi ha hacc
        refine Ev.step (fun k => by rw [spec_IsSafeMix.l0]) ?_
        repeat (first | (with_reducible refine Ev.ite_pos (by omega) ?_) | (with_reducible refine Ev.ite_neg (by omega) ?_))
        rw [List.drop_of_length_le (by omega), show rowsT p d [] = [] from rfl, List.append_nil] at hacc
        rw [hacc]
        exact Ev.bind e1 (Ev.now _)
      | succ c ih =>
        intro i acc hi ha hacc
        refine Ev.step (fun k => by rw [spec_IsSafeMix.l0]) ?_
        repeat (first | (with_reducible refine Ev.ite_pos (by omega) ?_) | (with_reducible refine Ev.ite_neg (by omega) ?_))
        rw [drop_getD (by omega : i < ks.length) 0] at hacc
        rw [rd_nat, w64n (by omega)]
        refine Ev.bind0 (table1 p hp n a s (ks.getD i 0) d) ?_
        by_cases hok : okT p (ks.getD i 0) d
        · have ht : (tableIn p (ks.getD i 0) d).2.2.2 = true := by unfold tableIn; rw [if_pos hok]
          refine Ev.ite_pos ht ?_
          repeat (first | (with_reducible refine Ev.ite_pos (by omega) ?_) | (with_reducible refine Ev.ite_neg (by omega) ?_))
          refine ih (i + 1) _ (by omega) (by simp; omega) ?_
          rw [← hacc, List.append_assoc]
          congr 1
          unfold rowsT
          rw [List.filter_cons_of_pos (by simpa using hok)]
          rfl
        · have ht : (tableIn p (ks.getD i 0) d).2.2.2 = false := by unfold tableIn; rw [if_neg hok]
          refine Ev.ite_neg (by rw [ht]; simp) ?_
          refine ih (i + 1) _ (by omega) (by omega) ?_
          rw [← hacc]
          congr 1
          unfold rowsT
          rw [List.filter_cons_of_neg (by simpa using hok)]
    exact key ks.length 0 [] (by omega) (by simp) (by simp)
  · unfold impl_IsSafeMix.f
    refine Ev.bind (pcs2 p hl n a s u v) ?_
    rw [hk]
    have key : ∀ (c i : Nat) (acc : List (List Int)), i + c = ks.length → acc.length ≤ i → acc ++ rowsA p d (ks.drop i) = rowsA p d ks → Ev (fun k => impl_IsSafeMix.l0 k d acc ks (ks.length : Int) (i : Int) n a s p) (!r1) := by
      intro c
      induction c with
      | zero =>
        intro i acc hi ha hacc
        refine Ev.step (fun k => by rw [impl_IsSafeMix.l0]) ?_
        repeat (first | (with_reducible refine Ev.ite_pos (by omega) ?_) | (with_reducible refine Ev.ite_neg (by omega) ?_))
        rw [List.drop_of_length_le (by omega), show rowsA p d [] = [] from rfl, List.append_nil] at hacc
        rw [hacc]
        exact Ev.bind e2 (Ev.now _)
      | succ c ih =>
        intro i acc hi ha hacc
        refine Ev.step (fun k => by rw [impl_IsSafeMix.l0]) ?_
        repeat (first | (with_reducible refine Ev.ite_pos (by omega) ?_) | (with_reducible refine Ev.ite_neg (by omega) ?_))
        rw [drop_getD (by omega : i < ks.length) 0] at hacc
        rw [rd_nat, w64n (by omega)]
        refine Ev.bind0 (table2 p hp n a s (ks.getD i 0) d) ?_
        repeat (first | (with_reducible refine Ev.ite_pos (by omega) ?_) | (with_reducible refine Ev.ite_neg (by omega) ?_))
        refine ih (i + 1) _ (by omega) (by simp; omega) ?_
        rw [← hacc, List.append_assoc]
        rfl
    exact key ks.length 0 [] (by omega) (by simp) (by simp)
noncomputable def mixB (p : List S106) (hp : nPgI p ≤ 1048576) (n a s d u v : Int) : Bool := Classical.choose (mix p hp n a s d u v)
theorem mix1 (p : List S106) (hp : nPgI p ≤ 1048576) (n a s d u v : Int) : Ev (fun k => spec_IsSafeMix.f k n a s p d u v) (mixB p hp n a s d u v) := (Classical.choose_spec (mix p hp n a s d u v)).1
theorem mix2 (p : List S106) (hp : nPgI p ≤ 1048576) (n a s d u v : Int) : Ev (fun k => impl_IsSafeMix.f k n a s p d u v) (mixB p hp n a s d u v) := (Classical.choose_spec (mix p hp n a s d u v)).2
end Go.Proofs.Ytlakjlolahjphaa.fnExactNextsAt
/- The piece of a tick, in the program and in the reference. Conditions: none. -/
namespace Go.Proofs.Ytlakjlolahjphaa.fnExactNextsAt
open Go.RowKit Go.Proofs.YtlakjlolahjphaaW.PrintWords Go.Proofs.YtlakjlolahjphaaW.PrintMore Go.Proofs.Ytlakjlolahjphaa.QFnExactNextsAt Go.Proofs.Ytlakjlolahjphaa.Open Go.Proofs.Ytlakjlolahjphaa.Kit
theorem same_In (a b t : Int) : spec_InSpan.f a b t = impl_InSpan.f a b t := by
  unfold spec_InSpan.f impl_InSpan.f spec_IsSpan.f impl_IsSpan.f
  rfl
theorem piece1 (p : List S106) (hl : p.length ≤ 1048576) (n a s t : Int) : Ev (fun k => spec_PieceAt.f k n a s p t) (impl_PieceAt.go t p 0) := by
  have key : ∀ d i : Nat, i + d = p.length → Ev (fun k => spec_PieceAt.l0 k t (i : Int) n a s p) (impl_PieceAt.go t (p.drop i) i) := by
    intro d
    induction d with
    | zero =>
      intro i hi
      refine Ev.step (fun k => by rw [spec_PieceAt.l0]) ?_
      repeat (first | (with_reducible refine Ev.ite_pos (by omega) ?_) | (with_reducible refine Ev.ite_neg (by omega) ?_))
      refine Ev.some ?_
      rw [List.drop_of_length_le (by omega), impl_PieceAt.go]
    | succ d ih =>
      intro i hi
      have h1 := ih (i + 1) (by omega)
      refine Ev.step (fun k => by rw [spec_PieceAt.l0]) ?_
      repeat (first | (with_reducible refine Ev.ite_pos (by omega) ?_) | (with_reducible refine Ev.ite_neg (by omega) ?_))
      rw [drop_getD (by omega : i < p.length) z106, show rd_T106 p (i : Int) = p.getD i z106 from rfl, w64n (by omega), same_In, impl_PieceAt.go]
      obtain ⟨q, hq⟩ := impl_PieceAt.tot (p.getD i z106).f0.f0 (p.getD i z106).f0.f1 t
      refine Ev.bind0 hq ?_
      cases q with
      | true =>
        rw [if_pos (by unfold impl_PieceAt.hit; rw [hq]; rfl)]
        exact Ev.ite_pos rfl (Ev.now _)
      | false =>
        rw [if_neg (by unfold impl_PieceAt.hit; rw [hq]; decide)]
        exact Ev.ite_neg (by simp) h1
  exact key p.length 0 (by omega)
theorem piece2 (p : List S106) (hl : p.length ≤ 1048576) (n a s t : Int) : impl_PieceAt.f n a s p t = some (impl_PieceAt.go t p 0) := by
  unfold impl_PieceAt.f
  rw [if_pos (by omega)]
end Go.Proofs.Ytlakjlolahjphaa.fnExactNextsAt
/- The next node at a tick, in the program and in the reference. Conditions: none. -/
namespace Go.Proofs.Ytlakjlolahjphaa.fnExactNextsAt
open Go.RowKit Go.Proofs.YtlakjlolahjphaaW.PrintWords Go.Proofs.YtlakjlolahjphaaW.PrintMore Go.Proofs.Ytlakjlolahjphaa.QFnExactNextsAt Go.Proofs.Ytlakjlolahjphaa.Open Go.Proofs.Ytlakjlolahjphaa.Kit
theorem in2 (a b c : Int) : impl_InRange.f a b c = some (decide (b ≤ a ∧ a ≤ c)) := by
  unfold impl_InRange.f
  by_cases h : b ≤ a <;> simp [h]
/-- The element of a node in the table of a piece, and whether there is one. -/
def nx (p : List S106) (k d node : Int) : Int × Bool := if okT p k d ∧ 0 ≤ node ∧ node < ((tab p k d).f2.length : Int) then (rd (tab p k d).f2 node, true) else (-1, false)
theorem next1 (p : List S106) (hp : nPgI p ≤ 1048576) (n a s node d t : Int) : Ev (fun k => spec_l19Next.f k n a s p node d t) (nx p (impl_PieceAt.go t p 0) d node).1 := by
  have hl : p.length ≤ 1048576 := by unfold nPgI at hp; omega
  unfold spec_l19Next.f
  refine Ev.bind (piece1 p hl n a s t) ?_
  generalize impl_PieceAt.go t p 0 = k
  refine Ev.bind0 (table1 p hp n a s k d) (Ev.eq ?_)
  unfold nx
  by_cases hok : okT p k d
  · have htl := (tab_len hp hok).2.2
    have e : tableIn p k d = ((tab p k d).f0, (tab p k d).f1, (tab p k d).f2, true) := if_pos hok
    rw [e]
    show (if true = true then (spec_l1In.f node 0 (wrap64 (((tab p k d).f2.length : Int) - 1))).bind (fun t => if t = true then (if 0 ≤ node then (if node < ((tab p k d).f2.length : Int) then some (rd (tab p k d).f2 node) else none) else none) else some (-1)) else some (-1)) = _
    rw [if_pos rfl, in1, Option.bind_some, w64 (x := ((tab p k d).f2.length : Int) - 1) (by omega) (by omega)]
    by_cases h : 0 ≤ node ∧ node < ((tab p k d).f2.length : Int)
    · rw [if_pos (decide_eq_true (show 0 ≤ node ∧ node ≤ ((tab p k d).f2.length : Int) - 1 by omega)), if_pos h.1, if_pos h.2, if_pos ⟨hok, h⟩]
    · rw [if_neg (by rw [decide_eq_false (show ¬ (0 ≤ node ∧ node ≤ ((tab p k d).f2.length : Int) - 1) by omega)]; decide), if_neg (fun h2 => h h2.2)]
  · have e : tableIn p k d = (0, [], [], false) := if_neg hok
    rw [e]
    show (if false = true then _ else some (-1)) = _
    rw [if_neg (by decide), if_neg (fun h2 => hok h2.1)]
theorem next2 (p : List S106) (hp : nPgI p ≤ 1048576) (n a s k d node : Int) : impl_nextIn.f n a s p k d node = some (nx p k d node) := by
  unfold impl_nextIn.f
  rw [table2 p hp n a s k d, Option.bind_some]
  unfold nx
  by_cases hok : okT p k d
  · have e : tableIn p k d = ((tab p k d).f0, (tab p k d).f1, (tab p k d).f2, true) := if_pos hok
    rw [e]
    show (if true = true then (impl_isIndex.f node ((tab p k d).f2.length : Int)).bind (fun t => if t = true then (if 0 ≤ node then (if node < ((tab p k d).f2.length : Int) then some (rd (tab p k d).f2 node, true) else none) else none) else some (-1, false)) else some (-1, false)) = _
    rw [if_pos rfl, isIx, Option.bind_some]
    by_cases h : 0 ≤ node ∧ node < ((tab p k d).f2.length : Int)
    · rw [if_pos (decide_eq_true h), if_pos h.1, if_pos h.2, if_pos ⟨hok, h⟩]
    · rw [if_neg (by rw [decide_eq_false h]; decide), if_neg (fun h2 => h h2.2)]
  · have e : tableIn p k d = (0, [], [], false) := if_neg hok
    rw [e]
    show (if false = true then _ else some (-1, false)) = _
    rw [if_neg (by decide), if_neg (fun h2 => hok h2.1)]
noncomputable def hop (p : List S106) (hp : nPgI p ≤ 1048576) (n a s node d t : Int) : Int := if ((0 ≤ s ∧ s ≤ 5) ∧ (0 ≤ t ∧ t ≤ 1000)) ∧ mixB p hp n a s d (wrap64 (t - wrap64 (2 * s))) (wrap64 (t + wrap64 (2 * s))) = true then (nx p (impl_PieceAt.go t p 0) d node).1 else -1
theorem hop1 (p : List S106) (hp : nPgI p ≤ 1048576) (n a s node d t : Int) : Ev (fun k => spec_HopAt.f k n a s p node d t) (hop p hp n a s node d t) := by
  unfold spec_HopAt.f hop
  refine Ev.bind0 (in1 s 0 5) ?_
  by_cases h1 : 0 ≤ s ∧ s ≤ 5
  · refine Ev.ite_pos (decide_eq_true h1) (Ev.bind0 (in1 t 0 1000) ?_)
    by_cases h2 : 0 ≤ t ∧ t ≤ 1000
    · refine Ev.ite_pos (decide_eq_true h2) (Ev.bind (mix1 p hp n a s d _ _) ?_)
      by_cases h3 : mixB p hp n a s d (wrap64 (t - wrap64 (2 * s))) (wrap64 (t + wrap64 (2 * s))) = true
      · rw [if_pos ⟨⟨h1, h2⟩, h3⟩]
        exact Ev.ite_pos h3 (Ev.bind (next1 p hp n a s node d t) (Ev.now _))
      · rw [if_neg (fun h => h3 h.2)]
        exact Ev.ite_neg h3 (Ev.now _)
    · rw [if_neg (fun h => h2 h.1.2)]
      exact Ev.ite_neg (by rw [decide_eq_false h2]; decide) (Ev.now _)
  · rw [if_neg (fun h => h1 h.1.1)]
    exact Ev.ite_neg (by rw [decide_eq_false h1]; decide) (Ev.now _)
theorem skewed (p : List S106) (n a s t : Int) : impl_isSkewed.f n a s p t = some (decide ((0 ≤ s ∧ s ≤ 5) ∧ (0 ≤ t ∧ t ≤ 1000))) := by
  unfold impl_isSkewed.f
  rw [in2, in2]
  by_cases h1 : 0 ≤ s ∧ s ≤ 5 <;> simp [h1]
theorem hop2 (p : List S106) (hp : nPgI p ≤ 1048576) (n a s node d t : Int) : Ev (fun k => impl_HopAt.f k n a s p node d t) (hop p hp n a s node d t) := by
  have hl : p.length ≤ 1048576 := by unfold nPgI at hp; omega
  unfold impl_HopAt.f hop
  refine Ev.bind0 (piece2 p hl n a s t) ?_
  generalize impl_PieceAt.go t p 0 = k
  refine Ev.bind0 (next2 p hp n a s k d node) ?_
  have hno : (nx p k d node).2 = false → (nx p k d node).1 = -1 := by
    unfold nx
    intro h
    by_cases hc : okT p k d ∧ 0 ≤ node ∧ node < ((tab p k d).f2.length : Int)
    · rw [if_pos hc] at h
      cases h
    · rw [if_neg hc]
  cases h0 : (nx p k d node).2 with
  | false =>
    have h1 := hno h0
    refine Ev.ite_neg (by decide) (Ev.some ?_)
    rw [h1, ite_self]
  | true =>
    refine Ev.ite_pos rfl (Ev.bind0 (skewed p n a s t) ?_)
    by_cases h2 : (0 ≤ s ∧ s ≤ 5) ∧ (0 ≤ t ∧ t ≤ 1000)
    · refine Ev.ite_pos (decide_eq_true h2) (Ev.bind (mix2 p hp n a s d _ _) ?_)
      by_cases h3 : mixB p hp n a s d (wrap64 (t - wrap64 (2 * s))) (wrap64 (t + wrap64 (2 * s))) = true
      · refine Ev.ite_pos h3 (Ev.some ?_)
        rw [if_pos ⟨h2, h3⟩]
      · refine Ev.ite_neg h3 (Ev.some ?_)
        rw [if_neg (fun h => h3 h.2)]
    · rw [if_neg (fun h => h2 h.1)]
      exact Ev.ite_neg (by rw [decide_eq_false h2]; decide) (Ev.now _)
end Go.Proofs.Ytlakjlolahjphaa.fnExactNextsAt
/- Offsets for all nodes, in the program and in the reference. Conditions: none. -/
namespace Go.Proofs.Ytlakjlolahjphaa.fnExactNextsAt
open Go.RowKit Go.Proofs.YtlakjlolahjphaaW.PrintWords Go.Proofs.YtlakjlolahjphaaW.PrintMore Go.Proofs.Ytlakjlolahjphaa.QFnExactNextsAt Go.Proofs.Ytlakjlolahjphaa.Open Go.Proofs.Ytlakjlolahjphaa.Kit
/-- An offset within the skew. -/
def okO (s x : Int) : Bool := decide (0 ≤ s ∧ s ≤ 5) && decide (wrap64 (-s) ≤ x ∧ x ≤ s)
theorem off1 (l : List Int) (hl : l.length ≤ 1048576) (n a s : Int) (p : List S106) : Ev (fun k => spec_AreOffsets.f k n a s p l) (l.all (okO s) && ((l.length : Int) == n)) := by
  have key : ∀ d i : Nat, i + d = l.length → Ev (fun k => spec_AreOffsets.l0 k l (i : Int) n a s p) ((l.drop i).all (okO s) && ((l.length : Int) == n)) := by
    intro d
    induction d with
    | zero =>
      intro i hi
      refine Ev.step (fun k => by rw [spec_AreOffsets.l0]) ?_
      repeat (first | (with_reducible refine Ev.ite_pos (by omega) ?_) | (with_reducible refine Ev.ite_neg (by omega) ?_))
      refine Ev.some ?_
      rw [List.drop_of_length_le (by omega)]
      simp
    | succ d ih =>
      intro i hi
      have h1 := ih (i + 1) (by omega)
      refine Ev.step (fun k => by rw [spec_AreOffsets.l0]) ?_
      repeat (first | (with_reducible refine Ev.ite_pos (by omega) ?_) | (with_reducible refine Ev.ite_neg (by omega) ?_))
      rw [drop_getD (by omega : i < l.length) 0, List.all_cons, rd_nat, w64n (by omega)]
      refine Ev.bind0 (in1 s 0 5) ?_
      rw [show okO s (l.getD i 0) = (decide (0 ≤ s ∧ s ≤ 5) && decide (wrap64 (-s) ≤ l.getD i 0 ∧ l.getD i 0 ≤ s)) from rfl]
      by_cases h2 : 0 ≤ s ∧ s ≤ 5
      · refine Ev.ite_pos (by simpa using h2) ?_
        repeat (first | (with_reducible refine Ev.ite_pos (by omega) ?_) | (with_reducible refine Ev.ite_neg (by omega) ?_))
        refine Ev.bind0 (in1 _ _ _) ?_
        by_cases h3 : wrap64 (-s) ≤ l.getD i 0 ∧ l.getD i 0 ≤ s
        · refine Ev.ite_pos (by simpa using h3) ?_
          rw [decide_eq_true h2, decide_eq_true h3, Bool.true_and, Bool.true_and]
          exact h1
        · refine Ev.ite_neg (by simpa using h3) (Ev.some ?_)
          rw [decide_eq_false h3, Bool.and_false, Bool.false_and, Bool.false_and]
      · refine Ev.ite_neg (by simpa using h2) (Ev.some ?_)
        rw [decide_eq_false h2, Bool.false_and, Bool.false_and, Bool.false_and]
  exact key l.length 0 (by omega)
theorem off2 (l : List Int) (hl : l.length ≤ 1048576) (n a s : Int) (p : List S106) : Ev (fun k => impl_AreOffsets.f k n a s p l) (l.all (okO s) && ((l.length : Int) == n)) := by
  unfold impl_AreOffsets.f
  by_cases hn : (l.length : Int) = n
  · refine Ev.ite_pos hn ?_
    rw [show (((l.length : Int) == n) : Bool) = true by simpa using hn, Bool.and_true]
    have key : ∀ d i : Nat, i + d = l.length → Ev (fun k => impl_AreOffsets.l0 k l (l.length : Int) (i : Int) n a s p) ((l.drop i).all (okO s)) := by
      intro d
      induction d with
      | zero =>
        intro i hi
        refine Ev.step (fun k => by rw [impl_AreOffsets.l0]) ?_
        repeat (first | (with_reducible refine Ev.ite_pos (by omega) ?_) | (with_reducible refine Ev.ite_neg (by omega) ?_))
        refine Ev.some ?_
        rw [List.drop_of_length_le (by omega)]
        simp
      | succ d ih =>
        intro i hi
        have h1 := ih (i + 1) (by omega)
        refine Ev.step (fun k => by rw [impl_AreOffsets.l0]) ?_
        repeat (first | (with_reducible refine Ev.ite_pos (by omega) ?_) | (with_reducible refine Ev.ite_neg (by omega) ?_))
        rw [drop_getD (by omega : i < l.length) 0, List.all_cons, rd_nat, w64n (by omega)]
        refine Ev.bind0 (in2 s 0 5) ?_
        rw [show okO s (l.getD i 0) = (decide (0 ≤ s ∧ s ≤ 5) && decide (wrap64 (-s) ≤ l.getD i 0 ∧ l.getD i 0 ≤ s)) from rfl]
        by_cases h2 : 0 ≤ s ∧ s ≤ 5
        · refine Ev.ite_pos (by simpa using h2) ?_
          refine Ev.bind0 (in2 _ _ _) ?_
          by_cases h3 : wrap64 (-s) ≤ l.getD i 0 ∧ l.getD i 0 ≤ s
          · refine Ev.ite_pos (by simpa using h3) ?_
            rw [decide_eq_true h2, decide_eq_true h3, Bool.true_and, Bool.true_and]
            exact h1
          · refine Ev.ite_neg (by simpa using h3) (Ev.some ?_)
            rw [decide_eq_false h3, Bool.and_false, Bool.false_and]
        · refine Ev.ite_neg (by simpa using h2) (Ev.some ?_)
          rw [decide_eq_false h2, Bool.false_and, Bool.false_and]
    exact key l.length 0 (by omega)
  · refine Ev.ite_neg hn (Ev.some ?_)
    rw [show (((l.length : Int) == n) : Bool) = false by simpa using hn, Bool.and_false]
end Go.Proofs.Ytlakjlolahjphaa.fnExactNextsAt
/- The next nodes of all nodes at a tick, in the program and in the reference. Conditions: none. -/
namespace Go.Proofs.Ytlakjlolahjphaa.fnExactNextsAt
open Go.RowKit Go.Proofs.YtlakjlolahjphaaW.PrintWords Go.Proofs.YtlakjlolahjphaaW.PrintMore Go.Proofs.Ytlakjlolahjphaa.QFnExactNextsAt Go.Proofs.Ytlakjlolahjphaa.Open Go.Proofs.Ytlakjlolahjphaa.Kit
section
variable (p : List S106) (hp : nPgI p ≤ 1048576) (n a s d t : Int) (l : List Int)
/-- m and the next nodes of c nodes from i on. -/
noncomputable def nexts : Nat → Nat → List Int → List Int
  | 0, _, m => m
  | c + 1, i, m => nexts c (i + 1) (m ++ [hop p hp n a s (i : Int) d (wrap64 (t + l.getD i 0))])
theorem nexts_len : ∀ (c i : Nat) (m : List Int), (nexts p hp n a s d t l c i m).length = m.length + c
  | 0, _, _ => rfl
  | c + 1, i, m => by rw [nexts, nexts_len c (i + 1), List.length_append, List.length_singleton]; omega
noncomputable def nextsAt : List Int := if (l.all (okO s) && ((l.length : Int) == n)) = true ∧ 0 ≤ t ∧ t ≤ 1000 then nexts p hp n a s d t l l.length 0 [] else []
theorem nextsAt_len : (nextsAt p hp n a s d t l).length ≤ l.length := by
  unfold nextsAt
  split
  · rw [nexts_len]; simp
  · simp
end
theorem nextsS (p : List S106) (hp : nPgI p ≤ 1048576) (n a s d t : Int) (l : List Int) (hl : l.length ≤ 1048576) : ∀ (c i : Nat) (m : List Int), i + c = l.length → m.length = i → Ev (fun k => spec_NextsAt.l0 k d t l m (i : Int) n a s p) (nexts p hp n a s d t l c i m) := by
  intro c
  induction c with
  | zero =>
    intro i m hi hm
    refine Ev.step (fun k => by rw [spec_NextsAt.l0]) ?_
    repeat (first | (with_reducible refine Ev.ite_pos (by omega) ?_) | (with_reducible refine Ev.ite_neg (by omega) ?_))
    exact Ev.now _
  | succ c ih =>
    intro i m hi hm
    rw [nexts]
    refine Ev.step (fun k => by rw [spec_NextsAt.l0]) ?_
    refine Ev.ite_pos (by omega) (Ev.ite_pos (by omega) ?_)
    rw [rd_nat, w64n (by omega)]
    refine Ev.bind (hop1 p hp n a s (i : Int) d _) ?_
    refine Ev.ite_pos (by omega) (ih (i + 1) _ (by omega) (by rw [List.length_append, List.length_singleton, hm]))
theorem nextsI (p : List S106) (hp : nPgI p ≤ 1048576) (n a s d t : Int) (l : List Int) (hl : l.length ≤ 1048576) : ∀ (c i : Nat) (m : List Int), i + c = l.length → m.length = i → Ev (fun k => impl_NextsAt.l0 k d t m l (l.length : Int) (i : Int) n a s p) (nexts p hp n a s d t l c i m) := by
  intro c
  induction c with
  | zero =>
    intro i m hi hm
    refine Ev.step (fun k => by rw [impl_NextsAt.l0]) ?_
    repeat (first | (with_reducible refine Ev.ite_pos (by omega) ?_) | (with_reducible refine Ev.ite_neg (by omega) ?_))
    exact Ev.now _
  | succ c ih =>
    intro i m hi hm
    rw [nexts]
    refine Ev.step (fun k => by rw [impl_NextsAt.l0]) ?_
    refine Ev.ite_pos (by omega) (Ev.ite_pos (by omega) (Ev.ite_pos (by omega) ?_))
    rw [rd_nat, w64n (by omega)]
    refine Ev.bind (hop2 p hp n a s (i : Int) d _) ?_
    refine Ev.ite_pos (by omega) (ih (i + 1) _ (by omega) (by rw [List.length_append, List.length_singleton, hm]))
theorem nexts1 (p : List S106) (hp : nPgI p ≤ 1048576) (n a s d t : Int) (l : List Int) (hl : l.length ≤ 1048576) : Ev (fun k => spec_NextsAt.f k n a s p d t l) (nextsAt p hp n a s d t l) := by
  unfold spec_NextsAt.f nextsAt
  refine Ev.bind0 rfl ?_
  have hz : Ev (fun k => spec_NextsAt.j0 k d t l [] true n a s p) [] := by
    refine Ev.step (fun k => by rw [spec_NextsAt.j0]) ?_
    exact Ev.ite_pos rfl (Ev.now _)
  refine Ev.bind (off1 l hl n a s p) ?_
  cases ho : (l.all (okO s) && ((l.length : Int) == n)) with
  | false =>
    rw [if_neg (by simp)]
    exact Ev.ite_neg (by simp) hz
  | true =>
    refine Ev.ite_pos rfl (Ev.bind0 (in1 t 0 1000) ?_)
    by_cases h : 0 ≤ t ∧ t ≤ 1000
    · rw [if_pos ⟨rfl, h⟩, decide_eq_true h]
      refine Ev.step (fun k => by rw [spec_NextsAt.j0]) ?_
      refine Ev.ite_neg (by simp) ?_
      exact nextsS p hp n a s d t l hl l.length 0 [] (by omega) rfl
    · rw [if_neg (fun h2 => h h2.2), decide_eq_false h]
      exact hz
theorem nexts2 (p : List S106) (hp : nPgI p ≤ 1048576) (n a s d t : Int) (l : List Int) (hl : l.length ≤ 1048576) : Ev (fun k => impl_NextsAt.f k n a s p d t l) (nextsAt p hp n a s d t l) := by
  unfold impl_NextsAt.f nextsAt
  refine Ev.bind0 rfl ?_
  have hm : Ev (fun k => impl_isMoment.f k n a s p t l) ((l.all (okO s) && ((l.length : Int) == n)) && decide (0 ≤ t ∧ t ≤ 1000)) := by
    unfold impl_isMoment.f
    refine Ev.bind (off2 l hl n a s p) ?_
    cases ho : (l.all (okO s) && ((l.length : Int) == n)) with
    | false => exact Ev.ite_neg (by simp) (Ev.now _)
    | true => exact Ev.ite_pos rfl (Ev.bind0 (in2 t 0 1000) (Ev.now _))
  refine Ev.bind hm ?_
  by_cases h : (l.all (okO s) && ((l.length : Int) == n)) = true ∧ 0 ≤ t ∧ t ≤ 1000
  · rw [if_pos h, h.1, decide_eq_true h.2]
    exact Ev.ite_pos rfl (nextsI p hp n a s d t l hl l.length 0 [] (by omega) rfl)
  · rw [if_neg h]
    refine Ev.ite_neg (fun h2 => h ?_) (Ev.now _)
    rw [Bool.and_eq_true] at h2
    exact ⟨h2.1, of_decide_eq_true h2.2⟩
end Go.Proofs.Ytlakjlolahjphaa.fnExactNextsAt
/- What a program's marks come to. Conditions: none. -/
namespace Go.Proofs.Ytlakjlolahjphaa.fnExactNextsAt
open Go.RowKit Go.Proofs.YtlakjlolahjphaaW.PrintWords Go.Proofs.YtlakjlolahjphaaW.PrintMore Go.Proofs.Ytlakjlolahjphaa.QFnExactNextsAt Go.Proofs.Ytlakjlolahjphaa.Open Go.Proofs.Ytlakjlolahjphaa.Kit
theorem sumT_le (l : List S65) : Mk.sumT (l.map fun t => (t.f1.length, t.f2.length)) = l.length + (l.map n65).sum := by
  unfold Mk.sumT
  rw [List.map_map]
  induction l with
  | nil => rfl
  | cons t l ih =>
    rw [List.map_cons, List.sum_cons, ih, List.map_cons, List.sum_cons, List.length_cons]
    have h3 : n65 t = t.f1.length + t.f2.length := rfl
    rw [h3]
    simp only [Function.comp]
    omega
theorem sumP_le (l : List S106) : Mk.sumP (laws_markProgram.cnt l) ≤ 2 * (l.length + (l.map n106).sum) := by
  unfold Mk.sumP laws_markProgram.cnt
  rw [List.map_map]
  induction l with
  | nil => simp
  | cons x l ih =>
    rw [List.map_cons, List.sum_cons, List.map_cons, List.sum_cons, List.length_cons]
    have h0 : n106 x = x.f1.length + (x.f2.length + (x.f2.map n65).sum) := rfl
    rw [h0]
    simp only [Function.comp]
    rw [sumT_le]
    omega
theorem mark_Program (a0 a1 a2 : Int) (l : List S106) (a : Int) (hn : (l.length + (l.map n106).sum) ≤ 1048576) (h0 : 0 ≤ a) (h1 : a ≤ 1000000000) : ∃ r : Int, laws_markProgram.f a0 a1 a2 l a = some r ∧ a ≤ r ∧ r ≤ a + 2097152 := by
  have h := sumP_le l
  refine ⟨_, rfl, ?_, ?_⟩ <;> rw [Mk.bump_num h0 (by omega)] <;> omega
end Go.Proofs.Ytlakjlolahjphaa.fnExactNextsAt
namespace Go.Proofs.Ytlakjlolahjphaa.fnExactNextsAt
open Go.RowKit Go.Proofs.YtlakjlolahjphaaW.PrintWords Go.Proofs.YtlakjlolahjphaaW.PrintMore Go.Proofs.Ytlakjlolahjphaa.QFnExactNextsAt Go.Proofs.Ytlakjlolahjphaa.Open Go.Proofs.Ytlakjlolahjphaa.Kit
theorem pure : PureFnExactNextsAt := by
  intro n f s p d t l _ _ _ hp _ _ hl
  have hb : p.length ≤ 140737488351232 ∧ (∀ y ∈ p, b139 y) := ⟨Len.le hp.1 (by omega), fun y hy => bPiece (hp.2 y hy)⟩
  refine Ev.rounds (r := true) ?_
  unfold laws_FnExactNextsAt.f
  by_cases hc : (l.length : Int) > 1048576
  · exact Ev.ite_pos hc (Ev.now _)
  refine Ev.ite_neg hc ?_
  have hll : l.length ≤ 1048576 := by omega
  refine Ev.bind (sz_Program n f s p 1048576 hb (by omega) (by omega)) ?_
  by_cases hn : ((nPg p : Nat) : Int) ≤ 1048576
  · have hs : szOf 1048576 (p.length + (p.map n139).sum) = 1048576 - ((nPg p : Nat) : Int) := by unfold szOf nPg; rw [if_pos (by exact hn)]
    rw [hs]
    have hq : nPg p ≤ 1048576 := by omega
    have hqi : nPgI (p.map cPiece) ≤ 1048576 := by rw [nPgI_c]; exact hq
    have hqj := hqi
    unfold nPg at hq
    unfold nPgI at hqj
    have hlen := nextsAt_len (p.map cPiece) hqi n f s d t l
    refine Ev.ite_neg (by omega) ?_
    refine Ev.bind (to_Program n f s p hq) ?_
    refine Ev.bind (to_IntS l hll) ?_
    refine Ev.bind (nexts1 _ hqi n f s d t l hll) ?_
    refine Ev.bind (to_Program n f s p hq) ?_
    refine Ev.bind (to_IntS l hll) ?_
    refine Ev.bind (nexts2 _ hqi n f s d t l hll) ?_
    refine Ev.bind (eq_IntS _ (by omega)) ?_
    refine Ev.ite_pos rfl ?_
    refine Ev.bind (to_Program n f s p hq) ?_
    refine Ev.bind (eq_Program n f s _ hqj) ?_
    refine Ev.ite_pos rfl ?_
    refine Ev.bind (to_IntS l hll) ?_
    refine Ev.bind (eq_IntS _ (by omega)) ?_
    refine Ev.ite_pos rfl ?_
    obtain ⟨r, hr, hr0, hr1⟩ := mark_Program n f s (p.map cPiece) 1 hqj (by omega) (by omega)
    refine Ev.bind0 hr ?_
    refine Ev.bind (mark_IntS l r (by omega) (by omega) (by omega)) ?_
    refine Ev.ite_neg (by simp only []; omega) ?_
    refine Ev.bind (eq_IntS _ (by omega)) ?_
    refine Ev.step (fun k => by rw [laws_FnExactNextsAt.j0]) ?_
    refine Ev.ite_neg (by simp) ?_
    have hh := held_IntS (nextsAt (p.map cPiece) hqi n f s d t l).length 1 (by omega) (by omega) (by omega)
    refine Ev.bind (mark_IntS _ 1 (by omega) (by omega) (by omega)) ?_
    refine Ev.bind hh ?_
    refine Ev.ite_neg (by omega) ?_
    refine Ev.ite_pos rfl ?_
    refine Ev.bind (to_Program n f s p hq) ?_
    refine Ev.bind (to_IntS l hll) ?_
    refine Ev.bind (nexts2 _ hqi n f s d t l hll) ?_
    refine Ev.bind (eq_IntS _ (by omega)) ?_
    refine Ev.ite_pos rfl ?_
    refine Ev.bind hh ?_
    refine Ev.ite_neg (by omega) ?_
    exact Ev.ite_pos rfl (Ev.now _)
  · have hs : szOf 1048576 (p.length + (p.map n139).sum) = -1 := by unfold szOf; rw [if_neg (by exact hn)]
    rw [hs]
    exact Ev.ite_pos (by omega) (Ev.now _)
end Go.Proofs.Ytlakjlolahjphaa.fnExactNextsAt
namespace Go.Proofs.Ytlakjlolahjphaa
theorem fnExactNextsAt_holds : Rows.FnExactNextsAtSaid := fnExactNextsAt.row fnExactNextsAt.pure
end Go.Proofs.Ytlakjlolahjphaa
