/- FnExactUseSpans: the program and the reference agree on the spans in which a link may be used. Conditions: none. -/
import Derived.Test.YtlakjlolahjphaaWMore
import Derived.Test.YtlakjlolahjphaaOpen
import Derived.Test.YtlakjlolahjphaaQFnExactUseSpansx
import Derived.Test.YtlakjlolahjphaaRowFnExactUseSpans
import Derived.Test.YtlakjlolahjphaaMk
/- Small words on answers that come with enough rounds. Conditions: none. -/
namespace Go.Proofs.Ytlakjlolahjphaa.Kit
open Go.RowKit Go.Proofs.YtlakjlolahjphaaW.PrintWords Go.Proofs.YtlakjlolahjphaaW.PrintLast Go.Proofs.YtlakjlolahjphaaW.PrintMore Go.Proofs.Ytlakjlolahjphaa.Open

theorem Ev.ite_pos {α : Type} {c : Prop} [Decidable c] {f g : Nat → Option α} {r : α} (h : c) (k : Ev f r) : Ev (fun n => if c then f n else g n) r := by simpa only [if_pos h] using k
theorem Ev.ite_neg {α : Type} {c : Prop} [Decidable c] {f g : Nat → Option α} {r : α} (h : ¬ c) (k : Ev g r) : Ev (fun n => if c then f n else g n) r := by simpa only [if_neg h] using k
theorem Ev.bind0 {α β : Type} {o : Option α} {f : Nat → α → Option β} {a : α} {r : β} (h : o = some a) (k : Ev (fun n => f n a) r) : Ev (fun n => o.bind (f n)) r := by subst h; exact k
theorem Ev.some {α : Type} {r r' : α} (h : r' = r) : Ev (fun _ => some r') r := by subst h; exact Ev.now _
theorem Ev.eq {α : Type} {o : Option α} {r : α} (h : o = Option.some r) : Ev (fun _ => o) r := ⟨0, fun _ _ => h⟩
theorem Ev.uniq {α : Type} {g : Nat → Option α} {r r' : α} (h : Ev g r) (h' : Ev g r') : r = r' := by
  obtain ⟨K, h⟩ := h
  obtain ⟨K', h'⟩ := h'
  exact Option.some.inj ((h (max K K') (Nat.le_max_left _ _)).symm.trans (h' (max K K') (Nat.le_max_right _ _)))
theorem w64 {x : Int} (h0 : -9223372036854775808 ≤ x) (h1 : x ≤ 9223372036854775807) : wrap64 x = x := by
  unfold wrap64
  omega
theorem w64s {i : Int} {n : Nat} (h0 : 0 ≤ i) (h1 : i < (n : Int)) (hn : n ≤ 140737488351232) : wrap64 (i + 1) = i + 1 := w64 (by omega) (by omega)
theorem mx_def (a b : Int) : mx a b = max a b := by unfold mx; omega
theorem mn_def (a b : Int) : mn a b = min a b := by unfold mn; omega
theorem Len.le {B : Nat} {α : Type} {l : List α} (h : Len B l) (hB : 0 < B) : l.length ≤ 140737488351232 := by
  unfold Len at h
  exact Nat.le_trans (Nat.le_mul_of_pos_right _ hB) h
/-! ### loops that count up -/
/-- A loop from 0 to n with one answer: at each i the answer behind one round is the answer, and at n it is there. p: what holds at i. -/
theorem Ev.upIf {ρ : Type} {n : Nat} (p : Nat → Prop) {g : Nat → Nat → Option ρ} {r : ρ} (hs : ∀ i, i < n → p i → (p (i + 1) → Ev (g (i + 1)) r) → Ev (g i) r) (he : p n → Ev (g n) r) (h0 : p 0) : Ev (g 0) r := by
  have key : ∀ d i, i + d = n → p i → Ev (g i) r := by
    intro d
    induction d with
    | zero => intro i hi hp; obtain rfl : i = n := by omega
              exact he hp
    | succ d ih => intro i hi hp; exact hs i (by omega) hp (fun hp' => ih (i + 1) (by omega) hp')
  exact key n 0 (by omega) h0
theorem Ev.up {ρ : Type} {n : Nat} {g : Nat → Nat → Option ρ} {r : ρ} (hs : ∀ i, i < n → Ev (g (i + 1)) r → Ev (g i) r) (he : Ev (g n) r) : Ev (g 0) r :=
  Ev.upIf (fun _ => True) (fun i hi _ h => hs i hi (h trivial)) (fun _ => he) trivial
theorem w64n {i : Nat} (h : i ≤ 140737488351232) : wrap64 ((i : Int) + 1) = ((i + 1 : Nat) : Int) := by
  rw [w64 (by omega) (by omega)]
  omega
theorem rd_nat (xs : List Int) (i : Nat) : rd xs (i : Int) = xs.getD i 0 := rfl
theorem getD_at {α : Type} {xs : List α} {i : Nat} (h : i < xs.length) (z : α) : xs.getD i z = xs[i] := by simp [List.getD, h]
theorem getD_mem {α : Type} {xs : List α} {i : Nat} (h : i < xs.length) (z : α) : xs.getD i z ∈ xs := by rw [getD_at h]; exact List.getElem_mem h
theorem take_succ_getD {α : Type} {xs : List α} {i : Nat} (h : i < xs.length) (z : α) : xs.take (i + 1) = xs.take i ++ [xs.getD i z] := by
  rw [List.take_succ_eq_append_getElem h, getD_at h]
theorem drop_getD {α : Type} {xs : List α} {i : Nat} (h : i < xs.length) (z : α) : xs.drop i = xs.getD i z :: xs.drop (i + 1) := by
  rw [List.drop_eq_getElem_cons h, getD_at h]
/-- A row of zeros that is filled from the left. -/
def fillTo {α β : Type} (c : α → β) (z : β) (xs : List α) (i : Nat) : List β := (xs.take i).map c ++ List.replicate (xs.length - i) z
theorem fillTo_zero {α β : Type} (c : α → β) (z : β) (xs : List α) : fillTo c z xs 0 = List.replicate xs.length z := by simp [fillTo]
theorem fillTo_all {α β : Type} (c : α → β) (z : β) (xs : List α) : fillTo c z xs xs.length = xs.map c := by simp [fillTo]
theorem fillTo_length {α β : Type} (c : α → β) (z : β) (xs : List α) {i : Nat} (h : i ≤ xs.length) : (fillTo c z xs i).length = xs.length := by
  simp [fillTo]
  omega
theorem fillTo_set {α β : Type} (c : α → β) (z : β) (xs : List α) {i : Nat} (h : i < xs.length) (a : α) : (fillTo c z xs i).set i (c (xs.getD i a)) = fillTo c z xs (i + 1) := by
  have hl : ((xs.take i).map c).length = i := by simp; omega
  unfold fillTo
  rw [List.set_append_right _ _ (by omega), hl, Nat.sub_self, take_succ_getD h a, List.map_append, show xs.length - i = (xs.length - (i + 1)) + 1 by omega, List.replicate_succ]
  simp
/-- What the elements from the first up to i weigh. -/
def sumTo {α : Type} (f : α → Nat) (xs : List α) (i : Nat) : Nat := ((xs.take i).map f).sum
theorem sumTo_succ {α : Type} (f : α → Nat) {xs : List α} {i : Nat} (h : i < xs.length) (z : α) : sumTo f xs (i + 1) = sumTo f xs i + f (xs.getD i z) := by
  unfold sumTo
  rw [take_succ_getD h z]
  simp
theorem sumTo_all {α : Type} (f : α → Nat) (xs : List α) : sumTo f xs xs.length = (xs.map f).sum := by simp [sumTo]
theorem sumTo_le {α : Type} (f : α → Nat) (xs : List α) (i : Nat) : sumTo f xs i ≤ (xs.map f).sum := by
  unfold sumTo
  have h := congrArg List.sum (List.take_append_drop i (xs.map f))
  rw [List.sum_append, ← List.map_take] at h
  omega
theorem le_sum {α : Type} (f : α → Nat) {xs : List α} {x : α} (h : x ∈ xs) : f x ≤ (xs.map f).sum := by
  induction xs with
  | nil => cases h
  | cons y ys ih =>
    simp only [List.map_cons, List.sum_cons]
    rcases List.mem_cons.1 h with rfl | h
    · omega
    · have := ih h
      omega
/-- 'left' behind a value of the size n: -1 where it doesn't suffice. -/
def szOf (left : Int) (n : Nat) : Int := if (n : Int) ≤ left then left - n else -1
/-- A fold over the first i elements. -/
def foldTo {α σ : Type} (f : σ → α → σ) (s : σ) (xs : List α) (i : Nat) : σ := (xs.take i).foldl f s
theorem foldTo_zero {α σ : Type} (f : σ → α → σ) (s : σ) (xs : List α) : foldTo f s xs 0 = s := by simp [foldTo]
theorem foldTo_succ {α σ : Type} (f : σ → α → σ) (s : σ) {xs : List α} {i : Nat} (h : i < xs.length) (z : α) : foldTo f s xs (i + 1) = f (foldTo f s xs i) (xs.getD i z) := by
  unfold foldTo
  rw [take_succ_getD h z, List.foldl_append]
  rfl
theorem foldTo_all {α σ : Type} (f : σ → α → σ) (s : σ) (xs : List α) : foldTo f s xs xs.length = xs.foldl f s := by simp [foldTo]
/-! ### lists told by their index -/
theorem map_range_set {β : Type} (n : Nat) (f : Nat → β) (u : Nat) (v : β) : ((List.range n).map f).set u v = (List.range n).map (fun j => if j = u then v else f j) := by
  apply List.ext_getElem
  · simp
  · intro i h1 h2
    rw [List.getElem_set]
    by_cases h : u = i
    · rw [if_pos h]
      simp [h]
    · rw [if_neg h]
      simp [Ne.symm h]
theorem map_range_getD {β : Type} {n : Nat} (f : Nat → β) {u : Nat} (h : u < n) (z : β) : ((List.range n).map f).getD u z = f u := by
  rw [getD_at (by simpa using h)]
  simp
theorem map_range_congr {β : Type} {n : Nat} {f g : Nat → β} (h : ∀ i, i < n → f i = g i) : (List.range n).map f = (List.range n).map g :=
  List.map_congr_left fun i hi => h i (List.mem_range.1 hi)
/-- A loop that counts down from t + n - 1 to t. -/
theorem Ev.down {ρ : Type} {n : Nat} {g : Nat → Nat → Option ρ} {r : ρ} (hs : ∀ m, m < n → Ev (g m) r → Ev (g (m + 1)) r) (he : Ev (g 0) r) : Ev (g n) r := by
  have key : ∀ m, m ≤ n → Ev (g m) r := by
    intro m
    induction m with
    | zero => intro _; exact he
    | succ m ih => intro hm; exact hs m (by omega) (ih (by omega))
  exact key n (Nat.le_refl _)
theorem set_mid {α : Type} (pre suf : List α) (x y : α) {i : Nat} (h : pre.length = i) : (pre ++ x :: suf).set i y = pre ++ y :: suf := by
  rw [List.set_append_right _ _ (by omega), h, Nat.sub_self]
  rfl
theorem getD_mid {α : Type} (pre suf : List α) (x z : α) {i : Nat} (h : pre.length = i) : (pre ++ x :: suf).getD i z = x := by
  subst h
  simp [List.getD]
end Go.Proofs.Ytlakjlolahjphaa.Kit
/- The helpers of the law FnExactUseSpans: sizes, conversions, equality with itself. Conditions: none. -/
namespace Go.Proofs.Ytlakjlolahjphaa.fnExactUseSpans
open Go.RowKit Go.Proofs.YtlakjlolahjphaaW.PrintWords Go.Proofs.YtlakjlolahjphaaW.PrintLast Go.Proofs.YtlakjlolahjphaaW.PrintMore Go.Proofs.Ytlakjlolahjphaa.QFnExactUseSpans Go.Proofs.Ytlakjlolahjphaa.Open Go.Proofs.Ytlakjlolahjphaa.Kit
def cSpan (x : S135) : S91 := ⟨x.f0, x.f1⟩
def cLink (x : S180) : S128 := ⟨x.f0, x.f1⟩
def n178 (x : S178) : Nat := x.f1.length + x.f2.length
def b178 (x : S178) : Prop := x.f1.length ≤ 140737488351232 ∧ x.f2.length ≤ 140737488351232
def cTable (x : S178) : S65 := ⟨x.f0, x.f1, x.f2⟩
def n139 (x : S139) : Nat := x.f1.length + (x.f2.length + (x.f2.map n178).sum)
def b139 (x : S139) : Prop := x.f1.length ≤ 140737488351232 ∧ x.f2.length ≤ 140737488351232 ∧ (∀ y ∈ x.f2, b178 y)
def cPiece (x : S139) : S106 := ⟨(cSpan x.f0), (x.f1.map cLink), (x.f2.map cTable)⟩
def n65 (x : S65) : Nat := x.f1.length + x.f2.length
def n106 (x : S106) : Nat := x.f1.length + (x.f2.length + (x.f2.map n65).sum)
theorem n_cTable (x : S178) : n65 (cTable x) = n178 x := by
  simp [cTable, n178, n65]
theorem n_cPiece (x : S139) : n106 (cPiece x) = n139 x := by
  simp [cPiece, n106, n139, Function.comp_def, n_cTable]
theorem sz_LinkS (l : List S180) (left : Int) (hb : l.length ≤ 140737488351232) (h0 : 0 ≤ left) (h1 : left ≤ 1048576) : laws_szLinkS.f l left = some (szOf left l.length) := by
  unfold laws_szLinkS.f szOf
  rw [w64 (by omega) (by omega)]
  by_cases h : (l.length : Int) ≤ left
  · rw [if_neg (by omega), if_pos h]
  · rw [if_pos (by omega), if_neg h]
theorem sz_IntS (l : List Int) (left : Int) (hb : l.length ≤ 140737488351232) (h0 : 0 ≤ left) (h1 : left ≤ 1048576) : laws_szIntS.f l left = some (szOf left l.length) := by
  unfold laws_szIntS.f szOf
  rw [w64 (by omega) (by omega)]
  by_cases h : (l.length : Int) ≤ left
  · rw [if_neg (by omega), if_pos h]
  · rw [if_pos (by omega), if_neg h]
theorem sz_Table (x : S178) (left : Int) (hb : b178 x) (h0 : 0 ≤ left) (h1 : left ≤ 1048576) : laws_szTable.f (x.f0) (x.f1) (x.f2) left = some (szOf left (n178 x)) := by
  obtain ⟨hba1, hba2⟩ := hb
  unfold laws_szTable.f n178
  rw [(sz_IntS x.f1 left hba1 (by omega) (by omega)), Option.bind_some]
  by_cases hc0 : ((x.f1.length : Nat) : Int) ≤ left
  · have e0 : szOf left (x.f1.length) = left - ((x.f1.length : Nat) : Int) := by
      unfold szOf
      rw [if_pos (by omega)]
    rw [e0]
    rw [if_neg (by omega)]
    rw [(sz_IntS x.f2 _ hba2 (by omega) (by omega)), Option.bind_some]
    by_cases hc1 : ((x.f1.length + x.f2.length : Nat) : Int) ≤ left
    · have e1 : szOf (left - ((x.f1.length : Nat) : Int)) (x.f2.length) = left - ((x.f1.length + x.f2.length : Nat) : Int) := by
        unfold szOf
        rw [if_pos (by omega)]
        omega
      rw [e1]
      rw [if_neg (by omega)]
      unfold szOf
      rw [if_pos (by omega)]
    · have e1 : szOf (left - ((x.f1.length : Nat) : Int)) (x.f2.length) = -1 := by
        unfold szOf
        rw [if_neg (by omega)]
      rw [e1]
      rw [if_pos (by omega)]
      unfold szOf
      rw [if_neg (by omega)]
  · have e0 : szOf left (x.f1.length) = -1 := by
      unfold szOf
      rw [if_neg (by omega)]
    rw [e0]
    rw [if_pos (by omega)]
    unfold szOf
    rw [if_neg (by omega)]
theorem sz_TableS (l : List S178) (left : Int) (hb : l.length ≤ 140737488351232 ∧ (∀ y ∈ l, b178 y)) (h0 : 0 ≤ left) (h1 : left ≤ 1048576) : Ev (fun k => laws_szTableS.f k l left) (szOf left (l.length + (l.map n178).sum)) := by
  obtain ⟨hl, hb⟩ := hb
  unfold laws_szTableS.f
  rw [w64 (by omega) (by omega)]
  by_cases hn : left - (l.length : Int) < 0
  · refine Ev.ite_pos hn (Ev.some ?_)
    unfold szOf
    rw [if_neg (by omega)]
  · refine Ev.ite_neg hn ?_
    have hs0 : sumTo n178 l 0 = 0 := by simp [sumTo]
    have e0 : left - (l.length : Int) = left - (l.length : Int) - (sumTo n178 l 0 : Nat) := by rw [hs0]; omega
    rw [e0]
    refine Ev.upIf (n := l.length) (fun i => (l.length : Int) + (sumTo n178 l i : Nat) ≤ left) (g := fun i k => laws_szTableS.l0 k l (left - (l.length : Int) - (sumTo n178 l i : Nat)) (i : Int)) ?_ ?_ (by rw [hs0]; omega)
    · intro i hi hp ih
      have hm := hb _ (getD_mem hi z178)
      have hS := sumTo_succ n178 hi z178
      have hA := sumTo_le n178 l (i + 1)
      refine Ev.step (fun k => by rw [laws_szTableS.l0]) ?_
      repeat (first | (with_reducible refine Ev.ite_pos (by omega) ?_) | (with_reducible refine Ev.ite_neg (by omega) ?_))
      refine Ev.bind0 (sz_Table (l.getD i z178) _ hm (by omega) (by omega)) ?_
      by_cases hc : (l.length : Int) + (sumTo n178 l (i + 1) : Nat) ≤ left
      · have e1 : szOf (left - (l.length : Int) - (sumTo n178 l i : Nat)) (n178 (l.getD i z178)) = left - (l.length : Int) - (sumTo n178 l (i + 1) : Nat) := by
          unfold szOf
          rw [if_pos (by omega)]
          omega
        rw [e1, w64n (by omega)]
        exact Ev.ite_neg (by omega) (ih hc)
      · have e1 : szOf (left - (l.length : Int) - (sumTo n178 l i : Nat)) (n178 (l.getD i z178)) = -1 := by
          unfold szOf
          rw [if_neg (by omega)]
        rw [e1]
        refine Ev.ite_pos (by omega) (Ev.some ?_)
        unfold szOf
        rw [if_neg]
        have : sumTo n178 l l.length = (l.map n178).sum := sumTo_all _ _
        have hA2 := sumTo_le n178 l (i + 1)
        omega
    · intro hp
      refine Ev.step (fun k => by rw [laws_szTableS.l0]) ?_
      repeat (first | (with_reducible refine Ev.ite_pos (by omega) ?_) | (with_reducible refine Ev.ite_neg (by omega) ?_))
      refine Ev.some ?_
      rw [sumTo_all] at hp ⊢
      unfold szOf
      rw [if_pos (by omega)]
      omega
theorem sz_Piece (x : S139) (left : Int) (hb : b139 x) (h0 : 0 ≤ left) (h1 : left ≤ 1048576) : Ev (fun k => laws_szPiece.f k (x.f0.f0) (x.f0.f1) (x.f1) (x.f2) left) (szOf left (n139 x)) := by
  unfold b139 at hb
  unfold laws_szPiece.f n139
  refine Ev.bind0 (sz_LinkS x.f1 left (by first | exact hb.1 | exact hb.2 | exact ⟨hb.1, hb.2.1⟩ | exact ⟨hb.2.2.1, hb.2.2.2⟩ | exact hb.2.2 | exact ⟨hb.2.1, hb.2.2⟩) (by omega) (by omega)) ?_
  by_cases hc0 : ((x.f1.length : Nat) : Int) ≤ left
  · have e0 : szOf left (x.f1.length) = left - ((x.f1.length : Nat) : Int) := by
      unfold szOf
      rw [if_pos (by omega)]
    rw [e0]
    refine Ev.ite_neg (by omega) ?_
    refine Ev.bind (sz_TableS x.f2 _ (by first | exact hb.1 | exact hb.2 | exact ⟨hb.1, hb.2.1⟩ | exact ⟨hb.2.2.1, hb.2.2.2⟩ | exact hb.2.2 | exact ⟨hb.2.1, hb.2.2⟩) (by omega) (by omega)) ?_
    by_cases hc1 : ((x.f1.length + (x.f2.length + (x.f2.map n178).sum) : Nat) : Int) ≤ left
    · have e1 : szOf (left - ((x.f1.length : Nat) : Int)) ((x.f2.length + (x.f2.map n178).sum)) = left - ((x.f1.length + (x.f2.length + (x.f2.map n178).sum) : Nat) : Int) := by
        unfold szOf
        rw [if_pos (by omega)]
        omega
      rw [e1]
      refine Ev.ite_neg (by omega) ?_
      refine Ev.some ?_
      unfold szOf
      rw [if_pos (by omega)]
    · have e1 : szOf (left - ((x.f1.length : Nat) : Int)) ((x.f2.length + (x.f2.map n178).sum)) = -1 := by
        unfold szOf
        rw [if_neg (by omega)]
      rw [e1]
      refine Ev.ite_pos (by omega) (Ev.some ?_)
      unfold szOf
      rw [if_neg (by omega)]
  · have e0 : szOf left (x.f1.length) = -1 := by
      unfold szOf
      rw [if_neg (by omega)]
    rw [e0]
    refine Ev.ite_pos (by omega) (Ev.some ?_)
    unfold szOf
    rw [if_neg (by omega)]
theorem sz_PieceS (l : List S139) (left : Int) (hb : l.length ≤ 140737488351232 ∧ (∀ y ∈ l, b139 y)) (h0 : 0 ≤ left) (h1 : left ≤ 1048576) : Ev (fun k => laws_szPieceS.f k l left) (szOf left (l.length + (l.map n139).sum)) := by
  obtain ⟨hl, hb⟩ := hb
  unfold laws_szPieceS.f
  rw [w64 (by omega) (by omega)]
  by_cases hn : left - (l.length : Int) < 0
  · refine Ev.ite_pos hn (Ev.some ?_)
    unfold szOf
    rw [if_neg (by omega)]
  · refine Ev.ite_neg hn ?_
    have hs0 : sumTo n139 l 0 = 0 := by simp [sumTo]
    have e0 : left - (l.length : Int) = left - (l.length : Int) - (sumTo n139 l 0 : Nat) := by rw [hs0]; omega
    rw [e0]
    refine Ev.upIf (n := l.length) (fun i => (l.length : Int) + (sumTo n139 l i : Nat) ≤ left) (g := fun i k => laws_szPieceS.l0 k l (left - (l.length : Int) - (sumTo n139 l i : Nat)) (i : Int)) ?_ ?_ (by rw [hs0]; omega)
    · intro i hi hp ih
      have hm := hb _ (getD_mem hi z139)
      have hS := sumTo_succ n139 hi z139
      have hA := sumTo_le n139 l (i + 1)
      refine Ev.step (fun k => by rw [laws_szPieceS.l0]) ?_
      repeat (first | (with_reducible refine Ev.ite_pos (by omega) ?_) | (with_reducible refine Ev.ite_neg (by omega) ?_))
      refine Ev.bind (sz_Piece (l.getD i z139) _ hm (by omega) (by omega)) ?_
      by_cases hc : (l.length : Int) + (sumTo n139 l (i + 1) : Nat) ≤ left
      · have e1 : szOf (left - (l.length : Int) - (sumTo n139 l i : Nat)) (n139 (l.getD i z139)) = left - (l.length : Int) - (sumTo n139 l (i + 1) : Nat) := by
          unfold szOf
          rw [if_pos (by omega)]
          omega
        rw [e1, w64n (by omega)]
        exact Ev.ite_neg (by omega) (ih hc)
      · have e1 : szOf (left - (l.length : Int) - (sumTo n139 l i : Nat)) (n139 (l.getD i z139)) = -1 := by
          unfold szOf
          rw [if_neg (by omega)]
        rw [e1]
        refine Ev.ite_pos (by omega) (Ev.some ?_)
        unfold szOf
        rw [if_neg]
        have : sumTo n139 l l.length = (l.map n139).sum := sumTo_all _ _
        have hA2 := sumTo_le n139 l (i + 1)
        omega
    · intro hp
      refine Ev.step (fun k => by rw [laws_szPieceS.l0]) ?_
      repeat (first | (with_reducible refine Ev.ite_pos (by omega) ?_) | (with_reducible refine Ev.ite_neg (by omega) ?_))
      refine Ev.some ?_
      rw [sumTo_all] at hp ⊢
      unfold szOf
      rw [if_pos (by omega)]
      omega
theorem sz_Program (a0 : Int) (a1 : Int) (a2 : Int) (a3 : (List S139)) (left : Int) (hba3 : a3.length ≤ 140737488351232 ∧ (∀ y ∈ a3, b139 y)) (h0 : 0 ≤ left) (h1 : left ≤ 1048576) : Ev (fun k => laws_szProgram.f k a0 a1 a2 a3 left) (szOf left ((a3.length + (a3.map n139).sum))) := by
  unfold laws_szProgram.f
  refine Ev.bind (sz_PieceS a3 left hba3 (by omega) (by omega)) ?_
  by_cases hc0 : (((a3.length + (a3.map n139).sum) : Nat) : Int) ≤ left
  · have e0 : szOf left ((a3.length + (a3.map n139).sum)) = left - (((a3.length + (a3.map n139).sum) : Nat) : Int) := by
      unfold szOf
      rw [if_pos (by omega)]
    rw [e0]
    exact Ev.ite_neg (by omega) (Ev.now _)
  · have e0 : szOf left ((a3.length + (a3.map n139).sum)) = -1 := by
      unfold szOf
      rw [if_neg (by omega)]
    rw [e0]
    exact Ev.ite_pos (by omega) (Ev.now _)
theorem to_Link (x : S180) : laws_toLink.f (x.f0) (x.f1) = some (x.f0, x.f1) := by
  unfold laws_toLink.f
  rfl
theorem to_LinkS (l : List S180) (hn : l.length ≤ 1048576) : Ev (fun k => laws_toLinkS.f k l) (l.map cLink) := by
  unfold laws_toLinkS.f
  repeat (first | (with_reducible refine Ev.ite_pos (by omega) ?_) | (with_reducible refine Ev.ite_neg (by omega) ?_))
  rw [Int.toNat_natCast, ← fillTo_zero cLink z128 l]
  refine Ev.up (n := l.length) (g := fun i k => laws_toLinkS.l0 k l (fillTo cLink z128 l i) (i : Int)) ?_ ?_
  · intro i hi ih
    have hlen := fillTo_length cLink z128 l (Nat.le_of_lt hi)
    rw [← fillTo_set cLink z128 l hi z180] at ih
    refine Ev.step (fun k => by rw [laws_toLinkS.l0]) ?_
    repeat (first | (with_reducible refine Ev.ite_pos (by omega) ?_) | (with_reducible refine Ev.ite_neg (by omega) ?_))
    refine Ev.bind0 (to_Link (l.getD i z180)) ?_
    repeat (first | (with_reducible refine Ev.ite_pos (by omega) ?_) | (with_reducible refine Ev.ite_neg (by omega) ?_))
    rw [Int.toNat_natCast, w64n (by omega)]
    exact ih
  · refine Ev.step (fun k => by rw [laws_toLinkS.l0]) ?_
    repeat (first | (with_reducible refine Ev.ite_pos (by omega) ?_) | (with_reducible refine Ev.ite_neg (by omega) ?_))
    refine Ev.some ?_
    rw [fillTo_all]
theorem to_IntS (l : List Int) (hn : l.length ≤ 1048576) : Ev (fun k => laws_toIntS.f k l) l := by
  unfold laws_toIntS.f
  repeat (first | (with_reducible refine Ev.ite_pos (by omega) ?_) | (with_reducible refine Ev.ite_neg (by omega) ?_))
  rw [Int.toNat_natCast, ← fillTo_zero (fun x => x) 0 l]
  refine Ev.up (n := l.length) (g := fun i k => laws_toIntS.l0 k l (fillTo (fun x => x) 0 l i) (i : Int)) ?_ ?_
  · intro i hi ih
    have hlen := fillTo_length (fun x => x) 0 l (Nat.le_of_lt hi)
    rw [← fillTo_set (fun x => x) 0 l hi 0] at ih
    refine Ev.step (fun k => by rw [laws_toIntS.l0]) ?_
    repeat (first | (with_reducible refine Ev.ite_pos (by omega) ?_) | (with_reducible refine Ev.ite_neg (by omega) ?_))
    rw [Int.toNat_natCast, w64n (by omega)]
    exact ih
  · refine Ev.step (fun k => by rw [laws_toIntS.l0]) ?_
    repeat (first | (with_reducible refine Ev.ite_pos (by omega) ?_) | (with_reducible refine Ev.ite_neg (by omega) ?_))
    refine Ev.some ?_
    rw [fillTo_all]
    simp
theorem to_Table (x : S178) (hn : n178 x ≤ 1048576) : Ev (fun k => laws_toTable.f k (x.f0) (x.f1) (x.f2)) (x.f0, x.f1, x.f2) := by
  unfold n178 at hn
  unfold laws_toTable.f
  refine Ev.bind (to_IntS (x.f1) (by omega)) ?_
  refine Ev.bind (to_IntS (x.f2) (by omega)) ?_
  exact Ev.now _
theorem to_TableS (l : List S178) (hn : (l.length + (l.map n178).sum) ≤ 1048576) : Ev (fun k => laws_toTableS.f k l) (l.map cTable) := by
  unfold laws_toTableS.f
  repeat (first | (with_reducible refine Ev.ite_pos (by omega) ?_) | (with_reducible refine Ev.ite_neg (by omega) ?_))
  rw [Int.toNat_natCast, ← fillTo_zero cTable z65 l]
  refine Ev.up (n := l.length) (g := fun i k => laws_toTableS.l0 k l (fillTo cTable z65 l i) (i : Int)) ?_ ?_
  · intro i hi ih
    have hlen := fillTo_length cTable z65 l (Nat.le_of_lt hi)
    rw [← fillTo_set cTable z65 l hi z178] at ih
    refine Ev.step (fun k => by rw [laws_toTableS.l0]) ?_
    repeat (first | (with_reducible refine Ev.ite_pos (by omega) ?_) | (with_reducible refine Ev.ite_neg (by omega) ?_))
    have hm := le_sum n178 (getD_mem hi z178)
    refine Ev.bind (to_Table (l.getD i z178) (by omega)) ?_
    repeat (first | (with_reducible refine Ev.ite_pos (by omega) ?_) | (with_reducible refine Ev.ite_neg (by omega) ?_))
    rw [Int.toNat_natCast, w64n (by omega)]
    exact ih
  · refine Ev.step (fun k => by rw [laws_toTableS.l0]) ?_
    repeat (first | (with_reducible refine Ev.ite_pos (by omega) ?_) | (with_reducible refine Ev.ite_neg (by omega) ?_))
    refine Ev.some ?_
    rw [fillTo_all]
theorem to_Span (x : S135) : laws_toSpan.f (x.f0) (x.f1) = some (x.f0, x.f1) := by
  unfold laws_toSpan.f
  rfl
theorem to_Piece (x : S139) (hn : n139 x ≤ 1048576) : Ev (fun k => laws_toPiece.f k (x.f0.f0) (x.f0.f1) (x.f1) (x.f2)) (x.f0.f0, x.f0.f1, (x.f1.map cLink), (x.f2.map cTable)) := by
  unfold n139 at hn
  unfold laws_toPiece.f
  refine Ev.bind0 (to_Span (x.f0)) ?_
  refine Ev.bind (to_LinkS (x.f1) (by omega)) ?_
  refine Ev.bind (to_TableS (x.f2) (by omega)) ?_
  exact Ev.now _
theorem to_PieceS (l : List S139) (hn : (l.length + (l.map n139).sum) ≤ 1048576) : Ev (fun k => laws_toPieceS.f k l) (l.map cPiece) := by
  unfold laws_toPieceS.f
  repeat (first | (with_reducible refine Ev.ite_pos (by omega) ?_) | (with_reducible refine Ev.ite_neg (by omega) ?_))
  rw [Int.toNat_natCast, ← fillTo_zero cPiece z106 l]
  refine Ev.up (n := l.length) (g := fun i k => laws_toPieceS.l0 k l (fillTo cPiece z106 l i) (i : Int)) ?_ ?_
  · intro i hi ih
    have hlen := fillTo_length cPiece z106 l (Nat.le_of_lt hi)
    rw [← fillTo_set cPiece z106 l hi z139] at ih
    refine Ev.step (fun k => by rw [laws_toPieceS.l0]) ?_
    repeat (first | (with_reducible refine Ev.ite_pos (by omega) ?_) | (with_reducible refine Ev.ite_neg (by omega) ?_))
    have hm := le_sum n139 (getD_mem hi z139)
    refine Ev.bind (to_Piece (l.getD i z139) (by omega)) ?_
    repeat (first | (with_reducible refine Ev.ite_pos (by omega) ?_) | (with_reducible refine Ev.ite_neg (by omega) ?_))
    rw [Int.toNat_natCast, w64n (by omega)]
    exact ih
  · refine Ev.step (fun k => by rw [laws_toPieceS.l0]) ?_
    repeat (first | (with_reducible refine Ev.ite_pos (by omega) ?_) | (with_reducible refine Ev.ite_neg (by omega) ?_))
    refine Ev.some ?_
    rw [fillTo_all]
theorem to_Program (a0 : Int) (a1 : Int) (a2 : Int) (a3 : (List S139)) (hn : (a3.length + (a3.map n139).sum) ≤ 1048576) : Ev (fun k => laws_toProgram.f k a0 a1 a2 a3) (a0, a1, a2, (a3.map cPiece)) := by
  unfold laws_toProgram.f
  refine Ev.bind (to_PieceS (a3) (by omega)) ?_
  exact Ev.now _
theorem eq_Span (x : S91) : laws_eqSpan.f (x.f0) (x.f1) (x.f0) (x.f1) = some true := by
  unfold laws_eqSpan.f
  simp
theorem eq_Link (x : S128) : laws_eqLink.f (x.f0) (x.f1) (x.f0) (x.f1) = some true := by
  unfold laws_eqLink.f
  simp
theorem eq_LinkS (l : List S128) (hn : l.length ≤ 1048576) : Ev (fun k => laws_eqLinkS.f k l l) true := by
  unfold laws_eqLinkS.f
  refine Ev.ite_pos rfl ?_
  refine Ev.up (n := l.length) (g := fun i k => laws_eqLinkS.l0 k l l (i : Int)) ?_ ?_
  · intro i hi ih
    refine Ev.step (fun k => by rw [laws_eqLinkS.l0]) ?_
    repeat (first | (with_reducible refine Ev.ite_pos (by omega) ?_) | (with_reducible refine Ev.ite_neg (by omega) ?_))
    refine Ev.bind0 (eq_Link (l.getD i z128)) ?_
    refine Ev.ite_pos rfl ?_
    rw [w64n (by omega)]
    exact ih
  · refine Ev.step (fun k => by rw [laws_eqLinkS.l0]) ?_
    repeat (first | (with_reducible refine Ev.ite_pos (by omega) ?_) | (with_reducible refine Ev.ite_neg (by omega) ?_))
    exact Ev.now _
theorem eq_IntS (l : List Int) (hn : l.length ≤ 2097152) : Ev (fun k => laws_eqIntS.f k l l) true := by
  unfold laws_eqIntS.f
  refine Ev.ite_pos rfl ?_
  refine Ev.up (n := l.length) (g := fun i k => laws_eqIntS.l0 k l l (i : Int)) ?_ ?_
  · intro i hi ih
    refine Ev.step (fun k => by rw [laws_eqIntS.l0]) ?_
    repeat (first | (with_reducible refine Ev.ite_pos (by omega) ?_) | (with_reducible refine Ev.ite_neg (by omega) ?_))
    rw [w64n (by omega)]
    exact ih
  · refine Ev.step (fun k => by rw [laws_eqIntS.l0]) ?_
    repeat (first | (with_reducible refine Ev.ite_pos (by omega) ?_) | (with_reducible refine Ev.ite_neg (by omega) ?_))
    exact Ev.now _
theorem eq_Table (x : S65) (hn : n65 x ≤ 1048576) : Ev (fun k => laws_eqTable.f k (x.f0) (x.f1) (x.f2) (x.f0) (x.f1) (x.f2)) true := by
  unfold n65 at hn
  unfold laws_eqTable.f
  refine Ev.ite_pos rfl ?_
  refine Ev.bind (eq_IntS (x.f1) (by omega)) ?_
  refine Ev.ite_pos rfl ?_
  refine Ev.bind (eq_IntS (x.f2) (by omega)) ?_
  refine Ev.ite_pos rfl ?_
  exact Ev.now _
theorem eq_TableS (l : List S65) (hn : (l.length + (l.map n65).sum) ≤ 1048576) : Ev (fun k => laws_eqTableS.f k l l) true := by
  unfold laws_eqTableS.f
  refine Ev.ite_pos rfl ?_
  refine Ev.up (n := l.length) (g := fun i k => laws_eqTableS.l0 k l l (i : Int)) ?_ ?_
  · intro i hi ih
    refine Ev.step (fun k => by rw [laws_eqTableS.l0]) ?_
    repeat (first | (with_reducible refine Ev.ite_pos (by omega) ?_) | (with_reducible refine Ev.ite_neg (by omega) ?_))
    have hm := le_sum n65 (getD_mem hi z65)
    refine Ev.bind (eq_Table (l.getD i z65) (by omega)) ?_
    refine Ev.ite_pos rfl ?_
    rw [w64n (by omega)]
    exact ih
  · refine Ev.step (fun k => by rw [laws_eqTableS.l0]) ?_
    repeat (first | (with_reducible refine Ev.ite_pos (by omega) ?_) | (with_reducible refine Ev.ite_neg (by omega) ?_))
    exact Ev.now _
theorem eq_Piece (x : S106) (hn : n106 x ≤ 1048576) : Ev (fun k => laws_eqPiece.f k (x.f0.f0) (x.f0.f1) (x.f1) (x.f2) (x.f0.f0) (x.f0.f1) (x.f1) (x.f2)) true := by
  unfold n106 at hn
  unfold laws_eqPiece.f
  refine Ev.bind0 (eq_Span (x.f0)) ?_
  refine Ev.ite_pos rfl ?_
  refine Ev.bind (eq_LinkS (x.f1) (by omega)) ?_
  refine Ev.ite_pos rfl ?_
  refine Ev.bind (eq_TableS (x.f2) (by omega)) ?_
  refine Ev.ite_pos rfl ?_
  exact Ev.now _
theorem eq_PieceS (l : List S106) (hn : (l.length + (l.map n106).sum) ≤ 1048576) : Ev (fun k => laws_eqPieceS.f k l l) true := by
  unfold laws_eqPieceS.f
  refine Ev.ite_pos rfl ?_
  refine Ev.up (n := l.length) (g := fun i k => laws_eqPieceS.l0 k l l (i : Int)) ?_ ?_
  · intro i hi ih
    refine Ev.step (fun k => by rw [laws_eqPieceS.l0]) ?_
    repeat (first | (with_reducible refine Ev.ite_pos (by omega) ?_) | (with_reducible refine Ev.ite_neg (by omega) ?_))
    have hm := le_sum n106 (getD_mem hi z106)
    refine Ev.bind (eq_Piece (l.getD i z106) (by omega)) ?_
    refine Ev.ite_pos rfl ?_
    rw [w64n (by omega)]
    exact ih
  · refine Ev.step (fun k => by rw [laws_eqPieceS.l0]) ?_
    repeat (first | (with_reducible refine Ev.ite_pos (by omega) ?_) | (with_reducible refine Ev.ite_neg (by omega) ?_))
    exact Ev.now _
theorem eq_SpanS (l : List S91) (hn : l.length ≤ 1048576) : Ev (fun k => laws_eqSpanS.f k l l) true := by
  unfold laws_eqSpanS.f
  refine Ev.ite_pos rfl ?_
  refine Ev.up (n := l.length) (g := fun i k => laws_eqSpanS.l0 k l l (i : Int)) ?_ ?_
  · intro i hi ih
    refine Ev.step (fun k => by rw [laws_eqSpanS.l0]) ?_
    repeat (first | (with_reducible refine Ev.ite_pos (by omega) ?_) | (with_reducible refine Ev.ite_neg (by omega) ?_))
    refine Ev.bind0 (eq_Span (l.getD i z91)) ?_
    refine Ev.ite_pos rfl ?_
    rw [w64n (by omega)]
    exact ih
  · refine Ev.step (fun k => by rw [laws_eqSpanS.l0]) ?_
    repeat (first | (with_reducible refine Ev.ite_pos (by omega) ?_) | (with_reducible refine Ev.ite_neg (by omega) ?_))
    exact Ev.now _
theorem eq_Program (a0 : Int) (a1 : Int) (a2 : Int) (a3 : (List S106)) (hn : (a3.length + (a3.map n106).sum) ≤ 1048576) : Ev (fun k => laws_eqProgram.f k a0 a1 a2 a3 a0 a1 a2 a3) true := by
  unfold laws_eqProgram.f
  refine Ev.ite_pos rfl ?_
  refine Ev.ite_pos rfl ?_
  refine Ev.ite_pos rfl ?_
  refine Ev.bind (eq_PieceS a3 (by omega)) ?_
  refine Ev.ite_pos rfl ?_
  exact Ev.now _
def mkSpan (b : Int) : S91 := ⟨b, b + 1⟩
def cntSpan (a : Int) (n : Nat) : List S91 := (List.range n).map fun j : Nat => mkSpan (a + 2 * (j : Int))
theorem mark_SpanS (l : List S91) (a : Int) (h0 : 0 ≤ a) (h1 : a ≤ 1000000000) (hl : l.length ≤ 2097152) : Ev (fun k => laws_markSpanS.f k l a) (a + 2 * (l.length : Int), cntSpan a l.length) := by
  have e1 : cntSpan a 0 ++ l.drop 0 = l := by simp [cntSpan]
  have e2 : a + 2 * ((0 : Nat) : Int) = a := by omega
  show Ev (fun k => laws_markSpanS.l0 k l a 0) _
  rw [show (fun k => laws_markSpanS.l0 k l a 0) = (fun k => laws_markSpanS.l0 k (cntSpan a 0 ++ l.drop 0) (a + 2 * ((0 : Nat) : Int)) ((0 : Nat) : Int)) by rw [e1, e2]; rfl]
  refine Ev.up (n := l.length) (g := fun i k => laws_markSpanS.l0 k (cntSpan a i ++ l.drop i) (a + 2 * (i : Int)) (i : Int)) ?_ ?_
  · intro i hi ih
    have hlen : (cntSpan a i).length = i := by simp [cntSpan]
    have hlen2 : (cntSpan a i ++ l.drop i).length = l.length := by rw [List.length_append, hlen, List.length_drop]; omega
    refine Ev.step (fun k => by rw [laws_markSpanS.l0]) ?_
    repeat (first | (with_reducible refine Ev.ite_pos (by omega) ?_) | (with_reducible refine Ev.ite_neg (by omega) ?_))
    rw [drop_getD hi z91]
    have w0 : wrap64 (a + 2 * (i : Int) + 1) = a + 2 * (i : Int) + 1 := w64 (by omega) (by omega)
    have w1 : wrap64 (a + 2 * (i : Int) + 1 + 1) = a + 2 * (i : Int) + 1 + 1 := w64 (by omega) (by omega)
    simp only [rd_T91, getD_mid _ _ _ _ hlen, Option.bind_some, Int.toNat_natCast, set_mid _ _ _ _ hlen, w0, w1, w64n (by omega : i ≤ 140737488351232)]
    have e3 : cntSpan a (i + 1) ++ l.drop (i + 1) = cntSpan a i ++ mkSpan (a + 2 * (i : Int)) :: l.drop (i + 1) := by
      simp [cntSpan, List.range_succ]
    have e4 : a + 2 * ((i + 1 : Nat) : Int) = a + 2 * (i : Int) + 1 + 1 := by omega
    rw [e3, e4] at ih
    exact ih
  · have hlen2 : (cntSpan a l.length ++ l.drop l.length).length = l.length := by simp [cntSpan]
    refine Ev.step (fun k => by rw [laws_markSpanS.l0]) ?_
    repeat (first | (with_reducible refine Ev.ite_pos (by omega) ?_) | (with_reducible refine Ev.ite_neg (by omega) ?_))
    refine Ev.some ?_
    simp
theorem held_SpanS (n : Nat) (a : Int) (h0 : 0 ≤ a) (h1 : a ≤ 1000000000) (hl : n ≤ 2097152) : Ev (fun k => laws_heldSpanS.f k (cntSpan a n) a) (a + 2 * (n : Int)) := by
  have hlen : (cntSpan a n).length = n := by simp [cntSpan]
  have e2 : a + 2 * ((0 : Nat) : Int) = a := by omega
  show Ev (fun k => laws_heldSpanS.l0 k (cntSpan a n) a 0) _
  rw [show (fun k => laws_heldSpanS.l0 k (cntSpan a n) a 0) = (fun k => laws_heldSpanS.l0 k (cntSpan a n) (a + 2 * ((0 : Nat) : Int)) ((0 : Nat) : Int)) by rw [e2]; rfl]
  refine Ev.up (n := n) (g := fun i k => laws_heldSpanS.l0 k (cntSpan a n) (a + 2 * (i : Int)) (i : Int)) ?_ ?_
  · intro i hi ih
    have hg : rd_T91 (cntSpan a n) (i : Int) = mkSpan (a + 2 * (i : Int)) := map_range_getD _ hi _
    refine Ev.step (fun k => by rw [laws_heldSpanS.l0]) ?_
    repeat (first | (with_reducible refine Ev.ite_pos (by omega) ?_) | (with_reducible refine Ev.ite_neg (by omega) ?_))
    rw [hg]
    have w0 : wrap64 (a + 2 * (i : Int) + 1) = a + 2 * (i : Int) + 1 := w64 (by omega) (by omega)
    have w1 : wrap64 (a + 2 * (i : Int) + 1 + 1) = a + 2 * (i : Int) + 1 + 1 := w64 (by omega) (by omega)
    simp only [w0, w1, w64n (by omega : i ≤ 140737488351232)]
    refine Ev.ite_pos rfl ?_
    refine Ev.ite_pos rfl ?_
    have e4 : a + 2 * ((i + 1 : Nat) : Int) = a + 2 * (i : Int) + 1 + 1 := by omega
    rw [e4] at ih
    exact ih
  · refine Ev.step (fun k => by rw [laws_heldSpanS.l0]) ?_
    repeat (first | (with_reducible refine Ev.ite_pos (by omega) ?_) | (with_reducible refine Ev.ite_neg (by omega) ?_))
    exact Ev.now _
def cntInt (a : Int) (n : Nat) : List Int := (List.range n).map fun j : Nat => a + (j : Int)
theorem mark_IntS (l : List Int) (a : Int) (h0 : 0 ≤ a) (h1 : a ≤ 1000000000) (hl : l.length ≤ 2097152) : Ev (fun k => laws_markIntS.f k l a) (a + (l.length : Int), cntInt a l.length) := by
  have e1 : cntInt a 0 ++ l.drop 0 = l := by simp [cntInt]
  have e2 : a + ((0 : Nat) : Int) = a := by omega
  show Ev (fun k => laws_markIntS.l0 k l a 0) _
  rw [show (fun k => laws_markIntS.l0 k l a 0) = (fun k => laws_markIntS.l0 k (cntInt a 0 ++ l.drop 0) (a + ((0 : Nat) : Int)) ((0 : Nat) : Int)) by rw [e1, e2]; rfl]
  refine Ev.up (n := l.length) (g := fun i k => laws_markIntS.l0 k (cntInt a i ++ l.drop i) (a + (i : Int)) (i : Int)) ?_ ?_
  · intro i hi ih
    have hlen : (cntInt a i).length = i := by simp [cntInt]
    have hlen2 : (cntInt a i ++ l.drop i).length = l.length := by rw [List.length_append, hlen, List.length_drop]; omega
    refine Ev.step (fun k => by rw [laws_markIntS.l0]) ?_
    repeat (first | (with_reducible refine Ev.ite_pos (by omega) ?_) | (with_reducible refine Ev.ite_neg (by omega) ?_))
    rw [drop_getD hi 0]
    have w0 : wrap64 (a + (i : Int) + 1) = a + (i : Int) + 1 := w64 (by omega) (by omega)
    simp only [Int.toNat_natCast, set_mid _ _ _ _ hlen, w0, w64n (by omega : i ≤ 140737488351232)]
    have e3 : cntInt a (i + 1) ++ l.drop (i + 1) = cntInt a i ++ (a + (i : Int)) :: l.drop (i + 1) := by
      simp [cntInt, List.range_succ]
    have e4 : a + ((i + 1 : Nat) : Int) = a + (i : Int) + 1 := by omega
    rw [e3, e4] at ih
    exact ih
  · have hlen2 : (cntInt a l.length ++ l.drop l.length).length = l.length := by simp [cntInt]
    refine Ev.step (fun k => by rw [laws_markIntS.l0]) ?_
    repeat (first | (with_reducible refine Ev.ite_pos (by omega) ?_) | (with_reducible refine Ev.ite_neg (by omega) ?_))
    refine Ev.some ?_
    simp
def mkLink (b : Int) : S128 := ⟨b, b + 1⟩
def cntLink (a : Int) (n : Nat) : List S128 := (List.range n).map fun j : Nat => mkLink (a + 2 * (j : Int))
theorem mark_LinkS (l : List S128) (a : Int) (h0 : 0 ≤ a) (h1 : a ≤ 1000000000) (hl : l.length ≤ 2097152) : Ev (fun k => laws_markLinkS.f k l a) (a + 2 * (l.length : Int), cntLink a l.length) := by
  have e1 : cntLink a 0 ++ l.drop 0 = l := by simp [cntLink]
  have e2 : a + 2 * ((0 : Nat) : Int) = a := by omega
  show Ev (fun k => laws_markLinkS.l0 k l a 0) _
  rw [show (fun k => laws_markLinkS.l0 k l a 0) = (fun k => laws_markLinkS.l0 k (cntLink a 0 ++ l.drop 0) (a + 2 * ((0 : Nat) : Int)) ((0 : Nat) : Int)) by rw [e1, e2]; rfl]
  refine Ev.up (n := l.length) (g := fun i k => laws_markLinkS.l0 k (cntLink a i ++ l.drop i) (a + 2 * (i : Int)) (i : Int)) ?_ ?_
  · intro i hi ih
    have hlen : (cntLink a i).length = i := by simp [cntLink]
    have hlen2 : (cntLink a i ++ l.drop i).length = l.length := by rw [List.length_append, hlen, List.length_drop]; omega
    refine Ev.step (fun k => by rw [laws_markLinkS.l0]) ?_
    repeat (first | (with_reducible refine Ev.ite_pos (by omega) ?_) | (with_reducible refine Ev.ite_neg (by omega) ?_))
    rw [drop_getD hi z128]
    have w0 : wrap64 (a + 2 * (i : Int) + 1) = a + 2 * (i : Int) + 1 := w64 (by omega) (by omega)
    have w1 : wrap64 (a + 2 * (i : Int) + 1 + 1) = a + 2 * (i : Int) + 1 + 1 := w64 (by omega) (by omega)
    simp only [rd_T128, getD_mid _ _ _ _ hlen, Option.bind_some, Int.toNat_natCast, set_mid _ _ _ _ hlen, w0, w1, w64n (by omega : i ≤ 140737488351232)]
    have e3 : cntLink a (i + 1) ++ l.drop (i + 1) = cntLink a i ++ mkLink (a + 2 * (i : Int)) :: l.drop (i + 1) := by
      simp [cntLink, List.range_succ]
    have e4 : a + 2 * ((i + 1 : Nat) : Int) = a + 2 * (i : Int) + 1 + 1 := by omega
    rw [e3, e4] at ih
    exact ih
  · have hlen2 : (cntLink a l.length ++ l.drop l.length).length = l.length := by simp [cntLink]
    refine Ev.step (fun k => by rw [laws_markLinkS.l0]) ?_
    repeat (first | (with_reducible refine Ev.ite_pos (by omega) ?_) | (with_reducible refine Ev.ite_neg (by omega) ?_))
    refine Ev.some ?_
    simp
end Go.Proofs.Ytlakjlolahjphaa.fnExactUseSpans
/- Bounds on programs that a law is handed. Conditions: none. -/
namespace Go.Proofs.Ytlakjlolahjphaa.fnExactUseSpans
open Go.RowKit Go.Proofs.YtlakjlolahjphaaW.PrintWords Go.Proofs.YtlakjlolahjphaaW.PrintMore Go.Proofs.Ytlakjlolahjphaa.QFnExactUseSpans Go.Proofs.Ytlakjlolahjphaa.Open Go.Proofs.Ytlakjlolahjphaa.Kit
theorem bTable {x : S178} (h : g178 x) : b178 x := ⟨Len.le h.2.1.1 (by omega), Len.le h.2.2.1 (by omega)⟩
theorem bPiece {x : S139} (h : g139 x) : b139 x := ⟨Len.le h.2.1.1 (by omega), Len.le h.2.2.1 (by omega), fun y hy => bTable (h.2.2.2 y hy)⟩
/-- How many elements a program has in all. -/
def nPg (l : List S139) : Nat := l.length + (l.map n139).sum
def nPgI (l : List S106) : Nat := l.length + (l.map n106).sum
theorem nPgI_c (l : List S139) : nPgI (l.map cPiece) = nPg l := by
  unfold nPgI nPg
  rw [List.length_map, List.map_map]
  congr 2
  exact List.map_congr_left fun x _ => n_cPiece x
end Go.Proofs.Ytlakjlolahjphaa.fnExactUseSpans
/- Whether a piece has a link, in the program and in the reference. Conditions: none. -/
namespace Go.Proofs.Ytlakjlolahjphaa.fnExactUseSpans
open Go.RowKit Go.Proofs.YtlakjlolahjphaaW.PrintWords Go.Proofs.YtlakjlolahjphaaW.PrintMore Go.Proofs.Ytlakjlolahjphaa.QFnExactUseSpans Go.Proofs.Ytlakjlolahjphaa.Open Go.Proofs.Ytlakjlolahjphaa.Kit
theorem in1 (a b c : Int) : spec_l1In.f a b c = some (decide (b ≤ a ∧ a ≤ c)) := by
  unfold spec_l1In.f
  by_cases h : b ≤ a <;> simp [h]
theorem isIx (i n : Int) : impl_isIndex.f i n = some (decide (0 ≤ i ∧ i < n)) := by
  unfold impl_isIndex.f
  by_cases h : 0 ≤ i <;> simp [h]
def linkB (p : List S106) (k a b : Int) : Bool := decide (0 ≤ k ∧ k < (p.length : Int)) && decide (impl_HasLink.go a b (rd_T106 p k).f1 0 ≥ 0)
theorem links1 (l : List S128) (hl : l.length ≤ 1048576) (a b : Int) : Ev (fun k => spec_HasLink.l0 k a b l 0) (decide (impl_HasLink.go a b l 0 ≥ 0)) := by
  have key : ∀ d i : Nat, i + d = l.length → Ev (fun k => spec_HasLink.l0 k a b l (i : Int)) (decide (impl_HasLink.go a b (l.drop i) i ≥ 0)) := by
    intro d
    induction d with
    | zero =>
      intro i hi
      refine Ev.step (fun k => by rw [spec_HasLink.l0]) ?_
      repeat (first | (with_reducible refine Ev.ite_pos (by omega) ?_) | (with_reducible refine Ev.ite_neg (by omega) ?_))
      refine Ev.some ?_
      rw [List.drop_of_length_le (by omega), impl_HasLink.go]
      rfl
    | succ d ih =>
      intro i hi
      have h1 := ih (i + 1) (by omega)
      refine Ev.step (fun k => by rw [spec_HasLink.l0]) ?_
      repeat (first | (with_reducible refine Ev.ite_pos (by omega) ?_) | (with_reducible refine Ev.ite_neg (by omega) ?_))
      rw [drop_getD (by omega : i < l.length) z128, show rd_T128 l (i : Int) = l.getD i z128 from rfl, w64n (by omega), impl_HasLink.go]
      generalize l.getD i z128 = x
      unfold impl_HasLink.hit
      cases c1 : (x.f0 == a && x.f1 == b) with
      | true =>
        refine Ev.ite_pos rfl (Ev.some ?_)
        rw [if_pos (by rfl), decide_eq_true (by omega)]
      | false =>
        refine Ev.ite_neg (by simp) ?_
        cases c2 : (x.f0 == b && x.f1 == a) with
        | true =>
          refine Ev.ite_pos rfl (Ev.some ?_)
          rw [if_pos (by rfl), decide_eq_true (by omega)]
        | false =>
          refine Ev.ite_neg (by simp) ?_
          rw [if_neg (by decide)]
          exact h1
  exact key l.length 0 (by omega)
theorem link_in {p : List S106} (hp : nPgI p ≤ 1048576) {k : Int} (h : 0 ≤ k ∧ k < (p.length : Int)) : (rd_T106 p k).f1.length ≤ 1048576 := by
  have hm := le_sum n106 (getD_mem (show k.toNat < p.length by omega) z106)
  unfold nPgI at hp
  unfold n106 at hm hp
  show (p.getD k.toNat z106).f1.length ≤ 1048576
  omega
theorem link1 (p : List S106) (hp : nPgI p ≤ 1048576) (n a0 s k a b : Int) : Ev (fun r => spec_HasLink.f r n a0 s p k a b) (linkB p k a b) := by
  have hl : p.length ≤ 1048576 := by unfold nPgI at hp; omega
  unfold spec_HasLink.f linkB
  refine Ev.bind0 (in1 k 0 _) ?_
  rw [w64 (x := (p.length : Int) - 1) (by omega) (by omega)]
  by_cases h : 0 ≤ k ∧ k < (p.length : Int)
  · rw [decide_eq_true h, Bool.true_and, decide_eq_true (show 0 ≤ k ∧ k ≤ (p.length : Int) - 1 by omega)]
    refine Ev.ite_pos rfl (Ev.ite_pos h.1 (Ev.ite_pos h.2 ?_))
    exact links1 _ (link_in hp h) a b
  · rw [decide_eq_false h, Bool.false_and, decide_eq_false (show ¬ (0 ≤ k ∧ k ≤ (p.length : Int) - 1) by omega)]
    exact Ev.ite_neg (by simp) (Ev.now _)
theorem link2 (p : List S106) (hp : nPgI p ≤ 1048576) (n a0 s k a b : Int) : impl_HasLink.f n a0 s p k a b = some (linkB p k a b) := by
  unfold impl_HasLink.f linkB
  rw [isIx, Option.bind_some]
  by_cases h : 0 ≤ k ∧ k < (p.length : Int)
  · have := link_in hp h
    rw [decide_eq_true h, Bool.true_and, if_pos rfl, if_pos h.1, if_pos h.2, if_pos (by omega)]
  · rw [decide_eq_false h, Bool.false_and, if_neg (by simp)]
end Go.Proofs.Ytlakjlolahjphaa.fnExactUseSpans
/- The piece of a tick, in the program and in the reference. Conditions: none. -/
namespace Go.Proofs.Ytlakjlolahjphaa.fnExactUseSpans
open Go.RowKit Go.Proofs.YtlakjlolahjphaaW.PrintWords Go.Proofs.YtlakjlolahjphaaW.PrintMore Go.Proofs.Ytlakjlolahjphaa.QFnExactUseSpans Go.Proofs.Ytlakjlolahjphaa.Open Go.Proofs.Ytlakjlolahjphaa.Kit
theorem same_In (a b t : Int) : spec_InSpan.f a b t = impl_InSpan.f a b t := by
  unfold spec_InSpan.f impl_InSpan.f spec_IsSpan.f impl_IsSpan.f
  rfl
theorem piece1 (p : List S106) (hl : p.length ≤ 1048576) (n a s t : Int) : Ev (fun k => spec_PieceAt.f k n a s p t) (impl_PieceAt.go t p 0) := by
  have key : ∀ d i : Nat, i + d = p.length → Ev (fun k => spec_PieceAt.l0 k t (i : Int) n a s p) (impl_PieceAt.go t (p.drop i) i) := by
    intro d
    induction d with
    | zero =>
      intro i hi
      refine Ev.step (fun k => by rw [spec_PieceAt.l0]) ?_
      repeat (first | (with_reducible refine Ev.ite_pos (by omega) ?_) | (with_reducible refine Ev.ite_neg (by omega) ?_))
      refine Ev.some ?_
      rw [List.drop_of_length_le (by omega), impl_PieceAt.go]
    | succ d ih =>
      intro i hi
      have h1 := ih (i + 1) (by omega)
      refine Ev.step (fun k => by rw [spec_PieceAt.l0]) ?_
      repeat (first | (with_reducible refine Ev.ite_pos (by omega) ?_) | (with_reducible refine Ev.ite_neg (by omega) ?_))
      rw [drop_getD (by omega : i < p.length) z106, show rd_T106 p (i : Int) = p.getD i z106 from rfl, w64n (by omega), same_In, impl_PieceAt.go]
      obtain ⟨q, hq⟩ := impl_PieceAt.tot (p.getD i z106).f0.f0 (p.getD i z106).f0.f1 t
      refine Ev.bind0 hq ?_
      cases q with
      | true =>
        rw [if_pos (by unfold impl_PieceAt.hit; rw [hq]; rfl)]
        exact Ev.ite_pos rfl (Ev.now _)
      | false =>
        rw [if_neg (by unfold impl_PieceAt.hit; rw [hq]; decide)]
        exact Ev.ite_neg (by simp) h1
  exact key p.length 0 (by omega)
theorem piece2 (p : List S106) (hl : p.length ≤ 1048576) (n a s t : Int) : impl_PieceAt.f n a s p t = some (impl_PieceAt.go t p 0) := by
  unfold impl_PieceAt.f
  rw [if_pos (by omega)]
end Go.Proofs.Ytlakjlolahjphaa.fnExactUseSpans
/- Whether two nodes are linked at a tick, in the program and in the reference. Conditions: none. -/
namespace Go.Proofs.Ytlakjlolahjphaa.fnExactUseSpans
open Go.RowKit Go.Proofs.YtlakjlolahjphaaW.PrintWords Go.Proofs.YtlakjlolahjphaaW.PrintMore Go.Proofs.Ytlakjlolahjphaa.QFnExactUseSpans Go.Proofs.Ytlakjlolahjphaa.Open Go.Proofs.Ytlakjlolahjphaa.Kit
def linked (p : List S106) (a b t : Int) : Bool := linkB p (impl_PieceAt.go t p 0) a b
theorem linked1 (p : List S106) (hp : nPgI p ≤ 1048576) (n a0 s a b t : Int) : Ev (fun r => spec_IsLinked.f r n a0 s p a b t) (linked p a b t) := by
  have hl : p.length ≤ 1048576 := by unfold nPgI at hp; omega
  unfold spec_IsLinked.f
  refine Ev.bind (piece1 p hl n a0 s t) ?_
  refine Ev.bind (link1 p hp n a0 s _ a b) ?_
  exact Ev.now _
theorem linked2 (p : List S106) (hp : nPgI p ≤ 1048576) (n a0 s a b t : Int) : impl_IsLinked.f n a0 s p a b t = some (linked p a b t) := by
  have hl : p.length ≤ 1048576 := by unfold nPgI at hp; omega
  unfold impl_IsLinked.f
  rw [piece2 p hl n a0 s t, Option.bind_some, link2 p hp n a0 s, Option.bind_some]
  rfl
end Go.Proofs.Ytlakjlolahjphaa.fnExactUseSpans
/- Which link may be used, in the program and in the reference. Conditions: none. -/
namespace Go.Proofs.Ytlakjlolahjphaa.fnExactUseSpans
open Go.RowKit Go.Proofs.YtlakjlolahjphaaW.PrintWords Go.Proofs.YtlakjlolahjphaaW.PrintMore Go.Proofs.Ytlakjlolahjphaa.QFnExactUseSpans Go.Proofs.Ytlakjlolahjphaa.Open Go.Proofs.Ytlakjlolahjphaa.Kit
/-- Two nodes are linked at d ticks from x on. -/
def allL (p : List S106) (a b : Int) : Nat → Int → Bool
  | 0, _ => true
  | d + 1, x => linked p a b x && allL p a b d (x + 1)
theorem in2 (a b c : Int) : impl_InRange.f a b c = some (decide (b ≤ a ∧ a ≤ c)) := by
  unfold impl_InRange.f
  by_cases h : b ≤ a <;> simp [h]
def mayB (p : List S106) (s a b t : Int) : Bool := (decide (0 ≤ s ∧ s ≤ 5) && decide (0 ≤ t ∧ t ≤ 1000)) && allL p a b (2 * s + 1).toNat (t - s)
theorem may1 (p : List S106) (hp : nPgI p ≤ 1048576) (n f s a b t : Int) : Ev (fun k => spec_MayUse.f k n f s p a b t) (mayB p s a b t) := by
  unfold spec_MayUse.f mayB
  have hz : Ev (fun k => spec_MayUse.j0 k a b t true n f s p) false := by
    refine Ev.step (fun k => by rw [spec_MayUse.j0]) ?_
    exact Ev.ite_pos rfl (Ev.now _)
  refine Ev.bind0 (in1 s 0 5) ?_
  by_cases h1 : 0 ≤ s ∧ s ≤ 5
  · rw [decide_eq_true h1, Bool.true_and]
    refine Ev.ite_pos rfl (Ev.bind0 (in1 t 0 1000) ?_)
    by_cases h2 : 0 ≤ t ∧ t ≤ 1000
    · rw [decide_eq_true h2, Bool.true_and]
      refine Ev.step (fun k => by rw [spec_MayUse.j0]) ?_
      refine Ev.ite_neg (by simp) ?_
      rw [w64 (x := t - s) (by omega) (by omega)]
      have key : ∀ (d : Nat) (x : Int), x + d = t + s + 1 → t - s ≤ x → Ev (fun k => spec_MayUse.l0 k a b t x n f s p) (allL p a b d x) := by
        intro d
        induction d with
        | zero =>
          intro x hx hx2
          refine Ev.step (fun k => by rw [spec_MayUse.l0]) ?_
          rw [w64 (x := t + s) (by omega) (by omega)]
          repeat (first | (with_reducible refine Ev.ite_pos (by omega) ?_) | (with_reducible refine Ev.ite_neg (by omega) ?_))
          exact Ev.now _
        | succ d ih =>
          intro x hx hx2
          have h3 := ih (x + 1) (by omega) (by omega)
          refine Ev.step (fun k => by rw [spec_MayUse.l0]) ?_
          rw [w64 (x := t + s) (by omega) (by omega), w64 (x := x + 1) (by omega) (by omega)]
          repeat (first | (with_reducible refine Ev.ite_pos (by omega) ?_) | (with_reducible refine Ev.ite_neg (by omega) ?_))
          refine Ev.bind (linked1 p hp n f s a b x) ?_
          rw [allL]
          cases hq : linked p a b x with
          | true => exact Ev.ite_pos rfl h3
          | false => exact Ev.ite_neg (by simp) (Ev.now _)
      exact key (2 * s + 1).toNat (t - s) (by omega) (by omega)
    · rw [decide_eq_false h2, Bool.false_and]
      exact hz
  · rw [decide_eq_false h1, Bool.false_and, Bool.false_and]
    exact Ev.ite_neg (by simp) hz
theorem may2 (p : List S106) (hp : nPgI p ≤ 1048576) (n f s a b t : Int) : Ev (fun k => impl_MayUse.f k n f s p a b t) (mayB p s a b t) := by
  unfold impl_MayUse.f mayB
  have hsk : impl_isSkewed.f n f s p t = some (decide (0 ≤ s ∧ s ≤ 5) && decide (0 ≤ t ∧ t ≤ 1000)) := by
    unfold impl_isSkewed.f
    rw [in2, in2]
    by_cases h1 : 0 ≤ s ∧ s ≤ 5 <;> simp [h1]
  refine Ev.bind0 hsk ?_
  by_cases h1 : (0 ≤ s ∧ s ≤ 5) ∧ (0 ≤ t ∧ t ≤ 1000)
  · rw [decide_eq_true h1.1, decide_eq_true h1.2, Bool.true_and, Bool.true_and]
    refine Ev.ite_pos rfl ?_
    rw [w64 (x := t - s) (by omega) (by omega)]
    have key : ∀ (d : Nat) (x : Int), x + d = t + s + 1 → t - s ≤ x → Ev (fun k => impl_MayUse.l0 k a b t x n f s p) (allL p a b d x) := by
      intro d
      induction d with
      | zero =>
        intro x hx hx2
        refine Ev.step (fun k => by rw [impl_MayUse.l0]) ?_
        rw [w64 (x := t + s) (by omega) (by omega)]
        repeat (first | (with_reducible refine Ev.ite_pos (by omega) ?_) | (with_reducible refine Ev.ite_neg (by omega) ?_))
        exact Ev.now _
      | succ d ih =>
        intro x hx hx2
        have h3 := ih (x + 1) (by omega) (by omega)
        refine Ev.step (fun k => by rw [impl_MayUse.l0]) ?_
        rw [w64 (x := t + s) (by omega) (by omega), w64 (x := x + 1) (by omega) (by omega)]
        repeat (first | (with_reducible refine Ev.ite_pos (by omega) ?_) | (with_reducible refine Ev.ite_neg (by omega) ?_))
        refine Ev.bind0 (linked2 p hp n f s a b x) ?_
        rw [allL]
        cases hq : linked p a b x with
        | true => exact Ev.ite_pos rfl h3
        | false => exact Ev.ite_neg (by simp) (Ev.now _)
    exact key (2 * s + 1).toNat (t - s) (by omega) (by omega)
  · have h3 : (decide (0 ≤ s ∧ s ≤ 5) && decide (0 ≤ t ∧ t ≤ 1000)) = false := by
      rw [← Bool.decide_and]
      exact decide_eq_false h1
    rw [h3, Bool.false_and]
    exact Ev.ite_neg (by simp) (Ev.now _)
end Go.Proofs.Ytlakjlolahjphaa.fnExactUseSpans
/- The spans of ticks at which something holds, and when a link may be used, in the program and in the reference. Conditions: none. -/
namespace Go.Proofs.Ytlakjlolahjphaa.fnExactUseSpans
open Go.RowKit Go.Proofs.YtlakjlolahjphaaW.PrintWords Go.Proofs.YtlakjlolahjphaaW.PrintMore Go.Proofs.Ytlakjlolahjphaa.QFnExactUseSpans Go.Proofs.Ytlakjlolahjphaa.Open Go.Proofs.Ytlakjlolahjphaa.Kit
/-- A tick appended to a list of spans. -/
def putS (l : List S91) (t : Int) : List S91 := if 0 < l.length ∧ (l.getD (l.length - 1) z91).f1 = t then l.set (l.length - 1) ⟨(l.getD (l.length - 1) z91).f0, wrap64 (t + 1)⟩ else l ++ [⟨t, wrap64 (t + 1)⟩]
theorem putS_len (l : List S91) (t : Int) : (putS l t).length ≤ l.length + 1 := by
  unfold putS
  split
  · rw [List.length_set]; omega
  · rw [List.length_append, List.length_singleton]; omega
/-- l and the spans of those of c ticks from t on at which h holds. -/
def useL (h : Int → Bool) : Nat → Int → List S91 → List S91
  | 0, _, l => l
  | c + 1, t, l => useL h c (t + 1) (if h t = true then putS l t else l)
theorem useL_len (h : Int → Bool) : ∀ (c : Nat) (t : Int) (l : List S91), (useL h c t l).length ≤ l.length + c
  | 0, _, _ => Nat.le_refl _
  | c + 1, t, l => by
    rw [useL]
    have h1 := useL_len h c (t + 1) (if h t = true then putS l t else l)
    have h2 := putS_len l t
    split at h1 <;> rename_i hh <;> simp only [hh, if_true, if_false, Bool.false_eq_true] <;> first | omega | (rw [if_neg (by simp)]; omega)
theorem useL_add (h : Int → Bool) : ∀ (c c2 : Nat) (t : Int) (l : List S91), useL h (c + c2) t l = useL h c2 (t + c) (useL h c t l)
  | 0, c2, t, l => by rw [Nat.zero_add, useL]; simp
  | c + 1, c2, t, l => by
    rw [show c + 1 + c2 = (c + c2) + 1 by omega, useL, useL_add h c c2, useL]
    congr 1
    omega
theorem useL_none (h : Int → Bool) : ∀ (c : Nat) (t : Int) (l : List S91), (∀ x, t ≤ x → h x = false) → useL h c t l = l
  | 0, _, _, _ => rfl
  | c + 1, t, l, hh => by
    rw [useL, hh t (by omega), if_neg (by simp), useL_none h c (t + 1) l (fun x hx => hh x (by omega))]
theorem put1 (l : List S91) (hl : l.length ≤ 1048576) (t : Int) : spec_l4Put.f l t = some (putS l t) := by
  unfold spec_l4Put.f putS
  by_cases h0 : 0 < l.length
  · rw [if_pos (by omega), w64 (x := (l.length : Int) - 1) (by omega) (by omega), if_pos (by omega), if_pos (by omega), show rd_T91 l ((l.length : Int) - 1) = l.getD (l.length - 1) z91 by unfold rd_T91; rw [show ((l.length : Int) - 1).toNat = l.length - 1 by omega], show ((l.length : Int) - 1).toNat = l.length - 1 by omega]
    by_cases h1 : (l.getD (l.length - 1) z91).f1 = t
    · rw [if_pos h1, if_pos ⟨h0, h1⟩]
    · rw [if_neg h1, if_pos (by omega), if_neg (fun h2 => h1 h2.2)]
  · rw [if_neg (by omega), if_pos (by omega), if_neg (fun h2 => h0 h2.1)]
theorem useS_go (h_ : Int → Option Bool) (h : Int → Bool) (ho : ∀ t, 0 ≤ t → t < 1000 → h_ t = some (h t)) : ∀ (c : Nat) (t : Int) (l : List S91), t + c = 1000 → 0 ≤ t → l.length + c ≤ 1048576 → Ev (fun k => impl_UseSpans.sw.l0 h_ k 1000 l t) (useL h c t l) := by
  have hm : mn (1000 : Int) 1000 = 1000 := by decide
  intro c
  induction c with
  | zero =>
    intro t l ht h0 hl
    refine Ev.step (fun k => by rw [impl_UseSpans.sw.l0]) ?_
    rw [hm]
    exact Ev.ite_neg (by omega) (Ev.now _)
  | succ c ih =>
    intro t l ht h0 hl
    refine Ev.step (fun k => by rw [impl_UseSpans.sw.l0]) ?_
    rw [hm]
    refine Ev.ite_pos (by omega) (Ev.bind0 (ho t h0 (by omega)) ?_)
    rw [useL, w64 (x := t + 1) (by omega) (by omega)]
    cases hq : h t with
    | false =>
      rw [if_neg (by simp)]
      exact Ev.ite_neg (by simp) (ih (t + 1) l (by omega) (by omega) (by omega))
    | true =>
      rw [if_pos rfl]
      refine Ev.ite_pos rfl ?_
      have hp := ih (t + 1) (putS l t) (by omega) (by omega) (by have := putS_len l t; omega)
      unfold putS at hp ⊢
      by_cases h1 : 0 < l.length
      · rw [w64 (x := (l.length : Int) - 1) (by omega) (by omega), show rd_T91 l ((l.length : Int) - 1) = l.getD (l.length - 1) z91 by unfold rd_T91; rw [show ((l.length : Int) - 1).toNat = l.length - 1 by omega], show ((l.length : Int) - 1).toNat = l.length - 1 by omega]
        refine Ev.ite_pos (by omega) (Ev.ite_pos (by omega) (Ev.ite_pos (by omega) ?_))
        by_cases h2 : (l.getD (l.length - 1) z91).f1 = t
        · rw [if_pos ⟨h1, h2⟩] at hp ⊢
          refine Ev.ite_pos h2 ?_
          rw [h2]
          exact hp
        · rw [if_neg (fun h3 => h2 h3.2)] at hp ⊢
          rw [w64 (x := t + 1) (by omega) (by omega)] at hp ⊢
          exact Ev.ite_neg h2 (Ev.ite_pos (by omega) hp)
      · rw [if_neg (fun h3 => h1 h3.1)] at hp ⊢
        rw [w64 (x := (l.length : Int) - 1) (by omega) (by omega)]
        rw [w64 (x := t + 1) (by omega) (by omega)] at hp ⊢
        exact Ev.ite_neg (by omega) (Ev.ite_pos (by omega) hp)
/-- Rounds enough for all ticks at once. -/
theorem all_ticks (O : Nat → Int → Option Bool) (h : Int → Bool) (hE : ∀ t, Ev (fun k => O k t) (h t)) : ∀ n : Nat, ∃ K, ∀ (t : Int), 0 ≤ t → t < n → ∀ k, K ≤ k → O k t = some (h t)
  | 0 => ⟨0, fun t h0 h1 => by omega⟩
  | n + 1 => by
    obtain ⟨K, hK⟩ := all_ticks O h hE n
    obtain ⟨K2, hK2⟩ := hE (n : Int)
    refine ⟨max K K2, fun t h0 h1 k hk => ?_⟩
    by_cases e : t = n
    · subst e
      exact hK2 k (by omega)
    · exact hK t h0 (by omega) k (by omega)
theorem use_ev (O : Nat → Int → Option Bool) (hO : ∀ t k, LeO (O k t) (O (k + 1) t)) (h : Int → Bool) (hE : ∀ t, Ev (fun k => O k t) (h t)) : Ev (fun k => impl_UseSpans.sw.f (O k) k 0 1000 0) (useL h 1000 0 []) := by
  obtain ⟨K, hK⟩ := all_ticks O h hE 1000
  obtain ⟨K2, hK2⟩ := useS_go (O K) h (fun t h0 h1 => hK t h0 h1 K (Nat.le_refl _)) 1000 0 [] (by omega) (by omega) (by simp)
  refine ⟨max K K2, fun k hk => ?_⟩
  have h1 := hK2 k (by omega)
  have h2 : ∀ t, LeO (O K t) (O k t) := fun t r hr => at_rounds (g := fun k => O k t) (hO t) (by omega) hr
  exact impl_UseSpans.sw.mono_h h2 k 1000 [] 0 _ h1
end Go.Proofs.Ytlakjlolahjphaa.fnExactUseSpans
/- When a link may be used, in the reference: no later than the last piece's end. Conditions: none. -/
namespace Go.Proofs.Ytlakjlolahjphaa.fnExactUseSpans
open Go.RowKit Go.Proofs.YtlakjlolahjphaaW.PrintWords Go.Proofs.YtlakjlolahjphaaW.PrintMore Go.Proofs.Ytlakjlolahjphaa.QFnExactUseSpans Go.Proofs.Ytlakjlolahjphaa.Open Go.Proofs.Ytlakjlolahjphaa.Kit
def lastT : List S106 → Int → Int
  | [], m => m
  | x :: xs, m => lastT xs (max m (min 1000 x.f0.f1))
theorem lastT_ge : ∀ (p : List S106) (m : Int), m ≤ lastT p m
  | [], _ => Int.le_refl _
  | x :: xs, m => by rw [lastT]; have := lastT_ge xs (max m (min 1000 x.f0.f1)); omega
theorem lastT_le : ∀ (p : List S106) (m : Int), m ≤ 1000 → lastT p m ≤ 1000
  | [], _, h => h
  | x :: xs, m, h => by rw [lastT]; exact lastT_le xs _ (by omega)
theorem lastT_mem : ∀ (p : List S106) (m : Int) (x : S106), x ∈ p → min 1000 x.f0.f1 ≤ lastT p m
  | y :: xs, m, x, h => by
    rw [lastT]
    rcases List.mem_cons.1 h with rfl | h
    · have := lastT_ge xs (max m (min 1000 x.f0.f1)); omega
    · exact lastT_mem xs _ x h
theorem last1 (p : List S106) (hl : p.length ≤ 1048576) (n a s : Int) : Ev (fun k => spec_l20Last.f k n a s p) (lastT p 0) := by
  unfold spec_l20Last.f
  have key : ∀ (d i : Nat) (m : Int), i + d = p.length → Ev (fun k => spec_l20Last.l0 k m (i : Int) n a s p) (lastT (p.drop i) m) := by
    intro d
    induction d with
    | zero =>
      intro i m hi
      refine Ev.step (fun k => by rw [spec_l20Last.l0]) ?_
      repeat (first | (with_reducible refine Ev.ite_pos (by omega) ?_) | (with_reducible refine Ev.ite_neg (by omega) ?_))
      rw [List.drop_of_length_le (by omega), lastT]
      exact Ev.now _
    | succ d ih =>
      intro i m hi
      have h1 := ih (i + 1) (max m (min 1000 (p.getD i z106).f0.f1)) (by omega)
      refine Ev.step (fun k => by rw [spec_l20Last.l0]) ?_
      repeat (first | (with_reducible refine Ev.ite_pos (by omega) ?_) | (with_reducible refine Ev.ite_neg (by omega) ?_))
      rw [drop_getD (by omega : i < p.length) z106, show rd_T106 p (i : Int) = p.getD i z106 from rfl, w64n (by omega), lastT]
      generalize p.getD i z106 = x at h1 ⊢
      refine Ev.bind0 (a := min 1000 x.f0.f1) (by unfold spec_Min.f; split <;> simp <;> omega) (Ev.bind0 (a := max m (min 1000 x.f0.f1)) (by unfold spec_Max.f; split <;> simp <;> omega) h1)
  exact key p.length 0 0 (by omega)
theorem go_hit (t : Int) : ∀ (p : List S106) (i : Nat), 0 ≤ impl_PieceAt.go t p i → ∃ x ∈ p, impl_PieceAt.hit x t = true
  | [], _, h => by rw [impl_PieceAt.go] at h; omega
  | x :: xs, i, h => by
    by_cases hq : impl_PieceAt.hit x t = true
    · exact ⟨x, List.mem_cons_self, hq⟩
    · rw [impl_PieceAt.go, if_neg hq] at h
      obtain ⟨y, hy, hh⟩ := go_hit t xs (i + 1) h
      exact ⟨y, List.mem_cons_of_mem _ hy, hh⟩
theorem hit_lt {x : S106} {t : Int} (h : impl_PieceAt.hit x t = true) : t < min 1000 x.f0.f1 := by
  unfold impl_PieceAt.hit impl_InSpan.f impl_IsSpan.f at h
  by_cases h1 : 0 ≤ x.f0.f0 <;> by_cases h2 : x.f0.f1 ≤ 1000 <;> by_cases h3 : x.f0.f0 < x.f0.f1 <;> by_cases h4 : x.f0.f0 ≤ t <;> simp_all <;> omega
theorem linked_lt {p : List S106} {a b t : Int} (h : linked p a b t = true) : t < lastT p 0 := by
  unfold linked linkB at h
  rw [Bool.and_eq_true] at h
  have h1 := of_decide_eq_true h.1
  obtain ⟨x, hx, hh⟩ := go_hit t p 0 h1.1
  have := lastT_mem p 0 x hx
  have := hit_lt hh
  omega
theorem allL_at (p : List S106) (a b : Int) : ∀ (d : Nat) (x : Int), allL p a b d x = true → ∀ j : Nat, j < d → linked p a b (x + j) = true
  | d + 1, x, h, j, hj => by
    rw [allL, Bool.and_eq_true] at h
    cases j with
    | zero => simpa using h.1
    | succ j => have := allL_at p a b d (x + 1) h.2 j (by omega); rw [show x + ((j + 1 : Nat) : Int) = x + 1 + (j : Int) by omega]; exact this
theorem may_at {p : List S106} {s a b t : Int} (h : mayB p s a b t = true) : linked p a b t = true := by
  unfold mayB at h
  rw [Bool.and_eq_true, Bool.and_eq_true] at h
  have h1 := of_decide_eq_true h.1.1
  have := allL_at p a b _ _ h.2 s.toNat (by omega)
  rwa [show t - s + (s.toNat : Int) = t by omega] at this
theorem may_lt {p : List S106} {s a b t : Int} (h : mayB p s a b t = true) : t < lastT p 0 := linked_lt (may_at h)
end Go.Proofs.Ytlakjlolahjphaa.fnExactUseSpans
/- What a program's marks come to. Conditions: none. -/
namespace Go.Proofs.Ytlakjlolahjphaa.fnExactUseSpans
open Go.RowKit Go.Proofs.YtlakjlolahjphaaW.PrintWords Go.Proofs.YtlakjlolahjphaaW.PrintMore Go.Proofs.Ytlakjlolahjphaa.QFnExactUseSpans Go.Proofs.Ytlakjlolahjphaa.Open Go.Proofs.Ytlakjlolahjphaa.Kit
theorem sumT_le (l : List S65) : Mk.sumT (l.map fun t => (t.f1.length, t.f2.length)) = l.length + (l.map n65).sum := by
  unfold Mk.sumT
  rw [List.map_map]
  induction l with
  | nil => rfl
  | cons t l ih =>
    rw [List.map_cons, List.sum_cons, ih, List.map_cons, List.sum_cons, List.length_cons]
    have h3 : n65 t = t.f1.length + t.f2.length := rfl
    rw [h3]
    simp only [Function.comp]
    omega
theorem sumP_le (l : List S106) : Mk.sumP (laws_markProgram.cnt l) ≤ 2 * (l.length + (l.map n106).sum) := by
  unfold Mk.sumP laws_markProgram.cnt
  rw [List.map_map]
  induction l with
  | nil => simp
  | cons x l ih =>
    rw [List.map_cons, List.sum_cons, List.map_cons, List.sum_cons, List.length_cons]
    have h0 : n106 x = x.f1.length + (x.f2.length + (x.f2.map n65).sum) := rfl
    rw [h0]
    simp only [Function.comp]
    rw [sumT_le]
    omega
theorem mark_Program (a0 a1 a2 : Int) (l : List S106) (a : Int) (hn : (l.length + (l.map n106).sum) ≤ 1048576) (h0 : 0 ≤ a) (h1 : a ≤ 1000000000) : ∃ r : Int, laws_markProgram.f a0 a1 a2 l a = some r ∧ a ≤ r ∧ r ≤ a + 2097152 := by
  have h := sumP_le l
  refine ⟨_, rfl, ?_, ?_⟩ <;> rw [Mk.bump_num h0 (by omega)] <;> omega
end Go.Proofs.Ytlakjlolahjphaa.fnExactUseSpans
namespace Go.Proofs.Ytlakjlolahjphaa.fnExactUseSpans
open Go.RowKit Go.Proofs.YtlakjlolahjphaaW.PrintWords Go.Proofs.YtlakjlolahjphaaW.PrintMore Go.Proofs.Ytlakjlolahjphaa.QFnExactUseSpans Go.Proofs.Ytlakjlolahjphaa.Open Go.Proofs.Ytlakjlolahjphaa.Kit
theorem uses1 (p : List S106) (hp : nPgI p ≤ 1048576) (n f s a b : Int) : Ev (fun k => spec_UseSpans.f k n f s p a b) (useL (mayB p s a b) 1000 0 []) := by
  have hl : p.length ≤ 1048576 := by unfold nPgI at hp; omega
  unfold spec_UseSpans.f
  refine Ev.bind (last1 p hl n f s) ?_
  have h0 := lastT_ge p 0
  have h1 := lastT_le p 0 (by omega)
  have hs : useL (mayB p s a b) 1000 0 [] = useL (mayB p s a b) (lastT p 0).toNat 0 [] := by
    rw [show 1000 = (lastT p 0).toNat + (1000 - (lastT p 0).toNat) by omega, useL_add]
    refine useL_none _ _ _ _ fun x hx => ?_
    cases hq : mayB p s a b x with
    | false => rfl
    | true => have := may_lt hq; omega
  rw [hs]
  have key : ∀ (c : Nat) (t : Int) (l : List S91), t + c = lastT p 0 → 0 ≤ t → l.length + c ≤ 1048576 → Ev (fun k => spec_UseSpans.l0 k a b l (lastT p 0) t n f s p) (useL (mayB p s a b) c t l) := by
    intro c
    induction c with
    | zero =>
      intro t l ht h0 hl
      refine Ev.step (fun k => by rw [spec_UseSpans.l0]) ?_
      exact Ev.ite_neg (by omega) (Ev.now _)
    | succ c ih =>
      intro t l ht h0 hl
      refine Ev.step (fun k => by rw [spec_UseSpans.l0]) ?_
      refine Ev.ite_pos (by omega) (Ev.bind (may1 p hp n f s a b t) ?_)
      rw [useL, w64 (x := t + 1) (by omega) (by omega)]
      cases hq : mayB p s a b t with
      | false =>
        rw [if_neg (by simp)]
        exact Ev.ite_neg (by simp) (ih (t + 1) l (by omega) (by omega) (by omega))
      | true =>
        rw [if_pos rfl]
        exact Ev.ite_pos rfl (Ev.bind0 (put1 l (by omega) t) (ih (t + 1) _ (by omega) (by omega) (by have := putS_len l t; omega)))
  exact key _ 0 [] (by omega) (by omega) (by simp; omega)
theorem uses2 (p : List S106) (hp : nPgI p ≤ 1048576) (n f s a b : Int) : Ev (fun k => impl_UseSpans.f k n f s p a b) (useL (mayB p s a b) 1000 0 []) := by
  unfold impl_UseSpans.f
  exact use_ev (fun k t => impl_MayUse.f k n f s p a b t) (fun t k => impl_MayUse.mono n f s p a b t k) _ (fun t => may2 p hp n f s a b t)
theorem pure : PureFnExactUseSpans := by
  intro n f s p a b _ _ _ hp _ _
  have hb : p.length ≤ 140737488351232 ∧ (∀ y ∈ p, b139 y) := ⟨Len.le hp.1 (by omega), fun y hy => bPiece (hp.2 y hy)⟩
  refine Ev.rounds (r := true) ?_
  unfold laws_FnExactUseSpans.f
  refine Ev.bind (sz_Program n f s p 1048576 hb (by omega) (by omega)) ?_
  by_cases hn : ((nPg p : Nat) : Int) ≤ 1048576
  · have hs : szOf 1048576 (p.length + (p.map n139).sum) = 1048576 - ((nPg p : Nat) : Int) := by unfold szOf nPg; rw [if_pos (by exact hn)]
    rw [hs]
    have hq : nPg p ≤ 1048576 := by omega
    have hqi : nPgI (p.map cPiece) ≤ 1048576 := by rw [nPgI_c]; exact hq
    have hqj := hqi
    unfold nPg at hq
    unfold nPgI at hqj
    have hlen : (useL (mayB (p.map cPiece) s a b) 1000 0 []).length ≤ 0 + 1000 := useL_len (mayB (p.map cPiece) s a b) 1000 0 []
    have u1 := uses1 (p.map cPiece) hqi n f s a b
    have u2 := uses2 (p.map cPiece) hqi n f s a b
    generalize useL (mayB (p.map cPiece) s a b) 1000 0 [] = g at hlen u1 u2
    refine Ev.ite_neg (by omega) ?_
    refine Ev.bind (to_Program n f s p hq) ?_
    refine Ev.bind u1 ?_
    refine Ev.bind (to_Program n f s p hq) ?_
    refine Ev.bind u2 ?_
    refine Ev.bind (eq_SpanS _ (by omega)) ?_
    refine Ev.ite_pos rfl ?_
    refine Ev.bind (to_Program n f s p hq) ?_
    refine Ev.bind (eq_Program n f s _ hqj) ?_
    refine Ev.ite_pos rfl ?_
    obtain ⟨r, hr, hr0, hr1⟩ := mark_Program n f s (p.map cPiece) 1 hqj (by omega) (by omega)
    refine Ev.bind0 hr ?_
    refine Ev.ite_neg (by omega) ?_
    refine Ev.bind (eq_SpanS _ (by omega)) ?_
    refine Ev.step (fun k => by rw [laws_FnExactUseSpans.j0]) ?_
    refine Ev.ite_neg (by simp) ?_
    have hh := held_SpanS g.length 1 (by omega) (by omega) (by omega)
    refine Ev.bind (mark_SpanS _ 1 (by omega) (by omega) (by omega)) ?_
    refine Ev.bind hh ?_
    refine Ev.ite_neg (by omega) ?_
    refine Ev.ite_pos rfl ?_
    refine Ev.bind (to_Program n f s p hq) ?_
    refine Ev.bind u2 ?_
    refine Ev.bind (eq_SpanS _ (by omega)) ?_
    refine Ev.ite_pos rfl ?_
    refine Ev.bind hh ?_
    refine Ev.ite_neg (by omega) ?_
    exact Ev.ite_pos rfl (Ev.now _)
  · have hs : szOf 1048576 (p.length + (p.map n139).sum) = -1 := by unfold szOf; rw [if_neg (by exact hn)]
    rw [hs]
    exact Ev.ite_pos (by omega) (Ev.now _)
end Go.Proofs.Ytlakjlolahjphaa.fnExactUseSpans
namespace Go.Proofs.Ytlakjlolahjphaa
theorem fnExactUseSpans_holds : Rows.FnExactUseSpansSaid := fnExactUseSpans.row fnExactUseSpans.pure
end Go.Proofs.Ytlakjlolahjphaa
