/- Small words on answers that come with enough rounds. Conditions: none. -/
import Derived.Test.YtlakjlolahjphaaWMore
import Derived.Test.YtlakjlolahjphaaOpen
namespace Go.Proofs.Ytlakjlolahjphaa.Kit
open Go.RowKit Go.Proofs.YtlakjlolahjphaaW.PrintWords Go.Proofs.YtlakjlolahjphaaW.PrintLast Go.Proofs.YtlakjlolahjphaaW.PrintMore Go.Proofs.Ytlakjlolahjphaa.Open

theorem Ev.ite_pos {α : Type} {c : Prop} [Decidable c] {f g : Nat → Option α} {r : α} (h : c) (k : Ev f r) : Ev (fun n => if c then f n else g n) r := by simpa only [if_pos h] using k
theorem Ev.ite_neg {α : Type} {c : Prop} [Decidable c] {f g : Nat → Option α} {r : α} (h : ¬ c) (k : Ev g r) : Ev (fun n => if c then f n else g n) r := by simpa only [if_neg h] using k
theorem Ev.bind0 {α β : Type} {o : Option α} {f : Nat → α → Option β} {a : α} {r : β} (h : o = some a) (k : Ev (fun n => f n a) r) : Ev (fun n => o.bind (f n)) r := by subst h; exact k
theorem Ev.some {α : Type} {r r' : α} (h : r' = r) : Ev (fun _ => some r') r := by subst h; exact Ev.now _
theorem Ev.eq {α : Type} {o : Option α} {r : α} (h : o = Option.some r) : Ev (fun _ => o) r := ⟨0, fun _ _ => h⟩
theorem Ev.uniq {α : Type} {g : Nat → Option α} {r r' : α} (h : Ev g r) (h' : Ev g r') : r = r' := by
  obtain ⟨K, h⟩ := h
  obtain ⟨K', h'⟩ := h'
  exact Option.some.inj ((h (max K K') (Nat.le_max_left _ _)).symm.trans (h' (max K K') (Nat.le_max_right _ _)))
theorem w64 {x : Int} (h0 : -9223372036854775808 ≤ x) (h1 : x ≤ 9223372036854775807) : wrap64 x = x := by
  unfold wrap64
  omega
theorem w64s {i : Int} {n : Nat} (h0 : 0 ≤ i) (h1 : i < (n : Int)) (hn : n ≤ 140737488351232) : wrap64 (i + 1) = i + 1 := w64 (by omega) (by omega)
theorem mx_def (a b : Int) : mx a b = max a b := by unfold mx; omega
theorem mn_def (a b : Int) : mn a b = min a b := by unfold mn; omega
theorem Len.le {B : Nat} {α : Type} {l : List α} (h : Len B l) (hB : 0 < B) : l.length ≤ 140737488351232 := by
  unfold Len at h
  exact Nat.le_trans (Nat.le_mul_of_pos_right _ hB) h
/-! ### loops that count up -/
/-- A loop from 0 to n with one answer: at each i the answer behind one round is the answer, and at n it is there. p: what holds at i. -/
theorem Ev.upIf {ρ : Type} {n : Nat} (p : Nat → Prop) {g : Nat → Nat → Option ρ} {r : ρ} (hs : ∀ i, i < n → p i → (p (i + 1) → Ev (g (i + 1)) r) → Ev (g i) r) (he : p n → Ev (g n) r) (h0 : p 0) : Ev (g 0) r := by
  have key : ∀ d i, i + d = n → p i → Ev (g i) r := by
    intro d
    induction d with
    | zero => intro i hi hp; obtain rfl : i = n := by omega
              exact he hp
    | succ d ih => intro i hi hp; exact hs i (by omega) hp (fun hp' => ih (i + 1) (by omega) hp')
  exact key n 0 (by omega) h0
theorem Ev.up {ρ : Type} {n : Nat} {g : Nat → Nat → Option ρ} {r : ρ} (hs : ∀ i, i < n → Ev (g (i + 1)) r → Ev (g i) r) (he : Ev (g n) r) : Ev (g 0) r :=
  Ev.upIf (fun _ => True) (fun i hi _ h => hs i hi (h trivial)) (fun _ => he) trivial
theorem w64n {i : Nat} (h : i ≤ 140737488351232) : wrap64 ((i : Int) + 1) = ((i + 1 : Nat) : Int) := by
  rw [w64 (by omega) (by omega)]
  omega
theorem rd_nat (xs : List Int) (i : Nat) : rd xs (i : Int) = xs.getD i 0 := rfl
theorem getD_at {α : Type} {xs : List α} {i : Nat} (h : i < xs.length) (z : α) : xs.getD i z = xs[i] := by simp [List.getD, h]
theorem getD_mem {α : Type} {xs : List α} {i : Nat} (h : i < xs.length) (z : α) : xs.getD i z ∈ xs := by rw [getD_at h]; exact List.getElem_mem h
theorem take_succ_getD {α : Type} {xs : List α} {i : Nat} (h : i < xs.length) (z : α) : xs.take (i + 1) = xs.take i ++ [xs.getD i z] := by
  rw [List.take_succ_eq_append_getElem h, getD_at h]
theorem drop_getD {α : Type} {xs : List α} {i : Nat} (h : i < xs.length) (z : α) : xs.drop i = xs.getD i z :: xs.drop (i + 1) := by
  rw [List.drop_eq_getElem_cons h, getD_at h]
/-- A row of zeros that is filled from the left. -/
def fillTo {α β : Type} (c : α → β) (z : β) (xs : List α) (i : Nat) : List β := (xs.take i).map c ++ List.replicate (xs.length - i) z
theorem fillTo_zero {α β : Type} (c : α → β) (z : β) (xs : List α) : fillTo c z xs 0 = List.replicate xs.length z := by simp [fillTo]
theorem fillTo_all {α β : Type} (c : α → β) (z : β) (xs : List α) : fillTo c z xs xs.length = xs.map c := by simp [fillTo]
theorem fillTo_length {α β : Type} (c : α → β) (z : β) (xs : List α) {i : Nat} (h : i ≤ xs.length) : (fillTo c z xs i).length = xs.length := by
  simp [fillTo]
  omega
theorem fillTo_set {α β : Type} (c : α → β) (z : β) (xs : List α) {i : Nat} (h : i < xs.length) (a : α) : (fillTo c z xs i).set i (c (xs.getD i a)) = fillTo c z xs (i + 1) := by
  have hl : ((xs.take i).map c).length = i := by simp; omega
  unfold fillTo
  rw [List.set_append_right _ _ (by omega), hl, Nat.sub_self, take_succ_getD h a, List.map_append, show xs.length - i = (xs.length - (i + 1)) + 1 by omega, List.replicate_succ]
  simp
/-- What the elements from the first up to i weigh. -/
def sumTo {α : Type} (f : α → Nat) (xs : List α) (i : Nat) : Nat := ((xs.take i).map f).sum
theorem sumTo_succ {α : Type} (f : α → Nat) {xs : List α} {i : Nat} (h : i < xs.length) (z : α) : sumTo f xs (i + 1) = sumTo f xs i + f (xs.getD i z) := by
  unfold sumTo
  rw [take_succ_getD h z]
  simp
theorem sumTo_all {α : Type} (f : α → Nat) (xs : List α) : sumTo f xs xs.length = (xs.map f).sum := by simp [sumTo]
theorem sumTo_le {α : Type} (f : α → Nat) (xs : List α) (i : Nat) : sumTo f xs i ≤ (xs.map f).sum := by
  unfold sumTo
  have h := congrArg List.sum (List.take_append_drop i (xs.map f))
  rw [List.sum_append, ← List.map_take] at h
  omega
theorem le_sum {α : Type} (f : α → Nat) {xs : List α} {x : α} (h : x ∈ xs) : f x ≤ (xs.map f).sum := by
  induction xs with
  | nil => cases h
  | cons y ys ih =>
    simp only [List.map_cons, List.sum_cons]
    rcases List.mem_cons.1 h with rfl | h
    · omega
    · have := ih h
      omega
/-- 'left' behind a value of the size n: -1 where it doesn't suffice. -/
def szOf (left : Int) (n : Nat) : Int := if (n : Int) ≤ left then left - n else -1
/-- A fold over the first i elements. -/
def foldTo {α σ : Type} (f : σ → α → σ) (s : σ) (xs : List α) (i : Nat) : σ := (xs.take i).foldl f s
theorem foldTo_zero {α σ : Type} (f : σ → α → σ) (s : σ) (xs : List α) : foldTo f s xs 0 = s := by simp [foldTo]
theorem foldTo_succ {α σ : Type} (f : σ → α → σ) (s : σ) {xs : List α} {i : Nat} (h : i < xs.length) (z : α) : foldTo f s xs (i + 1) = f (foldTo f s xs i) (xs.getD i z) := by
  unfold foldTo
  rw [take_succ_getD h z, List.foldl_append]
  rfl
theorem foldTo_all {α σ : Type} (f : σ → α → σ) (s : σ) (xs : List α) : foldTo f s xs xs.length = xs.foldl f s := by simp [foldTo]
/-! ### lists told by their index -/
theorem map_range_set {β : Type} (n : Nat) (f : Nat → β) (u : Nat) (v : β) : ((List.range n).map f).set u v = (List.range n).map (fun j => if j = u then v else f j) := by
  apply List.ext_getElem
  · simp
  · intro i h1 h2
    rw [List.getElem_set]
    by_cases h : u = i
    · rw [if_pos h]
      simp [h]
    · rw [if_neg h]
      simp [Ne.symm h]
theorem map_range_getD {β : Type} {n : Nat} (f : Nat → β) {u : Nat} (h : u < n) (z : β) : ((List.range n).map f).getD u z = f u := by
  rw [getD_at (by simpa using h)]
  simp
theorem map_range_congr {β : Type} {n : Nat} {f g : Nat → β} (h : ∀ i, i < n → f i = g i) : (List.range n).map f = (List.range n).map g :=
  List.map_congr_left fun i hi => h i (List.mem_range.1 hi)
/-- A loop that counts down from t + n - 1 to t. -/
theorem Ev.down {ρ : Type} {n : Nat} {g : Nat → Nat → Option ρ} {r : ρ} (hs : ∀ m, m < n → Ev (g m) r → Ev (g (m + 1)) r) (he : Ev (g 0) r) : Ev (g n) r := by
  have key : ∀ m, m ≤ n → Ev (g m) r := by
    intro m
    induction m with
    | zero => intro _; exact he
    | succ m ih => intro hm; exact hs m (by omega) (ih (by omega))
  exact key n (Nat.le_refl _)
theorem set_mid {α : Type} (pre suf : List α) (x y : α) {i : Nat} (h : pre.length = i) : (pre ++ x :: suf).set i y = pre ++ y :: suf := by
  rw [List.set_append_right _ _ (by omega), h, Nat.sub_self]
  rfl
theorem getD_mid {α : Type} (pre suf : List α) (x z : α) {i : Nat} (h : pre.length = i) : (pre ++ x :: suf).getD i z = x := by
  subst h
  simp [List.getD]
end Go.Proofs.Ytlakjlolahjphaa.Kit
