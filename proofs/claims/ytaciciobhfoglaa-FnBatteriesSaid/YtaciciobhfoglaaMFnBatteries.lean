/- FnBatteries: who sends only when it may has at the next tick what is needed from then on. Conditions: none. -/
import Derived.Test.YtaciciobhfoglaaWMore
import Derived.Test.YtaciciobhfoglaaOpen
import Derived.Test.YtaciciobhfoglaaQFnBatteriesx
import Derived.Laws.BitsLemmas
import Derived.Test.YtaciciobhfoglaaRowFnBatteries
/- Small words on answers that come with enough rounds. Conditions: none. -/
namespace Go.Proofs.Ytaciciobhfoglaa.Kit
open Go.RowKit Go.Proofs.YtaciciobhfoglaaW.PrintWords Go.Proofs.YtaciciobhfoglaaW.PrintLast Go.Proofs.YtaciciobhfoglaaW.PrintMore Go.Proofs.Ytaciciobhfoglaa.Open

theorem Ev.ite_pos {α : Type} {c : Prop} [Decidable c] {f g : Nat → Option α} {r : α} (h : c) (k : Ev f r) : Ev (fun n => if c then f n else g n) r := by simpa only [if_pos h] using k
theorem Ev.ite_neg {α : Type} {c : Prop} [Decidable c] {f g : Nat → Option α} {r : α} (h : ¬ c) (k : Ev g r) : Ev (fun n => if c then f n else g n) r := by simpa only [if_neg h] using k
theorem Ev.bind0 {α β : Type} {o : Option α} {f : Nat → α → Option β} {a : α} {r : β} (h : o = some a) (k : Ev (fun n => f n a) r) : Ev (fun n => o.bind (f n)) r := by subst h; exact k
theorem Ev.some {α : Type} {r r' : α} (h : r' = r) : Ev (fun _ => some r') r := by subst h; exact Ev.now _
theorem Ev.eq {α : Type} {o : Option α} {r : α} (h : o = Option.some r) : Ev (fun _ => o) r := ⟨0, fun _ _ => h⟩
theorem Ev.uniq {α : Type} {g : Nat → Option α} {r r' : α} (h : Ev g r) (h' : Ev g r') : r = r' := by
  obtain ⟨K, h⟩ := h
  obtain ⟨K', h'⟩ := h'
  exact Option.some.inj ((h (max K K') (Nat.le_max_left _ _)).symm.trans (h' (max K K') (Nat.le_max_right _ _)))
theorem w64 {x : Int} (h0 : -9223372036854775808 ≤ x) (h1 : x ≤ 9223372036854775807) : wrap64 x = x := by
  unfold wrap64
  omega
theorem w64s {i : Int} {n : Nat} (h0 : 0 ≤ i) (h1 : i < (n : Int)) (hn : n ≤ 140737488351232) : wrap64 (i + 1) = i + 1 := w64 (by omega) (by omega)
theorem mx_def (a b : Int) : mx a b = max a b := by unfold mx; omega
theorem mn_def (a b : Int) : mn a b = min a b := by unfold mn; omega
theorem Len.le {B : Nat} {α : Type} {l : List α} (h : Len B l) (hB : 0 < B) : l.length ≤ 140737488351232 := by
  unfold Len at h
  exact Nat.le_trans (Nat.le_mul_of_pos_right _ hB) h
/-! ### loops that count up -/
/-- A loop from 0 to n with one answer: at each i the answer behind one round is the answer, and at n it is there. p: what holds at i. -/
theorem Ev.upIf {ρ : Type} {n : Nat} (p : Nat → Prop) {g : Nat → Nat → Option ρ} {r : ρ} (hs : ∀ i, i < n → p i → (p (i + 1) → Ev (g (i + 1)) r) → Ev (g i) r) (he : p n → Ev (g n) r) (h0 : p 0) : Ev (g 0) r := by
  have key : ∀ d i, i + d = n → p i → Ev (g i) r := by
    intro d
    induction d with
    | zero => intro i hi hp; obtain rfl : i = n := by omega
              exact he hp
    | succ d ih => intro i hi hp; exact hs i (by omega) hp (fun hp' => ih (i + 1) (by omega) hp')
  exact key n 0 (by omega) h0
theorem Ev.up {ρ : Type} {n : Nat} {g : Nat → Nat → Option ρ} {r : ρ} (hs : ∀ i, i < n → Ev (g (i + 1)) r → Ev (g i) r) (he : Ev (g n) r) : Ev (g 0) r :=
  Ev.upIf (fun _ => True) (fun i hi _ h => hs i hi (h trivial)) (fun _ => he) trivial
theorem w64n {i : Nat} (h : i ≤ 140737488351232) : wrap64 ((i : Int) + 1) = ((i + 1 : Nat) : Int) := by
  rw [w64 (by omega) (by omega)]
  omega
theorem rd_nat (xs : List Int) (i : Nat) : rd xs (i : Int) = xs.getD i 0 := rfl
theorem getD_at {α : Type} {xs : List α} {i : Nat} (h : i < xs.length) (z : α) : xs.getD i z = xs[i] := by simp [List.getD, h]
theorem getD_mem {α : Type} {xs : List α} {i : Nat} (h : i < xs.length) (z : α) : xs.getD i z ∈ xs := by rw [getD_at h]; exact List.getElem_mem h
theorem take_succ_getD {α : Type} {xs : List α} {i : Nat} (h : i < xs.length) (z : α) : xs.take (i + 1) = xs.take i ++ [xs.getD i z] := by
  rw [List.take_succ_eq_append_getElem h, getD_at h]
theorem drop_getD {α : Type} {xs : List α} {i : Nat} (h : i < xs.length) (z : α) : xs.drop i = xs.getD i z :: xs.drop (i + 1) := by
  rw [List.drop_eq_getElem_cons h, getD_at h]
/-- A row of zeros that is filled from the left. -/
def fillTo {α β : Type} (c : α → β) (z : β) (xs : List α) (i : Nat) : List β := (xs.take i).map c ++ List.replicate (xs.length - i) z
theorem fillTo_zero {α β : Type} (c : α → β) (z : β) (xs : List α) : fillTo c z xs 0 = List.replicate xs.length z := by simp [fillTo]
theorem fillTo_all {α β : Type} (c : α → β) (z : β) (xs : List α) : fillTo c z xs xs.length = xs.map c := by simp [fillTo]
theorem fillTo_length {α β : Type} (c : α → β) (z : β) (xs : List α) {i : Nat} (h : i ≤ xs.length) : (fillTo c z xs i).length = xs.length := by
  simp [fillTo]
  omega
theorem fillTo_set {α β : Type} (c : α → β) (z : β) (xs : List α) {i : Nat} (h : i < xs.length) (a : α) : (fillTo c z xs i).set i (c (xs.getD i a)) = fillTo c z xs (i + 1) := by
  have hl : ((xs.take i).map c).length = i := by simp; omega
  unfold fillTo
  rw [List.set_append_right _ _ (by omega), hl, Nat.sub_self, take_succ_getD h a, List.map_append, show xs.length - i = (xs.length - (i + 1)) + 1 by omega, List.replicate_succ]
  simp
/-- What the elements from the first up to i weigh. -/
def sumTo {α : Type} (f : α → Nat) (xs : List α) (i : Nat) : Nat := ((xs.take i).map f).sum
theorem sumTo_succ {α : Type} (f : α → Nat) {xs : List α} {i : Nat} (h : i < xs.length) (z : α) : sumTo f xs (i + 1) = sumTo f xs i + f (xs.getD i z) := by
  unfold sumTo
  rw [take_succ_getD h z]
  simp
theorem sumTo_all {α : Type} (f : α → Nat) (xs : List α) : sumTo f xs xs.length = (xs.map f).sum := by simp [sumTo]
theorem sumTo_le {α : Type} (f : α → Nat) (xs : List α) (i : Nat) : sumTo f xs i ≤ (xs.map f).sum := by
  unfold sumTo
  have h := congrArg List.sum (List.take_append_drop i (xs.map f))
  rw [List.sum_append, ← List.map_take] at h
  omega
theorem le_sum {α : Type} (f : α → Nat) {xs : List α} {x : α} (h : x ∈ xs) : f x ≤ (xs.map f).sum := by
  induction xs with
  | nil => cases h
  | cons y ys ih =>
    simp only [List.map_cons, List.sum_cons]
    rcases List.mem_cons.1 h with rfl | h
    · omega
    · have := ih h
      omega
/-- 'left' behind a value of the size n: -1 where it doesn't suffice. -/
def szOf (left : Int) (n : Nat) : Int := if (n : Int) ≤ left then left - n else -1
/-- A fold over the first i elements. -/
def foldTo {α σ : Type} (f : σ → α → σ) (s : σ) (xs : List α) (i : Nat) : σ := (xs.take i).foldl f s
theorem foldTo_zero {α σ : Type} (f : σ → α → σ) (s : σ) (xs : List α) : foldTo f s xs 0 = s := by simp [foldTo]
theorem foldTo_succ {α σ : Type} (f : σ → α → σ) (s : σ) {xs : List α} {i : Nat} (h : i < xs.length) (z : α) : foldTo f s xs (i + 1) = f (foldTo f s xs i) (xs.getD i z) := by
  unfold foldTo
  rw [take_succ_getD h z, List.foldl_append]
  rfl
theorem foldTo_all {α σ : Type} (f : σ → α → σ) (s : σ) (xs : List α) : foldTo f s xs xs.length = xs.foldl f s := by simp [foldTo]
/-! ### lists told by their index -/
theorem map_range_set {β : Type} (n : Nat) (f : Nat → β) (u : Nat) (v : β) : ((List.range n).map f).set u v = (List.range n).map (fun j => if j = u then v else f j) := by
  apply List.ext_getElem
  · simp
  · intro i h1 h2
    rw [List.getElem_set]
    by_cases h : u = i
    · rw [if_pos h]
      simp [h]
    · rw [if_neg h]
      simp [Ne.symm h]
theorem map_range_getD {β : Type} {n : Nat} (f : Nat → β) {u : Nat} (h : u < n) (z : β) : ((List.range n).map f).getD u z = f u := by
  rw [getD_at (by simpa using h)]
  simp
theorem map_range_congr {β : Type} {n : Nat} {f g : Nat → β} (h : ∀ i, i < n → f i = g i) : (List.range n).map f = (List.range n).map g :=
  List.map_congr_left fun i hi => h i (List.mem_range.1 hi)
/-- A loop that counts down from t + n - 1 to t. -/
theorem Ev.down {ρ : Type} {n : Nat} {g : Nat → Nat → Option ρ} {r : ρ} (hs : ∀ m, m < n → Ev (g m) r → Ev (g (m + 1)) r) (he : Ev (g 0) r) : Ev (g n) r := by
  have key : ∀ m, m ≤ n → Ev (g m) r := by
    intro m
    induction m with
    | zero => intro _; exact he
    | succ m ih => intro hm; exact hs m (by omega) (ih (by omega))
  exact key n (Nat.le_refl _)
theorem set_mid {α : Type} (pre suf : List α) (x y : α) {i : Nat} (h : pre.length = i) : (pre ++ x :: suf).set i y = pre ++ y :: suf := by
  rw [List.set_append_right _ _ (by omega), h, Nat.sub_self]
  rfl
theorem getD_mid {α : Type} (pre suf : List α) (x z : α) {i : Nat} (h : pre.length = i) : (pre ++ x :: suf).getD i z = x := by
  subst h
  simp [List.getD]
end Go.Proofs.Ytaciciobhfoglaa.Kit
/- Whether a tick is in a span, in the reference. Conditions: none. -/
namespace Go.Proofs.Ytaciciobhfoglaa.fnBatteries
open Go.RowKit Go.Proofs.YtaciciobhfoglaaW.PrintWords Go.Proofs.YtaciciobhfoglaaW.PrintMore Go.Proofs.Ytaciciobhfoglaa.QFnBatteries Go.Proofs.Ytaciciobhfoglaa.Open Go.Proofs.Ytaciciobhfoglaa.Kit
/-- A tick is in a valid span. -/
def inS (s : S100) (t : Int) : Bool := decide (0 ≤ s.f0 ∧ s.f1 ≤ 1000 ∧ s.f0 < s.f1 ∧ s.f0 ≤ t ∧ t < s.f1)
def inSp (l : List S100) (t : Int) : Bool := l.any fun s => inS s t
theorem inSpan1 (s : S100) (t : Int) : spec_InSpan.f s.f0 s.f1 t = some (inS s t) := by
  unfold spec_InSpan.f spec_IsSpan.f inS
  by_cases h1 : 0 ≤ s.f0 <;> by_cases h2 : s.f1 ≤ 1000 <;> by_cases h3 : s.f0 < s.f1 <;> by_cases h4 : s.f0 ≤ t <;> simp [h1, h2, h3, h4]
theorem inSpans1 (l : List S100) (t : Int) (hl : l.length ≤ 1048576) : Ev (fun k => spec_InSpans.f k l t) (inSp l t) := by
  have key : ∀ d i : Nat, i + d = l.length → Ev (fun k => spec_InSpans.l0 k l t (i : Int)) (inSp (l.drop i) t) := by
    intro d
    induction d with
    | zero =>
      intro i hi
      refine Ev.step (fun k => by rw [spec_InSpans.l0]) ?_
      repeat (first | (with_reducible refine Ev.ite_pos (by omega) ?_) | (with_reducible refine Ev.ite_neg (by omega) ?_))
      refine Ev.some ?_
      rw [List.drop_of_length_le (by omega)]
      rfl
    | succ d ih =>
      intro i hi
      have h1 := ih (i + 1) (by omega)
      refine Ev.step (fun k => by rw [spec_InSpans.l0]) ?_
      repeat (first | (with_reducible refine Ev.ite_pos (by omega) ?_) | (with_reducible refine Ev.ite_neg (by omega) ?_))
      rw [drop_getD (by omega : i < l.length) z100]
      refine Ev.bind0 (inSpan1 (l.getD i z100) t) ?_
      cases he : inS (l.getD i z100) t with
      | true =>
        refine Ev.ite_pos rfl (Ev.some ?_)
        unfold inSp
        rw [List.any_cons, he]
        rfl
      | false =>
        refine Ev.ite_neg (by simp) ?_
        rw [w64n (by omega)]
        have e : inSp (l.getD i z100 :: l.drop (i + 1)) t = inSp (l.drop (i + 1)) t := by
          unfold inSp
          rw [List.any_cons, he]
          rfl
        rw [e]
        exact h1
  exact key l.length 0 (by omega)
end Go.Proofs.Ytaciciobhfoglaa.fnBatteries
/- Whether a tick is in a span, in the program. Conditions: none. -/
namespace Go.Proofs.Ytaciciobhfoglaa.fnBatteries
open Go.RowKit Go.Proofs.YtaciciobhfoglaaW.PrintWords Go.Proofs.YtaciciobhfoglaaW.PrintMore Go.Proofs.Ytaciciobhfoglaa.QFnBatteries Go.Proofs.Ytaciciobhfoglaa.Open Go.Proofs.Ytaciciobhfoglaa.Kit
theorem inSpan2 (s : S100) (t : Int) : impl_InSpan.f s.f0 s.f1 t = some (inS s t) := by
  unfold impl_InSpan.f impl_IsSpan.f inS
  by_cases h1 : 0 ≤ s.f0 <;> by_cases h2 : s.f1 ≤ 1000 <;> by_cases h3 : s.f0 < s.f1 <;> by_cases h4 : s.f0 ≤ t <;> simp [h1, h2, h3, h4]
theorem inSpans2 (l : List S100) (t : Int) (hl : l.length ≤ 1048576) : Ev (fun k => impl_InSpans.f k l t) (inSp l t) := by
  have key : ∀ d i : Nat, i + d = l.length → Ev (fun k => impl_InSpans.l0 k t l (l.length : Int) (i : Int)) (inSp (l.drop i) t) := by
    intro d
    induction d with
    | zero =>
      intro i hi
      refine Ev.step (fun k => by rw [impl_InSpans.l0]) ?_
      repeat (first | (with_reducible refine Ev.ite_pos (by omega) ?_) | (with_reducible refine Ev.ite_neg (by omega) ?_))
      refine Ev.some ?_
      rw [List.drop_of_length_le (by omega)]
      rfl
    | succ d ih =>
      intro i hi
      have h1 := ih (i + 1) (by omega)
      refine Ev.step (fun k => by rw [impl_InSpans.l0]) ?_
      repeat (first | (with_reducible refine Ev.ite_pos (by omega) ?_) | (with_reducible refine Ev.ite_neg (by omega) ?_))
      rw [drop_getD (by omega : i < l.length) z100]
      refine Ev.bind0 (inSpan2 (l.getD i z100) t) ?_
      cases he : inS (l.getD i z100) t with
      | true =>
        refine Ev.ite_pos rfl (Ev.some ?_)
        unfold inSp
        rw [List.any_cons, he]
        rfl
      | false =>
        refine Ev.ite_neg (by simp) ?_
        rw [w64n (by omega)]
        have e : inSp (l.getD i z100 :: l.drop (i + 1)) t = inSp (l.drop (i + 1)) t := by
          unfold inSp
          rw [List.any_cons, he]
          rfl
        rw [e]
        exact h1
  exact key l.length 0 (by omega)
end Go.Proofs.Ytaciciobhfoglaa.fnBatteries
/- Tests of a battery, in the program and in the reference, as one plain Bool. Conditions: none. -/
namespace Go.Proofs.Ytaciciobhfoglaa.fnBatteries
open Go.RowKit Go.Proofs.YtaciciobhfoglaaW.PrintWords Go.Proofs.YtaciciobhfoglaaW.PrintLast Go.Proofs.YtaciciobhfoglaaW.PrintMore Go.Proofs.Ytaciciobhfoglaa.QFnBatteries Go.Proofs.Ytaciciobhfoglaa.Open Go.Proofs.Ytaciciobhfoglaa.Kit
theorem in1 (a b c : Int) : spec_l1In.f a b c = some (decide (b ≤ a ∧ a ≤ c)) := by
  unfold spec_l1In.f
  by_cases h : b ≤ a <;> simp [h]
theorem in2 (a b c : Int) : impl_InRange.f a b c = some (decide (b ≤ a ∧ a ≤ c)) := by
  unfold impl_InRange.f
  by_cases h : b ≤ a <;> simp [h]
/-- A battery in its ranges. -/
def Bat (l c r b s g : Int) : Prop := (0 ≤ b ∧ b ≤ 100) ∧ (0 ≤ s ∧ s ≤ 100) ∧ (0 ≤ g ∧ g ≤ 100) ∧ (0 ≤ c ∧ c ≤ 10000) ∧ (0 ≤ r ∧ r ≤ c) ∧ (r ≤ l ∧ l ≤ c)
instance (l c r b s g : Int) : Decidable (Bat l c r b s g) := by unfold Bat; infer_instance
theorem bat1 (l c r b s g : Int) : spec_IsBattery.f l c r b s g = some (decide (Bat l c r b s g)) := by
  unfold spec_IsBattery.f spec_l22Rates.f
  simp only [in1, Option.bind_some]
  by_cases h1 : 0 ≤ b ∧ b ≤ 100 <;> by_cases h2 : 0 ≤ g ∧ g ≤ 100 <;> by_cases h3 : 0 ≤ s ∧ s ≤ 100 <;> by_cases h4 : 0 ≤ c ∧ c ≤ 10000 <;> by_cases h5 : 0 ≤ r ∧ r ≤ c <;> simp [Bat, h1, h2, h3, h4, h5]
theorem bat2 (l c r b s g : Int) : impl_IsBattery.f l c r b s g = some (decide (Bat l c r b s g)) := by
  unfold impl_IsBattery.f
  simp only [in2, Option.bind_some]
  by_cases h1 : 0 ≤ b ∧ b ≤ 100 <;> by_cases h2 : 0 ≤ g ∧ g ≤ 100 <;> by_cases h3 : 0 ≤ s ∧ s ≤ 100 <;> by_cases h4 : 0 ≤ c ∧ c ≤ 10000 <;> by_cases h5 : 0 ≤ r ∧ r ≤ c <;> simp [Bat, h1, h2, h3, h4, h5]
end Go.Proofs.Ytaciciobhfoglaa.fnBatteries
/- What a tick leaves of a battery, in the program and in the reference. Conditions: none. -/
namespace Go.Proofs.Ytaciciobhfoglaa.fnBatteries
open Go.RowKit Go.Proofs.YtaciciobhfoglaaW.PrintWords Go.Proofs.YtaciciobhfoglaaW.PrintMore Go.Proofs.Ytaciciobhfoglaa.QFnBatteries Go.Proofs.Ytaciciobhfoglaa.Open Go.Proofs.Ytaciciobhfoglaa.Kit
/-- A battery's level behind a tick. -/
def lev (l c b s g : Int) (sun : Bool) (n : Int) : Int := max 0 (min c (l - b - (if 0 ≤ n ∧ n ≤ 100 then n else 0) * s + (if sun = true then g else 0)))
theorem maxT (a b : Int) : spec_Max.f a b = some (max a b) := by
  unfold spec_Max.f
  by_cases h : b > a
  · rw [if_pos h]; congr 1; omega
  · rw [if_neg h]; congr 1; omega
theorem prod {n s : Int} (h0 : 0 ≤ n) (h1 : n ≤ 100) (h2 : 0 ≤ s) (h3 : s ≤ 100) : 0 ≤ n * s ∧ n * s ≤ 10000 := by
  refine ⟨Int.mul_nonneg h0 h2, ?_⟩
  have := Int.mul_le_mul h1 h3 h2 (by omega : (0 : Int) ≤ 100)
  omega
theorem tick2 (l c r b s g : Int) (sun : Bool) (n : Int) : impl_TickBattery.f l c r b s g sun n = some (if Bat l c r b s g then (lev l c b s g sun n, c, r, b, s, g) else (l, c, r, b, s, g)) := by
  unfold impl_TickBattery.f
  rw [bat2]
  by_cases hb : Bat l c r b s g
  · rw [if_pos hb]
    have key : ∀ m : Int, 0 ≤ m → m ≤ 100 → wrap64 (l - wrap64 (b + wrap64 (m * s))) = l - b - m * s ∧ wrap64 (wrap64 (l - wrap64 (b + wrap64 (m * s))) + g) = l - b - m * s + g := by
      intro m hm0 hm1
      unfold Bat at hb
      have hp := prod hm0 hm1 (by omega : 0 ≤ s) (by omega : s ≤ 100)
      generalize m * s = p at hp
      rw [w64 (x := p) (by omega) (by omega), w64 (x := b + p) (by omega) (by omega), w64 (x := l - (b + p)) (by omega) (by omega), w64 (x := l - (b + p) + g) (by omega) (by omega)]
      omega
    simp only [hb, decide_true, Option.bind_some, if_true, in2]
    unfold lev
    by_cases hn : 0 ≤ n ∧ n ≤ 100
    · have hk := key n hn.1 hn.2
      rw [if_pos (by simp [hn]), if_pos hn]
      cases sun with
      | true => rw [if_pos rfl, hk.2]; simp [mx_def, mn_def, Int.min_comm]
      | false => rw [if_neg (by simp), hk.1]; simp [mx_def, mn_def, Int.min_comm]
    · have hk := key 0 (by omega) (by omega)
      rw [if_neg (by simpa using hn), if_neg hn]
      cases sun with
      | true => rw [if_pos rfl, hk.2]; simp [mx_def, mn_def, Int.min_comm]
      | false => rw [if_neg (by simp), hk.1]; simp [mx_def, mn_def, Int.min_comm]
  · rw [if_neg hb]
    simp [hb]
/-- The level alone. -/
def tickL (l c r b s g : Int) (sun : Bool) (n : Int) : Int := if Bat l c r b s g then lev l c b s g sun n else l
theorem tick2L (l c r b s g : Int) (sun : Bool) (n : Int) : impl_TickBattery.f l c r b s g sun n = some (tickL l c r b s g sun n, c, r, b, s, g) := by
  rw [tick2]
  unfold tickL
  by_cases hb : Bat l c r b s g
  · rw [if_pos hb, if_pos hb]
  · rw [if_neg hb, if_neg hb]
end Go.Proofs.Ytaciciobhfoglaa.fnBatteries
/- What is needed from a tick on, in the program and in the reference. Conditions: none. -/
namespace Go.Proofs.Ytaciciobhfoglaa.fnBatteries
open Go.RowKit Go.Proofs.YtaciciobhfoglaaW.PrintWords Go.Proofs.YtaciciobhfoglaaW.PrintMore Go.Proofs.Ytaciciobhfoglaa.QFnBatteries Go.Proofs.Ytaciciobhfoglaa.Open Go.Proofs.Ytaciciobhfoglaa.Kit
theorem inN1 (a b c : Int) : spec_l1In.f a b c = some (decide (b ≤ a ∧ a ≤ c)) := by
  unfold spec_l1In.f
  by_cases h : b ≤ a <;> simp [h]
theorem inN2 (a b c : Int) : impl_InRange.f a b c = some (decide (b ≤ a ∧ a ≤ c)) := by
  unfold impl_InRange.f
  by_cases h : b ≤ a <;> simp [h]
theorem maxN (a b : Int) : spec_Max.f a b = some (max a b) := by
  unfold spec_Max.f
  by_cases h : b > a
  · rw [if_pos h]; congr 1; omega
  · rw [if_neg h]; congr 1; omega
/-- What is needed d ticks before the end e. -/
def nd (l : List S100) (b g e : Int) : Nat → Int
  | 0 => 0
  | d + 1 => max 0 (nd l b g e d + b - if inSp l (e - ((d + 1 : Nat) : Int)) = true then g else 0)
theorem nd_bd {l : List S100} {b g e : Int} (hb : 0 ≤ b ∧ b ≤ 100) (hg : 0 ≤ g ∧ g ≤ 100) : ∀ d, 0 ≤ nd l b g e d ∧ nd l b g e d ≤ 100 * (d : Int)
  | 0 => by simp [nd]
  | d + 1 => by
    have h := nd_bd (l := l) (e := e) hb hg d
    unfold nd
    split <;> omega
/-- The answer of NeedAt. -/
def needAt (l : List S100) (b g t e : Int) : Int := if (0 ≤ b ∧ b ≤ 100) ∧ (0 ≤ g ∧ g ≤ 100) ∧ 0 ≤ t ∧ e ≤ 1000 ∧ t < e then nd l b g e (e - t).toNat else 0
theorem need1_l0 (l : List S100) (hl : l.length ≤ 1048576) (x0 x1 x2 x4 b g t e : Int) (hb : 0 ≤ b ∧ b ≤ 100) (hg : 0 ≤ g ∧ g ≤ 100) (ht : 0 ≤ t) (he : e ≤ 1000) (n : Nat) (hn : t + n = e) :
    Ev (fun k => spec_NeedAt.l0 k l t (nd l b g e 0) (t + ((n : Nat) : Int) - 1) x0 x1 x2 b x4 g) (nd l b g e n) := by
  have h0 : nd l b g e 0 = nd l b g e (n - n) := by rw [Nat.sub_self]
  rw [h0]
  refine Ev.down (n := n) (g := fun m k => spec_NeedAt.l0 k l t (nd l b g e (n - m)) (t + (m : Int) - 1) x0 x1 x2 b x4 g) ?_ ?_
  · intro m hm ih
    have hd : n - m = (n - (m + 1)) + 1 := by omega
    have hbd := nd_bd (l := l) (e := e) hb hg (n - (m + 1))
    have hu : t + ((m + 1 : Nat) : Int) - 1 = t + (m : Int) := by omega
    have hi : e - (((n - (m + 1)) + 1 : Nat) : Int) = t + (m : Int) := by omega
    rw [hd, nd, hi] at ih
    refine Ev.step (fun k => by rw [spec_NeedAt.l0]) ?_
    rw [hu]
    repeat (first | (with_reducible refine Ev.ite_pos (by omega) ?_) | (with_reducible refine Ev.ite_neg (by omega) ?_))
    refine Ev.bind (inSpans1 l (t + (m : Int)) hl) ?_
    cases hin : inSp l (t + (m : Int)) with
    | true =>
      rw [hin] at ih
      refine Ev.ite_pos rfl (Ev.bind0 (maxN _ _) ?_)
      rw [w64 (x := nd l b g e (n - (m + 1)) + b) (by omega) (by omega), w64 (x := nd l b g e (n - (m + 1)) + b - g) (by omega) (by omega), w64 (x := t + (m : Int) - 1) (by omega) (by omega)]
      exact ih
    | false =>
      rw [hin] at ih
      refine Ev.ite_neg (by simp) (Ev.bind0 (maxN _ _) ?_)
      rw [w64 (x := nd l b g e (n - (m + 1)) + b) (by omega) (by omega), w64 (x := t + (m : Int) - 1) (by omega) (by omega)]
      simpa using ih
  · refine Ev.step (fun k => by rw [spec_NeedAt.l0]) ?_
    repeat (first | (with_reducible refine Ev.ite_pos (by omega) ?_) | (with_reducible refine Ev.ite_neg (by omega) ?_))
    rw [Nat.sub_zero]
    exact Ev.now _
theorem need1 (l : List S100) (hl : l.length ≤ 1048576) (x0 x1 x2 x4 b g t e : Int) : Ev (fun k => spec_NeedAt.f k x0 x1 x2 b x4 g l t e) (needAt l b g t e) := by
  unfold spec_NeedAt.f
  have hr : spec_l22Rates.f x0 x1 x2 b x4 g = some (decide ((0 ≤ b ∧ b ≤ 100) ∧ (0 ≤ g ∧ g ≤ 100))) := by
    unfold spec_l22Rates.f
    rw [inN1, inN1]
    by_cases h1 : 0 ≤ b ∧ b ≤ 100 <;> simp [h1]
  have hz : ∀ P : Prop, ¬ P → Ev (fun k => spec_NeedAt.j0 k l t e 0 true x0 x1 x2 b x4 g) 0 := by
    intro _ _
    refine Ev.step (fun k => by rw [spec_NeedAt.j0]) ?_
    exact Ev.ite_pos rfl (Ev.now _)
  refine Ev.bind0 hr ?_
  unfold needAt
  by_cases h1 : (0 ≤ b ∧ b ≤ 100) ∧ (0 ≤ g ∧ g ≤ 100)
  · refine Ev.ite_pos (by simp only [decide_eq_true_eq]; exact h1) ?_
    by_cases h2 : t < 0
    · rw [if_neg (by omega)]
      exact Ev.ite_pos h2 (hz False (by simp))
    · refine Ev.ite_neg h2 ?_
      by_cases h3 : e > 1000
      · rw [if_neg (by omega)]
        exact Ev.ite_pos h3 (hz False (by simp))
      · refine Ev.ite_neg h3 ?_
        by_cases h4 : e ≤ t
        · rw [if_neg (by omega), decide_eq_true h4]
          exact hz False (by simp)
        · rw [if_pos ⟨h1.1, h1.2, by omega, by omega, by omega⟩, decide_eq_false h4]
          refine Ev.step (fun k => by rw [spec_NeedAt.j0]) ?_
          refine Ev.ite_neg (by simp) ?_
          have := need1_l0 l hl x0 x1 x2 x4 b g t e h1.1 h1.2 (by omega) (by omega) (e - t).toNat (by omega)
          rw [w64 (by omega) (by omega)]
          rw [show t + ((e - t).toNat : Int) - 1 = e - 1 by omega] at this
          exact this
  · refine Ev.ite_neg (by simp only [decide_eq_true_eq]; exact h1) ?_
    rw [if_neg (by omega)]
    exact hz False (by simp)
/-- Whether each of the first N ticks is in a span. -/
def tkN (N : Nat) (l : List S100) : List Bool := (List.range N).map fun t : Nat => inSp l (t : Int)
theorem tkN_len (N : Nat) (l : List S100) : (tkN N l).length = N := by simp [tkN]
theorem tkN_get {N u : Nat} (l : List S100) (h : u < N) : (tkN N l).getD u false = inSp l (u : Int) := by
  unfold tkN
  rw [map_range_getD _ h]
def tk (l : List S100) : List Bool := tkN 1000 l
theorem tk_len (l : List S100) : (tk l).length = 1000 := tkN_len 1000 l
theorem tk_get {u : Nat} (l : List S100) (h : u < 1000) : (tk l).getD u false = inSp l (u : Int) := tkN_get l h
theorem isSpan2 (s : S100) : impl_IsSpan.f s.f0 s.f1 = some (decide (0 ≤ s.f0 ∧ s.f1 ≤ 1000 ∧ s.f0 < s.f1)) := by
  unfold impl_IsSpan.f
  by_cases h1 : 0 ≤ s.f0 <;> by_cases h2 : s.f1 ≤ 1000 <;> simp [h1, h2]
theorem ticks_l1 {N : Nat} {l : List S100} {s : S100} {f : Nat → Bool} {i : Nat} {x9 : Int} {r : List Bool} (hN : 1000 ≤ N) (hN2 : N ≤ 1048576) (hs : 0 ≤ s.f0 ∧ s.f1 ≤ 1000 ∧ s.f0 < s.f1)
    (h : Ev (fun k => impl_ticks.l0 k ((List.range N).map fun t : Nat => f t || inS s (t : Int)) l x9 (wrap64 ((i : Int) + 1))) r) :
    Ev (fun k => impl_ticks.l1 k ((List.range N).map f) s.f0 l x9 (i : Int) s.f0 s.f1) r := by
  obtain ⟨a, ha⟩ := Int.eq_ofNat_of_zero_le hs.1
  have key : ∀ (d u : Nat), (a : Int) ≤ u → (u : Int) + d = s.f1 → Ev (fun k => impl_ticks.l1 k ((List.range N).map fun t : Nat => f t || (decide (a ≤ t ∧ t < u))) (u : Int) l x9 (i : Int) s.f0 s.f1) r := by
    intro d
    induction d with
    | zero =>
      intro u hu hd
      refine Ev.step (fun k => by rw [impl_ticks.l1]) ?_
      repeat (first | (with_reducible refine Ev.ite_pos (by omega) ?_) | (with_reducible refine Ev.ite_neg (by omega) ?_))
      have e : ((List.range N).map fun t : Nat => f t || inS s (t : Int)) = (List.range N).map fun t : Nat => f t || (decide (a ≤ t ∧ t < u)) := by
        refine map_range_congr fun t ht => ?_
        congr 1
        unfold inS
        rw [decide_eq_decide]
        omega
      rw [e] at h
      exact h
    | succ d ih =>
      intro u hu hd
      have h1 := ih (u + 1) (by omega) (by omega)
      refine Ev.step (fun k => by rw [impl_ticks.l1]) ?_
      have hlen : ((List.range N).map fun t : Nat => f t || (decide (a ≤ t ∧ t < u))).length = N := by simp
      repeat (first | (with_reducible refine Ev.ite_pos (by omega) ?_) | (with_reducible refine Ev.ite_neg (by omega) ?_))
      rw [Int.toNat_natCast, map_range_set, w64n (by omega)]
      have e : ((List.range N).map fun j : Nat => if j = u then true else f j || (decide (a ≤ j ∧ j < u))) = (List.range N).map fun t : Nat => f t || (decide (a ≤ t ∧ t < u + 1)) := by
        refine map_range_congr fun t ht => ?_
        by_cases hj : t = u
        · rw [if_pos hj, decide_eq_true (by omega : a ≤ t ∧ t < u + 1), Bool.or_true]
        · rw [if_neg hj]
          congr 1
          rw [decide_eq_decide]
          omega
      rw [e]
      exact h1
  have h2 := key (s.f1 - s.f0).toNat a (by omega) (by omega)
  have e : ((List.range N).map fun t : Nat => f t || (decide (a ≤ t ∧ t < a))) = (List.range N).map f := by
    refine map_range_congr fun t _ => ?_
    rw [decide_eq_false (by omega), Bool.or_false]
  rw [e, ← ha] at h2
  exact h2
theorem ticks2_l0 (l : List S100) (hl : l.length ≤ 1048576) (N : Nat) (hN : 1000 ≤ N) (hN2 : N ≤ 1048576) : Ev (fun k => impl_ticks.l0 k (List.replicate N false) l (l.length : Int) 0) (tkN N l) := by
  have h0 : List.replicate N false = (List.range N).map fun t : Nat => inSp (l.take 0) (t : Int) := by
    apply List.ext_getElem
    · simp
    · intro i _ _
      simp [inSp]
  rw [h0]
  refine Ev.up (n := l.length) (g := fun i k => impl_ticks.l0 k ((List.range N).map fun t : Nat => inSp (l.take i) (t : Int)) l (l.length : Int) (i : Int)) ?_ ?_
  · intro i hi ih
    have e : ∀ t, inSp (l.take (i + 1)) t = (inSp (l.take i) t || inS (l.getD i z100) t) := by
      intro t
      unfold inSp
      rw [take_succ_getD hi z100, List.any_append]
      simp
    simp only [e] at ih
    refine Ev.step (fun k => by rw [impl_ticks.l0]) ?_
    repeat (first | (with_reducible refine Ev.ite_pos (by omega) ?_) | (with_reducible refine Ev.ite_neg (by omega) ?_))
    refine Ev.bind0 (isSpan2 (l.getD i z100)) ?_
    by_cases hs : 0 ≤ (l.getD i z100).f0 ∧ (l.getD i z100).f1 ≤ 1000 ∧ (l.getD i z100).f0 < (l.getD i z100).f1
    · refine Ev.ite_pos (by simp only [decide_eq_true_eq]; exact hs) ?_
      rw [← w64n (by omega)] at ih
      exact ticks_l1 (s := l.getD i z100) hN hN2 hs ih
    · refine Ev.ite_neg (by simp only [decide_eq_true_eq]; exact hs) ?_
      rw [w64n (by omega)]
      have e2 : ∀ t, inS (l.getD i z100) t = false := by
        intro t
        unfold inS
        rw [decide_eq_false]
        omega
      simp only [e2, Bool.or_false] at ih
      exact ih
  · refine Ev.step (fun k => by rw [impl_ticks.l0]) ?_
    repeat (first | (with_reducible refine Ev.ite_pos (by omega) ?_) | (with_reducible refine Ev.ite_neg (by omega) ?_))
    refine Ev.some ?_
    rw [List.take_length]
    rfl
theorem ticks2 (l : List S100) (hl : l.length ≤ 1048576) : Ev (fun k => impl_ticks.f k l) (tk l) := by
  unfold impl_ticks.f
  refine Ev.ite_pos (by decide) ?_
  exact ticks2_l0 l hl 1000 (by omega) (by omega)
/-- The list of what is needed: its place m is filled from the end. -/
def ndl (l : List S100) (b g e : Int) (n m : Nat) : List Int := (List.range (n + 1)).map fun j => if j < m then 0 else nd l b g e (n - j)
theorem needs2_l0 (l : List S100) (x0 x1 x2 x4 b g t e : Int) (hb : 0 ≤ b ∧ b ≤ 100) (hg : 0 ≤ g ∧ g ≤ 100) (ht : 0 ≤ t) (he : e ≤ 1000) (n : Nat) (hn : t + n = e) :
    Ev (fun k => impl_needs.l0 k t (tk l) (ndl l b g e n n) (t + ((n : Nat) : Int) - 1) x0 x1 x2 b x4 g) (ndl l b g e n 0) := by
  refine Ev.down (n := n) (g := fun m k => impl_needs.l0 k t (tk l) (ndl l b g e n m) (t + (m : Int) - 1) x0 x1 x2 b x4 g) ?_ ?_
  · intro m hm ih
    have hd : n - m = (n - (m + 1)) + 1 := by omega
    have hbd := nd_bd (l := l) (e := e) hb hg (n - (m + 1))
    have hu : t + ((m + 1 : Nat) : Int) - 1 = t + (m : Int) := by omega
    have hi : e - (((n - (m + 1)) + 1 : Nat) : Int) = t + (m : Int) := by omega
    obtain ⟨a, ha⟩ := Int.eq_ofNat_of_zero_le ht
    have hlen : (ndl l b g e n (m + 1)).length = n + 1 := by simp [ndl]
    have htk := tk_len l
    have hget : rd (ndl l b g e n (m + 1)) ((m + 1 : Nat) : Int) = nd l b g e (n - (m + 1)) := by
      rw [rd_nat]
      unfold ndl
      rw [map_range_getD _ (by omega), if_neg (by omega)]
    have htick : rdOf false (tk l) (t + (m : Int)) = inSp l (t + (m : Int)) := by
      have e1 : t + (m : Int) = ((a + m : Nat) : Int) := by omega
      rw [e1]
      exact tk_get l (by omega)
    have hset : ∀ v, v = nd l b g e (n - m) → (ndl l b g e n (m + 1)).set m v = ndl l b g e n m := by
      intro v hv
      unfold ndl
      rw [map_range_set]
      refine map_range_congr fun j hj => ?_
      by_cases h1 : j = m
      · rw [if_pos h1, if_neg (by omega), h1, hv]
      · rw [if_neg h1]
        by_cases h2 : j < m
        · rw [if_pos h2, if_pos (by omega)]
        · rw [if_neg h2, if_neg (by omega)]
    refine Ev.step (fun k => by rw [impl_needs.l0]) ?_
    rw [hu, w64 (x := t + (m : Int) - t) (by omega) (by omega), show t + (m : Int) - t = (m : Int) by omega, w64n (by omega), hget, htick, w64 (x := nd l b g e (n - (m + 1)) + b) (by omega) (by omega), w64 (x := nd l b g e (n - (m + 1)) + b - g) (by omega) (by omega), w64 (x := t + (m : Int) - 1) (by omega) (by omega)]
    repeat (first | (with_reducible refine Ev.ite_pos (by omega) ?_) | (with_reducible refine Ev.ite_neg (by omega) ?_))
    cases hin : inSp l (t + (m : Int)) with
    | true =>
      refine Ev.ite_pos rfl ?_
      repeat (first | (with_reducible refine Ev.ite_pos (by omega) ?_) | (with_reducible refine Ev.ite_neg (by omega) ?_))
      rw [Int.toNat_natCast, hset _ (by rw [hd, nd, hi, hin, mx_def]; rfl)]
      exact ih
    | false =>
      refine Ev.ite_neg (by simp) ?_
      repeat (first | (with_reducible refine Ev.ite_pos (by omega) ?_) | (with_reducible refine Ev.ite_neg (by omega) ?_))
      rw [Int.toNat_natCast, hset _ (by rw [hd, nd, hi, hin, mx_def]; simp)]
      exact ih
  · refine Ev.step (fun k => by rw [impl_needs.l0]) ?_
    repeat (first | (with_reducible refine Ev.ite_pos (by omega) ?_) | (with_reducible refine Ev.ite_neg (by omega) ?_))
    exact Ev.now _
/-- The answer of needs. -/
def needsOf (l : List S100) (b g t e : Int) : List Int := if (0 ≤ b ∧ b ≤ 100) ∧ (0 ≤ g ∧ g ≤ 100) ∧ 0 ≤ t ∧ e ≤ 1000 ∧ t < e then ndl l b g e (e - t).toNat 0 else [0]
theorem needs2 (l : List S100) (hl : l.length ≤ 1048576) (x0 x1 x2 x4 b g t e : Int) : Ev (fun k => impl_needs.f k x0 x1 x2 b x4 g l t e) (needsOf l b g t e) := by
  unfold impl_needs.f
  have hz : Ev (fun k => impl_needs.j0 k l t e true x0 x1 x2 b x4 g) [0] := by
    refine Ev.step (fun k => by rw [impl_needs.j0]) ?_
    exact Ev.ite_pos rfl (Ev.now _)
  refine Ev.bind0 (inN2 b 0 100) ?_
  unfold needsOf
  by_cases h1 : 0 ≤ b ∧ b ≤ 100
  · refine Ev.ite_pos (by simp only [decide_eq_true_eq]; exact h1) ?_
    refine Ev.bind0 (inN2 g 0 100) ?_
    by_cases h1' : 0 ≤ g ∧ g ≤ 100
    · refine Ev.ite_pos (by simp only [decide_eq_true_eq]; exact h1') ?_
      by_cases h2 : t < 0
      · rw [if_neg (by omega)]
        exact Ev.ite_pos h2 hz
      · refine Ev.ite_neg h2 ?_
        by_cases h3 : e > 1000
        · rw [if_neg (by omega)]
          exact Ev.ite_pos h3 hz
        · refine Ev.ite_neg h3 ?_
          by_cases h4 : t ≥ e
          · rw [if_neg (by omega), decide_eq_true h4]
            exact hz
          · rw [if_pos ⟨h1, h1', by omega, by omega, by omega⟩, decide_eq_false h4]
            obtain ⟨n, hn⟩ := Int.eq_ofNat_of_zero_le (show 0 ≤ e - t by omega)
            have h5 := needs2_l0 l x0 x1 x2 x4 b g t e h1 h1' (by omega) (by omega) n (by omega)
            have e0 : ndl l b g e n n = List.replicate (n + 1) 0 := by
              apply List.ext_getElem
              · simp [ndl]
              · intro i hi _
                simp [ndl] at hi
                by_cases hin : i < n
                · simp [ndl, hin]
                · obtain rfl : i = n := by omega
                  simp [ndl, nd]
            rw [e0] at h5
            refine Ev.step (fun k => by rw [impl_needs.j0]) ?_
            refine Ev.ite_neg (by simp) ?_
            refine Ev.bind (ticks2 l hl) ?_
            rw [w64 (x := e - t) (by omega) (by omega), hn, w64n (by omega), w64 (x := e - 1) (by omega) (by omega)]
            repeat (first | (with_reducible refine Ev.ite_pos (by omega) ?_) | (with_reducible refine Ev.ite_neg (by omega) ?_))
            rw [Int.toNat_natCast, show e - 1 = t + (n : Int) - 1 by omega]
            exact h5
    · refine Ev.ite_neg (by simp only [decide_eq_true_eq]; exact h1') ?_
      rw [if_neg (by omega)]
      exact hz
  · refine Ev.ite_neg (by simp only [decide_eq_true_eq]; exact h1) ?_
    rw [if_neg (by omega)]
    exact hz
theorem needsOf_get {l : List S100} {b g t e : Int} : 0 < (needsOf l b g t e).length ∧ rd (needsOf l b g t e) 0 = needAt l b g t e := by
  unfold needsOf needAt
  by_cases h : (0 ≤ b ∧ b ≤ 100) ∧ (0 ≤ g ∧ g ≤ 100) ∧ 0 ≤ t ∧ e ≤ 1000 ∧ t < e
  · rw [if_pos h, if_pos h]
    refine ⟨by simp [ndl], ?_⟩
    show (ndl l b g e (e - t).toNat 0).getD 0 0 = _
    unfold ndl
    rw [map_range_getD _ (by omega), if_neg (by omega), Nat.sub_zero]
  · rw [if_neg h, if_neg h]
    exact ⟨by simp, rfl⟩
end Go.Proofs.Ytaciciobhfoglaa.fnBatteries
/- Whether a battery suffices, in the program and in the reference. Conditions: none. -/
namespace Go.Proofs.Ytaciciobhfoglaa.fnBatteries
open Go.RowKit Go.Proofs.YtaciciobhfoglaaW.PrintWords Go.Proofs.YtaciciobhfoglaaW.PrintMore Go.Proofs.Ytaciciobhfoglaa.QFnBatteries Go.Proofs.Ytaciciobhfoglaa.Open Go.Proofs.Ytaciciobhfoglaa.Kit
/-- No need is above the capacity. -/
def fits (c r : Int) (f : Nat → Int) (n : Nat) : Bool := (List.range n).all fun j : Nat => decide (¬ c < r + f (n - j))
theorem fits_iff {c r : Int} {f : Nat → Int} {n : Nat} : fits c r f n = true ↔ ∀ j, j < n → ¬ c < r + f (n - j) := by
  unfold fits
  simp only [List.all_eq_true, List.mem_range, decide_eq_true_eq]
def feas (l : List S100) (lv c r b s g t e : Int) : Bool :=
  decide (Bat lv c r b s g ∧ 0 ≤ t ∧ e ≤ 1000) && (fits c r (nd l b g e) (e - t).toNat && decide (lv ≥ r + needAt l b g t e))
theorem needAt_in {l : List S100} {b g t e : Int} (hb : 0 ≤ b ∧ b ≤ 100) (hg : 0 ≤ g ∧ g ≤ 100) (ht : 0 ≤ t) (he : e ≤ 1000) : needAt l b g t e = nd l b g e (e - t).toNat := by
  unfold needAt
  by_cases h : t < e
  · rw [if_pos ⟨hb, hg, ht, he, h⟩]
  · rw [if_neg (by omega), show (e - t).toNat = 0 by omega]
    rfl
theorem feas1_l0 {l : List S100} (hl : l.length ≤ 1048576) {lv c r b s g t e : Int} (hB : Bat lv c r b s g) (ht : 0 ≤ t) (he : e ≤ 1000) : ∀ (d i : Nat), i + d = (e - t).toNat → (∀ j, j < i → ¬ c < r + nd l b g e ((e - t).toNat - j)) →
    Ev (fun k => spec_IsFeasible.l0 k l t e (t + (i : Int)) lv c r b s g) (fits c r (nd l b g e) (e - t).toNat && decide (lv ≥ r + needAt l b g t e)) := by
  have hB' := hB
  unfold Bat at hB'
  have hb : 0 ≤ b ∧ b ≤ 100 := by omega
  have hg : 0 ≤ g ∧ g ≤ 100 := by omega
  intro d
  induction d with
  | zero =>
    intro i hi hok
    have hbd := nd_bd (l := l) (e := e) hb hg (e - t).toNat
    have hN := needAt_in (l := l) hb hg ht he
    refine Ev.step (fun k => by rw [spec_IsFeasible.l0]) ?_
    refine Ev.ite_neg (by omega) ?_
    refine Ev.bind (need1 l hl lv c r s b g t e) (Ev.some ?_)
    rw [hN, w64 (by omega) (by omega), (fits_iff (n := (e - t).toNat)).2 (fun j hj => hok j (by omega)), Bool.true_and]
  | succ d ih =>
    intro i hi hok
    have hbd := nd_bd (l := l) (e := e) hb hg ((e - t).toNat - i)
    have hN := needAt_in (l := l) (t := t + (i : Int)) (e := e) hb hg (by omega) he
    rw [show (e - (t + (i : Int))).toNat = (e - t).toNat - i by omega] at hN
    refine Ev.step (fun k => by rw [spec_IsFeasible.l0]) ?_
    refine Ev.ite_pos (by omega) ?_
    refine Ev.bind (need1 l hl lv c r s b g (t + (i : Int)) e) ?_
    rw [hN, w64 (x := r + nd l b g e ((e - t).toNat - i)) (by omega) (by omega), w64 (x := t + (i : Int) + 1) (by omega) (by omega)]
    by_cases hc : c < r + nd l b g e ((e - t).toNat - i)
    · refine Ev.ite_pos hc (Ev.some ?_)
      cases hf : fits c r (nd l b g e) (e - t).toNat with
      | true => exact absurd hc (fits_iff.1 hf i (by omega))
      | false => rfl
    · refine Ev.ite_neg hc ?_
      have h1 := ih (i + 1) (by omega) (fun j hj => by
        rcases Nat.lt_succ_iff_lt_or_eq.1 hj with hj | rfl
        · exact hok j hj
        · exact hc)
      rw [show t + (i : Int) + 1 = t + ((i + 1 : Nat) : Int) by omega]
      exact h1
theorem feas1 (l : List S100) (hl : l.length ≤ 1048576) (lv c r b s g t e : Int) : Ev (fun k => spec_IsFeasible.f k lv c r b s g l t e) (feas l lv c r b s g t e) := by
  unfold spec_IsFeasible.f
  have hz : Ev (fun k => spec_IsFeasible.j0 k l t e true lv c r b s g) false := by
    refine Ev.step (fun k => by rw [spec_IsFeasible.j0]) ?_
    exact Ev.ite_pos rfl (Ev.now _)
  refine Ev.bind0 (bat1 lv c r b s g) ?_
  unfold feas
  by_cases hB : Bat lv c r b s g
  · refine Ev.ite_pos (by simpa using hB) ?_
    by_cases h2 : t < 0
    · rw [decide_eq_false (by omega : ¬ (Bat lv c r b s g ∧ 0 ≤ t ∧ e ≤ 1000)), Bool.false_and]
      exact Ev.ite_pos h2 hz
    · refine Ev.ite_neg h2 ?_
      by_cases h3 : e > 1000
      · rw [decide_eq_false (by omega : ¬ (Bat lv c r b s g ∧ 0 ≤ t ∧ e ≤ 1000)), Bool.false_and, decide_eq_true h3]
        exact hz
      · rw [decide_eq_true (show Bat lv c r b s g ∧ 0 ≤ t ∧ e ≤ 1000 from ⟨hB, by omega, by omega⟩), Bool.true_and, decide_eq_false h3]
        refine Ev.step (fun k => by rw [spec_IsFeasible.j0]) ?_
        refine Ev.ite_neg (by simp) ?_
        have h := feas1_l0 (t := t) (e := e) hl hB (by omega) (by omega) (e - t).toNat 0 (by omega) (fun j hj => by omega)
        rw [show t + ((0 : Nat) : Int) = t by omega] at h
        exact h
  · rw [decide_eq_false (show ¬ (Bat lv c r b s g ∧ 0 ≤ t ∧ e ≤ 1000) from fun h => hB h.1), Bool.false_and]
    exact Ev.ite_neg (by simpa using hB) hz
theorem feas2_l0 {l : List S100} {lv c r b s g t e : Int} (hB : Bat lv c r b s g) (ht : 0 ≤ t) (he : e ≤ 1000) : Ev (fun k => impl_IsFeasible.l0 k (needsOf l b g t e) (needsOf l b g t e) ((needsOf l b g t e).length : Int) 0 lv c r b s g) (fits c r (nd l b g e) (e - t).toNat && decide (lv ≥ r + needAt l b g t e)) := by
  have hB' := hB
  unfold Bat at hB'
  have hb : 0 ≤ b ∧ b ≤ 100 := by omega
  have hg : 0 ≤ g ∧ g ≤ 100 := by omega
  have hlen : (needsOf l b g t e).length = (e - t).toNat + 1 := by
    unfold needsOf
    by_cases h : t < e
    · rw [if_pos ⟨hb, hg, ht, he, h⟩]
      simp [ndl]
    · rw [if_neg (by omega), show (e - t).toNat = 0 by omega]
      rfl
  have hget : ∀ j, j ≤ (e - t).toNat → (needsOf l b g t e).getD j 0 = nd l b g e ((e - t).toNat - j) := by
    intro j hj
    unfold needsOf
    by_cases h : t < e
    · rw [if_pos ⟨hb, hg, ht, he, h⟩]
      unfold ndl
      rw [map_range_getD _ (by omega), if_neg (by omega)]
    · rw [if_neg (by omega), show (e - t).toNat = 0 by omega]
      obtain rfl : j = 0 := by omega
      rfl
  have key : ∀ (d i : Nat), i + d = (e - t).toNat + 1 → (∀ j, j < i → ¬ c < r + nd l b g e ((e - t).toNat - j)) → Ev (fun k => impl_IsFeasible.l0 k (needsOf l b g t e) (needsOf l b g t e) ((needsOf l b g t e).length : Int) (i : Int) lv c r b s g) (fits c r (nd l b g e) (e - t).toNat && decide (lv ≥ r + needAt l b g t e)) := by
    intro d
    induction d with
    | zero =>
      intro i hi hok
      have hbd := nd_bd (l := l) (e := e) hb hg (e - t).toNat
      have hN := needAt_in (l := l) hb hg ht he
      refine Ev.step (fun k => by rw [impl_IsFeasible.l0]) ?_
      repeat (first | (with_reducible refine Ev.ite_pos (by omega) ?_) | (with_reducible refine Ev.ite_neg (by omega) ?_))
      refine Ev.some ?_
      have h0 := hget 0 (by omega)
      rw [show rd (needsOf l b g t e) 0 = (needsOf l b g t e).getD 0 0 from rfl, h0, Nat.sub_zero, hN, w64 (by omega) (by omega), (fits_iff (n := (e - t).toNat)).2 (fun j hj => hok j (by omega)), Bool.true_and]
    | succ d ih =>
      intro i hi hok
      have hbd := nd_bd (l := l) (e := e) hb hg ((e - t).toNat - i)
      refine Ev.step (fun k => by rw [impl_IsFeasible.l0]) ?_
      repeat (first | (with_reducible refine Ev.ite_pos (by omega) ?_) | (with_reducible refine Ev.ite_neg (by omega) ?_))
      rw [rd_nat, hget i (by omega), w64 (x := r + nd l b g e ((e - t).toNat - i)) (by omega) (by omega), w64n (by omega)]
      by_cases hc : c < r + nd l b g e ((e - t).toNat - i)
      · refine Ev.ite_pos hc (Ev.some ?_)
        have hin : i < (e - t).toNat := by
          refine Classical.byContradiction fun hn => ?_
          rw [show (e - t).toNat - i = 0 by omega] at hc
          simp only [nd] at hc
          omega
        cases hf : fits c r (nd l b g e) (e - t).toNat with
        | true => exact absurd hc (fits_iff.1 hf i hin)
        | false => rfl
      · refine Ev.ite_neg hc ?_
        exact ih (i + 1) (by omega) (fun j hj => by
          rcases Nat.lt_succ_iff_lt_or_eq.1 hj with hj | rfl
          · exact hok j hj
          · exact hc)
  exact key ((e - t).toNat + 1) 0 (by omega) (fun j hj => by omega)
theorem feas2 (l : List S100) (hl : l.length ≤ 1048576) (lv c r b s g t e : Int) : Ev (fun k => impl_IsFeasible.f k lv c r b s g l t e) (feas l lv c r b s g t e) := by
  unfold impl_IsFeasible.f
  have hz : Ev (fun k => impl_IsFeasible.j0 k l t e true lv c r b s g) false := by
    refine Ev.step (fun k => by rw [impl_IsFeasible.j0]) ?_
    exact Ev.ite_pos rfl (Ev.now _)
  refine Ev.bind0 (bat2 lv c r b s g) ?_
  unfold feas
  by_cases hB : Bat lv c r b s g
  · refine Ev.ite_pos (by simpa using hB) ?_
    by_cases h2 : t < 0
    · rw [decide_eq_false (by omega : ¬ (Bat lv c r b s g ∧ 0 ≤ t ∧ e ≤ 1000)), Bool.false_and]
      exact Ev.ite_pos h2 hz
    · refine Ev.ite_neg h2 ?_
      by_cases h3 : e > 1000
      · rw [decide_eq_false (by omega : ¬ (Bat lv c r b s g ∧ 0 ≤ t ∧ e ≤ 1000)), Bool.false_and, decide_eq_true h3]
        exact hz
      · rw [decide_eq_true (show Bat lv c r b s g ∧ 0 ≤ t ∧ e ≤ 1000 from ⟨hB, by omega, by omega⟩), Bool.true_and, decide_eq_false h3]
        refine Ev.step (fun k => by rw [impl_IsFeasible.j0]) ?_
        refine Ev.ite_neg (by simp) ?_
        refine Ev.bind (needs2 l hl lv c r s b g t e) ?_
        exact feas2_l0 hB (by omega) (by omega)
  · rw [decide_eq_false (show ¬ (Bat lv c r b s g ∧ 0 ≤ t ∧ e ≤ 1000) from fun h => hB h.1), Bool.false_and]
    exact Ev.ite_neg (by simpa using hB) hz
end Go.Proofs.Ytaciciobhfoglaa.fnBatteries
/- How often a battery may send, in the program, and what a tick leaves of it. Conditions: none. -/
namespace Go.Proofs.Ytaciciobhfoglaa.fnBatteries
open Go.RowKit Go.Proofs.YtaciciobhfoglaaW.PrintWords Go.Proofs.YtaciciobhfoglaaW.PrintMore Go.Proofs.Ytaciciobhfoglaa.QFnBatteries Go.Proofs.Ytaciciobhfoglaa.Open Go.Proofs.Ytaciciobhfoglaa.Kit
def mayB (v c r b s g n : Int) : Bool := decide (Bat v c r b s g ∧ (0 ≤ n ∧ n ≤ 10000) ∧ v - s ≥ r + n)
theorem mayB_iff {v c r b s g n : Int} : mayB v c r b s g n = true ↔ Bat v c r b s g ∧ (0 ≤ n ∧ n ≤ 10000) ∧ v - s ≥ r + n := by
  unfold mayB
  rw [decide_eq_true_iff]
theorem may2 (v c r b s g n : Int) : impl_MaySend.f v c r b s g n = some (mayB v c r b s g n) := by
  unfold impl_MaySend.f mayB
  rw [bat2, Option.bind_some]
  by_cases h1 : Bat v c r b s g
  · have h1' := h1
    unfold Bat at h1'
    rw [if_pos (decide_eq_true h1), in2, Option.bind_some]
    by_cases h2 : 0 ≤ n ∧ n ≤ 10000
    · rw [if_pos (decide_eq_true h2), w64 (x := v - s) (by omega) (by omega), w64 (x := r + n) (by omega) (by omega)]
      congr 1
      rw [decide_eq_decide]
      exact ⟨fun h => ⟨h1, h2, h⟩, fun h => h.2.2⟩
    · rw [if_neg (by simpa using h2), decide_eq_false (fun h => h2 h.2.1)]
  · rw [if_neg (by simpa using h1), decide_eq_false (fun h => h1 h.1)]
/-- A tick leaves what is needed from the next one on. -/
theorem step_ok {l : List S100} {v c r b s g t e m : Int} {d : Nat} (hB : Bat v c r b s g) (hd : t + ((d + 1 : Nat) : Int) = e) (hlv : v - m * s ≥ r + nd l b g e (d + 1)) (hm : 0 ≤ m ∧ m ≤ 100) (hc : r + nd l b g e d ≤ c) :
    Bat (tickL v c r b s g (inSp l t) m) c r b s g ∧ r + nd l b g e d ≤ tickL v c r b s g (inSp l t) m := by
  have hB' := hB
  unfold Bat at hB'
  have hbd := nd_bd (l := l) (e := e) (b := b) (g := g) (by omega) (by omega) d
  unfold tickL
  rw [if_pos hB]
  unfold lev
  rw [if_pos hm]
  rw [nd, show e - ((d + 1 : Nat) : Int) = t by omega] at hlv
  generalize m * s = p at hlv ⊢
  generalize nd l b g e d = q at hlv hc hbd ⊢
  unfold Bat
  generalize inSp l t = sun at hlv ⊢
  cases sun with
  | true =>
    simp only [if_true] at hlv ⊢
    omega
  | false =>
    simp only [Bool.false_eq_true, if_false] at hlv ⊢
    omega
theorem fits_le {l : List S100} {v c r b s g t e : Int} (hf : feas l v c r b s g t e = true) : (Bat v c r b s g ∧ 0 ≤ t ∧ e ≤ 1000) ∧ (∀ d, d ≤ (e - t).toNat → r + nd l b g e d ≤ c) ∧ r + nd l b g e (e - t).toNat ≤ v := by
  unfold feas at hf
  rw [Bool.and_eq_true, Bool.and_eq_true, decide_eq_true_iff, decide_eq_true_iff] at hf
  obtain ⟨h1, h2, h3⟩ := hf
  have hB := h1.1
  unfold Bat at hB
  refine ⟨h1, ?_, ?_⟩
  · intro d hd
    by_cases h0 : d = 0
    · subst h0
      rw [nd]
      omega
    · have := fits_iff.1 h2 ((e - t).toNat - d) (by omega)
      rw [show (e - t).toNat - ((e - t).toNat - d) = d by omega] at this
      omega
  · rw [needAt_in (by omega) (by omega) h1.2.1 h1.2.2] at h3
    omega
end Go.Proofs.Ytaciciobhfoglaa.fnBatteries
/- The draws of numbers, batteries and spans come to an end. Conditions: none. -/
namespace Go.Proofs.Ytaciciobhfoglaa.fnBatteries
open Go.RowKit Go.Proofs.YtaciciobhfoglaaW.PrintWords Go.Proofs.YtaciciobhfoglaaW.PrintMore Go.Proofs.Ytaciciobhfoglaa.QFnBatteries Go.Proofs.Ytaciciobhfoglaa.Open Go.Proofs.Ytaciciobhfoglaa.Kit
theorem and255 (n : Int) : Go.bits .and .i64 n 255 = n % 256 := by
  have h255 : (BitVec.ofInt 64 255).toNat = 2 ^ 8 - 1 := by decide
  have key : (BitVec.ofInt 64 n &&& BitVec.ofInt 64 255).toNat = (n % ((2 ^ 64 : Nat) : Int)).toNat % 2 ^ 8 := by
    rw [BitVec.toNat_and, BitVec.toNat_ofInt, h255, Nat.and_two_pow_sub_one_eq_mod]
  show IntKind.i64.wrap ((BitVec.ofInt 64 n &&& BitVec.ofInt 64 255).toNat : Nat) = n % 256
  rw [key, IntKind.wrap_i64]
  omega
/-- A cursor that lies on the code. -/
def Cur (b : List Int) (i : Int) : Prop := 0 ≤ i ∧ i ≤ (b.length : Int) ∧ b.length ≤ 1048576
theorem byte_ends {b : List Int} {i : Int} (h : Int) (hc : Cur b i) : ∃ x i' h', spec_l1Byte.f b i h = some (x, i', h') ∧ (0 ≤ x ∧ x < 256) ∧ Cur b i' := by
  unfold spec_l1Byte.f
  unfold Cur at hc ⊢
  by_cases c : i < (b.length : Int)
  · rw [if_pos c, if_pos hc.1]
    refine ⟨_, _, _, rfl, ?_, ?_⟩
    · rw [and255]
      exact ⟨Int.emod_nonneg _ (by omega), Int.emod_lt_of_pos _ (by omega)⟩
    · rw [w64 (x := i + 1) (by omega) (by omega)]
      omega
  · rw [if_neg c]
    refine ⟨_, _, _, rfl, ?_, hc⟩
    rw [and255]
    exact ⟨Int.emod_nonneg _ (by omega), Int.emod_lt_of_pos _ (by omega)⟩
theorem below_ends {b : List Int} {i : Int} (h n : Int) (hc : Cur b i) : ∃ x i' h', spec_l1Below.f b i h n = some (x, i', h') ∧ 0 ≤ x ∧ (0 < n → x < n) ∧ Cur b i' := by
  unfold spec_l1Below.f
  by_cases c : n ≤ 0
  · rw [if_pos c]
    exact ⟨0, i, h, rfl, by omega, by omega, hc⟩
  · rw [if_neg c]
    obtain ⟨x, i1, h1, e1, hx, hc1⟩ := byte_ends h hc
    rw [e1]
    by_cases c2 : n ≤ 256
    · rw [if_pos c2, Option.bind_some, if_neg (by omega)]
      exact ⟨_, _, _, rfl, Int.tmod_nonneg _ hx.1, fun h0 => Int.tmod_lt_of_pos _ h0, hc1⟩
    · rw [if_neg c2, Option.bind_some]
      obtain ⟨y, i2, h2, e2, hy, hc2⟩ := byte_ends h1 hc1
      obtain ⟨z, i3, h3, e3, hz, hc3⟩ := byte_ends h2 hc2
      dsimp only
      rw [e2, Option.bind_some]
      dsimp only
      rw [e3, Option.bind_some, if_neg (by omega)]
      refine ⟨_, _, _, rfl, Int.tmod_nonneg _ ?_, fun h0 => Int.tmod_lt_of_pos _ h0, hc3⟩
      dsimp only
      rw [w64 (x := x * 65536) (by omega) (by omega), w64 (x := y * 256) (by omega) (by omega), w64 (x := x * 65536 + y * 256) (by omega) (by omega), w64 (by omega) (by omega)]
      omega
theorem Dr.below {β : Type} {P : β → Prop} {b : List Int} {i h n : Int} {f : Int × Int × Int → Option β} (hc : Cur b i) (k : ∀ x i' h', 0 ≤ x → (0 < n → x < n) → Cur b i' → ∃ r, f (x, i', h') = some r ∧ P r) : ∃ r, (spec_l1Below.f b i h n).bind f = some r ∧ P r := by
  obtain ⟨x, i', h', e, h0, h1, hc'⟩ := below_ends h n hc
  rw [e, Option.bind_some]
  exact k x i' h' h0 h1 hc'
theorem Dr.oneOf {β : Type} {P : β → Prop} {b : List Int} {i h : Int} {L : List Int} {f : Int × Int × Int → Option β} (hc : Cur b i) (hL : 0 < L.length) (k : ∀ x i' h', x ∈ L → Cur b i' → ∃ r, f (x, i', h') = some r ∧ P r) : ∃ r, (spec_l1Int.f b i h L).bind f = some r ∧ P r := by
  unfold spec_l1Int.f
  obtain ⟨x, i', h', e, h0, h1, hc'⟩ := below_ends h (L.length : Int) hc
  have h1' := h1 (by omega)
  rw [e, Option.bind_some]
  dsimp only
  rw [if_pos h0, if_pos h1', Option.bind_some]
  exact k _ i' h' (getD_mem (by omega) 0) hc'
theorem Dr.once {β : Type} {P : β → Prop} {b : List Int} {i h n : Int} {f : Bool × Int × Int → Option β} (hc : Cur b i) (k : ∀ x i' h', Cur b i' → ∃ r, f (x, i', h') = some r ∧ P r) : ∃ r, (spec_l1Once.f b i h n).bind f = some r ∧ P r := by
  unfold spec_l1Once.f
  obtain ⟨x, i', h', e, h0, h1, hc'⟩ := below_ends h n hc
  rw [e, Option.bind_some, Option.bind_some]
  exact k _ i' h' hc'
theorem l22Draw_ends {b : List Int} {i : Int} (h : Int) (hc : Cur b i) : ∃ r, spec_l22Draw.f b i h = some r ∧ Cur b r.2.2.2.2.2.2.1 := by
  unfold spec_l22Draw.f
  refine Dr.below hc fun x1 i1 h1 _ _ hc1 => ?_
  refine Dr.below hc1 fun x2 i2 h2 _ _ hc2 => ?_
  refine Dr.below hc2 fun x3 i3 h3 _ _ hc3 => ?_
  refine Dr.below hc3 fun x4 i4 h4 _ _ hc4 => ?_
  refine Dr.below hc4 fun x5 i5 h5 _ _ hc5 => ?_
  exact ⟨_, rfl, hc5⟩
theorem l22Any_ends {b : List Int} {i : Int} (h : Int) (hc : Cur b i) : ∃ r, spec_l22Any.f b i h = some r ∧ Cur b r.2.2.2.2.2.2.1 := by
  unfold spec_l22Any.f
  obtain ⟨r, e, hc1⟩ := l22Draw_ends h hc
  rw [e, Option.bind_some]
  refine Dr.below hc1 fun x i2 h2 _ _ hc2 => ?_
  dsimp only
  repeat (split; · exact Dr.oneOf hc2 (by decide) fun y i3 h3 _ hc3 => ⟨_, rfl, hc3⟩)
  exact ⟨_, rfl, hc2⟩
theorem l4Raw_ends {b : List Int} {i : Int} (h : Int) (hc : Cur b i) : ∃ r, spec_l4Raw.f b i h = some r ∧ Cur b r.2.1 := by
  unfold spec_l4Raw.f
  refine Dr.once hc fun x i2 h2 hc2 => ?_
  dsimp only
  split
  · exact Dr.oneOf hc2 (by decide) fun y i3 h3 _ hc3 => ⟨_, rfl, hc3⟩
  · exact Dr.below hc2 fun y i3 h3 _ _ hc3 => ⟨_, rfl, hc3⟩
theorem l4Any_ends {b : List Int} {i : Int} (h : Int) (hc : Cur b i) : ∃ r, spec_l4Any.f b i h = some r ∧ Cur b r.2.2.1 := by
  unfold spec_l4Any.f
  refine Dr.below hc fun x1 i1 h1 _ _ hc1 => ?_
  refine Dr.below hc1 fun x2 i2 h2 _ _ hc2 => ?_
  refine Dr.below hc2 fun x3 i3 h3 _ _ hc3 => ?_
  dsimp only
  obtain ⟨r, e, hc4⟩ := l4Raw_ends h3 hc3
  split
  · rw [e, Option.bind_some]
    exact ⟨_, rfl, hc4⟩
  · split
    · rw [e, Option.bind_some]
      exact ⟨_, rfl, hc4⟩
    · exact ⟨_, rfl, hc3⟩
theorem l4List_l0 {b : List Int} : ∀ (d : Nat) (acc : List S100) (i h : Int), Cur b i → acc.length + d ≤ 1000 → ∃ L i' h', Ev (fun k => spec_l4List.l0 k acc (d : Int) b i h) (L, i', h') ∧ L.length ≤ 1000 ∧ Cur b i'
  | 0, acc, i, h, hc, ha => by
    refine ⟨acc, i, h, ?_, by omega, hc⟩
    refine Ev.step (fun k => by rw [spec_l4List.l0]) ?_
    exact Ev.ite_neg (by omega) (Ev.now _)
  | d + 1, acc, i, h, hc, ha => by
    obtain ⟨r, e, hc1⟩ := l4Any_ends h hc
    obtain ⟨L, i', h', he, hL, hc'⟩ := l4List_l0 d (acc ++ [(⟨r.1, r.2.1⟩ : S100)]) r.2.2.1 r.2.2.2 hc1 (by simp; omega)
    refine ⟨L, i', h', ?_, hL, hc'⟩
    refine Ev.step (fun k => by rw [spec_l4List.l0]) ?_
    refine Ev.ite_pos (by omega) (Ev.bind0 e (Ev.ite_pos (by omega) ?_))
    rw [w64 (by omega) (by omega), show ((d + 1 : Nat) : Int) - 1 = (d : Int) by omega]
    exact he
theorem l4List_ends {b : List Int} {i : Int} (h : Int) (hc : Cur b i) : ∃ L i' h', Ev (fun k => spec_l4List.f k b i h) (L, i', h') ∧ L.length ≤ 1048576 ∧ Cur b i' := by
  unfold spec_l4List.f
  obtain ⟨x, i1, h1, e, h0, hx, hc1⟩ := below_ends h 5 hc
  have hx' := hx (by omega)
  obtain ⟨n, rfl⟩ := Int.eq_ofNat_of_zero_le h0
  obtain ⟨L, i', h', he, hL, hc'⟩ := l4List_l0 n [] i1 h1 hc1 (by simp; omega)
  exact ⟨L, i', h', Ev.bind0 e he, by omega, hc'⟩
theorem l1New_ends (b : List Int) (_hb : b.length ≤ 1048576) : ∃ h, Ev (fun k => spec_l1New.f k b) (b, 0, h) := by
  have key : ∀ (d i : Nat) (h : Int), i + d = b.length → ∃ h', Ev (fun k => spec_l1New.l0 k b h (i : Int)) (b, 0, h') := by
    intro d
    induction d with
    | zero =>
      intro i h hi
      refine ⟨h, ?_⟩
      refine Ev.step (fun k => by rw [spec_l1New.l0]) ?_
      exact Ev.ite_neg (by omega) (Ev.now _)
    | succ d ih =>
      intro i h hi
      by_cases c : (i : Int) < 4000
      · obtain ⟨h', he⟩ := ih (i + 1) (Go.bits .and .i64 (wrap64 ((wrap64 ((wrap64 (h * 137)) + (wrap64 (rd b (i : Int))))) + 11)) 1073741823) (by omega)
        refine ⟨h', ?_⟩
        refine Ev.step (fun k => by rw [spec_l1New.l0]) ?_
        refine Ev.ite_pos (by omega) (Ev.ite_pos c (Ev.ite_pos (by omega) ?_))
        rw [w64n (by omega)]
        exact he
      · refine ⟨h, ?_⟩
        refine Ev.step (fun k => by rw [spec_l1New.l0]) ?_
        exact Ev.ite_pos (by omega) (Ev.ite_neg c (Ev.now _))
  obtain ⟨h', he⟩ := key b.length 0 (wrap64 (193017 + (b.length : Int))) (by omega)
  exact ⟨h', he⟩
theorem cur0 {b : List Int} (hb : b.length ≤ 1048576) : Cur b 0 := ⟨by omega, by omega, hb⟩
theorem drawNeedAt_ends (b : List Int) (hb : b.length ≤ 1048576) : ∃ v c r n s g l t e, Ev (fun k => spec_DrawNeedAt.f k b) (v, c, r, n, s, g, l, t, e) ∧ l.length ≤ 1048576 := by
  obtain ⟨h, hn⟩ := l1New_ends b hb
  obtain ⟨r, e1, hc1⟩ := l22Any_ends h (cur0 hb)
  obtain ⟨L, i2, h2, e2, hL, hc2⟩ := l4List_ends r.2.2.2.2.2.2.2 hc1
  obtain ⟨x, i3, h3, e3, hx0, hx1, hc3⟩ := below_ends h2 40 hc2
  obtain ⟨y, e4, _⟩ := Dr.oneOf (P := fun _ => True) (f := some) (L := [40, 30, 10, 0, 1001]) (h := h3) hc3 (by decide) (fun x i h _ _ => ⟨_, rfl, trivial⟩)
  rw [Option.bind_fun_some] at e4
  refine ⟨r.1, r.2.1, r.2.2.1, r.2.2.2.1, r.2.2.2.2.1, r.2.2.2.2.2.1, L, wrap64 (x - 1), y.1, ?_, hL⟩
  unfold spec_DrawNeedAt.f
  exact Ev.bind hn (Ev.bind0 e1 (Ev.bind e2 (Ev.bind0 e3 (Ev.bind0 e4 (Ev.now _)))))
theorem drawIsFeasible_ends (b : List Int) (hb : b.length ≤ 1048576) : ∃ v c r n s g l t e, Ev (fun k => spec_DrawIsFeasible.f k b) (v, c, r, n, s, g, l, t, e) ∧ l.length ≤ 1048576 := by
  obtain ⟨v, c, r, n, s, g, l, t, e, h0, hl⟩ := drawNeedAt_ends b hb
  refine ⟨v, c, r, n, s, g, l, t, e, ?_, hl⟩
  unfold spec_DrawIsFeasible.f
  exact Ev.bind h0 (Ev.now _)
end Go.Proofs.Ytaciciobhfoglaa.fnBatteries
namespace Go.Proofs.Ytaciciobhfoglaa.fnBatteries
open Go.RowKit Go.Proofs.YtaciciobhfoglaaW.PrintWords Go.Proofs.YtaciciobhfoglaaW.PrintMore Go.Proofs.Ytaciciobhfoglaa.QFnBatteries Go.Proofs.Ytaciciobhfoglaa.Open Go.Proofs.Ytaciciobhfoglaa.Kit
theorem need2 (l : List S100) (hl : l.length ≤ 1048576) (v c r b s g t e : Int) : Ev (fun k => impl_NeedAt.f k v c r b s g l t e) (needAt l b g t e) := by
  unfold impl_NeedAt.f
  refine Ev.bind (needs2 l hl v c r s b g t e) ?_
  have h := needsOf_get (l := l) (b := b) (g := g) (t := t) (e := e)
  refine Ev.ite_pos (by omega) (Ev.some h.2)
theorem at_some (code : List Int) {t : Int} (h : 0 ≤ t) : ∃ x, laws_at.f code t = some x := by
  unfold laws_at.f
  by_cases c : t < (code.length : Int)
  · rw [if_pos c, if_pos h]
    exact ⟨_, rfl⟩
  · rw [if_neg c]
    exact ⟨_, rfl⟩
theorem round (code : List Int) {l : List S100} (hl : l.length ≤ 1048576) {c r b s g e : Int} {d : Nat} {v t m : Int} (he : e ≤ 1000) (h0 : 0 ≤ t) (hd : t + ((d + 1 : Nat) : Int) = e) (hB : Bat v c r b s g) (hlv : v - m * s ≥ r + nd l b g e (d + 1)) (hm : 0 ≤ m ∧ m ≤ 100) (hc : r + nd l b g e d ≤ c)
    (ih : ∀ v', Bat v' c r b s g → r + nd l b g e d ≤ v' → Ev (fun k => laws_FnBatteries.l0 k code l e (t + 1) v' c r b s g) true) : Ev (fun k => laws_FnBatteries.j2 k code l e t m v c r b s g) true := by
  have hs := step_ok (l := l) (t := t) hB hd hlv hm hc
  have hB' := hB
  unfold Bat at hB'
  have hbd := nd_bd (l := l) (e := e) (b := b) (g := g) (by omega) (by omega) d
  have hN : needAt l b g (t + 1) e = nd l b g e d := by
    rw [needAt_in (by omega) (by omega) (by omega) he, show (e - (t + 1)).toNat = d by omega]
  refine Ev.step (fun k => by rw [laws_FnBatteries.j2]) ?_
  refine Ev.bind (inSpans2 l t hl) (Ev.bind0 (tick2L v c r b s g _ m) ?_)
  generalize tickL v c r b s g (inSp l t) m = v' at hs
  refine Ev.bind (need2 l hl v' c r b s g _ e) ?_
  rw [w64 (x := t + 1) (by omega) (by omega), hN]
  refine Ev.ite_neg ?_ (Ev.bind0 (bat2 v' c r b s g) (Ev.ite_pos (decide_eq_true hs.1) (ih v' hs.1 hs.2)))
  dsimp only
  rw [w64 (x := r + nd l b g e d) (by omega) (by omega)]
  omega
theorem rounds (code : List Int) {l : List S100} (hl : l.length ≤ 1048576) {c r b s g e : Int} (he : e ≤ 1000) : ∀ (d : Nat) (v t : Int), 0 ≤ t → (e - t).toNat = d → Bat v c r b s g → r + nd l b g e d ≤ v → (∀ d', d' ≤ d → r + nd l b g e d' ≤ c) → Ev (fun k => laws_FnBatteries.l0 k code l e t v c r b s g) true := by
  intro d
  induction d with
  | zero =>
    intro v t h0 hd hB hlv hc
    refine Ev.step (fun k => by rw [laws_FnBatteries.l0]) ?_
    exact Ev.ite_neg (by omega) (Ev.now _)
  | succ d ih =>
    intro v t h0 hd hB hlv hc
    have hB' := hB
    unfold Bat at hB'
    have hN : needAt l b g t e = nd l b g e (d + 1) := by
      rw [needAt_in (by omega) (by omega) (by omega) he, hd]
    have hr : ∀ m, 0 ≤ m ∧ m ≤ 100 → v - m * s ≥ r + nd l b g e (d + 1) → Ev (fun k => laws_FnBatteries.j2 k code l e t m v c r b s g) true := fun m hm hlv' =>
      round code hl he h0 (by omega) hB hlv' hm (hc d (by omega)) (fun v' hB2 hv2 => ih v' (t + 1) (by omega) (by omega) hB2 hv2 (fun d' hd' => hc d' (by omega)))
    have hr0 := hr 0 (by omega) (by rw [Int.zero_mul]; omega)
    refine Ev.step (fun k => by rw [laws_FnBatteries.l0]) ?_
    refine Ev.ite_pos (by omega) (Ev.bind (need2 l hl v c r b s g t e) (Ev.bind0 (may2 v c r b s g _) ?_))
    rw [hN]
    cases hm : mayB v c r b s g (nd l b g e (d + 1)) with
    | false =>
      refine Ev.ite_neg (by simp) ?_
      refine Ev.step (fun k => by rw [laws_FnBatteries.j1]) ?_
      exact Ev.ite_neg (by simp) hr0
    | true =>
      have hr1 := hr 1 (by omega) (by rw [Int.one_mul]; exact (mayB_iff.1 hm).2.2)
      obtain ⟨x, hx⟩ := at_some code h0
      refine Ev.ite_pos rfl (Ev.bind0 hx ?_)
      refine Ev.step (fun k => by rw [laws_FnBatteries.j1]) ?_
      by_cases hq : (Int.tmod x 2 == 0) = true
      · exact Ev.ite_pos hq hr1
      · exact Ev.ite_neg hq hr0
theorem pure : PureFnBatteries := by
  intro code hcode
  refine Ev.rounds (r := true) ?_
  unfold laws_FnBatteries.f
  refine Ev.bind0 rfl ?_
  by_cases hb : (code.length : Int) > 1048576
  · exact Ev.ite_pos (decide_eq_true hb) (Ev.now _)
  · refine Ev.ite_neg (by simpa using hb) ?_
    obtain ⟨v, c, r, b, s, g, l, t, e, hd, hl⟩ := drawIsFeasible_ends code (by omega)
    refine Ev.bind hd (Ev.bind (feas2 l hl v c r b s g t e) (Ev.bind (feas1 l hl v c r b s g t e) ?_))
    refine Ev.ite_neg (by simp) (Ev.bind (feas2 l hl v c r b s g t e) ?_)
    cases hf : feas l v c r b s g t e with
    | false => exact Ev.ite_neg (by simp) (Ev.now _)
    | true =>
      refine Ev.ite_pos rfl ?_
      obtain ⟨h1, h2, h3⟩ := fits_le hf
      exact rounds code hl h1.2.2 _ v t h1.2.1 rfl h1.1 h3 h2
end Go.Proofs.Ytaciciobhfoglaa.fnBatteries
namespace Go.Proofs.Ytaciciobhfoglaa
theorem fnBatteries_holds : Rows.FnBatteriesSaid := fnBatteries.row fnBatteries.pure
end Go.Proofs.Ytaciciobhfoglaa
