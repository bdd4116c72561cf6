/- What is needed from a tick on, in the program and in the reference. Conditions: none. -/
import Derived.Test.YtaciciobhfoglaaVFnExactSafeSendsQFnExactSafeSendsx
import Derived.Test.YtaciciobhfoglaaVFnExactSafeSendsInSpFnExactSafeSends
namespace Go.Proofs.Ytaciciobhfoglaa.fnExactSafeSends
open Go.RowKit Go.Proofs.YtaciciobhfoglaaW.PrintWords Go.Proofs.YtaciciobhfoglaaW.PrintMore Go.Proofs.Ytaciciobhfoglaa.QFnExactSafeSends Go.Proofs.Ytaciciobhfoglaa.Open Go.Proofs.Ytaciciobhfoglaa.Kit
theorem inN1 (a b c : Int) : spec_l1In.f a b c = some (decide (b ≤ a ∧ a ≤ c)) := by
  unfold spec_l1In.f
  by_cases h : b ≤ a <;> simp [h]
theorem inN2 (a b c : Int) : impl_InRange.f a b c = some (decide (b ≤ a ∧ a ≤ c)) := by
  unfold impl_InRange.f
  by_cases h : b ≤ a <;> simp [h]
theorem maxN (a b : Int) : spec_Max.f a b = some (max a b) := by
  unfold spec_Max.f
  by_cases h : b > a
  · rw [if_pos h]; congr 1; omega
  · rw [if_neg h]; congr 1; omega
/-- What is needed d ticks before the end e. -/
def nd (l : List S100) (b g e : Int) : Nat → Int
  | 0 => 0
  | d + 1 => max 0 (nd l b g e d + b - if inSp l (e - ((d + 1 : Nat) : Int)) = true then g else 0)
theorem nd_bd {l : List S100} {b g e : Int} (hb : 0 ≤ b ∧ b ≤ 100) (hg : 0 ≤ g ∧ g ≤ 100) : ∀ d, 0 ≤ nd l b g e d ∧ nd l b g e d ≤ 100 * (d : Int)
  | 0 => by simp [nd]
  | d + 1 => by
    have h := nd_bd (l := l) (e := e) hb hg d
    unfold nd
    split <;> omega
/-- The answer of NeedAt. -/
def needAt (l : List S100) (b g t e : Int) : Int := if (0 ≤ b ∧ b ≤ 100) ∧ (0 ≤ g ∧ g ≤ 100) ∧ 0 ≤ t ∧ e ≤ 1000 ∧ t < e then nd l b g e (e - t).toNat else 0
theorem need1_l0 (l : List S100) (hl : l.length ≤ 1048576) (x0 x1 x2 x4 b g t e : Int) (hb : 0 ≤ b ∧ b ≤ 100) (hg : 0 ≤ g ∧ g ≤ 100) (ht : 0 ≤ t) (he : e ≤ 1000) (n : Nat) (hn : t + n = e) :
    Ev (fun k => spec_NeedAt.l0 k l t (nd l b g e 0) (t + ((n : Nat) : Int) - 1) x0 x1 x2 b x4 g) (nd l b g e n) := by
  have h0 : nd l b g e 0 = nd l b g e (n - n) := by rw [Nat.sub_self]
  rw [h0]
  refine Ev.down (n := n) (g := fun m k => spec_NeedAt.l0 k l t (nd l b g e (n - m)) (t + (m : Int) - 1) x0 x1 x2 b x4 g) ?_ ?_
  · intro m hm ih
    have hd : n - m = (n - (m + 1)) + 1 := by omega
    have hbd := nd_bd (l := l) (e := e) hb hg (n - (m + 1))
    have hu : t + ((m + 1 : Nat) : Int) - 1 = t + (m : Int) := by omega
    have hi : e - (((n - (m + 1)) + 1 : Nat) : Int) = t + (m : Int) := by omega
    rw [hd, nd, hi] at ih
    refine Ev.step (fun k => by rw [spec_NeedAt.l0]) ?_
    rw [hu]
    repeat (first | (with_reducible refine Ev.ite_pos (by omega) ?_) | (with_reducible refine Ev.ite_neg (by omega) ?_))
    refine Ev.bind (inSpans1 l (t + (m : Int)) hl) ?_
    cases hin : inSp l (t + (m : Int)) with
    | true =>
      rw [hin] at ih
      refine Ev.ite_pos rfl (Ev.bind0 (maxN _ _) ?_)
      rw [w64 (x := nd l b g e (n - (m + 1)) + b) (by omega) (by omega), w64 (x := nd l b g e (n - (m + 1)) + b - g) (by omega) (by omega), w64 (x := t + (m : Int) - 1) (by omega) (by omega)]
      exact ih
    | false =>
      rw [hin] at ih
      refine Ev.ite_neg (by simp) (Ev.bind0 (maxN _ _) ?_)
      rw [w64 (x := nd l b g e (n - (m + 1)) + b) (by omega) (by omega), w64 (x := t + (m : Int) - 1) (by omega) (by omega)]
      simpa using ih
  · refine Ev.step (fun k => by rw [spec_NeedAt.l0]) ?_
    repeat (first | (with_reducible refine Ev.ite_pos (by omega) ?_) | (with_reducible refine Ev.ite_neg (by omega) ?_))
    rw [Nat.sub_zero]
    exact Ev.now _
theorem need1 (l : List S100) (hl : l.length ≤ 1048576) (x0 x1 x2 x4 b g t e : Int) : Ev (fun k => spec_NeedAt.f k x0 x1 x2 b x4 g l t e) (needAt l b g t e) := by
  unfold spec_NeedAt.f
  have hr : spec_l22Rates.f x0 x1 x2 b x4 g = some (decide ((0 ≤ b ∧ b ≤ 100) ∧ (0 ≤ g ∧ g ≤ 100))) := by
    unfold spec_l22Rates.f
    rw [inN1, inN1]
    by_cases h1 : 0 ≤ b ∧ b ≤ 100 <;> simp [h1]
  have hz : ∀ P : Prop, ¬ P → Ev (fun k => spec_NeedAt.j0 k l t e 0 true x0 x1 x2 b x4 g) 0 := by
    intro _ _
    refine Ev.step (fun k => by rw [spec_NeedAt.j0]) ?_
    exact Ev.ite_pos rfl (Ev.now _)
  refine Ev.bind0 hr ?_
  unfold needAt
  by_cases h1 : (0 ≤ b ∧ b ≤ 100) ∧ (0 ≤ g ∧ g ≤ 100)
  · refine Ev.ite_pos (by simp only [decide_eq_true_eq]; exact h1) ?_
    by_cases h2 : t < 0
    · rw [if_neg (by omega)]
      exact Ev.ite_pos h2 (hz False (by simp))
    · refine Ev.ite_neg h2 ?_
      by_cases h3 : e > 1000
      · rw [if_neg (by omega)]
        exact Ev.ite_pos h3 (hz False (by simp))
      · refine Ev.ite_neg h3 ?_
        by_cases h4 : e ≤ t
        · rw [if_neg (by omega), decide_eq_true h4]
          exact hz False (by simp)
        · rw [if_pos ⟨h1.1, h1.2, by omega, by omega, by omega⟩, decide_eq_false h4]
          refine Ev.step (fun k => by rw [spec_NeedAt.j0]) ?_
          refine Ev.ite_neg (by simp) ?_
          have := need1_l0 l hl x0 x1 x2 x4 b g t e h1.1 h1.2 (by omega) (by omega) (e - t).toNat (by omega)
          rw [w64 (by omega) (by omega)]
          rw [show t + ((e - t).toNat : Int) - 1 = e - 1 by omega] at this
          exact this
  · refine Ev.ite_neg (by simp only [decide_eq_true_eq]; exact h1) ?_
    rw [if_neg (by omega)]
    exact hz False (by simp)
/-- Whether each of the first N ticks is in a span. -/
def tkN (N : Nat) (l : List S100) : List Bool := (List.range N).map fun t : Nat => inSp l (t : Int)
theorem tkN_len (N : Nat) (l : List S100) : (tkN N l).length = N := by simp [tkN]
theorem tkN_get {N u : Nat} (l : List S100) (h : u < N) : (tkN N l).getD u false = inSp l (u : Int) := by
  unfold tkN
  rw [map_range_getD _ h]
def tk (l : List S100) : List Bool := tkN 1000 l
theorem tk_len (l : List S100) : (tk l).length = 1000 := tkN_len 1000 l
theorem tk_get {u : Nat} (l : List S100) (h : u < 1000) : (tk l).getD u false = inSp l (u : Int) := tkN_get l h
theorem isSpan2 (s : S100) : impl_IsSpan.f s.f0 s.f1 = some (decide (0 ≤ s.f0 ∧ s.f1 ≤ 1000 ∧ s.f0 < s.f1)) := by
  unfold impl_IsSpan.f
  by_cases h1 : 0 ≤ s.f0 <;> by_cases h2 : s.f1 ≤ 1000 <;> simp [h1, h2]
theorem ticks_l1 {N : Nat} {l : List S100} {s : S100} {f : Nat → Bool} {i : Nat} {x9 : Int} {r : List Bool} (hN : 1000 ≤ N) (hN2 : N ≤ 1048576) (hs : 0 ≤ s.f0 ∧ s.f1 ≤ 1000 ∧ s.f0 < s.f1)
    (h : Ev (fun k => impl_ticks.l0 k ((List.range N).map fun t : Nat => f t || inS s (t : Int)) l x9 (wrap64 ((i : Int) + 1))) r) :
    Ev (fun k => impl_ticks.l1 k ((List.range N).map f) s.f0 l x9 (i : Int) s.f0 s.f1) r := by
  obtain ⟨a, ha⟩ := Int.eq_ofNat_of_zero_le hs.1
  have key : ∀ (d u : Nat), (a : Int) ≤ u → (u : Int) + d = s.f1 → Ev (fun k => impl_ticks.l1 k ((List.range N).map fun t : Nat => f t || (decide (a ≤ t ∧ t < u))) (u : Int) l x9 (i : Int) s.f0 s.f1) r := by
    intro d
    induction d with
    | zero =>
      intro u hu hd
      refine Ev.step (fun k => by rw [impl_ticks.l1]) ?_
      repeat (first | (with_reducible refine Ev.ite_pos (by omega) ?_) | (with_reducible refine Ev.ite_neg (by omega) ?_))
      have e : ((List.range N).map fun t : Nat => f t || inS s (t : Int)) = (List.range N).map fun t : Nat => f t || (decide (a ≤ t ∧ t < u)) := by
        refine map_range_congr fun t ht => ?_
        congr 1
        unfold inS
        rw [decide_eq_decide]
        omega
      rw [e] at h
      exact h
    | succ d ih =>
      intro u hu hd
      have h1 := ih (u + 1) (by omega) (by omega)
      refine Ev.step (fun k => by rw [impl_ticks.l1]) ?_
      have hlen : ((List.range N).map fun t : Nat => f t || (decide (a ≤ t ∧ t < u))).length = N := by simp
      repeat (first | (with_reducible refine Ev.ite_pos (by omega) ?_) | (with_reducible refine Ev.ite_neg (by omega) ?_))
      rw [Int.toNat_natCast, map_range_set, w64n (by omega)]
      have e : ((List.range N).map fun j : Nat => if j = u then true else f j || (decide (a ≤ j ∧ j < u))) = (List.range N).map fun t : Nat => f t || (decide (a ≤ t ∧ t < u + 1)) := by
        refine map_range_congr fun t ht => ?_
        by_cases hj : t = u
        · rw [if_pos hj, decide_eq_true (by omega : a ≤ t ∧ t < u + 1), Bool.or_true]
        · rw [if_neg hj]
          congr 1
          rw [decide_eq_decide]
          omega
      rw [e]
      exact h1
  have h2 := key (s.f1 - s.f0).toNat a (by omega) (by omega)
  have e : ((List.range N).map fun t : Nat => f t || (decide (a ≤ t ∧ t < a))) = (List.range N).map f := by
    refine map_range_congr fun t _ => ?_
    rw [decide_eq_false (by omega), Bool.or_false]
  rw [e, ← ha] at h2
  exact h2
theorem ticks2_l0 (l : List S100) (hl : l.length ≤ 1048576) (N : Nat) (hN : 1000 ≤ N) (hN2 : N ≤ 1048576) : Ev (fun k => impl_ticks.l0 k (List.replicate N false) l (l.length : Int) 0) (tkN N l) := by
  have h0 : List.replicate N false = (List.range N).map fun t : Nat => inSp (l.take 0) (t : Int) := by
    apply List.ext_getElem
    · simp
    · intro i _ _
      simp [inSp]
  rw [h0]
  refine Ev.up (n := l.length) (g := fun i k => impl_ticks.l0 k ((List.range N).map fun t : Nat => inSp (l.take i) (t : Int)) l (l.length : Int) (i : Int)) ?_ ?_
  · intro i hi ih
    have e : ∀ t, inSp (l.take (i + 1)) t = (inSp (l.take i) t || inS (l.getD i z100) t) := by
      intro t
      unfold inSp
      rw [take_succ_getD hi z100, List.any_append]
      simp
    simp only [e] at ih
    refine Ev.step (fun k => by rw [impl_ticks.l0]) ?_
    repeat (first | (with_reducible refine Ev.ite_pos (by omega) ?_) | (with_reducible refine Ev.ite_neg (by omega) ?_))
    refine Ev.bind0 (isSpan2 (l.getD i z100)) ?_
    by_cases hs : 0 ≤ (l.getD i z100).f0 ∧ (l.getD i z100).f1 ≤ 1000 ∧ (l.getD i z100).f0 < (l.getD i z100).f1
    · refine Ev.ite_pos (by simp only [decide_eq_true_eq]; exact hs) ?_
      rw [← w64n (by omega)] at ih
      exact ticks_l1 (s := l.getD i z100) hN hN2 hs ih
    · refine Ev.ite_neg (by simp only [decide_eq_true_eq]; exact hs) ?_
      rw [w64n (by omega)]
      have e2 : ∀ t, inS (l.getD i z100) t = false := by
        intro t
        unfold inS
        rw [decide_eq_false]
        omega
      simp only [e2, Bool.or_false] at ih
      exact ih
  · refine Ev.step (fun k => by rw [impl_ticks.l0]) ?_
    repeat (first | (with_reducible refine Ev.ite_pos (by omega) ?_) | (with_reducible refine Ev.ite_neg (by omega) ?_))
    refine Ev.some ?_
    rw [List.take_length]
    rfl
theorem ticks2 (l : List S100) (hl : l.length ≤ 1048576) : Ev (fun k => impl_ticks.f k l) (tk l) := by
  unfold impl_ticks.f
  refine Ev.ite_pos (by decide) ?_
  exact ticks2_l0 l hl 1000 (by omega) (by omega)
/-- The list of what is needed: its place m is filled from the end. -/
def ndl (l : List S100) (b g e : Int) (n m : Nat) : List Int := (List.range (n + 1)).map fun j => if j < m then 0 else nd l b g e (n - j)
theorem needs2_l0 (l : List S100) (x0 x1 x2 x4 b g t e : Int) (hb : 0 ≤ b ∧ b ≤ 100) (hg : 0 ≤ g ∧ g ≤ 100) (ht : 0 ≤ t) (he : e ≤ 1000) (n : Nat) (hn : t + n = e) :
    Ev (fun k => impl_needs.l0 k t (tk l) (ndl l b g e n n) (t + ((n : Nat) : Int) - 1) x0 x1 x2 b x4 g) (ndl l b g e n 0) := by
  refine Ev.down (n := n) (g := fun m k => impl_needs.l0 k t (tk l) (ndl l b g e n m) (t + (m : Int) - 1) x0 x1 x2 b x4 g) ?_ ?_
  · intro m hm ih
    have hd : n - m = (n - (m + 1)) + 1 := by omega
    have hbd := nd_bd (l := l) (e := e) hb hg (n - (m + 1))
    have hu : t + ((m + 1 : Nat) : Int) - 1 = t + (m : Int) := by omega
    have hi : e - (((n - (m + 1)) + 1 : Nat) : Int) = t + (m : Int) := by omega
    obtain ⟨a, ha⟩ := Int.eq_ofNat_of_zero_le ht
    have hlen : (ndl l b g e n (m + 1)).length = n + 1 := by simp [ndl]
    have htk := tk_len l
    have hget : rd (ndl l b g e n (m + 1)) ((m + 1 : Nat) : Int) = nd l b g e (n - (m + 1)) := by
      rw [rd_nat]
      unfold ndl
      rw [map_range_getD _ (by omega), if_neg (by omega)]
    have htick : rdOf false (tk l) (t + (m : Int)) = inSp l (t + (m : Int)) := by
      have e1 : t + (m : Int) = ((a + m : Nat) : Int) := by omega
      rw [e1]
      exact tk_get l (by omega)
    have hset : ∀ v, v = nd l b g e (n - m) → (ndl l b g e n (m + 1)).set m v = ndl l b g e n m := by
      intro v hv
      unfold ndl
      rw [map_range_set]
      refine map_range_congr fun j hj => ?_
      by_cases h1 : j = m
      · rw [if_pos h1, if_neg (by omega), h1, hv]
      · rw [if_neg h1]
        by_cases h2 : j < m
        · rw [if_pos h2, if_pos (by omega)]
        · rw [if_neg h2, if_neg (by omega)]
    refine Ev.step (fun k => by rw [impl_needs.l0]) ?_
    rw [hu, w64 (x := t + (m : Int) - t) (by omega) (by omega), show t + (m : Int) - t = (m : Int) by omega, w64n (by omega), hget, htick, w64 (x := nd l b g e (n - (m + 1)) + b) (by omega) (by omega), w64 (x := nd l b g e (n - (m + 1)) + b - g) (by omega) (by omega), w64 (x := t + (m : Int) - 1) (by omega) (by omega)]
    repeat (first | (with_reducible refine Ev.ite_pos (by omega) ?_) | (with_reducible refine Ev.ite_neg (by omega) ?_))
    cases hin : inSp l (t + (m : Int)) with
    | true =>
      refine Ev.ite_pos rfl ?_
      repeat (first | (with_reducible refine Ev.ite_pos (by omega) ?_) | (with_reducible refine Ev.ite_neg (by omega) ?_))
      rw [Int.toNat_natCast, hset _ (by rw [hd, nd, hi, hin, mx_def]; rfl)]
      exact ih
    | false =>
      refine Ev.ite_neg (by simp) ?_
      repeat (first | (with_reducible refine Ev.ite_pos (by omega) ?_) | (with_reducible refine Ev.ite_neg (by omega) ?_))
      rw [Int.toNat_natCast, hset _ (by rw [hd, nd, hi, hin, mx_def]; simp)]
      exact ih
  · refine Ev.step (fun k => by rw [impl_needs.l0]) ?_
    repeat (first | (with_reducible refine Ev.ite_pos (by omega) ?_) | (with_reducible refine Ev.ite_neg (by omega) ?_))
    exact Ev.now _
/-- The answer of needs. -/
def needsOf (l : List S100) (b g t e : Int) : List Int := if (0 ≤ b ∧ b ≤ 100) ∧ (0 ≤ g ∧ g ≤ 100) ∧ 0 ≤ t ∧ e ≤ 1000 ∧ t < e then ndl l b g e (e - t).toNat 0 else [0]
theorem needs2 (l : List S100) (hl : l.length ≤ 1048576) (x0 x1 x2 x4 b g t e : Int) : Ev (fun k => impl_needs.f k x0 x1 x2 b x4 g l t e) (needsOf l b g t e) := by
  unfold impl_needs.f
  have hz : Ev (fun k => impl_needs.j0 k l t e true x0 x1 x2 b x4 g) [0] := by
    refine Ev.step (fun k => by rw [impl_needs.j0]) ?_
    exact Ev.ite_pos rfl (Ev.now _)
  refine Ev.bind0 (inN2 b 0 100) ?_
  unfold needsOf
  by_cases h1 : 0 ≤ b ∧ b ≤ 100
  · refine Ev.ite_pos (by simp only [decide_eq_true_eq]; exact h1) ?_
    refine Ev.bind0 (inN2 g 0 100) ?_
    by_cases h1' : 0 ≤ g ∧ g ≤ 100
    · refine Ev.ite_pos (by simp only [decide_eq_true_eq]; exact h1') ?_
      by_cases h2 : t < 0
      · rw [if_neg (by omega)]
        exact Ev.ite_pos h2 hz
      · refine Ev.ite_neg h2 ?_
        by_cases h3 : e > 1000
        · rw [if_neg (by omega)]
          exact Ev.ite_pos h3 hz
        · refine Ev.ite_neg h3 ?_
          by_cases h4 : t ≥ e
          · rw [if_neg (by omega), decide_eq_true h4]
            exact hz
          · rw [if_pos ⟨h1, h1', by omega, by omega, by omega⟩, decide_eq_false h4]
            obtain ⟨n, hn⟩ := Int.eq_ofNat_of_zero_le (show 0 ≤ e - t by omega)
            have h5 := needs2_l0 l x0 x1 x2 x4 b g t e h1 h1' (by omega) (by omega) n (by omega)
            have e0 : ndl l b g e n n = List.replicate (n + 1) 0 := by
              apply List.ext_getElem
              · simp [ndl]
              · intro i hi _
                simp [ndl] at hi
                by_cases hin : i < n
                · simp [ndl, hin]
                · obtain rfl : i = n := by omega
                  simp [ndl, nd]
            rw [e0] at h5
            refine Ev.step (fun k => by rw [impl_needs.j0]) ?_
            refine Ev.ite_neg (by simp) ?_
            refine Ev.bind (ticks2 l hl) ?_
            rw [w64 (x := e - t) (by omega) (by omega), hn, w64n (by omega), w64 (x := e - 1) (by omega) (by omega)]
            repeat (first | (with_reducible refine Ev.ite_pos (by omega) ?_) | (with_reducible refine Ev.ite_neg (by omega) ?_))
            rw [Int.toNat_natCast, show e - 1 = t + (n : Int) - 1 by omega]
            exact h5
    · refine Ev.ite_neg (by simp only [decide_eq_true_eq]; exact h1') ?_
      rw [if_neg (by omega)]
      exact hz
  · refine Ev.ite_neg (by simp only [decide_eq_true_eq]; exact h1) ?_
    rw [if_neg (by omega)]
    exact hz
theorem needsOf_get {l : List S100} {b g t e : Int} : 0 < (needsOf l b g t e).length ∧ rd (needsOf l b g t e) 0 = needAt l b g t e := by
  unfold needsOf needAt
  by_cases h : (0 ≤ b ∧ b ≤ 100) ∧ (0 ≤ g ∧ g ≤ 100) ∧ 0 ≤ t ∧ e ≤ 1000 ∧ t < e
  · rw [if_pos h, if_pos h]
    refine ⟨by simp [ndl], ?_⟩
    show (ndl l b g e (e - t).toNat 0).getD 0 0 = _
    unfold ndl
    rw [map_range_getD _ (by omega), if_neg (by omega), Nat.sub_zero]
  · rw [if_neg h, if_neg h]
    exact ⟨by simp, rfl⟩
end Go.Proofs.Ytaciciobhfoglaa.fnExactSafeSends
