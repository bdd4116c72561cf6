/- What a tick leaves of a battery, in the program and in the reference. Conditions: none. -/
import Derived.Test.YtaciciobhfoglaaBatFnExactIsSafeCourse
namespace Go.Proofs.Ytaciciobhfoglaa.fnExactIsSafeCourse
open Go.RowKit Go.Proofs.YtaciciobhfoglaaW.PrintWords Go.Proofs.YtaciciobhfoglaaW.PrintMore Go.Proofs.Ytaciciobhfoglaa.QFnExactIsSafeCourse Go.Proofs.Ytaciciobhfoglaa.Open Go.Proofs.Ytaciciobhfoglaa.Kit
/-- A battery's level behind a tick. -/
def lev (l c b s g : Int) (sun : Bool) (n : Int) : Int := max 0 (min c (l - b - (if 0 ≤ n ∧ n ≤ 100 then n else 0) * s + (if sun = true then g else 0)))
theorem maxT (a b : Int) : spec_Max.f a b = some (max a b) := by
  unfold spec_Max.f
  by_cases h : b > a
  · rw [if_pos h]; congr 1; omega
  · rw [if_neg h]; congr 1; omega
theorem minT (a b : Int) : spec_Min.f a b = some (min a b) := by
  unfold spec_Min.f
  by_cases h : b < a
  · rw [if_pos h]; congr 1; omega
  · rw [if_neg h]; congr 1; omega
theorem prod {n s : Int} (h0 : 0 ≤ n) (h1 : n ≤ 100) (h2 : 0 ≤ s) (h3 : s ≤ 100) : 0 ≤ n * s ∧ n * s ≤ 10000 := by
  refine ⟨Int.mul_nonneg h0 h2, ?_⟩
  have := Int.mul_le_mul h1 h3 h2 (by omega : (0 : Int) ≤ 100)
  omega
theorem tick1 (l c r b s g : Int) (sun : Bool) (n : Int) : Ev (fun k => spec_TickBattery.f k l c r b s g sun n) (if Bat l c r b s g then (lev l c b s g sun n, c, r, b, s, g) else (l, c, r, b, s, g)) := by
  unfold spec_TickBattery.f
  refine Ev.bind0 (bat1 l c r b s g) ?_
  by_cases hb : Bat l c r b s g
  · rw [if_pos hb]
    refine Ev.ite_pos (by simp [hb]) (Ev.bind0 (in1 n 0 100) ?_)
    have key : ∀ m : Int, 0 ≤ m → m ≤ 100 → Ev (fun k => spec_TickBattery.j0 k sun m l c r b s g) (max 0 (min c (l - b - m * s + (if sun = true then g else 0))), c, r, b, s, g) := by
      intro m hm0 hm1
      unfold Bat at hb
      have hp := prod hm0 hm1 (by omega : 0 ≤ s) (by omega : s ≤ 100)
      refine Ev.step (fun k => by rw [spec_TickBattery.j0]) ?_
      cases sun with
      | true => 
        refine Ev.ite_pos rfl (Ev.bind0 (minT _ _) (Ev.bind0 (maxT _ _) (Ev.some ?_)))
        rw [w64 (x := m * s) (by omega) (by omega), w64 (x := l - b) (by omega) (by omega), w64 (x := l - b - m * s) (by omega) (by omega), w64 (x := l - b - m * s + g) (by omega) (by omega)]
        rfl
      | false =>
        refine Ev.ite_neg (by simp) (Ev.bind0 (minT _ _) (Ev.bind0 (maxT _ _) (Ev.some ?_)))
        rw [w64 (x := m * s) (by omega) (by omega), w64 (x := l - b) (by omega) (by omega), w64 (x := l - b - m * s) (by omega) (by omega)]
        simp
    unfold lev
    by_cases hn : 0 ≤ n ∧ n ≤ 100
    · rw [if_pos hn]
      exact Ev.ite_pos (by simp [hn]) (key n hn.1 hn.2)
    · rw [if_neg hn]
      exact Ev.ite_neg (by simpa using hn) (key 0 (by omega) (by omega))
  · rw [if_neg hb]
    exact Ev.ite_neg (by simp [hb]) (Ev.now _)
theorem tick2 (l c r b s g : Int) (sun : Bool) (n : Int) : impl_TickBattery.f l c r b s g sun n = some (if Bat l c r b s g then (lev l c b s g sun n, c, r, b, s, g) else (l, c, r, b, s, g)) := by
  unfold impl_TickBattery.f
  rw [bat2]
  by_cases hb : Bat l c r b s g
  · rw [if_pos hb]
    have key : ∀ m : Int, 0 ≤ m → m ≤ 100 → wrap64 (l - wrap64 (b + wrap64 (m * s))) = l - b - m * s ∧ wrap64 (wrap64 (l - wrap64 (b + wrap64 (m * s))) + g) = l - b - m * s + g := by
      intro m hm0 hm1
      unfold Bat at hb
      have hp := prod hm0 hm1 (by omega : 0 ≤ s) (by omega : s ≤ 100)
      generalize m * s = p at hp
      rw [w64 (x := p) (by omega) (by omega), w64 (x := b + p) (by omega) (by omega), w64 (x := l - (b + p)) (by omega) (by omega), w64 (x := l - (b + p) + g) (by omega) (by omega)]
      omega
    simp only [hb, decide_true, Option.bind_some, if_true, in2]
    unfold lev
    by_cases hn : 0 ≤ n ∧ n ≤ 100
    · have hk := key n hn.1 hn.2
      rw [if_pos (by simp [hn]), if_pos hn]
      cases sun with
      | true => rw [if_pos rfl, hk.2]; simp [mx_def, mn_def, Int.min_comm]
      | false => rw [if_neg (by simp), hk.1]; simp [mx_def, mn_def, Int.min_comm]
    · have hk := key 0 (by omega) (by omega)
      rw [if_neg (by simpa using hn), if_neg hn]
      cases sun with
      | true => rw [if_pos rfl, hk.2]; simp [mx_def, mn_def, Int.min_comm]
      | false => rw [if_neg (by simp), hk.1]; simp [mx_def, mn_def, Int.min_comm]
  · rw [if_neg hb]
    simp [hb]
/-- The level alone. -/
def tickL (l c r b s g : Int) (sun : Bool) (n : Int) : Int := if Bat l c r b s g then lev l c b s g sun n else l
theorem tick1L (l c r b s g : Int) (sun : Bool) (n : Int) : Ev (fun k => spec_TickBattery.f k l c r b s g sun n) (tickL l c r b s g sun n, c, r, b, s, g) := by
  have h := tick1 l c r b s g sun n
  unfold tickL
  by_cases hb : Bat l c r b s g
  · rw [if_pos hb] at h ⊢
    exact h
  · rw [if_neg hb] at h ⊢
    exact h
theorem tick2L (l c r b s g : Int) (sun : Bool) (n : Int) : impl_TickBattery.f l c r b s g sun n = some (tickL l c r b s g sun n, c, r, b, s, g) := by
  rw [tick2]
  unfold tickL
  by_cases hb : Bat l c r b s g
  · rw [if_pos hb, if_pos hb]
  · rw [if_neg hb, if_neg hb]
end Go.Proofs.Ytaciciobhfoglaa.fnExactIsSafeCourse
