/- The draws of numbers, batteries and spans come to an end. Conditions: none. -/
import Derived.Test.YticepodaobpdlaaVFnQueuesQFnQueuesx
import Derived.Test.YticepodaobpdlaaVFnQueuesEv
import Derived.Laws.BitsLemmas
namespace Go.Proofs.Yticepodaobpdlaa.fnQueues
open Go.RowKit Go.Proofs.YticepodaobpdlaaW.PrintWords Go.Proofs.YticepodaobpdlaaW.PrintMore Go.Proofs.Yticepodaobpdlaa.QFnQueues Go.Proofs.Yticepodaobpdlaa.Open Go.Proofs.Yticepodaobpdlaa.Kit
theorem and255 (n : Int) : Go.bits .and .i64 n 255 = n % 256 := by
  have h255 : (BitVec.ofInt 64 255).toNat = 2 ^ 8 - 1 := by decide
  have key : (BitVec.ofInt 64 n &&& BitVec.ofInt 64 255).toNat = (n % ((2 ^ 64 : Nat) : Int)).toNat % 2 ^ 8 := by
    rw [BitVec.toNat_and, BitVec.toNat_ofInt, h255, Nat.and_two_pow_sub_one_eq_mod]
  show IntKind.i64.wrap ((BitVec.ofInt 64 n &&& BitVec.ofInt 64 255).toNat : Nat) = n % 256
  rw [key, IntKind.wrap_i64]
  omega
/-- A cursor that lies on the code. -/
def Cur (b : List Int) (i : Int) : Prop := 0 ≤ i ∧ i ≤ (b.length : Int) ∧ b.length ≤ 1048576
theorem byte_ends {b : List Int} {i : Int} (h : Int) (hc : Cur b i) : ∃ x i' h', spec_l1Byte.f b i h = some (x, i', h') ∧ (0 ≤ x ∧ x < 256) ∧ Cur b i' := by
  unfold spec_l1Byte.f
  unfold Cur at hc ⊢
  by_cases c : i < (b.length : Int)
  · rw [if_pos c, if_pos hc.1]
    refine ⟨_, _, _, rfl, ?_, ?_⟩
    · rw [and255]
      exact ⟨Int.emod_nonneg _ (by omega), Int.emod_lt_of_pos _ (by omega)⟩
    · rw [w64 (x := i + 1) (by omega) (by omega)]
      omega
  · rw [if_neg c]
    refine ⟨_, _, _, rfl, ?_, hc⟩
    rw [and255]
    exact ⟨Int.emod_nonneg _ (by omega), Int.emod_lt_of_pos _ (by omega)⟩
theorem below_ends {b : List Int} {i : Int} (h n : Int) (hc : Cur b i) : ∃ x i' h', spec_l1Below.f b i h n = some (x, i', h') ∧ 0 ≤ x ∧ (0 < n → x < n) ∧ Cur b i' := by
  unfold spec_l1Below.f
  by_cases c : n ≤ 0
  · rw [if_pos c]
    exact ⟨0, i, h, rfl, by omega, by omega, hc⟩
  · rw [if_neg c]
    obtain ⟨x, i1, h1, e1, hx, hc1⟩ := byte_ends h hc
    rw [e1]
    by_cases c2 : n ≤ 256
    · rw [if_pos c2, Option.bind_some, if_neg (by omega)]
      exact ⟨_, _, _, rfl, Int.tmod_nonneg _ hx.1, fun h0 => Int.tmod_lt_of_pos _ h0, hc1⟩
    · rw [if_neg c2, Option.bind_some]
      obtain ⟨y, i2, h2, e2, hy, hc2⟩ := byte_ends h1 hc1
      obtain ⟨z, i3, h3, e3, hz, hc3⟩ := byte_ends h2 hc2
      dsimp only
      rw [e2, Option.bind_some]
      dsimp only
      rw [e3, Option.bind_some, if_neg (by omega)]
      refine ⟨_, _, _, rfl, Int.tmod_nonneg _ ?_, fun h0 => Int.tmod_lt_of_pos _ h0, hc3⟩
      dsimp only
      rw [w64 (x := x * 65536) (by omega) (by omega), w64 (x := y * 256) (by omega) (by omega), w64 (x := x * 65536 + y * 256) (by omega) (by omega), w64 (by omega) (by omega)]
      omega
theorem Dr.below {β : Type} {P : β → Prop} {b : List Int} {i h n : Int} {f : Int × Int × Int → Option β} (hc : Cur b i) (k : ∀ x i' h', 0 ≤ x → (0 < n → x < n) → Cur b i' → ∃ r, f (x, i', h') = some r ∧ P r) : ∃ r, (spec_l1Below.f b i h n).bind f = some r ∧ P r := by
  obtain ⟨x, i', h', e, h0, h1, hc'⟩ := below_ends h n hc
  rw [e, Option.bind_some]
  exact k x i' h' h0 h1 hc'
theorem Dr.oneOf {β : Type} {P : β → Prop} {b : List Int} {i h : Int} {L : List Int} {f : Int × Int × Int → Option β} (hc : Cur b i) (hL : 0 < L.length) (k : ∀ x i' h', x ∈ L → Cur b i' → ∃ r, f (x, i', h') = some r ∧ P r) : ∃ r, (spec_l1Int.f b i h L).bind f = some r ∧ P r := by
  unfold spec_l1Int.f
  obtain ⟨x, i', h', e, h0, h1, hc'⟩ := below_ends h (L.length : Int) hc
  have h1' := h1 (by omega)
  rw [e, Option.bind_some]
  dsimp only
  rw [if_pos h0, if_pos h1', Option.bind_some]
  exact k _ i' h' (getD_mem (by omega) 0) hc'
theorem Dr.once {β : Type} {P : β → Prop} {b : List Int} {i h n : Int} {f : Bool × Int × Int → Option β} (hc : Cur b i) (k : ∀ x i' h', Cur b i' → ∃ r, f (x, i', h') = some r ∧ P r) : ∃ r, (spec_l1Once.f b i h n).bind f = some r ∧ P r := by
  unfold spec_l1Once.f
  obtain ⟨x, i', h', e, h0, h1, hc'⟩ := below_ends h n hc
  rw [e, Option.bind_some, Option.bind_some]
  exact k _ i' h' hc'
theorem l1New_ends (b : List Int) (_hb : b.length ≤ 1048576) : ∃ h, Ev (fun k => spec_l1New.f k b) (b, 0, h) := by
  have key : ∀ (d i : Nat) (h : Int), i + d = b.length → ∃ h', Ev (fun k => spec_l1New.l0 k b h (i : Int)) (b, 0, h') := by
    intro d
    induction d with
    | zero =>
      intro i h hi
      refine ⟨h, ?_⟩
      refine Ev.step (fun k => by rw [spec_l1New.l0]) ?_
      exact Ev.ite_neg (by omega) (Ev.now _)
    | succ d ih =>
      intro i h hi
      by_cases c : (i : Int) < 4000
      · obtain ⟨h', he⟩ := ih (i + 1) (Go.bits .and .i64 (wrap64 ((wrap64 ((wrap64 (h * 137)) + (wrap64 (rd b (i : Int))))) + 11)) 1073741823) (by omega)
        refine ⟨h', ?_⟩
        refine Ev.step (fun k => by rw [spec_l1New.l0]) ?_
        refine Ev.ite_pos (by omega) (Ev.ite_pos c (Ev.ite_pos (by omega) ?_))
        rw [w64n (by omega)]
        exact he
      · refine ⟨h, ?_⟩
        refine Ev.step (fun k => by rw [spec_l1New.l0]) ?_
        exact Ev.ite_pos (by omega) (Ev.ite_neg c (Ev.now _))
  obtain ⟨h', he⟩ := key b.length 0 (wrap64 (193017 + (b.length : Int))) (by omega)
  exact ⟨h', he⟩
theorem cur0 {b : List Int} (hb : b.length ≤ 1048576) : Cur b 0 := ⟨by omega, by omega, hb⟩
end Go.Proofs.Yticepodaobpdlaa.fnQueues
