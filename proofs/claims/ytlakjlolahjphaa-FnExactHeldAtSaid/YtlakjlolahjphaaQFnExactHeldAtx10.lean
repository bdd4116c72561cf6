/- What the Go functions of the law FnExactHeldAt come to, as Lean functions, and that they do: by a program of the session, out of the kit's printer. Conditions: none. (squeezed). -/
import Derived.Test.YtlakjlolahjphaaSq
import Derived.Test.YtlakjlolahjphaaQFnExactHeldAtx0
import Derived.Test.YtlakjlolahjphaaQFnExactHeldAtx4
import Derived.Test.YtlakjlolahjphaaQFnExactHeldAtx7
import Derived.Test.YtlakjlolahjphaaQFnExactHeldAtx9
namespace Go.Proofs.Ytlakjlolahjphaa.QFnExactHeldAt
open Go.RowKit Go.Proofs.YtlakjlolahjphaaW.PrintWords Go.Proofs.YtlakjlolahjphaaW.PrintLast Go.Proofs.YtlakjlolahjphaaW.PrintMore Go.Proofs.Ytlakjlolahjphaa.Open Go.Proofs.Ytlakjlolahjphaa.Sq
attribute [local go_sem] max2_int min2_int max_two min_two max_three min_three max_four min_four   -- for this text's walks alone
attribute [local go_sem] isSome_set
set_option linter.unusedVariables false
set_option linter.unusedSimpArgs false

/-! ### spec_HopAt: function 15 -/
def spec_HopAt.f (k : Nat) (a0_0 : Int) (a0_1 : Int) (a0_2 : Int) (l0_3 : List (S106)) (a1 : Int) (a2 : Int) (a3 : Int) : Option (Int) := (spec_l1In.f a0_2 0 5).bind fun t321 => (if t321 = true then ((spec_l1In.f a3 0 1000).bind fun t322 => (if t322 = true then ((spec_IsSafeMix.f k a0_0 a0_1 a0_2 l0_3 a2 (wrap64 (a3 - (wrap64 (2 * a0_2)))) (wrap64 (a3 + (wrap64 (2 * a0_2))))).bind fun t323 => (if t323 = true then ((spec_l19Next.f k a0_0 a0_1 a0_2 l0_3 a1 a2 a3).bind fun t324 => (some t324)) else (some (-1)))) else (some (-1)))) else (some (-1)))
theorem spec_HopAt.mono : ∀ a0 a1 a2 a3 a4 a5 a6 k, LeO (spec_HopAt.f k a0 a1 a2 a3 a4 a5 a6) (spec_HopAt.f (k + 1) a0 a1 a2 a3 a4 a5 a6) := by
  intro a0 a1 a2 a3 a4 a5 a6 k
  unfold spec_HopAt.f
  have m0 := @spec_IsSafeMix.mono
  have m1 := @spec_l19Next.mono
  exact mo
set_option maxHeartbeats 8000000 in
set_option maxRecDepth 100000 in
theorem spec_HopAt.calls (k : Nat) (a0_0 : Int) (a0_1 : Int) (a0_2 : Int) (A0_3 : Option Addr) (c0_3 : Nat) (l0_3 : List (S106)) (a1 : Int) (a2 : Int) (a3 : Int) (r : Int) (w : World) (hr0_3 : Kd.C k106 w A0_3 l0_3.length l0_3) (hc0_3 : l0_3.length ≤ c0_3) (h : spec_HopAt.f k a0_0 a0_1 a0_2 l0_3 a1 a2 a3 = some r) :
    Calls Try.prog 15 #[.agg #[.int .i64 a0_0, .int .i64 a0_1, .int .i64 a0_2, .slice A0_3 l0_3.length c0_3], .int .i64 a1, .int .i64 a2, .int .i64 a3] w fun e w' => e = .returned (.int .i64 r) ∧ Below w.heap.size w w' := by
 have hu29 := Try.underlying29
 have HR0_3 := Aside0.mk hr0_3
 have HC0_3 := Aside0.mk hc0_3
 clear hr0_3 hc0_3
 have HB := Aside0.mk (Below.refl w.heap.size w)
 have H : ((spec_l1In.f a0_2 0 5).bind fun t321 => (if t321 = true then ((spec_l1In.f a3 0 1000).bind fun t322 => (if t322 = true then ((spec_IsSafeMix.f k a0_0 a0_1 a0_2 l0_3 a2 (wrap64 (a3 - (wrap64 (2 * a0_2)))) (wrap64 (a3 + (wrap64 (2 * a0_2))))).bind fun t323 => (if t323 = true then ((spec_l19Next.f k a0_0 a0_1 a0_2 l0_3 a1 a2 a3).bind fun t324 => (some t324)) else (some (-1)))) else (some (-1)))) else (some (-1)))) = some r := h
 clear h
 obtain ⟨t321, A5, H⟩ := bnd H
 obtain rfl | rfl := tt t321
 ·replace H := ip H
  obtain ⟨t322, A7, H⟩ := bnd H
  obtain rfl | rfl := tt t322
  ·replace H := ip H
   obtain ⟨t323, A9, H⟩ := bnd H
   obtain rfl | rfl := tt t323
   ·replace H := ip H
    obtain ⟨t324, A11, H⟩ := bnd H
    obtain rfl := Option.some.inj H
    go_enter Try.func15, Try.ntmps15
    go_wp2_with (first | ((with_reducible refine gate_dst (N := 4) rfl ?_); refine bx 4 #[.int .i64 a0_0, .int .i64 a0_1, .int .i64 a0_2, .slice A0_3 l0_3.length c0_3] 29 ?_; intro gb320 hg w12 hbox hb; have BK320 := Aside0.mk hbox; have GW320 := bz w hg; have GE320 := bz w hg; replace HB := bs hb; clear hb hbox hg; obtain ⟨hcz13_0, hcz13_1, hcz13_2, hcz13_3, hfz13_0, hfz13_1, hfz13_2, hfz13_3⟩ := cc4 BK320) | ((with_reducible refine gate_callee (f := 63) rfl ?_); refine gL (some 11) Try.func63 #[.int .i64 a0_2, .int .i64 0, .int .i64 5] ?_; (with_reducible refine (spec_l1In.calls a0_2 0 5 true _ A5.out).mono ?_); rintro e w' ⟨rfl, ⟨nd, rfl⟩⟩; refine ⟨_, rfl, ?_⟩) | (go_at_call 63; (with_reducible refine (spec_l1In.calls a3 0 1000 true _ A7.out).mono ?_); rintro e w' ⟨rfl, ⟨nd, rfl⟩⟩) | (go_at_call 64; (try simp only [i64_w, i32_w]); (with_reducible refine (spec_IsSafeMix.calls k a0_0 a0_1 a0_2 _ _ l0_3 a2 (wrap64 (a3 - (wrap64 (2 * a0_2)))) (wrap64 (a3 + (wrap64 (2 * a0_2)))) true _ ?side1 ?side2 A9.out).mono ?_); (case side1 => exact cbw HR0_3); (case side2 => exact HC0_3.out); rintro e w14 ⟨rfl, hb⟩; replace BK320 := bb BK320 hb; replace HB := bsw hb; (try clear hb); (try clear hb2); (try clear hk); (try clear hi); obtain ⟨hcz15_0, hcz15_1, hcz15_2, hcz15_3, hfz15_0, hfz15_1, hfz15_2, hfz15_3⟩ := cc4 BK320) | ((with_reducible refine gate_callee (f := 65) rfl ?_); refine gL (some 38) Try.func65 #[.agg #[.int .i64 a0_0, .int .i64 a0_1, .int .i64 a0_2, .slice A0_3 l0_3.length c0_3], .int .i64 a1, .int .i64 a2, .int .i64 a3] ?_; (with_reducible refine (spec_l19Next.calls k a0_0 a0_1 a0_2 _ _ l0_3 a1 a2 a3 t324 _ ?side1 ?side2 A11.out).mono ?_); (case side1 => exact cb HR0_3); (case side2 => exact HC0_3.out); rintro e w16 ⟨rfl, hb⟩; refine ⟨_, rfl, ?_⟩; replace BK320 := bb BK320 hb; replace HB := bsw hb; (try clear hb); (try clear hb2); (try clear hk); (try clear hi)))
    go_ret
    exact ⟨se, sbw⟩
   ·replace H := im H
    obtain rfl := Option.some.inj H
    go_enter Try.func15, Try.ntmps15
    go_wp2_with (first | ((with_reducible refine gate_dst (N := 4) rfl ?_); refine bx 4 #[.int .i64 a0_0, .int .i64 a0_1, .int .i64 a0_2, .slice A0_3 l0_3.length c0_3] 29 ?_; intro gb320 hg w17 hbox hb; have BK320 := Aside0.mk hbox; have GW320 := bz w hg; have GE320 := bz w hg; replace HB := bs hb; clear hb hbox hg; obtain ⟨hcz18_0, hcz18_1, hcz18_2, hcz18_3, hfz18_0, hfz18_1, hfz18_2, hfz18_3⟩ := cc4 BK320) | ((with_reducible refine gate_callee (f := 63) rfl ?_); refine gL (some 11) Try.func63 #[.int .i64 a0_2, .int .i64 0, .int .i64 5] ?_; (with_reducible refine (spec_l1In.calls a0_2 0 5 true _ A5.out).mono ?_); rintro e w' ⟨rfl, ⟨nd, rfl⟩⟩; refine ⟨_, rfl, ?_⟩) | (go_at_call 63; (with_reducible refine (spec_l1In.calls a3 0 1000 true _ A7.out).mono ?_); rintro e w' ⟨rfl, ⟨nd, rfl⟩⟩) | (go_at_call 64; (try simp only [i64_w, i32_w]); (with_reducible refine (spec_IsSafeMix.calls k a0_0 a0_1 a0_2 _ _ l0_3 a2 (wrap64 (a3 - (wrap64 (2 * a0_2)))) (wrap64 (a3 + (wrap64 (2 * a0_2)))) false _ ?side1 ?side2 A9.out).mono ?_); (case side1 => exact cbw HR0_3); (case side2 => exact HC0_3.out); rintro e w19 ⟨rfl, hb⟩; replace BK320 := bb BK320 hb; replace HB := bsw hb; (try clear hb); (try clear hb2); (try clear hk); (try clear hi)))
    go_ret
    exact ⟨se, sbw⟩
  ·replace H := im H
   obtain rfl := Option.some.inj H
   go_enter Try.func15, Try.ntmps15
   go_wp2_with (first | ((with_reducible refine gate_dst (N := 4) rfl ?_); refine bx 4 #[.int .i64 a0_0, .int .i64 a0_1, .int .i64 a0_2, .slice A0_3 l0_3.length c0_3] 29 ?_; intro gb320 hg w20 hbox hb; have BK320 := Aside0.mk hbox; have GW320 := bz w hg; have GE320 := bz w hg; replace HB := bs hb; clear hb hbox hg; obtain ⟨hcz21_0, hcz21_1, hcz21_2, hcz21_3, hfz21_0, hfz21_1, hfz21_2, hfz21_3⟩ := cc4 BK320) | ((with_reducible refine gate_callee (f := 63) rfl ?_); refine gL (some 11) Try.func63 #[.int .i64 a0_2, .int .i64 0, .int .i64 5] ?_; (with_reducible refine (spec_l1In.calls a0_2 0 5 true _ A5.out).mono ?_); rintro e w' ⟨rfl, ⟨nd, rfl⟩⟩; refine ⟨_, rfl, ?_⟩) | (go_at_call 63; (with_reducible refine (spec_l1In.calls a3 0 1000 false _ A7.out).mono ?_); rintro e w' ⟨rfl, ⟨nd, rfl⟩⟩))
   go_ret
   exact ⟨se, sbw⟩
 ·replace H := im H
  obtain rfl := Option.some.inj H
  go_enter Try.func15, Try.ntmps15
  go_wp2_with (first | ((with_reducible refine gate_dst (N := 4) rfl ?_); refine bx 4 #[.int .i64 a0_0, .int .i64 a0_1, .int .i64 a0_2, .slice A0_3 l0_3.length c0_3] 29 ?_; intro gb320 hg w22 hbox hb; have BK320 := Aside0.mk hbox; have GW320 := bz w hg; have GE320 := bz w hg; replace HB := bs hb; clear hb hbox hg; obtain ⟨hcz23_0, hcz23_1, hcz23_2, hcz23_3, hfz23_0, hfz23_1, hfz23_2, hfz23_3⟩ := cc4 BK320) | ((with_reducible refine gate_callee (f := 63) rfl ?_); refine gL (some 11) Try.func63 #[.int .i64 a0_2, .int .i64 0, .int .i64 5] ?_; (with_reducible refine (spec_l1In.calls a0_2 0 5 false _ A5.out).mono ?_); rintro e w' ⟨rfl, ⟨nd, rfl⟩⟩; refine ⟨_, rfl, ?_⟩))
  go_ret
  exact ⟨se, sbw⟩

/-! ### spec_IsHolding: function 25 -/
def spec_IsHolding.f (k : Nat) (a0_0 : Int) (a0_1 : Int) (a0_2 : Int) (l0_3 : List (S106)) (a1 : Int) (a2 : Int) (a3 : Int) : Option (Bool) := (spec_HopAt.f k a0_0 a0_1 a0_2 l0_3 a1 a2 a3).bind fun t326 => (if t326 = (-1) then ((spec_l19Next.f k a0_0 a0_1 a0_2 l0_3 a1 a2 a3).bind fun t327 => (some (decide (t327 ≥ 0)))) else (some false))
theorem spec_IsHolding.mono : ∀ a0 a1 a2 a3 a4 a5 a6 k, LeO (spec_IsHolding.f k a0 a1 a2 a3 a4 a5 a6) (spec_IsHolding.f (k + 1) a0 a1 a2 a3 a4 a5 a6) := by
  intro a0 a1 a2 a3 a4 a5 a6 k
  unfold spec_IsHolding.f
  have m0 := @spec_HopAt.mono
  have m1 := @spec_l19Next.mono
  exact mo
set_option maxHeartbeats 8000000 in
set_option maxRecDepth 100000 in
theorem spec_IsHolding.calls (k : Nat) (a0_0 : Int) (a0_1 : Int) (a0_2 : Int) (A0_3 : Option Addr) (c0_3 : Nat) (l0_3 : List (S106)) (a1 : Int) (a2 : Int) (a3 : Int) (r : Bool) (w : World) (hr0_3 : Kd.C k106 w A0_3 l0_3.length l0_3) (hc0_3 : l0_3.length ≤ c0_3) (h : spec_IsHolding.f k a0_0 a0_1 a0_2 l0_3 a1 a2 a3 = some r) :
    Calls Try.prog 25 #[.agg #[.int .i64 a0_0, .int .i64 a0_1, .int .i64 a0_2, .slice A0_3 l0_3.length c0_3], .int .i64 a1, .int .i64 a2, .int .i64 a3] w fun e w' => e = .returned (.bool r) ∧ Below w.heap.size w w' := by
 have hu29 := Try.underlying29
 have HR0_3 := Aside0.mk hr0_3
 have HC0_3 := Aside0.mk hc0_3
 clear hr0_3 hc0_3
 have HB := Aside0.mk (Below.refl w.heap.size w)
 have H : ((spec_HopAt.f k a0_0 a0_1 a0_2 l0_3 a1 a2 a3).bind fun t326 => (if t326 = (-1) then ((spec_l19Next.f k a0_0 a0_1 a0_2 l0_3 a1 a2 a3).bind fun t327 => (some (decide (t327 ≥ 0)))) else (some false))) = some r := h
 clear h
 obtain ⟨t326, A5, H⟩ := bnd H
 obtain ⟨c6, H⟩ | ⟨c6, H⟩ := ie_ H
 ·have c6b0 : (t326 == (-1)) = true := beq_iff_eq.mpr c6
  have c6b1 : (t326 != (-1)) = false := bne_eq_false_iff_eq.mpr c6
  clear c6
  obtain ⟨t327, A7, H⟩ := bnd H
  obtain rfl := Option.some.inj H
  go_enter Try.func25, Try.ntmps25
  go_wp2_with (first | ((with_reducible refine gate_dst (N := 4) rfl ?_); refine bx 4 #[.int .i64 a0_0, .int .i64 a0_1, .int .i64 a0_2, .slice A0_3 l0_3.length c0_3] 29 ?_; intro gb325 hg w8 hbox hb; have BK325 := Aside0.mk hbox; have GW325 := bz w hg; have GE325 := bz w hg; replace HB := bs hb; clear hb hbox hg; obtain ⟨hcz9_0, hcz9_1, hcz9_2, hcz9_3, hfz9_0, hfz9_1, hfz9_2, hfz9_3⟩ := cc4 BK325) | ((with_reducible refine gate_callee (f := 15) rfl ?_); refine gL (some 13) Try.func15 #[.agg #[.int .i64 a0_0, .int .i64 a0_1, .int .i64 a0_2, .slice A0_3 l0_3.length c0_3], .int .i64 a1, .int .i64 a2, .int .i64 a3] ?_; (with_reducible refine (spec_HopAt.calls k a0_0 a0_1 a0_2 _ _ l0_3 a1 a2 a3 t326 _ ?side1 ?side2 A5.out).mono ?_); (case side1 => exact cb HR0_3); (case side2 => exact HC0_3.out); rintro e w10 ⟨rfl, hb⟩; refine ⟨_, rfl, ?_⟩; replace BK325 := bb BK325 hb; replace HB := bsw hb; (try clear hb); (try clear hb2); (try clear hk); (try clear hi); obtain ⟨hcz11_0, hcz11_1, hcz11_2, hcz11_3, hfz11_0, hfz11_1, hfz11_2, hfz11_3⟩ := cc4 BK325) | (go_at_call 65; (with_reducible refine (spec_l19Next.calls k a0_0 a0_1 a0_2 _ _ l0_3 a1 a2 a3 t327 _ ?side1 ?side2 A7.out).mono ?_); (case side1 => exact cb HR0_3); (case side2 => exact HC0_3.out); rintro e w12 ⟨rfl, hb⟩; replace BK325 := bb BK325 hb; replace HB := bsw hb; (try clear hb); (try clear hb2); (try clear hk); (try clear hi)))
  go_ret
  exact ⟨se, sbw⟩
 ·have c6b0 : (t326 == (-1)) = false := beq_eq_false_iff_ne.mpr c6
  have c6b1 : (t326 != (-1)) = true := bne_iff_ne.mpr c6
  obtain rfl := Option.some.inj H
  go_enter Try.func25, Try.ntmps25
  go_wp2_with (first | ((with_reducible refine gate_dst (N := 4) rfl ?_); refine bx 4 #[.int .i64 a0_0, .int .i64 a0_1, .int .i64 a0_2, .slice A0_3 l0_3.length c0_3] 29 ?_; intro gb325 hg w13 hbox hb; have BK325 := Aside0.mk hbox; have GW325 := bz w hg; have GE325 := bz w hg; replace HB := bs hb; clear hb hbox hg; obtain ⟨hcz14_0, hcz14_1, hcz14_2, hcz14_3, hfz14_0, hfz14_1, hfz14_2, hfz14_3⟩ := cc4 BK325) | ((with_reducible refine gate_callee (f := 15) rfl ?_); refine gL (some 13) Try.func15 #[.agg #[.int .i64 a0_0, .int .i64 a0_1, .int .i64 a0_2, .slice A0_3 l0_3.length c0_3], .int .i64 a1, .int .i64 a2, .int .i64 a3] ?_; (with_reducible refine (spec_HopAt.calls k a0_0 a0_1 a0_2 _ _ l0_3 a1 a2 a3 t326 _ ?side1 ?side2 A5.out).mono ?_); (case side1 => exact cb HR0_3); (case side2 => exact HC0_3.out); rintro e w15 ⟨rfl, hb⟩; refine ⟨_, rfl, ?_⟩; replace BK325 := bb BK325 hb; replace HB := bsw hb; (try clear hb); (try clear hb2); (try clear hk); (try clear hi)))
  go_ret
  exact ⟨se, sbw⟩

/-! ### spec_AreOffsets: function 77 -/
def spec_AreOffsets.l0 : Nat → List Int → Int → Int → Int → Int → List (S106) → Option (Bool)
  | 0, _, _, _, _, _, _ => none
  | k + 1, x1, x5, x329000, x329001, x329002, x329003 => if x5 < (x1.length : Int) then ((spec_l1In.f x329002 0 5).bind fun t329 => (if t329 = true then (if 0 ≤ x5 then ((spec_l1In.f (rd x1 x5) (wrap64 (-x329002)) x329002).bind fun t331 => (if t331 = true then (spec_AreOffsets.l0 k x1 (wrap64 (x5 + 1)) x329000 x329001 x329002 x329003) else (some false))) else (none)) else (some false))) else (some ((x1.length : Int) == x329000))
def spec_AreOffsets.f (k : Nat) (a0_0 : Int) (a0_1 : Int) (a0_2 : Int) (l0_3 : List (S106)) (l1 : List Int) : Option (Bool) := spec_AreOffsets.l0 k l1 0 a0_0 a0_1 a0_2 l0_3
theorem spec_AreOffsets.mono_l : ∀ k, (∀ y0 y1 y2 y3 y4 y5, LeO (spec_AreOffsets.l0 k y0 y1 y2 y3 y4 y5) (spec_AreOffsets.l0 (k + 1) y0 y1 y2 y3 y4 y5))
  | 0 => fun _ _ _ _ _ _ r h => by simp [spec_AreOffsets.l0] at h
  | k + 1 => by
    have ih0 := spec_AreOffsets.mono_l k
    · intro y0 y1 y2 y3 y4 y5
      unfold spec_AreOffsets.l0
      exact mo
theorem spec_AreOffsets.mono : ∀ a0 a1 a2 a3 a4 k, LeO (spec_AreOffsets.f k a0 a1 a2 a3 a4) (spec_AreOffsets.f (k + 1) a0 a1 a2 a3 a4) := by
  intro a0 a1 a2 a3 a4 k
  have ih0 := spec_AreOffsets.mono_l k
  unfold spec_AreOffsets.f
  exact mo
set_option maxHeartbeats 8000000 in
set_option maxRecDepth 100000 in
theorem spec_AreOffsets.calls (k : Nat) (a0_0 : Int) (a0_1 : Int) (a0_2 : Int) (A0_3 : Option Addr) (c0_3 : Nat) (l0_3 : List (S106)) (A1 : Option Addr) (c1 : Nat) (l1 : List Int) (r : Bool) (w : World) (hr0_3 : Kd.C k106 w A0_3 l0_3.length l0_3) (hc0_3 : l0_3.length ≤ c0_3) (hr1 : Kd.C (Kd.int .i64) w A1 l1.length l1) (hc1 : l1.length ≤ c1) (h : spec_AreOffsets.f k a0_0 a0_1 a0_2 l0_3 l1 = some r) :
    Calls Try.prog 77 #[.agg #[.int .i64 a0_0, .int .i64 a0_1, .int .i64 a0_2, .slice A0_3 l0_3.length c0_3], .slice A1 l1.length c1] w fun e w' => e = .returned (.bool r) ∧ Below w.heap.size w w' := by
 have hu29 := Try.underlying29
 have HR0_3 := Aside0.mk hr0_3
 have HC0_3 := Aside0.mk hc0_3
 clear hr0_3 hc0_3
 have HR1 := Aside0.mk hr1
 have HC1 := Aside0.mk hc1
 clear hr1 hc1
 have HB := Aside0.mk (Below.refl w.heap.size w)
 have H : (spec_AreOffsets.l0 k l1 0 a0_0 a0_1 a0_2 l0_3) = some r := h
 clear h
 have H' := Aside0.mk H
 clear H
 go_enter Try.func77, Try.ntmps77
 go_wp2_with (first | ((with_reducible refine gate_dst (N := 2) rfl ?_); refine bx 2 #[.int .i64 a0_0, .int .i64 a0_1, .int .i64 a0_2, .slice A0_3 l0_3.length c0_3] 29 ?_; intro gb328 hg w3 hbox hb; have BK328 := Aside0.mk hbox; have GW328 := bz w hg; have GE328 := bz w hg; replace HB := bs hb; clear hb hbox hg))
 repeat (go_quiet (first | ((with_reducible refine gate_dst (N := 2) rfl ?_); refine box_event ?hg (N := 2) ?hd (cs := #[.int .i64 a0_0, .int .i64 a0_1, .int .i64 a0_2, .slice A0_3 l0_3.length c0_3]) (t := 29) ?hr ?_; (case hd => rfl); (case hg => rfl); (case hr => first | (go_simp; done) | (go_simp; rfl)); intro gb328 hg w3 hbox hb; have n0_ := Aside0.mk (below_step (sb) hb); have n1_ := Aside0.mk (hbox); have n2_ := Aside0.mk ((by rw [hg]; exact (below_size (sb)) : w.heap.size ≤ gb328)); have n3_ := Aside0.mk ((by rw [hg]; exact (below_size (sb)) : w.heap.size ≤ gb328)); clear HB; have HB := n0_; have BK328 := n1_; have GW328 := n2_; have GE328 := n3_; clear n0_ n1_ n2_ n3_; clear hb hbox hg)); try go_wp2_with (first | ((with_reducible refine gate_dst (N := 2) rfl ?_); refine box_event ?hg (N := 2) ?hd (cs := #[.int .i64 a0_0, .int .i64 a0_1, .int .i64 a0_2, .slice A0_3 l0_3.length c0_3]) (t := 29) ?hr ?_; (case hd => rfl); (case hg => rfl); (case hr => first | (go_simp; done) | (go_simp; rfl)); intro gb328 hg w3 hbox hb; have n0_ := Aside0.mk (below_step (sb) hb); have n1_ := Aside0.mk (hbox); have n2_ := Aside0.mk ((by rw [hg]; exact (below_size (sb)) : w.heap.size ≤ gb328)); have n3_ := Aside0.mk ((by rw [hg]; exact (below_size (sb)) : w.heap.size ≤ gb328)); clear HB; have HB := n0_; have BK328 := n1_; have GW328 := n2_; have GE328 := n3_; clear n0_ n1_ n2_ n3_; clear hb hbox hg)))
 go_loopg [5] k (fun kq v5 w' => ∃ (x5_1 : Int), v5 = .int .i64 x5_1 ∧ Aside0 (spec_AreOffsets.l0 kq l1 x5_1 a0_0 a0_1 a0_2 l0_3 = some r) ∧ Aside0 (kq ≤ k) ∧ Aside0 (w'.heap[gb328]? = some (.cells #[.int .i64 a0_0, .int .i64 a0_1, .int .i64 a0_2, (.slice A0_3 l0_3.length c0_3)] 29 (0, 0))) ∧ Aside0 (Below w.heap.size w w'))
 case atStart => exact ⟨(0), sc, H', kk0, ⟨sk BK328⟩, ⟨sbw⟩⟩
 case round =>
  clear H'
  obtain ⟨x5_1, rfl, HA, HK1, BK328, HB⟩ := hrel
  cases gk with
  | zero => exact absurd HA.out (by simp [spec_AreOffsets.l0])
  | succ k1 =>
   have H := HA.out
   clear HA
   simp only [spec_AreOffsets.l0] at H
   obtain ⟨c4, H⟩ | ⟨c4, H⟩ := ie_ H
   ·have c4b0 := decide_eq_true c4
    clear c4
    obtain ⟨t329, A5, H⟩ := bnd H
    obtain rfl | rfl := tt t329
    ·replace H := ip H
     obtain ⟨c7b0, H⟩ := id_ H
     obtain ⟨t331, A8, H⟩ := bnd H
     obtain rfl | rfl := tt t331
     ·replace H := ip H
      have H' := Aside0.mk H
      clear H
      obtain ⟨hcz10_0, hcz10_1, hcz10_2, hcz10_3, hfz10_0, hfz10_1, hfz10_2, hfz10_3⟩ := cc4 BK328
      go_wp2_with (first | (go_at_call 63; (with_reducible refine (spec_l1In.calls a0_2 0 5 true _ A5.out).mono ?_); rintro e w' ⟨rfl, ⟨nd, rfl⟩⟩; (try first | exact ⟨rfl, _, World.drewN_drewN _ _ _⟩ | exact ⟨rfl, _, Eq.trans (World.drewN_drewN _ _ _) (congrArg (World.drewN _) (Nat.add_assoc _ _ _))⟩); obtain ⟨p330, q330, ad330, e330, _, hx330_0⟩ := at_i HR1 HB x5_1; cases e330) | (go_at_call 63; (try simp only [i64_w, i32_w]); (with_reducible refine (spec_l1In.calls (rd l1 x5_1) (wrap64 (-a0_2)) a0_2 true _ A8.out).mono ?_); rintro e w' ⟨rfl, ⟨nd, rfl⟩⟩; (try first | exact ⟨rfl, _, World.drewN_drewN _ _ _⟩ | exact ⟨rfl, _, Eq.trans (World.drewN_drewN _ _ _) (congrArg (World.drewN _) (Nat.add_assoc _ _ _))⟩)))
      repeat (go_quiet (first | (go_at_call 63; (with_reducible refine (spec_l1In.calls a0_2 0 5 true _ A5.out).mono ?_); rintro e w' ⟨rfl, ⟨nd, rfl⟩⟩; (try first | exact ⟨rfl, _, World.drewN_drewN _ _ _⟩ | exact ⟨rfl, _, Eq.trans (World.drewN_drewN _ _ _) (congrArg (World.drewN _) (Nat.add_assoc _ _ _))⟩); have p330 : 0 ≤ (x5_1 : Int) := sa; have q330 : x5_1 < (l1.length : Int) := sa; obtain ⟨ad330, e330, hx330_0⟩ := Kd.at_int HR1.out x5_1 p330 q330; cases e330; replace hx330_0 := hb_ HB hx330_0; replace p330 := eq_true p330; replace q330 := eq_true q330) | (go_at_call 63; (try simp only [i64_w, i32_w]); (with_reducible refine (spec_l1In.calls (rd l1 x5_1) (wrap64 (-a0_2)) a0_2 true _ A8.out).mono ?_); rintro e w' ⟨rfl, ⟨nd, rfl⟩⟩; (try first | exact ⟨rfl, _, World.drewN_drewN _ _ _⟩ | exact ⟨rfl, _, Eq.trans (World.drewN_drewN _ _ _) (congrArg (World.drewN _) (Nat.add_assoc _ _ _))⟩))); try go_wp2_with (first | (go_at_call 63; (with_reducible refine (spec_l1In.calls a0_2 0 5 true _ A5.out).mono ?_); rintro e w' ⟨rfl, ⟨nd, rfl⟩⟩; (try first | exact ⟨rfl, _, World.drewN_drewN _ _ _⟩ | exact ⟨rfl, _, Eq.trans (World.drewN_drewN _ _ _) (congrArg (World.drewN _) (Nat.add_assoc _ _ _))⟩); have p330 : 0 ≤ (x5_1 : Int) := sa; have q330 : x5_1 < (l1.length : Int) := sa; obtain ⟨ad330, e330, hx330_0⟩ := Kd.at_int HR1.out x5_1 p330 q330; cases e330; replace hx330_0 := hb_ HB hx330_0; replace p330 := eq_true p330; replace q330 := eq_true q330) | (go_at_call 63; (try simp only [i64_w, i32_w]); (with_reducible refine (spec_l1In.calls (rd l1 x5_1) (wrap64 (-a0_2)) a0_2 true _ A8.out).mono ?_); rintro e w' ⟨rfl, ⟨nd, rfl⟩⟩; (try first | exact ⟨rfl, _, World.drewN_drewN _ _ _⟩ | exact ⟨rfl, _, Eq.trans (World.drewN_drewN _ _ _) (congrArg (World.drewN _) (Nat.add_assoc _ _ _))⟩))))
      go_roundg k1
      case measure => have := HK1.out; omega
      case rel => exact ⟨(wrap64 (x5_1 + 1)), sc, H', kk1, ⟨sk BK328⟩, ⟨sbw⟩⟩
     ·replace H := im H
      obtain rfl := Option.some.inj H
      obtain ⟨hcz11_0, hcz11_1, hcz11_2, hcz11_3, hfz11_0, hfz11_1, hfz11_2, hfz11_3⟩ := cc4 BK328
      go_wp2_with (first | (go_at_call 63; (with_reducible refine (spec_l1In.calls a0_2 0 5 true _ A5.out).mono ?_); rintro e w' ⟨rfl, ⟨nd, rfl⟩⟩; (try first | exact ⟨rfl, _, World.drewN_drewN _ _ _⟩ | exact ⟨rfl, _, Eq.trans (World.drewN_drewN _ _ _) (congrArg (World.drewN _) (Nat.add_assoc _ _ _))⟩); obtain ⟨p330, q330, ad330, e330, _, hx330_0⟩ := at_i HR1 HB x5_1; cases e330) | (go_at_call 63; (try simp only [i64_w, i32_w]); (with_reducible refine (spec_l1In.calls (rd l1 x5_1) (wrap64 (-a0_2)) a0_2 false _ A8.out).mono ?_); rintro e w' ⟨rfl, ⟨nd, rfl⟩⟩; (try first | exact ⟨rfl, _, World.drewN_drewN _ _ _⟩ | exact ⟨rfl, _, Eq.trans (World.drewN_drewN _ _ _) (congrArg (World.drewN _) (Nat.add_assoc _ _ _))⟩)))
      repeat (go_quiet (first | (go_at_call 63; (with_reducible refine (spec_l1In.calls a0_2 0 5 true _ A5.out).mono ?_); rintro e w' ⟨rfl, ⟨nd, rfl⟩⟩; (try first | exact ⟨rfl, _, World.drewN_drewN _ _ _⟩ | exact ⟨rfl, _, Eq.trans (World.drewN_drewN _ _ _) (congrArg (World.drewN _) (Nat.add_assoc _ _ _))⟩); have p330 : 0 ≤ (x5_1 : Int) := sa; have q330 : x5_1 < (l1.length : Int) := sa; obtain ⟨ad330, e330, hx330_0⟩ := Kd.at_int HR1.out x5_1 p330 q330; cases e330; replace hx330_0 := hb_ HB hx330_0; replace p330 := eq_true p330; replace q330 := eq_true q330) | (go_at_call 63; (try simp only [i64_w, i32_w]); (with_reducible refine (spec_l1In.calls (rd l1 x5_1) (wrap64 (-a0_2)) a0_2 false _ A8.out).mono ?_); rintro e w' ⟨rfl, ⟨nd, rfl⟩⟩; (try first | exact ⟨rfl, _, World.drewN_drewN _ _ _⟩ | exact ⟨rfl, _, Eq.trans (World.drewN_drewN _ _ _) (congrArg (World.drewN _) (Nat.add_assoc _ _ _))⟩))); try go_wp2_with (first | (go_at_call 63; (with_reducible refine (spec_l1In.calls a0_2 0 5 true _ A5.out).mono ?_); rintro e w' ⟨rfl, ⟨nd, rfl⟩⟩; (try first | exact ⟨rfl, _, World.drewN_drewN _ _ _⟩ | exact ⟨rfl, _, Eq.trans (World.drewN_drewN _ _ _) (congrArg (World.drewN _) (Nat.add_assoc _ _ _))⟩); have p330 : 0 ≤ (x5_1 : Int) := sa; have q330 : x5_1 < (l1.length : Int) := sa; obtain ⟨ad330, e330, hx330_0⟩ := Kd.at_int HR1.out x5_1 p330 q330; cases e330; replace hx330_0 := hb_ HB hx330_0; replace p330 := eq_true p330; replace q330 := eq_true q330) | (go_at_call 63; (try simp only [i64_w, i32_w]); (with_reducible refine (spec_l1In.calls (rd l1 x5_1) (wrap64 (-a0_2)) a0_2 false _ A8.out).mono ?_); rintro e w' ⟨rfl, ⟨nd, rfl⟩⟩; (try first | exact ⟨rfl, _, World.drewN_drewN _ _ _⟩ | exact ⟨rfl, _, Eq.trans (World.drewN_drewN _ _ _) (congrArg (World.drewN _) (Nat.add_assoc _ _ _))⟩))))
      go_ret
      exact ⟨se, sbw⟩
    ·replace H := im H
     obtain rfl := Option.some.inj H
     obtain ⟨hcz12_0, hcz12_1, hcz12_2, hcz12_3, hfz12_0, hfz12_1, hfz12_2, hfz12_3⟩ := cc4 BK328
     go_wp2_with (first | (go_at_call 63; (with_reducible refine (spec_l1In.calls a0_2 0 5 false _ A5.out).mono ?_); rintro e w' ⟨rfl, ⟨nd, rfl⟩⟩; (try first | exact ⟨rfl, _, World.drewN_drewN _ _ _⟩ | exact ⟨rfl, _, Eq.trans (World.drewN_drewN _ _ _) (congrArg (World.drewN _) (Nat.add_assoc _ _ _))⟩)))
     repeat (go_quiet (first | (go_at_call 63; (with_reducible refine (spec_l1In.calls a0_2 0 5 false _ A5.out).mono ?_); rintro e w' ⟨rfl, ⟨nd, rfl⟩⟩; (try first | exact ⟨rfl, _, World.drewN_drewN _ _ _⟩ | exact ⟨rfl, _, Eq.trans (World.drewN_drewN _ _ _) (congrArg (World.drewN _) (Nat.add_assoc _ _ _))⟩))); try go_wp2_with (first | (go_at_call 63; (with_reducible refine (spec_l1In.calls a0_2 0 5 false _ A5.out).mono ?_); rintro e w' ⟨rfl, ⟨nd, rfl⟩⟩; (try first | exact ⟨rfl, _, World.drewN_drewN _ _ _⟩ | exact ⟨rfl, _, Eq.trans (World.drewN_drewN _ _ _) (congrArg (World.drewN _) (Nat.add_assoc _ _ _))⟩))))
     go_ret
     exact ⟨se, sbw⟩
   ·have c4b0 := decide_eq_false c4
    clear c4
    obtain rfl := Option.some.inj H
    obtain ⟨hcz13_0, hcz13_1, hcz13_2, hcz13_3, hfz13_0, hfz13_1, hfz13_2, hfz13_3⟩ := cc4 BK328
    go_wp2
    repeat (go_quiet (fail); try go_wp2)
    go_ret
    exact ⟨se, sbw⟩

end Go.Proofs.Ytlakjlolahjphaa.QFnExactHeldAt
