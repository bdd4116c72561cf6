/- What the Go functions of the law FnForecasts come to, as Lean functions, and that they do: by a program of the session, out of the kit's printer. Conditions: none. (squeezed). -/
import Derived.Test.YtaciciobhfoglaaSq
import Derived.Test.YtaciciobhfoglaaQFnForecastsx0
namespace Go.Proofs.Ytaciciobhfoglaa.QFnForecasts
open Go.RowKit Go.Proofs.YtaciciobhfoglaaW.PrintWords Go.Proofs.YtaciciobhfoglaaW.PrintLast Go.Proofs.YtaciciobhfoglaaW.PrintMore Go.Proofs.Ytaciciobhfoglaa.Open Go.Proofs.Ytaciciobhfoglaa.Sq
attribute [local go_sem] max2_int min2_int max_two min_two max_three min_three max_four min_four   -- for this text's walks alone
attribute [local go_sem] isSome_set
set_option linter.unusedVariables false
set_option linter.unusedSimpArgs false

/-! ### laws_big: function 34 -/
def laws_big.f (l0 : List Int) : Option (Bool) := some (decide ((l0.length : Int) > 1048576))
set_option maxHeartbeats 8000000 in
set_option maxRecDepth 100000 in
theorem laws_big.calls (A0 : Option Addr) (c0 : Nat) (l0 : List Int) (r : Bool) (w : World) (hr0 : Kd.C (Kd.int .u8) w A0 l0.length l0) (hc0 : l0.length ≤ c0) (h : laws_big.f l0 = some r) :
    Calls Try.prog 34 #[.slice A0 l0.length c0] w fun e w' => e = .returned (.bool r) ∧ Drawn0 w w' := by
 have HR0 := Aside0.mk hr0
 have HC0 := Aside0.mk hc0
 clear hr0 hc0
 have H : (some (decide ((l0.length : Int) > 1048576))) = some r := h
 clear h
 obtain rfl := Option.some.inj H
 go_enter Try.func34, Try.ntmps34
 go_wp2
 go_ret
 exact ⟨sc, sd⟩

/-! ### impl_InRange: function 96 -/
def impl_InRange.f (a0 : Int) (a1 : Int) (a2 : Int) : Option (Bool) := if a1 ≤ a0 then (some (decide (a0 ≤ a2))) else (some false)
set_option maxHeartbeats 8000000 in
set_option maxRecDepth 100000 in
theorem impl_InRange.calls (a0 : Int) (a1 : Int) (a2 : Int) (r : Bool) (w : World) (h : impl_InRange.f a0 a1 a2 = some r) :
    Calls Try.prog 96 #[.int .i64 a0, .int .i64 a1, .int .i64 a2] w fun e w' => e = .returned (.bool r) ∧ Drawn0 w w' := by
 have H : (if a1 ≤ a0 then (some (decide (a0 ≤ a2))) else (some false)) = some r := h
 clear h
 obtain ⟨c4, H⟩ | ⟨c4, H⟩ := ie_ H
 ·have c4b0 := decide_eq_true c4
  clear c4
  obtain rfl := Option.some.inj H
  go_enter Try.func96, Try.ntmps96
  go_wp2
  go_ret
  exact ⟨sc, sd⟩
 ·have c4b0 := decide_eq_false c4
  clear c4
  obtain rfl := Option.some.inj H
  go_enter Try.func96, Try.ntmps96
  go_wp2
  go_ret
  exact ⟨sc, sd⟩

/-! ### impl_IsBattery: function 55 -/
def impl_IsBattery.f (a0_0 : Int) (a0_1 : Int) (a0_2 : Int) (a0_3 : Int) (a0_4 : Int) (a0_5 : Int) : Option (Bool) := (impl_InRange.f a0_3 0 100).bind fun t102 => (if t102 = true then ((impl_InRange.f a0_4 0 100).bind fun t103 => (if t103 = true then ((impl_InRange.f a0_5 0 100).bind fun t104 => (if t104 = true then ((impl_InRange.f a0_1 0 10000).bind fun t105 => (if t105 = true then ((impl_InRange.f a0_2 0 a0_1).bind fun t106 => (if t106 = true then ((impl_InRange.f a0_0 a0_2 a0_1).bind fun t107 => (some t107)) else (some false))) else (some false))) else (some false))) else (some false))) else (some false))
set_option maxHeartbeats 8000000 in
set_option maxRecDepth 100000 in
theorem impl_IsBattery.calls (a0_0 : Int) (a0_1 : Int) (a0_2 : Int) (a0_3 : Int) (a0_4 : Int) (a0_5 : Int) (r : Bool) (w : World) (h : impl_IsBattery.f a0_0 a0_1 a0_2 a0_3 a0_4 a0_5 = some r) :
    Calls Try.prog 55 #[.agg #[.int .i64 a0_0, .int .i64 a0_1, .int .i64 a0_2, .int .i64 a0_3, .int .i64 a0_4, .int .i64 a0_5]] w fun e w' => e = .returned (.bool r) ∧ Below w.heap.size w w' := by
 have hu27 := Try.underlying27
 have HB := Aside0.mk (Below.refl w.heap.size w)
 have H : ((impl_InRange.f a0_3 0 100).bind fun t102 => (if t102 = true then ((impl_InRange.f a0_4 0 100).bind fun t103 => (if t103 = true then ((impl_InRange.f a0_5 0 100).bind fun t104 => (if t104 = true then ((impl_InRange.f a0_1 0 10000).bind fun t105 => (if t105 = true then ((impl_InRange.f a0_2 0 a0_1).bind fun t106 => (if t106 = true then ((impl_InRange.f a0_0 a0_2 a0_1).bind fun t107 => (some t107)) else (some false))) else (some false))) else (some false))) else (some false))) else (some false))) = some r := h
 clear h
 obtain ⟨t102, A2, H⟩ := bnd H
 obtain rfl | rfl := tt t102
 ·replace H := ip H
  obtain ⟨t103, A4, H⟩ := bnd H
  obtain rfl | rfl := tt t103
  ·replace H := ip H
   obtain ⟨t104, A6, H⟩ := bnd H
   obtain rfl | rfl := tt t104
   ·replace H := ip H
    obtain ⟨t105, A8, H⟩ := bnd H
    obtain rfl | rfl := tt t105
    ·replace H := ip H
     obtain ⟨t106, A10, H⟩ := bnd H
     obtain rfl | rfl := tt t106
     ·replace H := ip H
      obtain ⟨t107, A12, H⟩ := bnd H
      obtain rfl := Option.some.inj H
      go_enter Try.func55, Try.ntmps55
      go_wp2_with (first | ((with_reducible refine gate_dst (N := 1) rfl ?_); refine bx 1 #[.int .i64 a0_0, .int .i64 a0_1, .int .i64 a0_2, .int .i64 a0_3, .int .i64 a0_4, .int .i64 a0_5] 27 ?_; intro gb101 hg w13 hbox hb; have GW101 := bz w hg; have GE101 := bz w hg; replace HB := bs hb; have BK101 := Aside0.mk hbox; clear hb hbox hg; obtain ⟨hcz14_0, hcz14_1, hcz14_2, hcz14_3, hcz14_4, hcz14_5, hfz14_0, hfz14_1, hfz14_2, hfz14_3, hfz14_4, hfz14_5⟩ := cc6 BK101) | ((with_reducible refine gate_callee (f := 96) rfl ?_); refine gL (some 5) Try.func96 #[.int .i64 a0_3, .int .i64 0, .int .i64 100] ?_; (with_reducible refine (impl_InRange.calls a0_3 0 100 true _ A2.out).mono ?_); rintro e w' ⟨rfl, ⟨nd, rfl⟩⟩; refine ⟨_, rfl, ?_⟩) | (go_at_call 96; (with_reducible refine (impl_InRange.calls a0_4 0 100 true _ A4.out).mono ?_); rintro e w' ⟨rfl, ⟨nd, rfl⟩⟩) | (go_at_call 96; (with_reducible refine (impl_InRange.calls a0_5 0 100 true _ A6.out).mono ?_); rintro e w' ⟨rfl, ⟨nd, rfl⟩⟩) | (go_at_call 96; (with_reducible refine (impl_InRange.calls a0_1 0 10000 true _ A8.out).mono ?_); rintro e w' ⟨rfl, ⟨nd, rfl⟩⟩) | (go_at_call 96; (with_reducible refine (impl_InRange.calls a0_2 0 a0_1 true _ A10.out).mono ?_); rintro e w' ⟨rfl, ⟨nd, rfl⟩⟩) | (go_at_call 96; (with_reducible refine (impl_InRange.calls a0_0 a0_2 a0_1 t107 _ A12.out).mono ?_); rintro e w' ⟨rfl, ⟨nd, rfl⟩⟩))
      go_ret
      exact ⟨se, sbw⟩
     ·replace H := im H
      obtain rfl := Option.some.inj H
      go_enter Try.func55, Try.ntmps55
      go_wp2_with (first | ((with_reducible refine gate_dst (N := 1) rfl ?_); refine bx 1 #[.int .i64 a0_0, .int .i64 a0_1, .int .i64 a0_2, .int .i64 a0_3, .int .i64 a0_4, .int .i64 a0_5] 27 ?_; intro gb101 hg w15 hbox hb; have GW101 := bz w hg; have GE101 := bz w hg; replace HB := bs hb; have BK101 := Aside0.mk hbox; clear hb hbox hg; obtain ⟨hcz16_0, hcz16_1, hcz16_2, hcz16_3, hcz16_4, hcz16_5, hfz16_0, hfz16_1, hfz16_2, hfz16_3, hfz16_4, hfz16_5⟩ := cc6 BK101) | ((with_reducible refine gate_callee (f := 96) rfl ?_); refine gL (some 5) Try.func96 #[.int .i64 a0_3, .int .i64 0, .int .i64 100] ?_; (with_reducible refine (impl_InRange.calls a0_3 0 100 true _ A2.out).mono ?_); rintro e w' ⟨rfl, ⟨nd, rfl⟩⟩; refine ⟨_, rfl, ?_⟩) | (go_at_call 96; (with_reducible refine (impl_InRange.calls a0_4 0 100 true _ A4.out).mono ?_); rintro e w' ⟨rfl, ⟨nd, rfl⟩⟩) | (go_at_call 96; (with_reducible refine (impl_InRange.calls a0_5 0 100 true _ A6.out).mono ?_); rintro e w' ⟨rfl, ⟨nd, rfl⟩⟩) | (go_at_call 96; (with_reducible refine (impl_InRange.calls a0_1 0 10000 true _ A8.out).mono ?_); rintro e w' ⟨rfl, ⟨nd, rfl⟩⟩) | (go_at_call 96; (with_reducible refine (impl_InRange.calls a0_2 0 a0_1 false _ A10.out).mono ?_); rintro e w' ⟨rfl, ⟨nd, rfl⟩⟩))
      go_ret
      exact ⟨se, sbw⟩
    ·replace H := im H
     obtain rfl := Option.some.inj H
     go_enter Try.func55, Try.ntmps55
     go_wp2_with (first | ((with_reducible refine gate_dst (N := 1) rfl ?_); refine bx 1 #[.int .i64 a0_0, .int .i64 a0_1, .int .i64 a0_2, .int .i64 a0_3, .int .i64 a0_4, .int .i64 a0_5] 27 ?_; intro gb101 hg w17 hbox hb; have GW101 := bz w hg; have GE101 := bz w hg; replace HB := bs hb; have BK101 := Aside0.mk hbox; clear hb hbox hg; obtain ⟨hcz18_0, hcz18_1, hcz18_2, hcz18_3, hcz18_4, hcz18_5, hfz18_0, hfz18_1, hfz18_2, hfz18_3, hfz18_4, hfz18_5⟩ := cc6 BK101) | ((with_reducible refine gate_callee (f := 96) rfl ?_); refine gL (some 5) Try.func96 #[.int .i64 a0_3, .int .i64 0, .int .i64 100] ?_; (with_reducible refine (impl_InRange.calls a0_3 0 100 true _ A2.out).mono ?_); rintro e w' ⟨rfl, ⟨nd, rfl⟩⟩; refine ⟨_, rfl, ?_⟩) | (go_at_call 96; (with_reducible refine (impl_InRange.calls a0_4 0 100 true _ A4.out).mono ?_); rintro e w' ⟨rfl, ⟨nd, rfl⟩⟩) | (go_at_call 96; (with_reducible refine (impl_InRange.calls a0_5 0 100 true _ A6.out).mono ?_); rintro e w' ⟨rfl, ⟨nd, rfl⟩⟩) | (go_at_call 96; (with_reducible refine (impl_InRange.calls a0_1 0 10000 false _ A8.out).mono ?_); rintro e w' ⟨rfl, ⟨nd, rfl⟩⟩))
     go_ret
     exact ⟨se, sbw⟩
   ·replace H := im H
    obtain rfl := Option.some.inj H
    go_enter Try.func55, Try.ntmps55
    go_wp2_with (first | ((with_reducible refine gate_dst (N := 1) rfl ?_); refine bx 1 #[.int .i64 a0_0, .int .i64 a0_1, .int .i64 a0_2, .int .i64 a0_3, .int .i64 a0_4, .int .i64 a0_5] 27 ?_; intro gb101 hg w19 hbox hb; have GW101 := bz w hg; have GE101 := bz w hg; replace HB := bs hb; have BK101 := Aside0.mk hbox; clear hb hbox hg; obtain ⟨hcz20_0, hcz20_1, hcz20_2, hcz20_3, hcz20_4, hcz20_5, hfz20_0, hfz20_1, hfz20_2, hfz20_3, hfz20_4, hfz20_5⟩ := cc6 BK101) | ((with_reducible refine gate_callee (f := 96) rfl ?_); refine gL (some 5) Try.func96 #[.int .i64 a0_3, .int .i64 0, .int .i64 100] ?_; (with_reducible refine (impl_InRange.calls a0_3 0 100 true _ A2.out).mono ?_); rintro e w' ⟨rfl, ⟨nd, rfl⟩⟩; refine ⟨_, rfl, ?_⟩) | (go_at_call 96; (with_reducible refine (impl_InRange.calls a0_4 0 100 true _ A4.out).mono ?_); rintro e w' ⟨rfl, ⟨nd, rfl⟩⟩) | (go_at_call 96; (with_reducible refine (impl_InRange.calls a0_5 0 100 false _ A6.out).mono ?_); rintro e w' ⟨rfl, ⟨nd, rfl⟩⟩))
    go_ret
    exact ⟨se, sbw⟩
  ·replace H := im H
   obtain rfl := Option.some.inj H
   go_enter Try.func55, Try.ntmps55
   go_wp2_with (first | ((with_reducible refine gate_dst (N := 1) rfl ?_); refine bx 1 #[.int .i64 a0_0, .int .i64 a0_1, .int .i64 a0_2, .int .i64 a0_3, .int .i64 a0_4, .int .i64 a0_5] 27 ?_; intro gb101 hg w21 hbox hb; have GW101 := bz w hg; have GE101 := bz w hg; replace HB := bs hb; have BK101 := Aside0.mk hbox; clear hb hbox hg; obtain ⟨hcz22_0, hcz22_1, hcz22_2, hcz22_3, hcz22_4, hcz22_5, hfz22_0, hfz22_1, hfz22_2, hfz22_3, hfz22_4, hfz22_5⟩ := cc6 BK101) | ((with_reducible refine gate_callee (f := 96) rfl ?_); refine gL (some 5) Try.func96 #[.int .i64 a0_3, .int .i64 0, .int .i64 100] ?_; (with_reducible refine (impl_InRange.calls a0_3 0 100 true _ A2.out).mono ?_); rintro e w' ⟨rfl, ⟨nd, rfl⟩⟩; refine ⟨_, rfl, ?_⟩) | (go_at_call 96; (with_reducible refine (impl_InRange.calls a0_4 0 100 false _ A4.out).mono ?_); rintro e w' ⟨rfl, ⟨nd, rfl⟩⟩))
   go_ret
   exact ⟨se, sbw⟩
 ·replace H := im H
  obtain rfl := Option.some.inj H
  go_enter Try.func55, Try.ntmps55
  go_wp2_with (first | ((with_reducible refine gate_dst (N := 1) rfl ?_); refine bx 1 #[.int .i64 a0_0, .int .i64 a0_1, .int .i64 a0_2, .int .i64 a0_3, .int .i64 a0_4, .int .i64 a0_5] 27 ?_; intro gb101 hg w23 hbox hb; have GW101 := bz w hg; have GE101 := bz w hg; replace HB := bs hb; have BK101 := Aside0.mk hbox; clear hb hbox hg; obtain ⟨hcz24_0, hcz24_1, hcz24_2, hcz24_3, hcz24_4, hcz24_5, hfz24_0, hfz24_1, hfz24_2, hfz24_3, hfz24_4, hfz24_5⟩ := cc6 BK101) | ((with_reducible refine gate_callee (f := 96) rfl ?_); refine gL (some 5) Try.func96 #[.int .i64 a0_3, .int .i64 0, .int .i64 100] ?_; (with_reducible refine (impl_InRange.calls a0_3 0 100 false _ A2.out).mono ?_); rintro e w' ⟨rfl, ⟨nd, rfl⟩⟩; refine ⟨_, rfl, ?_⟩))
  go_ret
  exact ⟨se, sbw⟩

/-! ### impl_TickBattery: function 53 -/
def impl_TickBattery.f (a0_0 : Int) (a0_1 : Int) (a0_2 : Int) (a0_3 : Int) (a0_4 : Int) (a0_5 : Int) (a1 : Bool) (a2 : Int) : Option (Int × Int × Int × Int × Int × Int) := (impl_IsBattery.f a0_0 a0_1 a0_2 a0_3 a0_4 a0_5).bind fun t110 => (if t110 = true then ((impl_InRange.f a2 0 100).bind fun t111 => (if t111 = true then (if a1 = true then (some (mx 0 (mn (wrap64 ((wrap64 (a0_0 - (wrap64 (a0_3 + (wrap64 (a2 * a0_4)))))) + a0_5)) a0_1), a0_1, a0_2, a0_3, a0_4, a0_5)) else (some (mx 0 (mn (wrap64 (a0_0 - (wrap64 (a0_3 + (wrap64 (a2 * a0_4)))))) a0_1), a0_1, a0_2, a0_3, a0_4, a0_5))) else (if a1 = true then (some (mx 0 (mn (wrap64 ((wrap64 (a0_0 - (wrap64 (a0_3 + (wrap64 (0 * a0_4)))))) + a0_5)) a0_1), a0_1, a0_2, a0_3, a0_4, a0_5)) else (some (mx 0 (mn (wrap64 (a0_0 - (wrap64 (a0_3 + (wrap64 (0 * a0_4)))))) a0_1), a0_1, a0_2, a0_3, a0_4, a0_5))))) else (some (a0_0, a0_1, a0_2, a0_3, a0_4, a0_5)))
set_option maxHeartbeats 8000000 in
set_option maxRecDepth 100000 in
theorem impl_TickBattery.calls (a0_0 : Int) (a0_1 : Int) (a0_2 : Int) (a0_3 : Int) (a0_4 : Int) (a0_5 : Int) (a1 : Bool) (a2 : Int) (r1 : Int) (r2 : Int) (r3 : Int) (r4 : Int) (r5 : Int) (r6 : Int) (w : World) (h : impl_TickBattery.f a0_0 a0_1 a0_2 a0_3 a0_4 a0_5 a1 a2 = some (r1, r2, r3, r4, r5, r6)) :
    Calls Try.prog 53 #[.agg #[.int .i64 a0_0, .int .i64 a0_1, .int .i64 a0_2, .int .i64 a0_3, .int .i64 a0_4, .int .i64 a0_5], .bool a1, .int .i64 a2] w fun e w' => e = .returned (.agg #[.int .i64 r1, .int .i64 r2, .int .i64 r3, .int .i64 r4, .int .i64 r5, .int .i64 r6]) ∧ Below w.heap.size w w' := by
 have hu27 := Try.underlying27
 have HB := Aside0.mk (Below.refl w.heap.size w)
 have H : ((impl_IsBattery.f a0_0 a0_1 a0_2 a0_3 a0_4 a0_5).bind fun t110 => (if t110 = true then ((impl_InRange.f a2 0 100).bind fun t111 => (if t111 = true then (if a1 = true then (some (mx 0 (mn (wrap64 ((wrap64 (a0_0 - (wrap64 (a0_3 + (wrap64 (a2 * a0_4)))))) + a0_5)) a0_1), a0_1, a0_2, a0_3, a0_4, a0_5)) else (some (mx 0 (mn (wrap64 (a0_0 - (wrap64 (a0_3 + (wrap64 (a2 * a0_4)))))) a0_1), a0_1, a0_2, a0_3, a0_4, a0_5))) else (if a1 = true then (some (mx 0 (mn (wrap64 ((wrap64 (a0_0 - (wrap64 (a0_3 + (wrap64 (0 * a0_4)))))) + a0_5)) a0_1), a0_1, a0_2, a0_3, a0_4, a0_5)) else (some (mx 0 (mn (wrap64 (a0_0 - (wrap64 (a0_3 + (wrap64 (0 * a0_4)))))) a0_1), a0_1, a0_2, a0_3, a0_4, a0_5))))) else (some (a0_0, a0_1, a0_2, a0_3, a0_4, a0_5)))) = some (r1, r2, r3, r4, r5, r6) := h
 clear h
 obtain ⟨t110, A4, H⟩ := bnd H
 obtain rfl | rfl := tt t110
 ·replace H := ip H
  obtain ⟨t111, A6, H⟩ := bnd H
  obtain rfl | rfl := tt t111
  ·replace H := ip H
   obtain rfl | rfl := tt a1
   ·replace H := ip H
    obtain ⟨ji9, hji9⟩ : ∃ j_ : Int, (mn (wrap64 ((wrap64 (a0_0 - (wrap64 (a0_3 + (wrap64 (a2 * a0_4)))))) + a0_5)) a0_1) = j_ := ⟨_, rfl⟩
    replace H : (some (mx 0 (ji9), a0_1, a0_2, a0_3, a0_4, a0_5)) = some (r1, r2, r3, r4, r5, r6) := by first | (rw [hji9] at H; exact H) | (simp only [hji9] at H ⊢; exact H)
    (try rw [hji9] at A4)
    (try rw [hji9] at A6)
    have hji9_ : (if a0_1 < (wrap64 ((wrap64 (a0_0 - (wrap64 (a0_3 + (wrap64 (a2 * a0_4)))))) + a0_5)) then a0_1 else (wrap64 ((wrap64 (a0_0 - (wrap64 (a0_3 + (wrap64 (a2 * a0_4)))))) + a0_5))) = ji9 := hji9
    obtain ⟨ji10, hji10⟩ : ∃ j_ : Int, (mx 0 (ji9)) = j_ := ⟨_, rfl⟩
    replace H : (some (ji10, a0_1, a0_2, a0_3, a0_4, a0_5)) = some (r1, r2, r3, r4, r5, r6) := by first | (rw [hji10] at H; exact H) | (simp only [hji10] at H ⊢; exact H)
    (try rw [hji10] at A4)
    (try rw [hji10] at A6)
    have hji10_ : (if 0 < (ji9) then (ji9) else 0) = ji10 := hji10
    simp only [Option.some.injEq, Prod.mk.injEq] at H
    obtain ⟨rfl, rfl, rfl, rfl, rfl, rfl⟩ := H
    go_enter Try.func53, Try.ntmps53
    go_wp2_with (first | ((with_reducible refine gate_dst (N := 3) rfl ?_); refine bx 3 #[.int .i64 a0_0, .int .i64 a0_1, .int .i64 a0_2, .int .i64 a0_3, .int .i64 a0_4, .int .i64 a0_5] 27 ?_; intro gb108 hg w11 hbox hb; have GW108 := bz w hg; have GE108 := bz w hg; replace HB := bs hb; have BK108 := Aside0.mk hbox; clear hb hbox hg) | ((with_reducible refine gate_dst (N := 6) rfl ?_); refine bx 6 #[.int .i64 0, .int .i64 0, .int .i64 0, .int .i64 0, .int .i64 0, .int .i64 0] 27 ?_; intro gb109 hg w12 hbox hb; have GW109 := bzw w hg; have GE109 := bzw w hg; replace HB := bsw hb; have BK109 := Aside0.mk hbox; have NB108_109 := nl BK108 hg; have NB109_108 := ng BK108 hg; replace BK108 := bb BK108 hb; clear hb hbox hg; have hnb13 := NB108_109.out; have hnc13 := NB109_108.out; obtain ⟨hcz14_0, hcz14_1, hcz14_2, hcz14_3, hcz14_4, hcz14_5, hfz14_0, hfz14_1, hfz14_2, hfz14_3, hfz14_4, hfz14_5⟩ := cc6 BK108) | ((with_reducible refine gate_callee (f := 55) rfl ?_); refine gL (some 8) Try.func55 #[.agg #[.int .i64 a0_0, .int .i64 a0_1, .int .i64 a0_2, .int .i64 a0_3, .int .i64 a0_4, .int .i64 a0_5]] ?_; (with_reducible refine (impl_IsBattery.calls a0_0 a0_1 a0_2 a0_3 a0_4 a0_5 true _ A4.out).mono ?_); rintro e w15 ⟨rfl, hb⟩; refine ⟨_, rfl, ?_⟩; replace BK108 := bb BK108 hb; replace BK109 := bb BK109 hb; replace HB := bsw hb; (try clear hb); (try clear hb2); (try clear hk); (try clear hi)) | ((with_reducible refine gate_callee (f := 96) rfl ?_); refine gL (some 12) Try.func96 #[.int .i64 a2, .int .i64 0, .int .i64 100] ?_; (with_reducible refine (impl_InRange.calls a2 0 100 true _ A6.out).mono ?_); rintro e w' ⟨rfl, ⟨nd, rfl⟩⟩; refine ⟨_, rfl, ?_⟩; obtain ⟨hcz16_0, hcz16_1, hcz16_2, hcz16_3, hcz16_4, hcz16_5, hfz16_0, hfz16_1, hfz16_2, hfz16_3, hfz16_4, hfz16_5⟩ := cc6 BK108; obtain ⟨hcz17_0, hcz17_1, hcz17_2, hcz17_3, hcz17_4, hcz17_5, hfz17_0, hfz17_1, hfz17_2, hfz17_3, hfz17_4, hfz17_5⟩ := cc6 BK109))
    refine bodyPost_ret (results_cell_row rfl _ _ gb109 27 #[.int .i64 ji10, .int .i64 a0_1, .int .i64 a0_2, .int .i64 a0_3, .int .i64 a0_4, .int .i64 a0_5] (0, 0) _ rfl (sp BK109) Try.underlying27 rfl (by kernel_rfl)) rfl ?_
    exact ⟨by first | rfl | (simp [errW_none, errW_some] <;> rfl) | (simp only [← hji9, ← hji10]; first | rfl | (simp [errW_none, errW_some] <;> rfl)) | (simp [*, errW_none, errW_some] <;> rfl), sbw⟩
   ·replace H := im H
    obtain ⟨ji18, hji18⟩ : ∃ j_ : Int, (mn (wrap64 (a0_0 - (wrap64 (a0_3 + (wrap64 (a2 * a0_4)))))) a0_1) = j_ := ⟨_, rfl⟩
    replace H : (some (mx 0 (ji18), a0_1, a0_2, a0_3, a0_4, a0_5)) = some (r1, r2, r3, r4, r5, r6) := by first | (rw [hji18] at H; exact H) | (simp only [hji18] at H ⊢; exact H)
    (try rw [hji18] at A4)
    (try rw [hji18] at A6)
    have hji18_ : (if a0_1 < (wrap64 (a0_0 - (wrap64 (a0_3 + (wrap64 (a2 * a0_4)))))) then a0_1 else (wrap64 (a0_0 - (wrap64 (a0_3 + (wrap64 (a2 * a0_4))))))) = ji18 := hji18
    obtain ⟨ji19, hji19⟩ : ∃ j_ : Int, (mx 0 (ji18)) = j_ := ⟨_, rfl⟩
    replace H : (some (ji19, a0_1, a0_2, a0_3, a0_4, a0_5)) = some (r1, r2, r3, r4, r5, r6) := by first | (rw [hji19] at H; exact H) | (simp only [hji19] at H ⊢; exact H)
    (try rw [hji19] at A4)
    (try rw [hji19] at A6)
    have hji19_ : (if 0 < (ji18) then (ji18) else 0) = ji19 := hji19
    simp only [Option.some.injEq, Prod.mk.injEq] at H
    obtain ⟨rfl, rfl, rfl, rfl, rfl, rfl⟩ := H
    go_enter Try.func53, Try.ntmps53
    go_wp2_with (first | ((with_reducible refine gate_dst (N := 3) rfl ?_); refine bx 3 #[.int .i64 a0_0, .int .i64 a0_1, .int .i64 a0_2, .int .i64 a0_3, .int .i64 a0_4, .int .i64 a0_5] 27 ?_; intro gb108 hg w20 hbox hb; have GW108 := bz w hg; have GE108 := bz w hg; replace HB := bs hb; have BK108 := Aside0.mk hbox; clear hb hbox hg) | ((with_reducible refine gate_dst (N := 6) rfl ?_); refine bx 6 #[.int .i64 0, .int .i64 0, .int .i64 0, .int .i64 0, .int .i64 0, .int .i64 0] 27 ?_; intro gb109 hg w21 hbox hb; have GW109 := bzw w hg; have GE109 := bzw w hg; replace HB := bsw hb; have BK109 := Aside0.mk hbox; have NB108_109 := nl BK108 hg; have NB109_108 := ng BK108 hg; replace BK108 := bb BK108 hb; clear hb hbox hg; have hnb22 := NB108_109.out; have hnc22 := NB109_108.out; obtain ⟨hcz23_0, hcz23_1, hcz23_2, hcz23_3, hcz23_4, hcz23_5, hfz23_0, hfz23_1, hfz23_2, hfz23_3, hfz23_4, hfz23_5⟩ := cc6 BK108) | ((with_reducible refine gate_callee (f := 55) rfl ?_); refine gL (some 8) Try.func55 #[.agg #[.int .i64 a0_0, .int .i64 a0_1, .int .i64 a0_2, .int .i64 a0_3, .int .i64 a0_4, .int .i64 a0_5]] ?_; (with_reducible refine (impl_IsBattery.calls a0_0 a0_1 a0_2 a0_3 a0_4 a0_5 true _ A4.out).mono ?_); rintro e w24 ⟨rfl, hb⟩; refine ⟨_, rfl, ?_⟩; replace BK108 := bb BK108 hb; replace BK109 := bb BK109 hb; replace HB := bsw hb; (try clear hb); (try clear hb2); (try clear hk); (try clear hi)) | ((with_reducible refine gate_callee (f := 96) rfl ?_); refine gL (some 12) Try.func96 #[.int .i64 a2, .int .i64 0, .int .i64 100] ?_; (with_reducible refine (impl_InRange.calls a2 0 100 true _ A6.out).mono ?_); rintro e w' ⟨rfl, ⟨nd, rfl⟩⟩; refine ⟨_, rfl, ?_⟩; obtain ⟨hcz25_0, hcz25_1, hcz25_2, hcz25_3, hcz25_4, hcz25_5, hfz25_0, hfz25_1, hfz25_2, hfz25_3, hfz25_4, hfz25_5⟩ := cc6 BK108; obtain ⟨hcz26_0, hcz26_1, hcz26_2, hcz26_3, hcz26_4, hcz26_5, hfz26_0, hfz26_1, hfz26_2, hfz26_3, hfz26_4, hfz26_5⟩ := cc6 BK109))
    refine bodyPost_ret (results_cell_row rfl _ _ gb109 27 #[.int .i64 ji19, .int .i64 a0_1, .int .i64 a0_2, .int .i64 a0_3, .int .i64 a0_4, .int .i64 a0_5] (0, 0) _ rfl (sp BK109) Try.underlying27 rfl (by kernel_rfl)) rfl ?_
    exact ⟨by first | rfl | (simp [errW_none, errW_some] <;> rfl) | (simp only [← hji18, ← hji19]; first | rfl | (simp [errW_none, errW_some] <;> rfl)) | (simp [*, errW_none, errW_some] <;> rfl), sbw⟩
  ·replace H := im H
   obtain rfl | rfl := tt a1
   ·replace H := ip H
    obtain ⟨ji28, hji28⟩ : ∃ j_ : Int, (mn (wrap64 ((wrap64 (a0_0 - (wrap64 (a0_3 + (wrap64 (0 * a0_4)))))) + a0_5)) a0_1) = j_ := ⟨_, rfl⟩
    replace H : (some (mx 0 (ji28), a0_1, a0_2, a0_3, a0_4, a0_5)) = some (r1, r2, r3, r4, r5, r6) := by first | (rw [hji28] at H; exact H) | (simp only [hji28] at H ⊢; exact H)
    (try rw [hji28] at A4)
    (try rw [hji28] at A6)
    have hji28_ : (if a0_1 < (wrap64 ((wrap64 (a0_0 - (wrap64 (a0_3 + (wrap64 (0 * a0_4)))))) + a0_5)) then a0_1 else (wrap64 ((wrap64 (a0_0 - (wrap64 (a0_3 + (wrap64 (0 * a0_4)))))) + a0_5))) = ji28 := hji28
    have hji28s_ := hji28_
    simp only [Int.zero_mul, wrap64_0, Int.add_zero] at hji28s_
    obtain ⟨ji29, hji29⟩ : ∃ j_ : Int, (mx 0 (ji28)) = j_ := ⟨_, rfl⟩
    replace H : (some (ji29, a0_1, a0_2, a0_3, a0_4, a0_5)) = some (r1, r2, r3, r4, r5, r6) := by first | (rw [hji29] at H; exact H) | (simp only [hji29] at H ⊢; exact H)
    (try rw [hji29] at A4)
    (try rw [hji29] at A6)
    have hji29_ : (if 0 < (ji28) then (ji28) else 0) = ji29 := hji29
    simp only [Option.some.injEq, Prod.mk.injEq] at H
    obtain ⟨rfl, rfl, rfl, rfl, rfl, rfl⟩ := H
    go_enter Try.func53, Try.ntmps53
    go_wp2_with (first | ((with_reducible refine gate_dst (N := 3) rfl ?_); refine bx 3 #[.int .i64 a0_0, .int .i64 a0_1, .int .i64 a0_2, .int .i64 a0_3, .int .i64 a0_4, .int .i64 a0_5] 27 ?_; intro gb108 hg w30 hbox hb; have GW108 := bz w hg; have GE108 := bz w hg; replace HB := bs hb; have BK108 := Aside0.mk hbox; clear hb hbox hg) | ((with_reducible refine gate_dst (N := 6) rfl ?_); refine bx 6 #[.int .i64 0, .int .i64 0, .int .i64 0, .int .i64 0, .int .i64 0, .int .i64 0] 27 ?_; intro gb109 hg w31 hbox hb; have GW109 := bzw w hg; have GE109 := bzw w hg; replace HB := bsw hb; have BK109 := Aside0.mk hbox; have NB108_109 := nl BK108 hg; have NB109_108 := ng BK108 hg; replace BK108 := bb BK108 hb; clear hb hbox hg; have hnb32 := NB108_109.out; have hnc32 := NB109_108.out; obtain ⟨hcz33_0, hcz33_1, hcz33_2, hcz33_3, hcz33_4, hcz33_5, hfz33_0, hfz33_1, hfz33_2, hfz33_3, hfz33_4, hfz33_5⟩ := cc6 BK108) | ((with_reducible refine gate_callee (f := 55) rfl ?_); refine gL (some 8) Try.func55 #[.agg #[.int .i64 a0_0, .int .i64 a0_1, .int .i64 a0_2, .int .i64 a0_3, .int .i64 a0_4, .int .i64 a0_5]] ?_; (with_reducible refine (impl_IsBattery.calls a0_0 a0_1 a0_2 a0_3 a0_4 a0_5 true _ A4.out).mono ?_); rintro e w34 ⟨rfl, hb⟩; refine ⟨_, rfl, ?_⟩; replace BK108 := bb BK108 hb; replace BK109 := bb BK109 hb; replace HB := bsw hb; (try clear hb); (try clear hb2); (try clear hk); (try clear hi)) | ((with_reducible refine gate_callee (f := 96) rfl ?_); refine gL (some 12) Try.func96 #[.int .i64 a2, .int .i64 0, .int .i64 100] ?_; (with_reducible refine (impl_InRange.calls a2 0 100 false _ A6.out).mono ?_); rintro e w' ⟨rfl, ⟨nd, rfl⟩⟩; refine ⟨_, rfl, ?_⟩; obtain ⟨hcz35_0, hcz35_1, hcz35_2, hcz35_3, hcz35_4, hcz35_5, hfz35_0, hfz35_1, hfz35_2, hfz35_3, hfz35_4, hfz35_5⟩ := cc6 BK108; obtain ⟨hcz36_0, hcz36_1, hcz36_2, hcz36_3, hcz36_4, hcz36_5, hfz36_0, hfz36_1, hfz36_2, hfz36_3, hfz36_4, hfz36_5⟩ := cc6 BK109))
    refine bodyPost_ret (results_cell_row rfl _ _ gb109 27 #[.int .i64 ji29, .int .i64 a0_1, .int .i64 a0_2, .int .i64 a0_3, .int .i64 a0_4, .int .i64 a0_5] (0, 0) _ rfl (sp BK109) Try.underlying27 rfl (by kernel_rfl)) rfl ?_
    exact ⟨by first | rfl | (simp [errW_none, errW_some] <;> rfl) | (simp only [← hji28, ← hji29]; first | rfl | (simp [errW_none, errW_some] <;> rfl)) | (simp [*, errW_none, errW_some] <;> rfl), sbw⟩
   ·replace H := im H
    obtain ⟨ji37, hji37⟩ : ∃ j_ : Int, (mn (wrap64 (a0_0 - (wrap64 (a0_3 + (wrap64 (0 * a0_4)))))) a0_1) = j_ := ⟨_, rfl⟩
    replace H : (some (mx 0 (ji37), a0_1, a0_2, a0_3, a0_4, a0_5)) = some (r1, r2, r3, r4, r5, r6) := by first | (rw [hji37] at H; exact H) | (simp only [hji37] at H ⊢; exact H)
    (try rw [hji37] at A4)
    (try rw [hji37] at A6)
    have hji37_ : (if a0_1 < (wrap64 (a0_0 - (wrap64 (a0_3 + (wrap64 (0 * a0_4)))))) then a0_1 else (wrap64 (a0_0 - (wrap64 (a0_3 + (wrap64 (0 * a0_4))))))) = ji37 := hji37
    have hji37s_ := hji37_
    simp only [Int.zero_mul, wrap64_0, Int.add_zero] at hji37s_
    obtain ⟨ji38, hji38⟩ : ∃ j_ : Int, (mx 0 (ji37)) = j_ := ⟨_, rfl⟩
    replace H : (some (ji38, a0_1, a0_2, a0_3, a0_4, a0_5)) = some (r1, r2, r3, r4, r5, r6) := by first | (rw [hji38] at H; exact H) | (simp only [hji38] at H ⊢; exact H)
    (try rw [hji38] at A4)
    (try rw [hji38] at A6)
    have hji38_ : (if 0 < (ji37) then (ji37) else 0) = ji38 := hji38
    simp only [Option.some.injEq, Prod.mk.injEq] at H
    obtain ⟨rfl, rfl, rfl, rfl, rfl, rfl⟩ := H
    go_enter Try.func53, Try.ntmps53
    go_wp2_with (first | ((with_reducible refine gate_dst (N := 3) rfl ?_); refine bx 3 #[.int .i64 a0_0, .int .i64 a0_1, .int .i64 a0_2, .int .i64 a0_3, .int .i64 a0_4, .int .i64 a0_5] 27 ?_; intro gb108 hg w39 hbox hb; have GW108 := bz w hg; have GE108 := bz w hg; replace HB := bs hb; have BK108 := Aside0.mk hbox; clear hb hbox hg) | ((with_reducible refine gate_dst (N := 6) rfl ?_); refine bx 6 #[.int .i64 0, .int .i64 0, .int .i64 0, .int .i64 0, .int .i64 0, .int .i64 0] 27 ?_; intro gb109 hg w40 hbox hb; have GW109 := bzw w hg; have GE109 := bzw w hg; replace HB := bsw hb; have BK109 := Aside0.mk hbox; have NB108_109 := nl BK108 hg; have NB109_108 := ng BK108 hg; replace BK108 := bb BK108 hb; clear hb hbox hg; have hnb41 := NB108_109.out; have hnc41 := NB109_108.out; obtain ⟨hcz42_0, hcz42_1, hcz42_2, hcz42_3, hcz42_4, hcz42_5, hfz42_0, hfz42_1, hfz42_2, hfz42_3, hfz42_4, hfz42_5⟩ := cc6 BK108) | ((with_reducible refine gate_callee (f := 55) rfl ?_); refine gL (some 8) Try.func55 #[.agg #[.int .i64 a0_0, .int .i64 a0_1, .int .i64 a0_2, .int .i64 a0_3, .int .i64 a0_4, .int .i64 a0_5]] ?_; (with_reducible refine (impl_IsBattery.calls a0_0 a0_1 a0_2 a0_3 a0_4 a0_5 true _ A4.out).mono ?_); rintro e w43 ⟨rfl, hb⟩; refine ⟨_, rfl, ?_⟩; replace BK108 := bb BK108 hb; replace BK109 := bb BK109 hb; replace HB := bsw hb; (try clear hb); (try clear hb2); (try clear hk); (try clear hi)) | ((with_reducible refine gate_callee (f := 96) rfl ?_); refine gL (some 12) Try.func96 #[.int .i64 a2, .int .i64 0, .int .i64 100] ?_; (with_reducible refine (impl_InRange.calls a2 0 100 false _ A6.out).mono ?_); rintro e w' ⟨rfl, ⟨nd, rfl⟩⟩; refine ⟨_, rfl, ?_⟩; obtain ⟨hcz44_0, hcz44_1, hcz44_2, hcz44_3, hcz44_4, hcz44_5, hfz44_0, hfz44_1, hfz44_2, hfz44_3, hfz44_4, hfz44_5⟩ := cc6 BK108; obtain ⟨hcz45_0, hcz45_1, hcz45_2, hcz45_3, hcz45_4, hcz45_5, hfz45_0, hfz45_1, hfz45_2, hfz45_3, hfz45_4, hfz45_5⟩ := cc6 BK109))
    refine bodyPost_ret (results_cell_row rfl _ _ gb109 27 #[.int .i64 ji38, .int .i64 a0_1, .int .i64 a0_2, .int .i64 a0_3, .int .i64 a0_4, .int .i64 a0_5] (0, 0) _ rfl (sp BK109) Try.underlying27 rfl (by kernel_rfl)) rfl ?_
    exact ⟨by first | rfl | (simp [errW_none, errW_some] <;> rfl) | (simp only [← hji37, ← hji38]; first | rfl | (simp [errW_none, errW_some] <;> rfl)) | (simp [*, errW_none, errW_some] <;> rfl), sbw⟩
 ·replace H := im H
  simp only [Option.some.injEq, Prod.mk.injEq] at H
  obtain ⟨rfl, rfl, rfl, rfl, rfl, rfl⟩ := H
  go_enter Try.func53, Try.ntmps53
  go_wp2_with (first | ((with_reducible refine gate_dst (N := 3) rfl ?_); refine bx 3 #[.int .i64 a0_0, .int .i64 a0_1, .int .i64 a0_2, .int .i64 a0_3, .int .i64 a0_4, .int .i64 a0_5] 27 ?_; intro gb108 hg w46 hbox hb; have GW108 := bz w hg; have GE108 := bz w hg; replace HB := bs hb; have BK108 := Aside0.mk hbox; clear hb hbox hg) | ((with_reducible refine gate_dst (N := 6) rfl ?_); refine bx 6 #[.int .i64 0, .int .i64 0, .int .i64 0, .int .i64 0, .int .i64 0, .int .i64 0] 27 ?_; intro gb109 hg w47 hbox hb; have GW109 := bzw w hg; have GE109 := bzw w hg; replace HB := bsw hb; have BK109 := Aside0.mk hbox; have NB108_109 := nl BK108 hg; have NB109_108 := ng BK108 hg; replace BK108 := bb BK108 hb; clear hb hbox hg; have hnb48 := NB108_109.out; have hnc48 := NB109_108.out; obtain ⟨hcz49_0, hcz49_1, hcz49_2, hcz49_3, hcz49_4, hcz49_5, hfz49_0, hfz49_1, hfz49_2, hfz49_3, hfz49_4, hfz49_5⟩ := cc6 BK108) | ((with_reducible refine gate_callee (f := 55) rfl ?_); refine gL (some 8) Try.func55 #[.agg #[.int .i64 a0_0, .int .i64 a0_1, .int .i64 a0_2, .int .i64 a0_3, .int .i64 a0_4, .int .i64 a0_5]] ?_; (with_reducible refine (impl_IsBattery.calls a0_0 a0_1 a0_2 a0_3 a0_4 a0_5 false _ A4.out).mono ?_); rintro e w50 ⟨rfl, hb⟩; refine ⟨_, rfl, ?_⟩; replace BK108 := bb BK108 hb; replace BK109 := bb BK109 hb; replace HB := bsw hb; (try clear hb); (try clear hb2); (try clear hk); (try clear hi); obtain ⟨hcz51_0, hcz51_1, hcz51_2, hcz51_3, hcz51_4, hcz51_5, hfz51_0, hfz51_1, hfz51_2, hfz51_3, hfz51_4, hfz51_5⟩ := cc6 BK108; obtain ⟨hcz52_0, hcz52_1, hcz52_2, hcz52_3, hcz52_4, hcz52_5, hfz52_0, hfz52_1, hfz52_2, hfz52_3, hfz52_4, hfz52_5⟩ := cc6 BK109))
  refine bodyPost_ret (results_cell_row rfl _ _ gb109 27 #[.int .i64 a0_0, .int .i64 a0_1, .int .i64 a0_2, .int .i64 a0_3, .int .i64 a0_4, .int .i64 a0_5] (0, 0) _ rfl (sp BK109) Try.underlying27 rfl (by kernel_rfl)) rfl ?_
  exact ⟨se, sbw⟩

/-! ### impl_IsSpan: function 118 -/
def impl_IsSpan.f (a0_0 : Int) (a0_1 : Int) : Option (Bool) := if a0_0 ≥ 0 then (if a0_1 ≤ 1000 then (some (decide (a0_0 < a0_1))) else (some false)) else (some false)
set_option maxHeartbeats 8000000 in
set_option maxRecDepth 100000 in
theorem impl_IsSpan.calls (a0_0 : Int) (a0_1 : Int) (r : Bool) (w : World) (h : impl_IsSpan.f a0_0 a0_1 = some r) :
    Calls Try.prog 118 #[.agg #[.int .i64 a0_0, .int .i64 a0_1]] w fun e w' => e = .returned (.bool r) ∧ Below w.heap.size w w' := by
 have hu100 := Try.underlying100
 have HB := Aside0.mk (Below.refl w.heap.size w)
 have H : (if a0_0 ≥ 0 then (if a0_1 ≤ 1000 then (some (decide (a0_0 < a0_1))) else (some false)) else (some false)) = some r := h
 clear h
 obtain ⟨c2, H⟩ | ⟨c2, H⟩ := ie_ H
 ·have c2b0 := decide_eq_true c2
  clear c2
  obtain ⟨c3, H⟩ | ⟨c3, H⟩ := ie_ H
  ·have c3b0 := decide_eq_true c3
   clear c3
   obtain rfl := Option.some.inj H
   go_enter Try.func118, Try.ntmps118
   go_wp2_with (first | ((with_reducible refine gate_dst (N := 1) rfl ?_); refine bx 1 #[.int .i64 a0_0, .int .i64 a0_1] 100 ?_; intro gb112 hg w4 hbox hb; have GW112 := bz w hg; have GE112 := bz w hg; replace HB := bs hb; have BK112 := Aside0.mk hbox; clear hb hbox hg; obtain ⟨hcz5_0, hcz5_1, hfz5_0, hfz5_1⟩ := cc2 BK112))
   go_ret
   exact ⟨se, sbw⟩
  ·have c3b0 := decide_eq_false c3
   clear c3
   obtain rfl := Option.some.inj H
   go_enter Try.func118, Try.ntmps118
   go_wp2_with (first | ((with_reducible refine gate_dst (N := 1) rfl ?_); refine bx 1 #[.int .i64 a0_0, .int .i64 a0_1] 100 ?_; intro gb112 hg w6 hbox hb; have GW112 := bz w hg; have GE112 := bz w hg; replace HB := bs hb; have BK112 := Aside0.mk hbox; clear hb hbox hg; obtain ⟨hcz7_0, hcz7_1, hfz7_0, hfz7_1⟩ := cc2 BK112))
   go_ret
   exact ⟨se, sbw⟩
 ·have c2b0 := decide_eq_false c2
  clear c2
  obtain rfl := Option.some.inj H
  go_enter Try.func118, Try.ntmps118
  go_wp2_with (first | ((with_reducible refine gate_dst (N := 1) rfl ?_); refine bx 1 #[.int .i64 a0_0, .int .i64 a0_1] 100 ?_; intro gb112 hg w8 hbox hb; have GW112 := bz w hg; have GE112 := bz w hg; replace HB := bs hb; have BK112 := Aside0.mk hbox; clear hb hbox hg; obtain ⟨hcz9_0, hcz9_1, hfz9_0, hfz9_1⟩ := cc2 BK112))
  go_ret
  exact ⟨se, sbw⟩

/-! ### impl_InSpan: function 97 -/
def impl_InSpan.f (a0_0 : Int) (a0_1 : Int) (a1 : Int) : Option (Bool) := (impl_IsSpan.f a0_0 a0_1).bind fun t114 => (if t114 = true then (if a0_0 ≤ a1 then (some (decide (a1 < a0_1))) else (some false)) else (some false))
set_option maxHeartbeats 8000000 in
set_option maxRecDepth 100000 in
theorem impl_InSpan.calls (a0_0 : Int) (a0_1 : Int) (a1 : Int) (r : Bool) (w : World) (h : impl_InSpan.f a0_0 a0_1 a1 = some r) :
    Calls Try.prog 97 #[.agg #[.int .i64 a0_0, .int .i64 a0_1], .int .i64 a1] w fun e w' => e = .returned (.bool r) ∧ Below w.heap.size w w' := by
 have hu100 := Try.underlying100
 have HB := Aside0.mk (Below.refl w.heap.size w)
 have H : ((impl_IsSpan.f a0_0 a0_1).bind fun t114 => (if t114 = true then (if a0_0 ≤ a1 then (some (decide (a1 < a0_1))) else (some false)) else (some false))) = some r := h
 clear h
 obtain ⟨t114, A3, H⟩ := bnd H
 obtain rfl | rfl := tt t114
 ·replace H := ip H
  obtain ⟨c5, H⟩ | ⟨c5, H⟩ := ie_ H
  ·have c5b0 := decide_eq_true c5
   clear c5
   obtain rfl := Option.some.inj H
   go_enter Try.func97, Try.ntmps97
   go_wp2_with (first | ((with_reducible refine gate_dst (N := 2) rfl ?_); refine bx 2 #[.int .i64 a0_0, .int .i64 a0_1] 100 ?_; intro gb113 hg w6 hbox hb; have GW113 := bz w hg; have GE113 := bz w hg; replace HB := bs hb; have BK113 := Aside0.mk hbox; clear hb hbox hg; obtain ⟨hcz7_0, hcz7_1, hfz7_0, hfz7_1⟩ := cc2 BK113) | ((with_reducible refine gate_callee (f := 118) rfl ?_); refine gL (some 6) Try.func118 #[.agg #[.int .i64 a0_0, .int .i64 a0_1]] ?_; (with_reducible refine (impl_IsSpan.calls a0_0 a0_1 true _ A3.out).mono ?_); rintro e w8 ⟨rfl, hb⟩; refine ⟨_, rfl, ?_⟩; replace BK113 := bb BK113 hb; replace HB := bsw hb; (try clear hb); (try clear hb2); (try clear hk); (try clear hi); obtain ⟨hcz9_0, hcz9_1, hfz9_0, hfz9_1⟩ := cc2 BK113))
   go_ret
   exact ⟨se, sbw⟩
  ·have c5b0 := decide_eq_false c5
   clear c5
   obtain rfl := Option.some.inj H
   go_enter Try.func97, Try.ntmps97
   go_wp2_with (first | ((with_reducible refine gate_dst (N := 2) rfl ?_); refine bx 2 #[.int .i64 a0_0, .int .i64 a0_1] 100 ?_; intro gb113 hg w10 hbox hb; have GW113 := bz w hg; have GE113 := bz w hg; replace HB := bs hb; have BK113 := Aside0.mk hbox; clear hb hbox hg; obtain ⟨hcz11_0, hcz11_1, hfz11_0, hfz11_1⟩ := cc2 BK113) | ((with_reducible refine gate_callee (f := 118) rfl ?_); refine gL (some 6) Try.func118 #[.agg #[.int .i64 a0_0, .int .i64 a0_1]] ?_; (with_reducible refine (impl_IsSpan.calls a0_0 a0_1 true _ A3.out).mono ?_); rintro e w12 ⟨rfl, hb⟩; refine ⟨_, rfl, ?_⟩; replace BK113 := bb BK113 hb; replace HB := bsw hb; (try clear hb); (try clear hb2); (try clear hk); (try clear hi); obtain ⟨hcz13_0, hcz13_1, hfz13_0, hfz13_1⟩ := cc2 BK113))
   go_ret
   exact ⟨se, sbw⟩
 ·replace H := im H
  obtain rfl := Option.some.inj H
  go_enter Try.func97, Try.ntmps97
  go_wp2_with (first | ((with_reducible refine gate_dst (N := 2) rfl ?_); refine bx 2 #[.int .i64 a0_0, .int .i64 a0_1] 100 ?_; intro gb113 hg w14 hbox hb; have GW113 := bz w hg; have GE113 := bz w hg; replace HB := bs hb; have BK113 := Aside0.mk hbox; clear hb hbox hg; obtain ⟨hcz15_0, hcz15_1, hfz15_0, hfz15_1⟩ := cc2 BK113) | ((with_reducible refine gate_callee (f := 118) rfl ?_); refine gL (some 6) Try.func118 #[.agg #[.int .i64 a0_0, .int .i64 a0_1]] ?_; (with_reducible refine (impl_IsSpan.calls a0_0 a0_1 false _ A3.out).mono ?_); rintro e w16 ⟨rfl, hb⟩; refine ⟨_, rfl, ?_⟩; replace BK113 := bb BK113 hb; replace HB := bsw hb; (try clear hb); (try clear hb2); (try clear hk); (try clear hi)))
  go_ret
  exact ⟨se, sbw⟩

/-! ### impl_InSpans: function 54 -/
def impl_InSpans.l0 : Nat → Int → List (S100) → Int → Int → Option (Bool)
  | 0, _, _, _, _ => none
  | k + 1, x1, x7, x8, x9 => if x9 < x8 then (if 0 ≤ x9 then (if x9 < (x7.length : Int) then ((impl_InSpan.f ((rd_T100 x7 x9).f0) ((rd_T100 x7 x9).f1) x1).bind fun t117 => (if t117 = true then (some true) else (impl_InSpans.l0 k x1 x7 x8 (wrap64 (x9 + 1))))) else (none)) else (none)) else (some false)
def impl_InSpans.f (k : Nat) (l0 : List (S100)) (a1 : Int) : Option (Bool) := impl_InSpans.l0 k a1 l0 (l0.length : Int) 0
theorem impl_InSpans.mono_l : ∀ k, (∀ y0 y1 y2 y3, LeO (impl_InSpans.l0 k y0 y1 y2 y3) (impl_InSpans.l0 (k + 1) y0 y1 y2 y3))
  | 0 => fun _ _ _ _ r h => by simp [impl_InSpans.l0] at h
  | k + 1 => by
    have ih0 := impl_InSpans.mono_l k
    · intro y0 y1 y2 y3
      unfold impl_InSpans.l0
      exact mo
theorem impl_InSpans.mono : ∀ a0 a1 k, LeO (impl_InSpans.f k a0 a1) (impl_InSpans.f (k + 1) a0 a1) := by
  intro a0 a1 k
  have ih0 := impl_InSpans.mono_l k
  unfold impl_InSpans.f
  exact mo
set_option maxHeartbeats 8000000 in
set_option maxRecDepth 100000 in
theorem impl_InSpans.calls (k : Nat) (A0 : Option Addr) (c0 : Nat) (l0 : List (S100)) (a1 : Int) (r : Bool) (w : World) (hr0 : Kd.C k100 w A0 l0.length l0) (hc0 : l0.length ≤ c0) (h : impl_InSpans.f k l0 a1 = some r) :
    Calls Try.prog 54 #[.slice A0 l0.length c0, .int .i64 a1] w fun e w' => e = .returned (.bool r) ∧ Below w.heap.size w w' := by
 have hu100 := Try.underlying100
 have HR0 := Aside0.mk hr0
 have HC0 := Aside0.mk hc0
 clear hr0 hc0
 have HB := Aside0.mk (Below.refl w.heap.size w)
 have H : (impl_InSpans.l0 k a1 l0 (l0.length : Int) 0) = some r := h
 clear h
 have H' := Aside0.mk H
 clear H
 go_enter Try.func54, Try.ntmps54
 go_wp2
 go_loopg [9] k (fun kq v9 w' => ∃ (x9_1 : Int), v9 = .int .i64 x9_1 ∧ Aside0 (impl_InSpans.l0 kq a1 l0 (l0.length : Int) x9_1 = some r) ∧ Aside0 (kq ≤ k) ∧ Aside0 (Below w.heap.size w w'))
 case atStart => exact ⟨(0), sc, H', kk0, ⟨sb⟩⟩
 case round =>
  clear H'
  obtain ⟨x9_1, rfl, HA, HK1, HB⟩ := hrel
  cases gk with
  | zero => exact absurd HA.out (by simp [impl_InSpans.l0])
  | succ k1 =>
   have H := HA.out
   clear HA
   simp only [impl_InSpans.l0] at H
   obtain ⟨c3, H⟩ | ⟨c3, H⟩ := ie_ H
   ·have c3b0 := decide_eq_true c3
    clear c3
    obtain ⟨c4b0, H⟩ := id_ H
    obtain ⟨c5b0, H⟩ := id_ H
    obtain ⟨t117, A6, H⟩ := bnd H
    obtain rfl | rfl := tt t117
    ·replace H := ip H
     obtain rfl := Option.some.inj H
     obtain ⟨p115, q115, ad115, e115, _, _, hx115_0, hx115_1⟩ := aT_T100 HR0 HB x9_1
     cases e115
     go_wp2_with (first | ((with_reducible refine gate_dst (N := 6) rfl ?_); refine bx 6 #[.int .i64 0, .int .i64 0] 100 ?_; intro gb116 hg w8 hbox hb; have GW116 := bz w hg; have GE116 := bz w hg; replace HB := bs hb; have BK116 := Aside0.mk hbox; clear hb hbox hg; obtain ⟨hcz9_0, hcz9_1, hfz9_0, hfz9_1⟩ := cc2 BK116) | ((with_reducible refine gate_callee (f := 97) rfl ?_); refine gL (some 15) Try.func97 #[.agg #[.int .i64 ((rd_T100 l0 x9_1).f0), .int .i64 ((rd_T100 l0 x9_1).f1)], .int .i64 a1] ?_; (with_reducible refine (impl_InSpan.calls ((rd_T100 l0 x9_1).f0) ((rd_T100 l0 x9_1).f1) a1 true _ A6.out).mono ?_); rintro e w10 ⟨rfl, hb⟩; refine ⟨_, rfl, ?_⟩; replace BK116 := Aside0.mk (blk_below (g := gb116) (o := .cells #[.int .i64 ((rd_T100 l0 x9_1).f0), .int .i64 ((rd_T100 l0 x9_1).f1)] 100 (0, 0)) (sp BK116) hb); replace HB := bsw hb; (try clear hb); (try clear hb2); (try clear hk); (try clear hi)))
     go_ret
     exact ⟨se, sbw⟩
    ·replace H := im H
     have H' := Aside0.mk H
     clear H
     obtain ⟨p115, q115, ad115, e115, _, _, hx115_0, hx115_1⟩ := aT_T100 HR0 HB x9_1
     cases e115
     go_wp2_with (first | ((with_reducible refine gate_dst (N := 6) rfl ?_); refine bx 6 #[.int .i64 0, .int .i64 0] 100 ?_; intro gb116 hg w11 hbox hb; have GW116 := bz w hg; have GE116 := bz w hg; replace HB := bs hb; have BK116 := Aside0.mk hbox; clear hb hbox hg; obtain ⟨hcz12_0, hcz12_1, hfz12_0, hfz12_1⟩ := cc2 BK116) | ((with_reducible refine gate_callee (f := 97) rfl ?_); refine gL (some 15) Try.func97 #[.agg #[.int .i64 ((rd_T100 l0 x9_1).f0), .int .i64 ((rd_T100 l0 x9_1).f1)], .int .i64 a1] ?_; (with_reducible refine (impl_InSpan.calls ((rd_T100 l0 x9_1).f0) ((rd_T100 l0 x9_1).f1) a1 false _ A6.out).mono ?_); rintro e w13 ⟨rfl, hb⟩; refine ⟨_, rfl, ?_⟩; replace BK116 := Aside0.mk (blk_below (g := gb116) (o := .cells #[.int .i64 ((rd_T100 l0 x9_1).f0), .int .i64 ((rd_T100 l0 x9_1).f1)] 100 (0, 0)) (sp BK116) hb); replace HB := bsw hb; (try clear hb); (try clear hb2); (try clear hk); (try clear hi)))
     go_roundg k1
     case measure => have := HK1.out; omega
     case rel => exact ⟨(wrap64 (x9_1 + 1)), sc, H', kk1, ⟨sbw⟩⟩
   ·have c3b0 := decide_eq_false c3
    clear c3
    obtain rfl := Option.some.inj H
    go_wp2
    go_ret
    exact ⟨se, sb⟩

/-! ### impl_ForecastOf: function 45 -/
def impl_ForecastOf.l0 : Nat → List (S100) → Int → List Int → List Int → Int → Int → Int → Int → Int → Int → Int → Int → Option (List Int)
  | 0, _, _, _, _, _, _, _, _, _, _, _, _ => none
  | k + 1, x1, x2, x9, x15, x16, x17, x119000, x119001, x119002, x119003, x119004, x119005 => if x17 < x16 then (if 0 ≤ x17 then (if x17 < (x15.length : Int) then ((impl_InSpans.f k x1 (wrap64 (x2 + x17))).bind fun t123 => ((impl_TickBattery.f x119000 x119001 x119002 x119003 x119004 x119005 t123 (rd x15 x17)).bind fun bt124 => (if x9.length < 17592186044416 then (impl_ForecastOf.l0 k x1 x2 (x9 ++ [bt124.1]) x15 x16 (wrap64 (x17 + 1)) bt124.1 bt124.2.1 bt124.2.2.1 bt124.2.2.2.1 bt124.2.2.2.2.1 bt124.2.2.2.2.2) else (none)))) else (none)) else (none)) else (some x9)
def impl_ForecastOf.f (k : Nat) (a0_0 : Int) (a0_1 : Int) (a0_2 : Int) (a0_3 : Int) (a0_4 : Int) (a0_5 : Int) (l1 : List (S100)) (a2 : Int) (l3 : List Int) : Option (List Int) := impl_ForecastOf.l0 k l1 a2 (([a0_0] : List Int)) l3 (l3.length : Int) 0 a0_0 a0_1 a0_2 a0_3 a0_4 a0_5
theorem impl_ForecastOf.mono_l : ∀ k, (∀ y0 y1 y2 y3 y4 y5 y6 y7 y8 y9 y10 y11, LeO (impl_ForecastOf.l0 k y0 y1 y2 y3 y4 y5 y6 y7 y8 y9 y10 y11) (impl_ForecastOf.l0 (k + 1) y0 y1 y2 y3 y4 y5 y6 y7 y8 y9 y10 y11))
  | 0 => fun _ _ _ _ _ _ _ _ _ _ _ _ r h => by simp [impl_ForecastOf.l0] at h
  | k + 1 => by
    have ih0 := impl_ForecastOf.mono_l k
    · intro y0 y1 y2 y3 y4 y5 y6 y7 y8 y9 y10 y11
      unfold impl_ForecastOf.l0
      have m0 := @impl_InSpans.mono
      exact mo
theorem impl_ForecastOf.mono : ∀ a0 a1 a2 a3 a4 a5 a6 a7 a8 k, LeO (impl_ForecastOf.f k a0 a1 a2 a3 a4 a5 a6 a7 a8) (impl_ForecastOf.f (k + 1) a0 a1 a2 a3 a4 a5 a6 a7 a8) := by
  intro a0 a1 a2 a3 a4 a5 a6 a7 a8 k
  have ih0 := impl_ForecastOf.mono_l k
  unfold impl_ForecastOf.f
  have m0 := @impl_InSpans.mono
  exact mo
def impl_ForecastOf.T5 : Bool × List (List Nat × List Nat) := (true, [([], []), ([], []), ([], []), ([], []), ([2, 3], [2, 3]), ([1, 4], [1, 4]), ([], []), ([0, 5, 6, 5], [0, 5, 6]), ([7, 7, 0, 1, 2, 3, 4, 5, 6, 7], [7])])
def impl_ForecastOf.B5 : List Nat := [0, 0, 0, 0, 12, 30, 0, 127, 255]
theorem impl_ForecastOf.tab5 : rtab .any (opsOf Try.f45 5) = impl_ForecastOf.T5 := by kernel_rfl
theorem impl_ForecastOf.bits5 : waitsOk impl_ForecastOf.T5.2 impl_ForecastOf.B5 = true := by kernel_rfl
set_option maxHeartbeats 8000000 in
set_option maxRecDepth 100000 in
theorem impl_ForecastOf.calls (k : Nat) (a0_0 : Int) (a0_1 : Int) (a0_2 : Int) (a0_3 : Int) (a0_4 : Int) (a0_5 : Int) (A1 : Option Addr) (c1 : Nat) (l1 : List (S100)) (a2 : Int) (A3 : Option Addr) (c3 : Nat) (l3 : List Int) (r : List Int) (w : World) (hr1 : Kd.C k100 w A1 l1.length l1) (hc1 : l1.length ≤ c1) (hr3 : Kd.C (Kd.int .i64) w A3 l3.length l3) (hc3 : l3.length ≤ c3) (h : impl_ForecastOf.f k a0_0 a0_1 a0_2 a0_3 a0_4 a0_5 l1 a2 l3 = some r) :
    Calls Try.prog 45 #[.agg #[.int .i64 a0_0, .int .i64 a0_1, .int .i64 a0_2, .int .i64 a0_3, .int .i64 a0_4, .int .i64 a0_5], .slice A1 l1.length c1, .int .i64 a2, .slice A3 l3.length c3] w fun e w' => ∃ v0_ : Value, e = .returned (v0_) ∧ Kd.R (Kd.int .i64) 3 w' w.heap.size (fun _ => True) v0_ r ∧ Below w.heap.size w w' := by
 have hu27 := Try.underlying27
 have HR1 := Aside0.mk hr1
 have HC1 := Aside0.mk hc1
 clear hr1 hc1
 have HR3 := Aside0.mk hr3
 have HC3 := Aside0.mk hc3
 clear hr3 hc3
 have HB := Aside0.mk (Below.refl w.heap.size w)
 have H : (impl_ForecastOf.l0 k l1 a2 (([a0_0] : List Int)) l3 (l3.length : Int) 0 a0_0 a0_1 a0_2 a0_3 a0_4 a0_5) = some r := h
 clear h
 obtain ⟨y119, hy119⟩ : ∃ y_ : List Int, y_ = (([a0_0] : List Int)) := ⟨_, rfl⟩
 replace H : (impl_ForecastOf.l0 k l1 a2 y119 l3 (l3.length : Int) 0 a0_0 a0_1 a0_2 a0_3 a0_4 a0_5) = some r := by first | (rw [hy119]; with_reducible exact H) | (have H2_ := (Option.bind_some _ _).symm.trans H; rw [hy119]; with_reducible exact H2_) | (have H2_ := (Option.bind_some _ _).symm.trans H; with_reducible exact H2_) | with_reducible exact H | (rw [hy119]; exact H) | exact H
 have Ny119 := Aside0.mk hy119
 clear hy119
 have H' := Aside0.mk H
 clear H
 go_enter Try.func45, Try.ntmps45
 go_wp2_with (first | ((with_reducible refine gate_dst (N := 4) rfl ?_); refine bx 4 #[.int .i64 a0_0, .int .i64 a0_1, .int .i64 a0_2, .int .i64 a0_3, .int .i64 a0_4, .int .i64 a0_5] 27 ?_; intro gb118 hg w5 hbox hb; have GW118 := bz w hg; have GE118 := bz w hg; replace HB := bs hb; have BK118 := Aside0.mk hbox; clear hb hbox hg; obtain ⟨hcz6_0, hcz6_1, hcz6_2, hcz6_3, hcz6_4, hcz6_5, hfz6_0, hfz6_1, hfz6_2, hfz6_3, hfz6_4, hfz6_5⟩ := cc6 BK118) | ((with_reducible refine gate_dst (N := 14) rfl ?_); refine Kd.R_lit (Kd.int .i64) _ 3 ?hg (N := 14) ?hd (xs := ([a0_0] : List Int)) (inner := [.int .i64 a0_0]) (ok := fun _ => True) (okp := fun _ => True) ?hr ?hp (fun _ hk => hk) trivial (Below.refl _ _) (Nat.le_refl _) (by simp) ?_; (case hd => rfl); (case hg => rfl); (case hr => first | (go_simp; done) | (go_simp; rfl)); (case hp => exact (Reps.one (show Kd.M (Kd.int .i64) _ _ _ a0_0 [.int .i64 a0_0] from rfl) (Reps.none _ _))); intro v120 w7 ho8 hb hg_ hnew_; clear hg_ hnew_; (first | rw [← Ny119.out] at ho8 | (simp only [Int.reduceToNat] at ho8; rw [← Ny119.out] at ho8)); have HO121 := Aside0.mk (Kd.R_lower ho8 (below_size (sbw))); replace BK118 := bb BK118 hb; replace HB := bsw hb; clear hb ho8))
 go_loopg [9, 17] k (fun kq v9 v17 w' => ∃ (x9_1 : List Int) (x17_1 : Int) (x119000_1 : Int) (x119001_1 : Int) (x119002_1 : Int) (x119003_1 : Int) (x119004_1 : Int) (x119005_1 : Int), v17 = .int .i64 x17_1 ∧ Aside0 (impl_ForecastOf.l0 kq l1 a2 x9_1 l3 (l3.length : Int) x17_1 x119000_1 x119001_1 x119002_1 x119003_1 x119004_1 x119005_1 = some r) ∧ Aside0 (kq ≤ k) ∧ Aside0 (Kd.R (Kd.int .i64) 3 w' w.heap.size (fun _ => True) v9 x9_1) ∧ Aside0 (w'.heap[gb118]? = some (.cells #[.int .i64 x119000_1, .int .i64 x119001_1, .int .i64 x119002_1, .int .i64 x119003_1, .int .i64 x119004_1, .int .i64 x119005_1] 27 (0, 0))) ∧ Aside0 (Below w.heap.size w w'))
 case atStart => exact ⟨(y119), (0), (a0_0), (a0_1), (a0_2), (a0_3), (a0_4), (a0_5), sc, H', kk0, ⟨sr HO121⟩, ⟨sk BK118⟩, ⟨sbw⟩⟩
 case round =>
  clear H'
  try clear c1
  try clear hcz6_0
  try clear hcz6_1
  try clear hcz6_2
  try clear hcz6_3
  try clear hcz6_4
  try clear hcz6_5
  try clear hfz6_0
  try clear hfz6_1
  try clear hfz6_2
  try clear hfz6_3
  try clear hfz6_4
  try clear hfz6_5
  obtain ⟨x9_1, x17_1, x119000_1, x119001_1, x119002_1, x119003_1, x119004_1, x119005_1, rfl, HA, HK1, HO_9, BK118, HB⟩ := hrel
  cases gk with
  | zero => exact absurd HA.out (by simp [impl_ForecastOf.l0])
  | succ k1 =>
   have H := HA.out
   clear HA
   simp only [impl_ForecastOf.l0] at H
   obtain ⟨c9, H⟩ | ⟨c9, H⟩ := ie_ H
   ·have c9b0 := decide_eq_true c9
    clear c9
    obtain ⟨c10b0, H⟩ := id_ H
    obtain ⟨c11b0, H⟩ := id_ H
    obtain ⟨t123, A12, H⟩ := bnd H
    obtain ⟨⟨t124, t125, t126, t127, t128, t129⟩, A13, H⟩ := bnd H
    replace H : (if x9_1.length < 17592186044416 then (impl_ForecastOf.l0 k1 l1 a2 (x9_1 ++ [t124]) l3 (l3.length : Int) (wrap64 (x17_1 + 1)) t124 t125 t126 t127 t128 t129) else (none)) = some r := H
    obtain ⟨LMc14, H⟩ := il_ H
    obtain ⟨y130, hy130⟩ : ∃ y_ : List Int, y_ = (x9_1 ++ [t124]) := ⟨_, rfl⟩
    replace H : (impl_ForecastOf.l0 k1 l1 a2 y130 l3 (l3.length : Int) (wrap64 (x17_1 + 1)) t124 t125 t126 t127 t128 t129) = some r := by first | (rw [hy130]; with_reducible exact H) | (have H2_ := (Option.bind_some _ _).symm.trans H; rw [hy130]; with_reducible exact H2_) | (have H2_ := (Option.bind_some _ _).symm.trans H; with_reducible exact H2_) | with_reducible exact H | (rw [hy130]; exact H) | exact H
    have Ny130 := Aside0.mk hy130
    clear hy130
    have H' := Aside0.mk H
    clear H
    obtain ⟨p122, q122, ad122, e122, _, hx122_0⟩ := at_i HR3 HB x17_1
    cases e122
    try go_wp2
    replace HO_9 := Aside0.mk (Kd.R_drew HO_9.out)
    replace BK118 := Aside0.mk (blk_drew BK118.out)
    replace HB := Aside0.mk (below_drew1 HB.out)
    refine start_ (n := 9) (S := fun w' => w'.cell? ⟨gb118, 0, none⟩ = some (.int .i64 x119000_1) ∧ w'.cell? ⟨gb118, 1, none⟩ = some (.int .i64 x119001_1) ∧ w'.cell? ⟨gb118, 2, none⟩ = some (.int .i64 x119002_1) ∧ w'.cell? ⟨gb118, 3, none⟩ = some (.int .i64 x119003_1) ∧ w'.cell? ⟨gb118, 4, none⟩ = some (.int .i64 x119004_1) ∧ w'.cell? ⟨gb118, 5, none⟩ = some (.int .i64 x119005_1)) (ds := [8]) #[false, false, false, false, false, false, false, false, false] (by kernel_rfl) rfl rfl ⟨bc0 BK118, bc1 BK118, bc2 BK118, bc3 BK118, bc4 BK118, bc5 BK118⟩ (fun hHeld => ?_); refine with_tabW impl_ForecastOf.tab5 impl_ForecastOf.bits5 (fun HT_ HW_ => ?_)
    generalize wr.drew = w15 at HO_9 BK118 HB hHeld ⊢
    refine put 1 23 #[false, true, false, false, false, false, false, false, false] HT_ ?_
    refine put 2 24 #[false, true, true, false, false, false, false, false, false] HT_ ?_
    refine put 3 25 #[false, true, true, true, false, false, false, false, false] HT_ ?_
    refine put 4 26 #[false, true, true, true, true, false, false, false, false] HT_ ?_
    refine put 6 28 #[false, true, true, true, true, false, true, false, false] HT_ ?_
    refine tat6 0 22 #[true, true, true, true, true, false, true, false, false] HT_ HW_ hHeld ?_
    refine one_ (i := 5) (N := some 27) #[true, true, true, true, true, true, true, false, false] rfl rfl (one_of HT_.out (by kernel_rfl)) (by decide) (fun K hK => ?_)
    refine goes_ Try.func54 (by kernel_rfl) rfl #[.slice A1 l1.length c1, .int .i64 (wrap64 (a2 + x17_1))] (by rfl) rfl rfl sl ?_
    with_reducible refine (impl_InSpans.calls k1 _ _ l1 (wrap64 (a2 + x17_1)) t123 _ ?side1 ?side2 A12.out).mono ?_
    (case side1 => exact cb HR1)
    (case side2 => exact HC1.out)
    rintro e w16 ⟨rfl, hb⟩
    refine ⟨_, rfl, ?_⟩
    replace HO_9 := Aside0.mk (Kd.R_below (sr HO_9) hb)
    replace BK118 := bb BK118 hb
    replace HB := bsw hb
    (try clear hb)
    (try clear hb2)
    (try clear hk)
    (try clear hi)
    refine hK.out _ _ ⟨bc0 BK118, bc1 BK118, bc2 BK118, bc3 BK118, bc4 BK118, bc5 BK118⟩ (fun hHeld => ?_)
    clear hK K
    refine norm_ (a' := ?_) ?_ ?_
    rotate_left
    ·show Act.put _ (some 27) _ = _
     simp only [Act.put, List.setIfInBounds_toArray, List.set_cons_zero, List.set_cons_succ, i64_w, i32_w]
     rfl
    refine one_ (i := 7) (N := some 29) #[true, true, true, true, true, true, true, true, false] rfl rfl (one_of HT_.out (by kernel_rfl)) (by decide) (fun K hK => ?_)
    refine goes_ Try.func53 (by kernel_rfl) rfl #[.agg #[.int .i64 x119000_1, .int .i64 x119001_1, .int .i64 x119002_1, .int .i64 x119003_1, .int .i64 x119004_1, .int .i64 x119005_1], .bool t123, .int .i64 (rd l3 x17_1)] (by rfl) rfl rfl sl ?_
    with_reducible refine (impl_TickBattery.calls x119000_1 x119001_1 x119002_1 x119003_1 x119004_1 x119005_1 t123 (rd l3 x17_1) t124 t125 t126 t127 t128 t129 _ A13.out).mono ?_
    rintro e w17 ⟨rfl, hb⟩
    refine ⟨_, rfl, ?_⟩
    replace HO_9 := Aside0.mk (Kd.R_below (sr HO_9) hb)
    replace BK118 := bb BK118 hb
    replace HB := bsw hb
    (try clear hb)
    (try clear hb2)
    (try clear hk)
    (try clear hi)
    refine hK.out _ _ ⟨bc0 BK118, bc1 BK118, bc2 BK118, bc3 BK118, bc4 BK118, bc5 BK118⟩ (fun hHeld => ?_)
    clear hK K
    refine norm_ (a' := ?_) ?_ ?_
    rotate_left
    ·show Act.put _ (some 29) _ = _
     simp only [Act.put, List.setIfInBounds_toArray, List.set_cons_zero, List.set_cons_succ, i64_w, i32_w]
     rfl
    refine last_ (i := 8) (N := none) #[true, true, true, true, true, true, true, true, true] rfl rfl (one_of HT_.out (by kernel_rfl)) (by decide) (fun K hK => ?_)
    obtain ⟨hs18, hfs18⟩ := cc1 BK118
    have hs19 := bc1 BK118
    have hfs19 := bf BK118 1
    have hs20 := bc2 BK118
    have hfs20 := bf BK118 2
    have hs21 := bc3 BK118
    have hfs21 := bf BK118 3
    have hs22 := bc4 BK118
    have hfs22 := bf BK118 4
    have hs23 := bc5 BK118
    have hfs23 := bf BK118 5
    refine skip_ (w1 := ?_) (by rfl) rfl ?_ ?_
    rotate_left
    ·go_simp
     rfl
    refine hK.out _ _ ?_
    clear hK K
    refine done_ (done_of HT_.out (by kernel_rfl)) ?_
    obtain ⟨hcz24_0, hcz24_1, hcz24_2, hcz24_3, hcz24_4, hcz24_5, hfz24_0, hfz24_1, hfz24_2, hfz24_3, hfz24_4, hfz24_5⟩ := cc6 BK118
    try go_wp2_with (first | ((with_reducible refine gate_builtin (b := .append) (xs := #[.tmp 30, .tmp 33]) rfl ?_); at_builtin; refine Kd.R_append (Kd.int .i64) (w0 := w) w.heap.size rfl (.tmp 30) (.tmp 33) 37 3 (.int .i64 0) 8 rfl Try.underlying37 info3 rfl (by decide) (by omega) u9 x9_1 t124 [.int .i64 t124] (fun _ => True) (fun _ => False) rfl (by first | (go_simp; done) | (go_simp; rfl)) ?aP (fun _ hk => hk.elim) ?aF ?aO ?aB ?aS ?aL ?_; (case aP => exact rfl); (case aB => exact (sbw)); (case aF => exact (fun _ _ => trivial)); (case aO => exact (by (with_reducible repeat (first | apply Kd.R_alloc | apply Kd.R_drewN | apply Kd.R_drew)); exact Kd.R_mono (Kd.R_far (p := ⟨gb118, 5, none⟩) (Kd.R_far (p := ⟨gb118, 4, none⟩) (Kd.R_far (p := ⟨gb118, 3, none⟩) (Kd.R_far (p := ⟨gb118, 2, none⟩) (Kd.R_far (p := ⟨gb118, 1, none⟩) (Kd.R_far (p := ⟨gb118, 0, none⟩) (Kd.R_types HO_9.out BK118.out (by decide)) (fun _ hk => hk.2) (.int .i64 t124)) (fun _ hk => hk.2) (.int .i64 t125)) (fun _ hk => hk.2) (.int .i64 t126)) (fun _ hk => hk.2) (.int .i64 t127)) (fun _ hk => hk.2) (.int .i64 t128)) (fun _ hk => hk.2) (.int .i64 t129)) (fun _ hk => trivial))); (case aS => exact (below_size (sbw))); (case aL => have := LMc14.out; omega); intro v131 w25 ho hb hg hat; rw [← Ny130.out] at ho; replace BK118 := Aside0.mk (blk_grown (g := gb118) (o := .cells #[.int .i64 t124, .int .i64 t125, .int .i64 t126, .int .i64 t127, .int .i64 t128, .int .i64 t129] 27 (0, 0)) (sp BK118) hg (Kd.R_ne HO_9.out BK118.out (by decide))); replace HB := Aside0.mk hb; have HO132 := Aside0.mk ho; clear HO_9; clear ho hb hg hat))
    go_roundg k1
    case measure => have := HK1.out; omega
    case rel => exact ⟨(y130), (wrap64 (x17_1 + 1)), (t124), (t125), (t126), (t127), (t128), (t129), sc, H', kk1, ⟨sr HO132⟩, ⟨sk BK118⟩, ⟨sbw⟩⟩
   ·have c9b0 := decide_eq_false c9
    clear c9
    obtain rfl := Option.some.inj H
    go_wp2
    go_ret
    exact ⟨_, se, sr HO_9, sbw⟩

/-! ### slices_Min_int_int: function 92 -/
def slices_Min_int_int.f (l0 : List Int) : Option Int := if 0 < l0.length then (if l0.length ≤ 4611686018427387904 then some ((l0.drop 1).foldl mn (rd l0 0)) else none) else none
set_option maxHeartbeats 8000000 in
set_option maxRecDepth 100000 in
theorem slices_Min_int_int.calls (A0 : Option Addr) (c0 : Nat) (l0 : List Int) (r : Int) (w : World) (hr0 : Kd.C (Kd.int .i64) w A0 l0.length l0) (hc0 : l0.length ≤ c0) (h : slices_Min_int_int.f l0 = some r) :
    Calls Try.prog 92 #[.slice A0 l0.length c0] w fun e w' => e = .returned (.int .i64 r) ∧ Drawn0 w w' := by
 unfold slices_Min_int_int.f at h
 by_cases h0 : 0 < l0.length
 rotate_left
 ·rw [if_neg h0] at h
  cases h
 rw [if_pos h0] at h
 by_cases hm : l0.length ≤ 4611686018427387904
 rotate_left
 ·rw [if_neg hm] at h
  cases h
 rw [if_pos hm] at h
 obtain rfl := Option.some.inj h
 obtain ⟨v, hv⟩ : ∃ v, (l0.drop 1).foldl mn (rd l0 0) = v := ⟨_, rfl⟩
 rw [hv]
 obtain ⟨ad, e0, hx0⟩ := Kd.at_int hr0 0 (by omega) (by omega)
 cases e0
 have hx1 : w.cell? (ad.add 0) = some (.int .i64 (rd l0 0)) := hx0
 have hx2 : w.cell? ad = some (.int .i64 (rd l0 0)) := hx0
 have hn : ¬ ((l0.length : Int) < 1) := by omega
 have hp : (0 : Int) < (l0.length : Int) := by omega
 go_enter Try.func92, Try.ntmps92
 go_wp2
 clear hx0 hx1 hx2
 go_loopg [3, 4] l0.length (fun gg s3 s4 wr => ∃ (m i : Int), 1 ≤ i ∧ i ≤ (l0.length : Int) ∧ (l0.length : Int) - i ≤ gg ∧ s3 = .int .i64 m ∧ s4 = .int .i64 i ∧ wr = w ∧ Aside0 ((l0.drop i.toNat).foldl mn m = v))
 case atStart => exact ⟨rd l0 0, 1, by omega, by omega, by omega, rfl, rfl, rfl, ⟨hv⟩⟩
 case round =>
  obtain ⟨m, i, hi0, hi1, hg, rfl, rfl, rfl, HI⟩ := hrel
  by_cases hlt2 : i < (l0.length : Int)
  ·obtain ⟨ad2, e2, hx⟩ := Kd.at_int hr0 i (by omega) hlt2
   cases e2
   have hi00 : 0 ≤ i := by omega
   have hd : l0.drop i.toNat = rd l0 i :: l0.drop (i.toNat + 1) := by
    have hlt3 : i.toNat < l0.length := by omega
    rw [List.drop_eq_getElem_cons hlt3, show rd l0 i = l0.getD i.toNat 0 from rfl, List.getD_eq_getElem?_getD, List.getElem?_eq_getElem hlt3]
    rfl
   by_cases hmn : rd l0 i < m
   ·skip
    go_wp2
    go_roundg (l0.length - (i.toNat + 1))
    case measure => omega
    case rel =>
     refine ⟨rd l0 i, i + 1, by omega, by omega, by omega, rfl, by go_num, rfl, ⟨?_⟩⟩
     rw [← HI.out, hd, List.foldl_cons, show mn m (rd l0 i) = rd l0 i from if_pos (by omega), show (i + 1).toNat = i.toNat + 1 by omega]
   ·have hmn2 : m ≤ rd l0 i := by omega
    go_wp2
    go_roundg (l0.length - (i.toNat + 1))
    case measure => omega
    case rel =>
     refine ⟨m, i + 1, by omega, by omega, by omega, rfl, by go_num, rfl, ⟨?_⟩⟩
     rw [← HI.out, hd, List.foldl_cons, show mn m (rd l0 i) = m from if_neg (by omega), show (i + 1).toNat = i.toNat + 1 by omega]
  ·have : i = (l0.length : Int) := by omega
   subst this
   go_wp2
   go_ret
   refine ⟨?_, Drawn0.refl _⟩
   rw [← HI.out, Int.toNat_natCast, List.drop_length]
   rfl

end Go.Proofs.Ytaciciobhfoglaa.QFnForecasts
