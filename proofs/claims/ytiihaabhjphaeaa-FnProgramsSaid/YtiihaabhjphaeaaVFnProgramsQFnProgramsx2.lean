/- Printed by a program of the session. Conditions: none. (squeezed). -/
import Derived.Test.YtiihaabhjphaeaaVFnProgramsShelf
import Derived.Test.YtiihaabhjphaeaaVFnProgramsQFnProgramsx0
namespace Go.Proofs.Ytiihaabhjphaeaa.QFnPrograms
set_option maxHeartbeats 8000000
set_option maxRecDepth 100000
open Go.RowKit Go.Proofs.YtiihaabhjphaeaaW.PrintWords Go.Proofs.YtiihaabhjphaeaaW.PrintLast Go.Proofs.YtiihaabhjphaeaaW.PrintMore Go.Proofs.Ytiihaabhjphaeaa.Open Go.Proofs.Ytiihaabhjphaeaa.Sq
attribute [local go_sem] max2_int min2_int max_two min_two max_three min_three max_four min_four   -- for this text's walks alone
attribute [local go_sem] isSome_set
set_option linter.unusedVariables false
set_option linter.unusedSimpArgs false

def laws_big.f (l0 : List Int) : Option (Bool) := some (decide ((l0.length : Int) > 1048576))
theorem laws_big.calls (A0 : Option Addr) (c0 : Nat) (l0 : List Int) (r : Bool) (w : World) (hr0 : Kd.C (Kd.int .u8) w A0 l0.length l0) (hc0 : l0.length ≤ c0) (h : laws_big.f l0 = some r) :
    Calls Try.prog 12 #[.slice A0 l0.length c0] w fun e w' => e = .returned (.bool r) ∧ Drawn0 w w' := by
 have HR0 := am hr0
 have HC0 := am hc0
 clear hr0 hc0
 have H := h; unfold laws_big.f at H
 clear h
 obtain rfl := Option.some.inj H
 go_enter Try.func12, Try.ntmps12
 go_wp2
 go_ret
 exact ⟨sc, sd⟩

def impl_IsSpan.f (a0_0 : Int) (a0_1 : Int) : Option (Bool) := if a0_0 ≥ 0 then (if a0_1 ≤ 1000 then (some (decide (a0_0 < a0_1))) else (some false)) else (some false)
theorem impl_IsSpan.calls (a0_0 : Int) (a0_1 : Int) (r : Bool) (w : World) (h : impl_IsSpan.f a0_0 a0_1 = some r) :
    Calls Try.prog 79 #[.agg #[.int .i64 a0_0, .int .i64 a0_1]] w fun e w' => e = .returned (.bool r) ∧ Below w.heap.size w w' := by
 have hu102 := Try.underlying102
 have HB := am (Below.refl w.heap.size w)
 have H := h; unfold impl_IsSpan.f at H
 clear h
 obtain ⟨c2, H⟩ | ⟨c2, H⟩ := ie_ H
 ·have c2b0 := decide_eq_true c2
  clear c2
  obtain ⟨c3, H⟩ | ⟨c3, H⟩ := ie_ H
  ·have c3b0 := decide_eq_true c3
   clear c3
   obtain rfl := Option.some.inj H
   go_enter Try.func79, Try.ntmps79
   go_wp2_with (first | ((with_reducible refine gd 1 rfl ?_); refine bx 1 #[.int .i64 a0_0, .int .i64 a0_1] 102 ?_; intro gb101 hg w4 hbox hb; have GW101 := bz w hg; have GE101 := bz w hg; replace HB := bs hb; have BK101 := am hbox; clear hb hbox hg; obtain ⟨hcz5_0, hcz5_1, hfz5_0, hfz5_1⟩ := cc2 BK101))
   go_ret
   exact ⟨se, sbw⟩
  ·have c3b0 := decide_eq_false c3
   clear c3
   obtain rfl := Option.some.inj H
   go_enter Try.func79, Try.ntmps79
   go_wp2_with (first | ((with_reducible refine gd 1 rfl ?_); refine bx 1 #[.int .i64 a0_0, .int .i64 a0_1] 102 ?_; intro gb101 hg w6 hbox hb; have GW101 := bz w hg; have GE101 := bz w hg; replace HB := bs hb; have BK101 := am hbox; clear hb hbox hg; obtain ⟨hcz7_0, hcz7_1, hfz7_0, hfz7_1⟩ := cc2 BK101))
   go_ret
   exact ⟨se, sbw⟩
 ·have c2b0 := decide_eq_false c2
  clear c2
  obtain rfl := Option.some.inj H
  go_enter Try.func79, Try.ntmps79
  go_wp2_with (first | ((with_reducible refine gd 1 rfl ?_); refine bx 1 #[.int .i64 a0_0, .int .i64 a0_1] 102 ?_; intro gb101 hg w8 hbox hb; have GW101 := bz w hg; have GE101 := bz w hg; replace HB := bs hb; have BK101 := am hbox; clear hb hbox hg; obtain ⟨hcz9_0, hcz9_1, hfz9_0, hfz9_1⟩ := cc2 BK101))
  go_ret
  exact ⟨se, sbw⟩

def impl_InRange.f (a0 : Int) (a1 : Int) (a2 : Int) : Option (Bool) := if a1 ≤ a0 then (some (decide (a0 ≤ a2))) else (some false)
theorem impl_InRange.calls (a0 : Int) (a1 : Int) (a2 : Int) (r : Bool) (w : World) (h : impl_InRange.f a0 a1 a2 = some r) :
    Calls Try.prog 95 #[.int .i64 a0, .int .i64 a1, .int .i64 a2] w fun e w' => e = .returned (.bool r) ∧ Drawn0 w w' := by
 have H := h; unfold impl_InRange.f at H
 clear h
 obtain ⟨c4, H⟩ | ⟨c4, H⟩ := ie_ H
 ·have c4b0 := decide_eq_true c4
  clear c4
  obtain rfl := Option.some.inj H
  go_enter Try.func95, Try.ntmps95
  go_wp2
  go_ret
  exact ⟨sc, sd⟩
 ·have c4b0 := decide_eq_false c4
  clear c4
  obtain rfl := Option.some.inj H
  go_enter Try.func95, Try.ntmps95
  go_wp2
  go_ret
  exact ⟨sc, sd⟩

def impl_isNumber.f (a0 : Int) : Option (Bool) := (impl_InRange.f a0 1 12).bind fun t102 => (some t102)
theorem impl_isNumber.calls (a0 : Int) (r : Bool) (w : World) (h : impl_isNumber.f a0 = some r) :
    Calls Try.prog 120 #[.int .i64 a0] w fun e w' => e = .returned (.bool r) ∧ Drawn0 w w' := by
 have H := h; unfold impl_isNumber.f at H
 clear h
 obtain ⟨t102, A2, H⟩ := bnd H
 obtain rfl := Option.some.inj H
 go_enter Try.func120, Try.ntmps120
 go_wp2_with (first | ((with_reducible refine gc 95 rfl ?_); refine gL (some 4) Try.func95 #[.int .i64 a0, .int .i64 1, .int .i64 12] ?_; (with_reducible refine (impl_InRange.calls a0 1 12 t102 _ A2.out).mono ?_); rintro e w' ⟨rfl, ⟨nd, rfl⟩⟩; refine ⟨_, rfl, ?_⟩))
 go_ret
 exact ⟨sc, sd⟩

def impl_isFrame.f (a0 : Int) (a1 : Int) (a2 : Int) : Option (Bool) := (impl_isNumber.f a0).bind fun t103 => (if t103 = true then ((impl_InRange.f a1 0 a0).bind fun t104 => (if t104 = true then ((impl_InRange.f a2 0 5).bind fun t105 => (some t105)) else (some false))) else (some false))
theorem impl_isFrame.calls (a0 : Int) (a1 : Int) (a2 : Int) (r : Bool) (w : World) (h : impl_isFrame.f a0 a1 a2 = some r) :
    Calls Try.prog 94 #[.int .i64 a0, .int .i64 a1, .int .i64 a2] w fun e w' => e = .returned (.bool r) ∧ Drawn0 w w' := by
 have H := h; unfold impl_isFrame.f at H
 clear h
 obtain ⟨t103, A4, H⟩ := bnd H
 obtain rfl | rfl := tt t103
 ·replace H := ip H
  obtain ⟨t104, A6, H⟩ := bnd H
  obtain rfl | rfl := tt t104
  ·replace H := ip H
   obtain ⟨t105, A8, H⟩ := bnd H
   obtain rfl := Option.some.inj H
   go_enter Try.func94, Try.ntmps94
   go_wp2_with (first | ((with_reducible refine gc 120 rfl ?_); refine gL (some 8) Try.func120 #[.int .i64 a0] ?_; (with_reducible refine (impl_isNumber.calls a0 true _ A4.out).mono ?_); rintro e w' ⟨rfl, ⟨nd, rfl⟩⟩; refine ⟨_, rfl, ?_⟩) | (go_at_call 95; (with_reducible refine (impl_InRange.calls a1 0 a0 true _ A6.out).mono ?_); rintro e w' ⟨rfl, ⟨nd, rfl⟩⟩) | (go_at_call 95; (with_reducible refine (impl_InRange.calls a2 0 5 t105 _ A8.out).mono ?_); rintro e w' ⟨rfl, ⟨nd, rfl⟩⟩))
   go_ret
   exact ⟨sc, sd⟩
  ·replace H := im H
   obtain rfl := Option.some.inj H
   go_enter Try.func94, Try.ntmps94
   go_wp2_with (first | ((with_reducible refine gc 120 rfl ?_); refine gL (some 8) Try.func120 #[.int .i64 a0] ?_; (with_reducible refine (impl_isNumber.calls a0 true _ A4.out).mono ?_); rintro e w' ⟨rfl, ⟨nd, rfl⟩⟩; refine ⟨_, rfl, ?_⟩) | (go_at_call 95; (with_reducible refine (impl_InRange.calls a1 0 a0 false _ A6.out).mono ?_); rintro e w' ⟨rfl, ⟨nd, rfl⟩⟩))
   go_ret
   exact ⟨sc, sd⟩
 ·replace H := im H
  obtain rfl := Option.some.inj H
  go_enter Try.func94, Try.ntmps94
  go_wp2_with (first | ((with_reducible refine gc 120 rfl ?_); refine gL (some 8) Try.func120 #[.int .i64 a0] ?_; (with_reducible refine (impl_isNumber.calls a0 false _ A4.out).mono ?_); rintro e w' ⟨rfl, ⟨nd, rfl⟩⟩; refine ⟨_, rfl, ?_⟩))
  go_ret
  exact ⟨sc, sd⟩

def slices_Equal_int_int.l0 : Nat → List Int → List Int → Int → Int → Option (Bool)
  | 0, _, _, _, _ => none
  | k + 1, x0, x1, x12, x13 => if x13 < x12 then (if 0 ≤ x13 then (if x13 < (x0.length : Int) then (if x13 < (x1.length : Int) then (if (rd x0 x13) = (rd x1 x13) then (slices_Equal_int_int.l0 k x0 x1 x12 (wrap64 (x13 + 1))) else (some false)) else (none)) else (none)) else (none)) else (some true)
def slices_Equal_int_int.f (k : Nat) (l0 : List Int) (l1 : List Int) : Option (Bool) := if (l0.length : Int) = (l1.length : Int) then (slices_Equal_int_int.l0 k l0 l1 (l0.length : Int) 0) else (some false)
theorem slices_Equal_int_int.mono_l : ∀ k, (∀ y0 y1 y2 y3, LeO (slices_Equal_int_int.l0 k y0 y1 y2 y3) (slices_Equal_int_int.l0 (k + 1) y0 y1 y2 y3))
  | 0 => fun _ _ _ _ r h => by simp [slices_Equal_int_int.l0] at h
  | k + 1 => by
    have ih0 := slices_Equal_int_int.mono_l k
    · intro y0 y1 y2 y3
      unfold slices_Equal_int_int.l0
      exact mo
theorem slices_Equal_int_int.mono : ∀ a0 a1 k, LeO (slices_Equal_int_int.f k a0 a1) (slices_Equal_int_int.f (k + 1) a0 a1) := by
  intro a0 a1 k
  have ih0 := slices_Equal_int_int.mono_l k
  unfold slices_Equal_int_int.f
  exact mo
theorem slices_Equal_int_int.calls (k : Nat) (A0 : Option Addr) (c0 : Nat) (l0 : List Int) (A1 : Option Addr) (c1 : Nat) (l1 : List Int) (r : Bool) (w : World) (hr0 : Kd.C (Kd.int .i64) w A0 l0.length l0) (hc0 : l0.length ≤ c0) (hr1 : Kd.C (Kd.int .i64) w A1 l1.length l1) (hc1 : l1.length ≤ c1) (h : slices_Equal_int_int.f k l0 l1 = some r) :
    Calls Try.prog 145 #[.slice A0 l0.length c0, .slice A1 l1.length c1] w fun e w' => e = .returned (.bool r) ∧ Drawn0 w w' := by
 have HR0 := am hr0
 have HC0 := am hc0
 clear hr0 hc0
 have HR1 := am hr1
 have HC1 := am hc1
 clear hr1 hc1
 have H := h; unfold slices_Equal_int_int.f at H
 clear h
 obtain ⟨c3, H⟩ | ⟨c3, H⟩ := ie_ H
 ·have c3b0 : ((l0.length : Int) == (l1.length : Int)) = true := beq_iff_eq.mpr c3
  have c3b1 : ((l0.length : Int) != (l1.length : Int)) = false := bne_eq_false_iff_eq.mpr c3
  have c3b2 : (l0.length == l1.length) = true := by first | simpa using c3 | (simp at c3 ⊢; omega)
  clear c3
  have H' := am H
  clear H
  go_enter Try.func145, Try.ntmps145
  go_wp2
  repeat (go_quiet (fail); try go_wp2)
  go_loopg [13] k (fun kq v13 w' => ∃ (x13_1 : Int), v13 = .int .i64 x13_1 ∧ Aside0 (slices_Equal_int_int.l0 kq l0 l1 (l0.length : Int) x13_1 = some r) ∧ Aside0 (kq ≤ k) ∧ Drawn0 w w')
  case atStart => exact ⟨(0), sc, H', kk0, sd⟩
  case round =>
   clear H'
   try clear c3
   try clear c3b0
   try clear c3b1
   try clear c3b2
   obtain ⟨x13_1, rfl, HA, HK1, ⟨m1, rfl⟩⟩ := hrel
   cases gk with
   | zero => exact absurd HA.out (by simp [slices_Equal_int_int.l0])
   | succ k1 =>
    have H := HA.out
    clear HA
    simp only [slices_Equal_int_int.l0] at H
    obtain ⟨c4, H⟩ | ⟨c4, H⟩ := ie_ H
    ·have c4b0 := decide_eq_true c4
     clear c4
     obtain ⟨c5b0, H⟩ := id_ H
     obtain ⟨c6b0, H⟩ := id_ H
     obtain ⟨c7b0, H⟩ := id_ H
     obtain ⟨c8, H⟩ | ⟨c8, H⟩ := ie_ H
     ·have c8b0 : ((rd l0 x13_1) == (rd l1 x13_1)) = true := beq_iff_eq.mpr c8
      have c8b1 : ((rd l0 x13_1) != (rd l1 x13_1)) = false := bne_eq_false_iff_eq.mpr c8
      clear c8
      have H' := am H
      clear H
      have p106 : 0 ≤ (x13_1 : Int) := sa
      have q106 : x13_1 < (l0.length : Int) := sa
      obtain ⟨ad106, e106, hx106_0⟩ := Kd.at_int HR0.out x13_1 p106 q106
      cases e106
      replace p106 := eq_true p106
      replace q106 := eq_true q106
      have p107 : 0 ≤ (x13_1 : Int) := sa
      have q107 : x13_1 < (l1.length : Int) := sa
      obtain ⟨ad107, e107, hx107_0⟩ := Kd.at_int HR1.out x13_1 p107 q107
      cases e107
      replace p107 := eq_true p107
      replace q107 := eq_true q107
      go_wp2
      repeat (go_quiet (fail); try go_wp2)
      go_roundg k1
      case measure => have := HK1.out; omega
      case rel => exact ⟨(wrap64 (x13_1 + 1)), sc, H', kk1, sd⟩
     ·have c8b0 : ((rd l0 x13_1) == (rd l1 x13_1)) = false := beq_eq_false_iff_ne.mpr c8
      have c8b1 : ((rd l0 x13_1) != (rd l1 x13_1)) = true := bne_iff_ne.mpr c8
      obtain rfl := Option.some.inj H
      have p106 : 0 ≤ (x13_1 : Int) := sa
      have q106 : x13_1 < (l0.length : Int) := sa
      obtain ⟨ad106, e106, hx106_0⟩ := Kd.at_int HR0.out x13_1 p106 q106
      cases e106
      replace p106 := eq_true p106
      replace q106 := eq_true q106
      have p107 : 0 ≤ (x13_1 : Int) := sa
      have q107 : x13_1 < (l1.length : Int) := sa
      obtain ⟨ad107, e107, hx107_0⟩ := Kd.at_int HR1.out x13_1 p107 q107
      cases e107
      replace p107 := eq_true p107
      replace q107 := eq_true q107
      go_wp2
      repeat (go_quiet (fail); try go_wp2)
      go_ret
      exact ⟨sc, sd⟩
    ·have c4b0 := decide_eq_false c4
     clear c4
     obtain rfl := Option.some.inj H
     go_wp2
     repeat (go_quiet (fail); try go_wp2)
     go_ret
     exact ⟨sc, sd⟩
 ·have c3b0 : ((l0.length : Int) == (l1.length : Int)) = false := beq_eq_false_iff_ne.mpr c3
  have c3b1 : ((l0.length : Int) != (l1.length : Int)) = true := bne_iff_ne.mpr c3
  have c3b2 : (l0.length == l1.length) = false := by first | simpa using c3 | (simp at c3 ⊢; omega)
  obtain rfl := Option.some.inj H
  go_enter Try.func145, Try.ntmps145
  go_wp2
  repeat (go_quiet (fail); try go_wp2)
  go_ret
  exact ⟨sc, sd⟩

def impl_EqualTables.f (k : Nat) (a0_0 : Int) (l0_1 : List Int) (l0_2 : List Int) (a1_0 : Int) (l1_1 : List Int) (l1_2 : List Int) : Option (Bool) := if a0_0 = a1_0 then ((slices_Equal_int_int.f k l0_1 l1_1).bind fun t110 => (if t110 = true then ((slices_Equal_int_int.f k l0_2 l1_2).bind fun t111 => (some t111)) else (some false))) else (some false)
theorem impl_EqualTables.mono : ∀ a0 a1 a2 a3 a4 a5 k, LeO (impl_EqualTables.f k a0 a1 a2 a3 a4 a5) (impl_EqualTables.f (k + 1) a0 a1 a2 a3 a4 a5) := by
  intro a0 a1 a2 a3 a4 a5 k
  unfold impl_EqualTables.f
  have m0 := @slices_Equal_int_int.mono
  exact mo
theorem impl_EqualTables.calls (k : Nat) (a0_0 : Int) (A0_1 : Option Addr) (c0_1 : Nat) (l0_1 : List Int) (A0_2 : Option Addr) (c0_2 : Nat) (l0_2 : List Int) (a1_0 : Int) (A1_1 : Option Addr) (c1_1 : Nat) (l1_1 : List Int) (A1_2 : Option Addr) (c1_2 : Nat) (l1_2 : List Int) (r : Bool) (w : World) (hr0_1 : Kd.C (Kd.int .i64) w A0_1 l0_1.length l0_1) (hc0_1 : l0_1.length ≤ c0_1) (hr0_2 : Kd.C (Kd.int .i64) w A0_2 l0_2.length l0_2) (hc0_2 : l0_2.length ≤ c0_2) (hr1_1 : Kd.C (Kd.int .i64) w A1_1 l1_1.length l1_1) (hc1_1 : l1_1.length ≤ c1_1) (hr1_2 : Kd.C (Kd.int .i64) w A1_2 l1_2.length l1_2) (hc1_2 : l1_2.length ≤ c1_2) (h : impl_EqualTables.f k a0_0 l0_1 l0_2 a1_0 l1_1 l1_2 = some r) :
    Calls Try.prog 98 #[.agg #[.int .i64 a0_0, .slice A0_1 l0_1.length c0_1, .slice A0_2 l0_2.length c0_2], .agg #[.int .i64 a1_0, .slice A1_1 l1_1.length c1_1, .slice A1_2 l1_2.length c1_2]] w fun e w' => e = .returned (.bool r) ∧ Below w.heap.size w w' := by
 have hu55 := Try.underlying55
 have HR0_1 := am hr0_1
 have HC0_1 := am hc0_1
 clear hr0_1 hc0_1
 have HR0_2 := am hr0_2
 have HC0_2 := am hc0_2
 clear hr0_2 hc0_2
 have HR1_1 := am hr1_1
 have HC1_1 := am hc1_1
 clear hr1_1 hc1_1
 have HR1_2 := am hr1_2
 have HC1_2 := am hc1_2
 clear hr1_2 hc1_2
 have HB := am (Below.refl w.heap.size w)
 have H := h; unfold impl_EqualTables.f at H
 clear h
 obtain ⟨c3, H⟩ | ⟨c3, H⟩ := ie_ H
 ·have c3b0 : (a0_0 == a1_0) = true := beq_iff_eq.mpr c3
  have c3b1 : (a0_0 != a1_0) = false := bne_eq_false_iff_eq.mpr c3
  clear c3
  obtain ⟨t110, A4, H⟩ := bnd H
  obtain rfl | rfl := tt t110
  ·replace H := ip H
   obtain ⟨t111, A6, H⟩ := bnd H
   obtain rfl := Option.some.inj H
   go_enter Try.func98, Try.ntmps98
   go_wp2_with (first | ((with_reducible refine gd 2 rfl ?_); refine bx 2 #[.int .i64 a0_0, .slice A0_1 l0_1.length c0_1, .slice A0_2 l0_2.length c0_2] 55 ?_; intro gb108 hg w7 hbox hb; have GW108 := bz w hg; have GE108 := bz w hg; replace HB := bs hb; have BK108 := am hbox; clear hb hbox hg) | ((with_reducible refine gd 3 rfl ?_); refine bx 3 #[.int .i64 a1_0, .slice A1_1 l1_1.length c1_1, .slice A1_2 l1_2.length c1_2] 55 ?_; intro gb109 hg w8 hbox hb; have GW109 := bzw w hg; have GE109 := bzw w hg; replace HB := bsw hb; have BK109 := am hbox; have NB108_109 := nl BK108 hg; have NB109_108 := ng BK108 hg; replace BK108 := bb BK108 hb; clear hb hbox hg; have hnb9 := NB108_109.out; have hnc9 := NB109_108.out; obtain ⟨hcz10_0, hcz10_1, hcz10_2, hfz10_0, hfz10_1, hfz10_2⟩ := cc3 BK108; obtain ⟨hcz11_0, hcz11_1, hcz11_2, hfz11_0, hfz11_1, hfz11_2⟩ := cc3 BK109) | (go_at_call 145; (with_reducible refine (slices_Equal_int_int.calls k _ _ l0_1 _ _ l1_1 true _ ?side1 ?side2 ?side3 ?side4 A4.out).mono ?_); (case side1 => exact cb HR0_1); (case side2 => exact HC0_1.out); (case side3 => exact cb HR1_1); (case side4 => exact HC1_1.out); rintro e w' ⟨rfl, ⟨nd, rfl⟩⟩) | (go_at_call 145; (with_reducible refine (slices_Equal_int_int.calls k _ _ l0_2 _ _ l1_2 t111 _ ?side1 ?side2 ?side3 ?side4 A6.out).mono ?_); (case side1 => exact cbw HR0_2); (case side2 => exact HC0_2.out); (case side3 => exact cbw HR1_2); (case side4 => exact HC1_2.out); rintro e w' ⟨rfl, ⟨nd, rfl⟩⟩))
   go_ret
   exact ⟨se, sbw⟩
  ·replace H := im H
   obtain rfl := Option.some.inj H
   go_enter Try.func98, Try.ntmps98
   go_wp2_with (first | ((with_reducible refine gd 2 rfl ?_); refine bx 2 #[.int .i64 a0_0, .slice A0_1 l0_1.length c0_1, .slice A0_2 l0_2.length c0_2] 55 ?_; intro gb108 hg w12 hbox hb; have GW108 := bz w hg; have GE108 := bz w hg; replace HB := bs hb; have BK108 := am hbox; clear hb hbox hg) | ((with_reducible refine gd 3 rfl ?_); refine bx 3 #[.int .i64 a1_0, .slice A1_1 l1_1.length c1_1, .slice A1_2 l1_2.length c1_2] 55 ?_; intro gb109 hg w13 hbox hb; have GW109 := bzw w hg; have GE109 := bzw w hg; replace HB := bsw hb; have BK109 := am hbox; have NB108_109 := nl BK108 hg; have NB109_108 := ng BK108 hg; replace BK108 := bb BK108 hb; clear hb hbox hg; have hnb14 := NB108_109.out; have hnc14 := NB109_108.out; obtain ⟨hcz15_0, hcz15_1, hcz15_2, hfz15_0, hfz15_1, hfz15_2⟩ := cc3 BK108; obtain ⟨hcz16_0, hcz16_1, hcz16_2, hfz16_0, hfz16_1, hfz16_2⟩ := cc3 BK109) | (go_at_call 145; (with_reducible refine (slices_Equal_int_int.calls k _ _ l0_1 _ _ l1_1 false _ ?side1 ?side2 ?side3 ?side4 A4.out).mono ?_); (case side1 => exact cb HR0_1); (case side2 => exact HC0_1.out); (case side3 => exact cb HR1_1); (case side4 => exact HC1_1.out); rintro e w' ⟨rfl, ⟨nd, rfl⟩⟩))
   go_ret
   exact ⟨se, sbw⟩
 ·have c3b0 : (a0_0 == a1_0) = false := beq_eq_false_iff_ne.mpr c3
  have c3b1 : (a0_0 != a1_0) = true := bne_iff_ne.mpr c3
  obtain rfl := Option.some.inj H
  go_enter Try.func98, Try.ntmps98
  go_wp2_with (first | ((with_reducible refine gd 2 rfl ?_); refine bx 2 #[.int .i64 a0_0, .slice A0_1 l0_1.length c0_1, .slice A0_2 l0_2.length c0_2] 55 ?_; intro gb108 hg w17 hbox hb; have GW108 := bz w hg; have GE108 := bz w hg; replace HB := bs hb; have BK108 := am hbox; clear hb hbox hg) | ((with_reducible refine gd 3 rfl ?_); refine bx 3 #[.int .i64 a1_0, .slice A1_1 l1_1.length c1_1, .slice A1_2 l1_2.length c1_2] 55 ?_; intro gb109 hg w18 hbox hb; have GW109 := bzw w hg; have GE109 := bzw w hg; replace HB := bsw hb; have BK109 := am hbox; have NB108_109 := nl BK108 hg; have NB109_108 := ng BK108 hg; replace BK108 := bb BK108 hb; clear hb hbox hg; have hnb19 := NB108_109.out; have hnc19 := NB109_108.out; obtain ⟨hcz20_0, hcz20_1, hcz20_2, hfz20_0, hfz20_1, hfz20_2⟩ := cc3 BK108; obtain ⟨hcz21_0, hcz21_1, hcz21_2, hfz21_0, hfz21_1, hfz21_2⟩ := cc3 BK109))
  go_ret
  exact ⟨se, sbw⟩

def impl_Table.l0 : Nat → List (S55) → List (S55) → Int → Int → Option (Bool)
  | 0, _, _, _, _ => none
  | k + 1, x1, x15, x16, x17 => if x17 < x16 then (if 0 ≤ x17 then (if x17 < (x15.length : Int) then (if x17 < (x1.length : Int) then ((impl_EqualTables.f k ((rd_T55 x15 x17).f0) ((rd_T55 x15 x17).f1) ((rd_T55 x15 x17).f2) ((rd_T55 x1 x17).f0) ((rd_T55 x1 x17).f1) ((rd_T55 x1 x17).f2)).bind fun t116 => (if t116 = true then (impl_Table.l0 k x1 x15 x16 (wrap64 (x17 + 1))) else (some false))) else (none)) else (none)) else (none)) else (some true)
def impl_Table.f (k : Nat) (l0 : List (S55)) (l1 : List (S55)) (a2 : Int) : Option (Bool) := if (l0.length : Int) = (l1.length : Int) then (impl_Table.l0 k l1 l0 (l0.length : Int) 0) else (some false)
theorem impl_Table.mono_l : ∀ k, (∀ y0 y1 y2 y3, LeO (impl_Table.l0 k y0 y1 y2 y3) (impl_Table.l0 (k + 1) y0 y1 y2 y3))
  | 0 => fun _ _ _ _ r h => by simp [impl_Table.l0] at h
  | k + 1 => by
    have ih0 := impl_Table.mono_l k
    · intro y0 y1 y2 y3
      unfold impl_Table.l0
      have m0 := @impl_EqualTables.mono
      exact mo
theorem impl_Table.mono : ∀ a0 a1 a2 k, LeO (impl_Table.f k a0 a1 a2) (impl_Table.f (k + 1) a0 a1 a2) := by
  intro a0 a1 a2 k
  have ih0 := impl_Table.mono_l k
  unfold impl_Table.f
  have m0 := @impl_EqualTables.mono
  exact mo
theorem impl_Table.calls (k : Nat) (A0 : Option Addr) (c0 : Nat) (l0 : List (S55)) (A1 : Option Addr) (c1 : Nat) (l1 : List (S55)) (a2 : Int) (r : Bool) (w : World) (hr0 : Kd.C k55 w A0 l0.length l0) (hc0 : l0.length ≤ c0) (hr1 : Kd.C k55 w A1 l1.length l1) (hc1 : l1.length ≤ c1) (h : impl_Table.f k l0 l1 a2 = some r) :
    Calls Try.prog 96 #[.slice A0 l0.length c0, .slice A1 l1.length c1, .func (.func 98) #[] #[]] w fun e w' => e = .returned (.bool r) ∧ Below w.heap.size w w' := by
 have hu55 := Try.underlying55
 have HR0 := am hr0
 have HC0 := am hc0
 clear hr0 hc0
 have HR1 := am hr1
 have HC1 := am hc1
 clear hr1 hc1
 have HB := am (Below.refl w.heap.size w)
 have H := h; unfold impl_Table.f at H
 clear h
 obtain ⟨c4, H⟩ | ⟨c4, H⟩ := ie_ H
 ·have c4b0 : ((l0.length : Int) == (l1.length : Int)) = true := beq_iff_eq.mpr c4
  have c4b1 : ((l0.length : Int) != (l1.length : Int)) = false := bne_eq_false_iff_eq.mpr c4
  have c4b2 : (l0.length == l1.length) = true := by first | simpa using c4 | (simp at c4 ⊢; omega)
  clear c4
  have H' := am H
  clear H
  go_enter Try.func96, Try.ntmps96
  go_wp2
  go_loopg [17] k (fun kq v17 w' => ∃ (x17_1 : Int), v17 = .int .i64 x17_1 ∧ Aside0 (impl_Table.l0 kq l1 l0 (l0.length : Int) x17_1 = some r) ∧ Aside0 (kq ≤ k) ∧ Aside0 (Below w.heap.size w w'))
  case atStart => exact ⟨(0), sc, H', kk0, ⟨sb⟩⟩
  case round =>
   clear H'
   try clear c4
   try clear c4b0
   try clear c4b1
   try clear c4b2
   obtain ⟨x17_1, rfl, HA, HK1, HB⟩ := hrel
   cases gk with
   | zero => exact absurd HA.out (by simp [impl_Table.l0])
   | succ k1 =>
    have H := HA.out
    clear HA
    simp only [impl_Table.l0] at H
    obtain ⟨c5, H⟩ | ⟨c5, H⟩ := ie_ H
    ·have c5b0 := decide_eq_true c5
     clear c5
     obtain ⟨c6b0, H⟩ := id_ H
     obtain ⟨c7b0, H⟩ := id_ H
     obtain ⟨c8b0, H⟩ := id_ H
     obtain ⟨t116, A9, H⟩ := bnd H
     obtain rfl | rfl := tt t116
     ·replace H := ip H
      have H' := am H
      clear H
      obtain ⟨p112, q112, ad112, A112_1, c112_1, A112_2, c112_2, e112, _, _, _, hx112_0, hx112_1, hx112_2, HC112_1, HR112_1, HC112_2, HR112_2⟩ := aT_T55 HR0 HB x17_1
      cases e112
      go_wp2_with (first | ((with_reducible refine gd 8 rfl ?_); refine bx 8 #[.int .i64 0, .slice none 0 0, .slice none 0 0] 55 ?_; intro gb113 hg w11 hbox hb; have GW113 := bz w hg; have GE113 := bz w hg; replace HB := bs hb; have BK113 := am hbox; clear hb hbox hg; obtain ⟨hcz12_0, hcz12_1, hcz12_2, hfz12_0, hfz12_1, hfz12_2⟩ := cc3 BK113; have p114 : 0 ≤ (x17_1 : Int) := sa; have q114 : x17_1 < (l1.length : Int) := sa; obtain ⟨ad114, A114_1, c114_1, A114_2, c114_2, e114, hx114_0, hx114_1, hx114_2, hl114_1, hi114_1, hl114_2, hi114_2⟩ := at_T55 HR1.out x17_1 p114 q114; cases e114; have hn114_0 : ad114.block ≠ gb113 := Nat.ne_of_lt (Nat.lt_of_lt_of_le (bl hx114_0) GW113.out); have hn114_1 : ad114.block ≠ gb113 := Nat.ne_of_lt (Nat.lt_of_lt_of_le (bl hx114_0) GW113.out); have hn114_2 : ad114.block ≠ gb113 := Nat.ne_of_lt (Nat.lt_of_lt_of_le (bl hx114_0) GW113.out); replace hx114_0 := hb_ HB hx114_0; replace hx114_1 := hb_ HB hx114_1; replace hx114_2 := hb_ HB hx114_2; have HR114_1 := am hi114_1; have HC114_1 := am hl114_1; clear hi114_1 hl114_1; have HR114_2 := am hi114_2; have HC114_2 := am hl114_2; clear hi114_2 hl114_2; replace hx114_0 := (cell_far (p := ⟨gb113, 0, none⟩) (by first | (rw [add_block]; exact hn114_0) | exact hn114_0) (.int .i64 ((rd_T55 l0 x17_1).f0))).trans hx114_0; replace hx114_1 := (cell_far (p := ⟨gb113, 0, none⟩) (by first | (rw [add_block]; exact hn114_0) | exact hn114_0) (.int .i64 ((rd_T55 l0 x17_1).f0))).trans hx114_1; replace hx114_2 := (cell_far (p := ⟨gb113, 0, none⟩) (by first | (rw [add_block]; exact hn114_0) | exact hn114_0) (.int .i64 ((rd_T55 l0 x17_1).f0))).trans hx114_2; replace hx114_0 := (cell_far (p := ⟨gb113, 1, none⟩) (by first | (rw [add_block]; exact hn114_1) | exact hn114_1) (.slice A112_1 ((rd_T55 l0 x17_1).f1).length c112_1)).trans hx114_0; replace hx114_1 := (cell_far (p := ⟨gb113, 1, none⟩) (by first | (rw [add_block]; exact hn114_1) | exact hn114_1) (.slice A112_1 ((rd_T55 l0 x17_1).f1).length c112_1)).trans hx114_1; replace hx114_2 := (cell_far (p := ⟨gb113, 1, none⟩) (by first | (rw [add_block]; exact hn114_1) | exact hn114_1) (.slice A112_1 ((rd_T55 l0 x17_1).f1).length c112_1)).trans hx114_2; replace hx114_0 := (cell_far (p := ⟨gb113, 2, none⟩) (by first | (rw [add_block]; exact hn114_2) | exact hn114_2) (.slice A112_2 ((rd_T55 l0 x17_1).f2).length c112_2)).trans hx114_0; replace hx114_1 := (cell_far (p := ⟨gb113, 2, none⟩) (by first | (rw [add_block]; exact hn114_2) | exact hn114_2) (.slice A112_2 ((rd_T55 l0 x17_1).f2).length c112_2)).trans hx114_1; replace hx114_2 := (cell_far (p := ⟨gb113, 2, none⟩) (by first | (rw [add_block]; exact hn114_2) | exact hn114_2) (.slice A112_2 ((rd_T55 l0 x17_1).f2).length c112_2)).trans hx114_2; clear hn114_0; clear hn114_1; clear hn114_2; replace p114 := eq_true p114; replace q114 := eq_true q114) | ((with_reducible refine gd 9 rfl ?_); refine bx 9 #[.int .i64 0, .slice none 0 0, .slice none 0 0] 55 ?_; intro gb115 hg w13 hbox hb; have GW115 := bzw w hg; have GE115 := bzw w hg; replace HB := bsw hb; have BK115 := am hbox; have NB113_115 := am ((by rw [hg]; exact Nat.ne_of_lt (blk_lt (g := gb113) (o := .cells #[.int .i64 ((rd_T55 l0 x17_1).f0), .slice A112_1 ((rd_T55 l0 x17_1).f1).length c112_1, .slice A112_2 ((rd_T55 l0 x17_1).f2).length c112_2] 55 (0, 0)) (sp BK113)) : gb113 ≠ gb115)); have NB115_113 := am ((by rw [hg]; exact Nat.ne_of_gt (blk_lt (g := gb113) (o := .cells #[.int .i64 ((rd_T55 l0 x17_1).f0), .slice A112_1 ((rd_T55 l0 x17_1).f1).length c112_1, .slice A112_2 ((rd_T55 l0 x17_1).f2).length c112_2] 55 (0, 0)) (sp BK113)) : gb115 ≠ gb113)); replace BK113 := am (blk_below (g := gb113) (o := .cells #[.int .i64 ((rd_T55 l0 x17_1).f0), .slice A112_1 ((rd_T55 l0 x17_1).f1).length c112_1, .slice A112_2 ((rd_T55 l0 x17_1).f2).length c112_2] 55 (0, 0)) (sp BK113) hb); clear hb hbox hg; have hnb14 := NB115_113.out; have hnc14 := NB113_115.out; obtain ⟨hcz15_0, hcz15_1, hcz15_2, hfz15_0, hfz15_1, hfz15_2⟩ := cc3 BK115; obtain ⟨hcz16_0, hcz16_1, hcz16_2, hfz16_0, hfz16_1, hfz16_2⟩ := cc3 BK113) | (go_at_call 98; (refine (impl_EqualTables.calls k1 ((rd_T55 l0 x17_1).f0) _ _ ((rd_T55 l0 x17_1).f1) _ _ ((rd_T55 l0 x17_1).f2) ((rd_T55 l1 x17_1).f0) _ _ ((rd_T55 l1 x17_1).f1) _ _ ((rd_T55 l1 x17_1).f2) true _ ?side1 ?side2 ?side3 ?side4 ?side5 ?side6 ?side7 ?side8 A9.out).mono ?_); (case side1 => exact Kd.C_below HR112_1.out (sbw)); (case side2 => exact HC112_1.out); (case side3 => exact Kd.C_below HR112_2.out (sbw)); (case side4 => exact HC112_2.out); (case side5 => exact Kd.C_below HR114_1.out (sbw)); (case side6 => exact HC114_1.out); (case side7 => exact Kd.C_below HR114_2.out (sbw)); (case side8 => exact HC114_2.out); rintro e w17 ⟨rfl, hb⟩; (try refine ⟨_, rfl, ?_⟩); replace BK113 := am (blk_below (g := gb113) (o := .cells #[.int .i64 ((rd_T55 l0 x17_1).f0), .slice A112_1 ((rd_T55 l0 x17_1).f1).length c112_1, .slice A112_2 ((rd_T55 l0 x17_1).f2).length c112_2] 55 (0, 0)) (sp BK113) hb); replace BK115 := am (blk_below (g := gb115) (o := .cells #[.int .i64 ((rd_T55 l1 x17_1).f0), .slice A114_1 ((rd_T55 l1 x17_1).f1).length c114_1, .slice A114_2 ((rd_T55 l1 x17_1).f2).length c114_2] 55 (0, 0)) (sp BK115) hb); replace HB := bsw hb; (try clear hb)))
      go_roundg k1
      case measure => have := HK1.out; omega
      case rel => exact ⟨(wrap64 (x17_1 + 1)), sc, H', kk1, ⟨sbw⟩⟩
     ·replace H := im H
      obtain rfl := Option.some.inj H
      obtain ⟨p112, q112, ad112, A112_1, c112_1, A112_2, c112_2, e112, _, _, _, hx112_0, hx112_1, hx112_2, HC112_1, HR112_1, HC112_2, HR112_2⟩ := aT_T55 HR0 HB x17_1
      cases e112
      go_wp2_with (first | ((with_reducible refine gd 8 rfl ?_); refine bx 8 #[.int .i64 0, .slice none 0 0, .slice none 0 0] 55 ?_; intro gb113 hg w18 hbox hb; have GW113 := bz w hg; have GE113 := bz w hg; replace HB := bs hb; have BK113 := am hbox; clear hb hbox hg; obtain ⟨hcz19_0, hcz19_1, hcz19_2, hfz19_0, hfz19_1, hfz19_2⟩ := cc3 BK113; have p114 : 0 ≤ (x17_1 : Int) := sa; have q114 : x17_1 < (l1.length : Int) := sa; obtain ⟨ad114, A114_1, c114_1, A114_2, c114_2, e114, hx114_0, hx114_1, hx114_2, hl114_1, hi114_1, hl114_2, hi114_2⟩ := at_T55 HR1.out x17_1 p114 q114; cases e114; have hn114_0 : ad114.block ≠ gb113 := Nat.ne_of_lt (Nat.lt_of_lt_of_le (bl hx114_0) GW113.out); have hn114_1 : ad114.block ≠ gb113 := Nat.ne_of_lt (Nat.lt_of_lt_of_le (bl hx114_0) GW113.out); have hn114_2 : ad114.block ≠ gb113 := Nat.ne_of_lt (Nat.lt_of_lt_of_le (bl hx114_0) GW113.out); replace hx114_0 := hb_ HB hx114_0; replace hx114_1 := hb_ HB hx114_1; replace hx114_2 := hb_ HB hx114_2; have HR114_1 := am hi114_1; have HC114_1 := am hl114_1; clear hi114_1 hl114_1; have HR114_2 := am hi114_2; have HC114_2 := am hl114_2; clear hi114_2 hl114_2; replace hx114_0 := (cell_far (p := ⟨gb113, 0, none⟩) (by first | (rw [add_block]; exact hn114_0) | exact hn114_0) (.int .i64 ((rd_T55 l0 x17_1).f0))).trans hx114_0; replace hx114_1 := (cell_far (p := ⟨gb113, 0, none⟩) (by first | (rw [add_block]; exact hn114_0) | exact hn114_0) (.int .i64 ((rd_T55 l0 x17_1).f0))).trans hx114_1; replace hx114_2 := (cell_far (p := ⟨gb113, 0, none⟩) (by first | (rw [add_block]; exact hn114_0) | exact hn114_0) (.int .i64 ((rd_T55 l0 x17_1).f0))).trans hx114_2; replace hx114_0 := (cell_far (p := ⟨gb113, 1, none⟩) (by first | (rw [add_block]; exact hn114_1) | exact hn114_1) (.slice A112_1 ((rd_T55 l0 x17_1).f1).length c112_1)).trans hx114_0; replace hx114_1 := (cell_far (p := ⟨gb113, 1, none⟩) (by first | (rw [add_block]; exact hn114_1) | exact hn114_1) (.slice A112_1 ((rd_T55 l0 x17_1).f1).length c112_1)).trans hx114_1; replace hx114_2 := (cell_far (p := ⟨gb113, 1, none⟩) (by first | (rw [add_block]; exact hn114_1) | exact hn114_1) (.slice A112_1 ((rd_T55 l0 x17_1).f1).length c112_1)).trans hx114_2; replace hx114_0 := (cell_far (p := ⟨gb113, 2, none⟩) (by first | (rw [add_block]; exact hn114_2) | exact hn114_2) (.slice A112_2 ((rd_T55 l0 x17_1).f2).length c112_2)).trans hx114_0; replace hx114_1 := (cell_far (p := ⟨gb113, 2, none⟩) (by first | (rw [add_block]; exact hn114_2) | exact hn114_2) (.slice A112_2 ((rd_T55 l0 x17_1).f2).length c112_2)).trans hx114_1; replace hx114_2 := (cell_far (p := ⟨gb113, 2, none⟩) (by first | (rw [add_block]; exact hn114_2) | exact hn114_2) (.slice A112_2 ((rd_T55 l0 x17_1).f2).length c112_2)).trans hx114_2; clear hn114_0; clear hn114_1; clear hn114_2; replace p114 := eq_true p114; replace q114 := eq_true q114) | ((with_reducible refine gd 9 rfl ?_); refine bx 9 #[.int .i64 0, .slice none 0 0, .slice none 0 0] 55 ?_; intro gb115 hg w20 hbox hb; have GW115 := bzw w hg; have GE115 := bzw w hg; replace HB := bsw hb; have BK115 := am hbox; have NB113_115 := am ((by rw [hg]; exact Nat.ne_of_lt (blk_lt (g := gb113) (o := .cells #[.int .i64 ((rd_T55 l0 x17_1).f0), .slice A112_1 ((rd_T55 l0 x17_1).f1).length c112_1, .slice A112_2 ((rd_T55 l0 x17_1).f2).length c112_2] 55 (0, 0)) (sp BK113)) : gb113 ≠ gb115)); have NB115_113 := am ((by rw [hg]; exact Nat.ne_of_gt (blk_lt (g := gb113) (o := .cells #[.int .i64 ((rd_T55 l0 x17_1).f0), .slice A112_1 ((rd_T55 l0 x17_1).f1).length c112_1, .slice A112_2 ((rd_T55 l0 x17_1).f2).length c112_2] 55 (0, 0)) (sp BK113)) : gb115 ≠ gb113)); replace BK113 := am (blk_below (g := gb113) (o := .cells #[.int .i64 ((rd_T55 l0 x17_1).f0), .slice A112_1 ((rd_T55 l0 x17_1).f1).length c112_1, .slice A112_2 ((rd_T55 l0 x17_1).f2).length c112_2] 55 (0, 0)) (sp BK113) hb); clear hb hbox hg; have hnb21 := NB115_113.out; have hnc21 := NB113_115.out; obtain ⟨hcz22_0, hcz22_1, hcz22_2, hfz22_0, hfz22_1, hfz22_2⟩ := cc3 BK115; obtain ⟨hcz23_0, hcz23_1, hcz23_2, hfz23_0, hfz23_1, hfz23_2⟩ := cc3 BK113) | (go_at_call 98; (refine (impl_EqualTables.calls k1 ((rd_T55 l0 x17_1).f0) _ _ ((rd_T55 l0 x17_1).f1) _ _ ((rd_T55 l0 x17_1).f2) ((rd_T55 l1 x17_1).f0) _ _ ((rd_T55 l1 x17_1).f1) _ _ ((rd_T55 l1 x17_1).f2) false _ ?side1 ?side2 ?side3 ?side4 ?side5 ?side6 ?side7 ?side8 A9.out).mono ?_); (case side1 => exact Kd.C_below HR112_1.out (sbw)); (case side2 => exact HC112_1.out); (case side3 => exact Kd.C_below HR112_2.out (sbw)); (case side4 => exact HC112_2.out); (case side5 => exact Kd.C_below HR114_1.out (sbw)); (case side6 => exact HC114_1.out); (case side7 => exact Kd.C_below HR114_2.out (sbw)); (case side8 => exact HC114_2.out); rintro e w24 ⟨rfl, hb⟩; (try refine ⟨_, rfl, ?_⟩); replace BK113 := am (blk_below (g := gb113) (o := .cells #[.int .i64 ((rd_T55 l0 x17_1).f0), .slice A112_1 ((rd_T55 l0 x17_1).f1).length c112_1, .slice A112_2 ((rd_T55 l0 x17_1).f2).length c112_2] 55 (0, 0)) (sp BK113) hb); replace BK115 := am (blk_below (g := gb115) (o := .cells #[.int .i64 ((rd_T55 l1 x17_1).f0), .slice A114_1 ((rd_T55 l1 x17_1).f1).length c114_1, .slice A114_2 ((rd_T55 l1 x17_1).f2).length c114_2] 55 (0, 0)) (sp BK115) hb); replace HB := bsw hb; (try clear hb)))
      go_ret
      exact ⟨se, sbw⟩
    ·have c5b0 := decide_eq_false c5
     clear c5
     obtain rfl := Option.some.inj H
     go_wp2
     go_ret
     exact ⟨se, sb⟩
 ·have c4b0 : ((l0.length : Int) == (l1.length : Int)) = false := beq_eq_false_iff_ne.mpr c4
  have c4b1 : ((l0.length : Int) != (l1.length : Int)) = true := bne_iff_ne.mpr c4
  have c4b2 : (l0.length == l1.length) = false := by first | simpa using c4 | (simp at c4 ⊢; omega)
  obtain rfl := Option.some.inj H
  go_enter Try.func96, Try.ntmps96
  go_wp2
  go_ret
  exact ⟨se, sb⟩

/-- A row of ints of the call's own, behind a library function that wrote it and left the first m. -/
theorem row_put {w : World} {base g n c m q : Nat} {xs ys : List Int} {ok : Nat → Prop} (HO : Kd.R (Kd.int .i64) 3 w base ok (.slice (some ⟨g, 0, none⟩) n c) xs) (hy : ys.length = n) (hm : m ≤ n) (os : Array Obj) :
    Kd.R (Kd.int .i64) 3 (Go.Sort.grow (Go.Sort.putRow (Value.int .i64) (Go.Sort.ahead w q) g 0 ys.toArray) os) base ok (.slice (some ⟨g, 0, none⟩) m c) (ys.take m) ∧ w.grownBy (Go.Sort.grow (Go.Sort.putRow (Value.int .i64) (Go.Sort.ahead w q) g 0 ys.toArray) os) (some g) := by
  obtain ⟨hn, hnc, _⟩ := Kd.R_reads' HO
  obtain ⟨hok, inner, hown, hr⟩ := HO
  rcases hown.2 with ⟨hv', _⟩ | ⟨g', cap', cur, hv', hb, hh, hlc, hcm, hcs, htake⟩
  · cases hv'
  injection hv' with ha _ hc
  injection ha with ha
  injection ha with hg
  subst hg; subst hc
  have hcs' : cur.size = c := by rw [hcs]; exact Nat.mul_one c
  have hsz : (Go.Sort.putRow (Value.int .i64) (Go.Sort.ahead w q) g 0 ys.toArray).heap.size = w.heap.size := by
    simp [Go.Sort.putRow, Go.Sort.mapBlock, Go.Sort.ahead]
  have hg0 : g < w.heap.size := blk_lt hh
  have hB : (Go.Sort.grow (Go.Sort.putRow (Value.int .i64) (Go.Sort.ahead w q) g 0 ys.toArray) os).heap[g]? = some (.cells (Go.Sort.putCells (Value.int .i64) 0 ys.toArray cur) 3 (0, 0)) := by
    rw [Go.Sort.heap_grow_old _ _ (by omega)]
    show (w.heap.modify g (Go.Sort.onCells _))[g]? = _
    rw [Array.getElem?_modify, if_pos rfl, hh]
    rfl
  have hfar : ∀ k, k < w.heap.size → k ≠ g → (Go.Sort.grow (Go.Sort.putRow (Value.int .i64) (Go.Sort.ahead w q) g 0 ys.toArray) os).heap[k]? = w.heap[k]? := by
    intro k hk hne
    rw [Go.Sort.heap_grow_old _ _ (by omega)]
    show (w.heap.modify g (Go.Sort.onCells _))[k]? = _
    rw [Array.getElem?_modify, if_neg (fun e => hne e.symm)]
  have htl : (ys.take m).length = m := by rw [List.length_take]; omega
  refine ⟨⟨hok, (ys.take m).map (Value.int .i64), ⟨by rw [List.length_map]; exact (Nat.mul_one _).symm, .inr ⟨g, c, _, by rw [htl], hb, hB, by omega, hcm, ?_, ?_⟩⟩, ⟨by rw [List.length_map]; exact (Nat.mul_one _).symm, ?_⟩⟩, ⟨rfl, rfl, rfl, ?_, ?_⟩⟩
  · show (Go.Sort.putCells (Value.int .i64) 0 ys.toArray cur).size = c * 1
    simp [Go.Sort.putCells, hcs']
  · rw [htl]
    apply List.ext_getElem?
    intro i
    show ((Go.Sort.putCells (Value.int .i64) 0 ys.toArray cur).toList.take (m * 1))[i]? = _
    rw [Nat.mul_one, List.getElem?_take, List.getElem?_map, List.getElem?_take]
    by_cases hi : i < m
    · have h1 : i < cur.size := by omega
      have h2 : i < ys.length := by omega
      rw [if_pos hi, if_pos hi, Array.getElem?_toList]
      simp [Go.Sort.putCells, h1, h2]
    · rw [if_neg hi, if_neg hi]
      rfl
  · intro j p hp
    show ((((ys.take m).map (Value.int .i64)).drop (j * 1)).take 1) = [Value.int .i64 p]
    rw [Nat.mul_one]
    have h1 : ((ys.take m).map (Value.int .i64))[j]? = some (.int .i64 p) := by rw [List.getElem?_map, hp]; rfl
    obtain ⟨h2, h3⟩ := List.getElem?_eq_some_iff.1 h1
    rw [List.drop_eq_getElem_cons h2, h3]
    rfl
  · simp [Go.Sort.grow, hsz]
  · intro k hk hne
    exact hfar k hk (fun e => hne (by rw [e]))
theorem row_holds {w : World} {base g n c : Nat} {xs : List Int} {ok : Nat → Prop} (HO : Kd.R (Kd.int .i64) 3 w base ok (.slice (some ⟨g, 0, none⟩) n c) xs) : Go.Sort.Holds (Value.int .i64) w g 0 xs.toArray ∧ g < w.heap.size := by
  obtain ⟨hn, hnc, hC⟩ := Kd.R_reads' HO
  obtain ⟨hok, inner, hown, hr⟩ := HO
  rcases hown.2 with ⟨hv', _⟩ | ⟨g', cap', cur, hv', hb, hh, hlc, hcm, hcs, htake⟩
  · cases hv'
  injection hv' with ha _ hc
  injection ha with ha
  injection ha with hg
  subst hg; subst hc
  refine ⟨fun j hj => ⟨?_, blk_frozen hh _⟩, blk_lt hh⟩
  have hj' : j < xs.length := by simpa using hj
  obtain ⟨ad, e, h⟩ := Kd.at_int hC (j : Int) (by omega) (by omega)
  injection e with e
  subst e
  rw [Int.toNat_natCast, add_at] at h
  simpa [rd, hj'] using h
def slices_Sort_int_int.f (l0 : List Int) : Option (List Int) := if l0.length < 4611686018427387904 then some (l0.mergeSort fun x y => decide (x ≤ y)) else none
theorem slices_Sort_int_int.calls (P0_ : Nat → Prop) (u9000_ : Value) (l0 : List Int) (r : List Int) (w0 w : World) (hB : Below w0.heap.size w0 w) (ho0 : Kd.R (Kd.int .i64) 3 w w0.heap.size P0_ u9000_ l0) (h : slices_Sort_int_int.f l0 = some r) :
    Calls Try.prog 128 #[u9000_] w fun e w' => e = .returned (.tuple #[]) ∧ Kd.R (Kd.int .i64) 3 w' w0.heap.size (fun k_ => (P0_ k_ ∨ w.heap.size ≤ k_)) u9000_ r ∧ Below w0.heap.size w0 w' ∧ Kept w w' (fun k_ => P0_ k_) := by
 unfold slices_Sort_int_int.f at h
 by_cases hm : l0.length < 4611686018427387904
 rotate_left
 ·rw [if_neg hm] at h
  cases h
 rw [if_pos hm] at h
 obtain rfl := Option.some.inj h
 by_cases hz : l0 = []
 ·subst hz
  obtain ⟨A, c, rfl⟩ := Kd.R_slice ho0
  refine (Try.slices_Sort_int_none A c w).mono ?_
  rintro e w' ⟨rfl, rfl⟩
  refine ⟨rfl, ?_, hB, Kept.refl _ _⟩
  rw [List.mergeSort_nil]
  exact Kd.R_mono ho0 (fun _ h_ => Or.inl h_)
 have hlen : 0 < l0.length := List.length_pos_iff.2 hz
 obtain ⟨A, c, rfl⟩ := Kd.R_slice ho0
 obtain ⟨g, cap_, ev_, _⟩ := Kd.R_form ho0 (by omega)
 injection ev_ with ea_ _ ec_
 subst ea_
 obtain ⟨hH, hg0⟩ := row_holds ho0
 refine (Try.slices_Sort_int g 0 c l0 w hH hg0 hm).mono ?_
 rintro e w' ⟨rfl, q, os, rfl⟩
 have hs : (l0.mergeSort fun x y => decide (x ≤ y)).length = l0.length := List.length_mergeSort l0
 have h1 := row_put (q := q) ho0 hs (Nat.le_refl _) os
 rw [List.take_of_length_le (by omega)] at h1
 have hg : P0_ g := ho0.1 g (by simp [Value.ownBlock])
 exact ⟨rfl, Kd.R_mono h1.1 (fun _ h_ => Or.inl h_), hB.grown h1.2 hB.size (fun k_ e_ => by injection e_ with e_; subst e_; exact Kd.R_base ho0 _ (by simp [Value.ownBlock])), Kept.of_grown h1.2 (Kept.refl _ _) (fun k_ e_ => by injection e_ with e_; subst e_; exact Or.inl hg)⟩

def slices_Compact_int_int.f (l0 : List Int) : Option (List Int) := if l0.length ≤ 4611686018427387904 then some (Go.Lib.compact l0) else none
theorem slices_Compact_int_int.calls (P0_ : Nat → Prop) (u9000_ : Value) (l0 : List Int) (r : List Int) (w0 w : World) (hB : Below w0.heap.size w0 w) (ho0 : Kd.R (Kd.int .i64) 3 w w0.heap.size P0_ u9000_ l0) (h : slices_Compact_int_int.f l0 = some r) :
    Calls Try.prog 129 #[u9000_] w fun e w' => ∃ v0_ : Value, e = .returned (v0_) ∧ Kd.R (Kd.int .i64) 3 w' w0.heap.size (fun k_ => (P0_ k_ ∨ w.heap.size ≤ k_)) v0_ r ∧ Below w0.heap.size w0 w' ∧ Kept w w' (fun k_ => P0_ k_) := by
 unfold slices_Compact_int_int.f at h
 by_cases hm : l0.length ≤ 4611686018427387904
 rotate_left
 ·rw [if_neg hm] at h
  cases h
 rw [if_pos hm] at h
 obtain rfl := Option.some.inj h
 by_cases hz : l0 = []
 ·subst hz
  obtain ⟨A, c, rfl⟩ := Kd.R_slice ho0
  refine (Try.slices_Compact_int_empty A c w).mono ?_
  rintro e w' ⟨rfl, rfl⟩
  exact ⟨_, rfl, Kd.R_mono ho0 (fun _ h_ => Or.inl h_), hB, Kept.refl _ _⟩
 have hlen : 0 < l0.length := List.length_pos_iff.2 hz
 obtain ⟨A, c, rfl⟩ := Kd.R_slice ho0
 obtain ⟨g, cap_, ev_, _⟩ := Kd.R_form ho0 (by omega)
 injection ev_ with ea_ _ ec_
 subst ea_
 obtain ⟨hH, hg0⟩ := row_holds ho0
 have hlc := (Kd.R_reads' ho0).2.1
 refine (Try.slices_Compact_int g 0 c l0 w hH (by omega) hlc).mono ?_
 rintro e w' ⟨rfl, q, rfl⟩
 have hle : (Go.Lib.compact l0).length ≤ l0.length := by
  unfold Go.Lib.compact Go.Lib.compactUpTo
  rw [List.length_map]
  exact Nat.le_trans (List.length_filter_le _ _) (by simp)
 have hs : (Go.Lib.compact l0 ++ List.replicate (l0.length - (Go.Lib.compact l0).length) 0).length = l0.length := by
  rw [List.length_append, List.length_replicate]
  omega
 have h1 := row_put (q := q) ho0 hs hle #[]
 rw [List.take_left' rfl, Go.Sort.grow_empty] at h1
 have hg : P0_ g := ho0.1 g (by simp [Value.ownBlock])
 exact ⟨_, rfl, Kd.R_mono h1.1 (fun _ h_ => Or.inl h_), hB.grown h1.2 hB.size (fun k_ e_ => by injection e_ with e_; subst e_; exact Kd.R_base ho0 _ (by simp [Value.ownBlock])), Kept.of_grown h1.2 (Kept.refl _ _) (fun k_ e_ => by injection e_ with e_; subst e_; exact Or.inl hg)⟩

end Go.Proofs.Ytiihaabhjphaeaa.QFnPrograms
