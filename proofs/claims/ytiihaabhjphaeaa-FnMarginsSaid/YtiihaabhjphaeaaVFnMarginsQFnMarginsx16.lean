/- Printed by a program of the session. Conditions: none. (squeezed). -/
import Derived.Test.YtiihaabhjphaeaaVFnMarginsSq2
import Derived.Test.YtiihaabhjphaeaaVFnMarginsShelf
import Derived.Test.YtiihaabhjphaeaaVFnMarginsQFnMarginsx0
namespace Go.Proofs.Ytiihaabhjphaeaa.QFnMargins
set_option maxHeartbeats 8000000
set_option maxRecDepth 100000
open Go.RowKit Go.Proofs.YtiihaabhjphaeaaW.PrintWords Go.Proofs.YtiihaabhjphaeaaW.PrintLast Go.Proofs.YtiihaabhjphaeaaW.PrintMore Go.Proofs.Ytiihaabhjphaeaa.Open Go.Proofs.Ytiihaabhjphaeaa.Sq
attribute [local go_sem] max2_int min2_int max_two min_two max_three min_three max_four min_four   -- for this text's walks alone
attribute [local go_sem] isSome_set
set_option linter.unusedVariables false
set_option linter.unusedSimpArgs false

def slices_Equal_int_int.l0 : Nat → List Int → List Int → Int → Int → Option (Bool)
  | 0, _, _, _, _ => none
  | k + 1, x0, x1, x12, x13 => if x13 < x12 then (if 0 ≤ x13 then (if x13 < (x0.length : Int) then (if x13 < (x1.length : Int) then (if (rd x0 x13) = (rd x1 x13) then (slices_Equal_int_int.l0 k x0 x1 x12 (wrap64 (x13 + 1))) else (some false)) else (none)) else (none)) else (none)) else (some true)
def slices_Equal_int_int.f (k : Nat) (l0 : List Int) (l1 : List Int) : Option (Bool) := if (l0.length : Int) = (l1.length : Int) then (slices_Equal_int_int.l0 k l0 l1 (l0.length : Int) 0) else (some false)
theorem slices_Equal_int_int.mono_l : ∀ k, (∀ y0 y1 y2 y3, LeO (slices_Equal_int_int.l0 k y0 y1 y2 y3) (slices_Equal_int_int.l0 (k + 1) y0 y1 y2 y3))
  | 0 => fun _ _ _ _ r h => by simp [slices_Equal_int_int.l0] at h
  | k + 1 => by
    have ih0 := slices_Equal_int_int.mono_l k
    · intro y0 y1 y2 y3
      unfold slices_Equal_int_int.l0
      exact mo
theorem slices_Equal_int_int.mono : ∀ a0 a1 k, LeO (slices_Equal_int_int.f k a0 a1) (slices_Equal_int_int.f (k + 1) a0 a1) := by
  intro a0 a1 k
  have ih0 := slices_Equal_int_int.mono_l k
  unfold slices_Equal_int_int.f
  exact mo
theorem slices_Equal_int_int.calls (k : Nat) (A0 : Option Addr) (c0 : Nat) (l0 : List Int) (A1 : Option Addr) (c1 : Nat) (l1 : List Int) (r : Bool) (w : World) (hr0 : Kd.C (Kd.int .i64) w A0 l0.length l0) (hc0 : l0.length ≤ c0) (hr1 : Kd.C (Kd.int .i64) w A1 l1.length l1) (hc1 : l1.length ≤ c1) (h : slices_Equal_int_int.f k l0 l1 = some r) :
    Calls Try.prog 145 #[.slice A0 l0.length c0, .slice A1 l1.length c1] w fun e w' => e = .returned (.bool r) ∧ Drawn0 w w' := by
 have HR0 := am hr0
 have HC0 := am hc0
 clear hr0 hc0
 have HR1 := am hr1
 have HC1 := am hc1
 clear hr1 hc1
 have H : (if (l0.length : Int) = (l1.length : Int) then (slices_Equal_int_int.l0 k l0 l1 (l0.length : Int) 0) else (some false)) = some r := h
 clear h
 obtain ⟨c3, H⟩ | ⟨c3, H⟩ := ie_ H
 ·have c3b0 : ((l0.length : Int) == (l1.length : Int)) = true := beq_iff_eq.mpr c3
  have c3b1 : ((l0.length : Int) != (l1.length : Int)) = false := bne_eq_false_iff_eq.mpr c3
  have c3b2 : (l0.length == l1.length) = true := by first | simpa using c3 | (simp at c3 ⊢; omega)
  clear c3
  have H' := am H
  clear H
  go_enter Try.func145, Try.ntmps145
  go_wp2
  repeat (go_quiet (fail); try go_wp2)
  go_loopg [13] k (fun kq v13 w' => ∃ (x13_1 : Int), v13 = .int .i64 x13_1 ∧ Aside0 (slices_Equal_int_int.l0 kq l0 l1 (l0.length : Int) x13_1 = some r) ∧ Aside0 (kq ≤ k) ∧ Drawn0 w w')
  case atStart => exact ⟨(0), sc, H', kk0, sd⟩
  case round =>
   clear H'
   try clear c3
   try clear c3b0
   try clear c3b1
   try clear c3b2
   obtain ⟨x13_1, rfl, HA, HK1, ⟨m1, rfl⟩⟩ := hrel
   cases gk with
   | zero => exact absurd HA.out (by simp [slices_Equal_int_int.l0])
   | succ k1 =>
    have H := HA.out
    clear HA
    simp only [slices_Equal_int_int.l0] at H
    obtain ⟨c4, H⟩ | ⟨c4, H⟩ := ie_ H
    ·have c4b0 := decide_eq_true c4
     clear c4
     obtain ⟨c5b0, H⟩ := id_ H
     obtain ⟨c6b0, H⟩ := id_ H
     obtain ⟨c7b0, H⟩ := id_ H
     obtain ⟨c8, H⟩ | ⟨c8, H⟩ := ie_ H
     ·have c8b0 : ((rd l0 x13_1) == (rd l1 x13_1)) = true := beq_iff_eq.mpr c8
      have c8b1 : ((rd l0 x13_1) != (rd l1 x13_1)) = false := bne_eq_false_iff_eq.mpr c8
      clear c8
      have H' := am H
      clear H
      have p533 : 0 ≤ (x13_1 : Int) := sa
      have q533 : x13_1 < (l0.length : Int) := sa
      obtain ⟨ad533, e533, hx533_0⟩ := Kd.at_int HR0.out x13_1 p533 q533
      cases e533
      replace p533 := eq_true p533
      replace q533 := eq_true q533
      have p534 : 0 ≤ (x13_1 : Int) := sa
      have q534 : x13_1 < (l1.length : Int) := sa
      obtain ⟨ad534, e534, hx534_0⟩ := Kd.at_int HR1.out x13_1 p534 q534
      cases e534
      replace p534 := eq_true p534
      replace q534 := eq_true q534
      go_wp2
      repeat (go_quiet (fail); try go_wp2)
      go_roundg k1
      case measure => have := HK1.out; omega
      case rel => exact ⟨(wrap64 (x13_1 + 1)), sc, H', kk1, sd⟩
     ·have c8b0 : ((rd l0 x13_1) == (rd l1 x13_1)) = false := beq_eq_false_iff_ne.mpr c8
      have c8b1 : ((rd l0 x13_1) != (rd l1 x13_1)) = true := bne_iff_ne.mpr c8
      obtain rfl := Option.some.inj H
      have p533 : 0 ≤ (x13_1 : Int) := sa
      have q533 : x13_1 < (l0.length : Int) := sa
      obtain ⟨ad533, e533, hx533_0⟩ := Kd.at_int HR0.out x13_1 p533 q533
      cases e533
      replace p533 := eq_true p533
      replace q533 := eq_true q533
      have p534 : 0 ≤ (x13_1 : Int) := sa
      have q534 : x13_1 < (l1.length : Int) := sa
      obtain ⟨ad534, e534, hx534_0⟩ := Kd.at_int HR1.out x13_1 p534 q534
      cases e534
      replace p534 := eq_true p534
      replace q534 := eq_true q534
      go_wp2
      repeat (go_quiet (fail); try go_wp2)
      go_ret
      exact ⟨sc, sd⟩
    ·have c4b0 := decide_eq_false c4
     clear c4
     obtain rfl := Option.some.inj H
     go_wp2
     repeat (go_quiet (fail); try go_wp2)
     go_ret
     exact ⟨sc, sd⟩
 ·have c3b0 : ((l0.length : Int) == (l1.length : Int)) = false := beq_eq_false_iff_ne.mpr c3
  have c3b1 : ((l0.length : Int) != (l1.length : Int)) = true := bne_iff_ne.mpr c3
  have c3b2 : (l0.length == l1.length) = false := by first | simpa using c3 | (simp at c3 ⊢; omega)
  obtain rfl := Option.some.inj H
  go_enter Try.func145, Try.ntmps145
  go_wp2
  repeat (go_quiet (fail); try go_wp2)
  go_ret
  exact ⟨sc, sd⟩

def impl_EqualTables.f (k : Nat) (a0_0 : Int) (l0_1 : List Int) (l0_2 : List Int) (a1_0 : Int) (l1_1 : List Int) (l1_2 : List Int) : Option (Bool) := if a0_0 = a1_0 then ((slices_Equal_int_int.f k l0_1 l1_1).bind fun t537 => (if t537 = true then ((slices_Equal_int_int.f k l0_2 l1_2).bind fun t538 => (some t538)) else (some false))) else (some false)
theorem impl_EqualTables.mono : ∀ a0 a1 a2 a3 a4 a5 k, LeO (impl_EqualTables.f k a0 a1 a2 a3 a4 a5) (impl_EqualTables.f (k + 1) a0 a1 a2 a3 a4 a5) := by
  intro a0 a1 a2 a3 a4 a5 k
  unfold impl_EqualTables.f
  have m0 := @slices_Equal_int_int.mono
  exact mo
theorem impl_EqualTables.calls (k : Nat) (a0_0 : Int) (A0_1 : Option Addr) (c0_1 : Nat) (l0_1 : List Int) (A0_2 : Option Addr) (c0_2 : Nat) (l0_2 : List Int) (a1_0 : Int) (A1_1 : Option Addr) (c1_1 : Nat) (l1_1 : List Int) (A1_2 : Option Addr) (c1_2 : Nat) (l1_2 : List Int) (r : Bool) (w : World) (hr0_1 : Kd.C (Kd.int .i64) w A0_1 l0_1.length l0_1) (hc0_1 : l0_1.length ≤ c0_1) (hr0_2 : Kd.C (Kd.int .i64) w A0_2 l0_2.length l0_2) (hc0_2 : l0_2.length ≤ c0_2) (hr1_1 : Kd.C (Kd.int .i64) w A1_1 l1_1.length l1_1) (hc1_1 : l1_1.length ≤ c1_1) (hr1_2 : Kd.C (Kd.int .i64) w A1_2 l1_2.length l1_2) (hc1_2 : l1_2.length ≤ c1_2) (h : impl_EqualTables.f k a0_0 l0_1 l0_2 a1_0 l1_1 l1_2 = some r) :
    Calls Try.prog 98 #[.agg #[.int .i64 a0_0, .slice A0_1 l0_1.length c0_1, .slice A0_2 l0_2.length c0_2], .agg #[.int .i64 a1_0, .slice A1_1 l1_1.length c1_1, .slice A1_2 l1_2.length c1_2]] w fun e w' => e = .returned (.bool r) ∧ Below w.heap.size w w' := by
 have hu55 := Try.underlying55
 have HR0_1 := am hr0_1
 have HC0_1 := am hc0_1
 clear hr0_1 hc0_1
 have HR0_2 := am hr0_2
 have HC0_2 := am hc0_2
 clear hr0_2 hc0_2
 have HR1_1 := am hr1_1
 have HC1_1 := am hc1_1
 clear hr1_1 hc1_1
 have HR1_2 := am hr1_2
 have HC1_2 := am hc1_2
 clear hr1_2 hc1_2
 have HB := am (Below.refl w.heap.size w)
 have H : (if a0_0 = a1_0 then ((slices_Equal_int_int.f k l0_1 l1_1).bind fun t537 => (if t537 = true then ((slices_Equal_int_int.f k l0_2 l1_2).bind fun t538 => (some t538)) else (some false))) else (some false)) = some r := h
 clear h
 obtain ⟨c3, H⟩ | ⟨c3, H⟩ := ie_ H
 ·have c3b0 : (a0_0 == a1_0) = true := beq_iff_eq.mpr c3
  have c3b1 : (a0_0 != a1_0) = false := bne_eq_false_iff_eq.mpr c3
  clear c3
  obtain ⟨t537, A4, H⟩ := bnd H
  obtain rfl | rfl := tt t537
  ·replace H := ip H
   obtain ⟨t538, A6, H⟩ := bnd H
   obtain rfl := Option.some.inj H
   go_enter Try.func98, Try.ntmps98
   go_wp2_with (first | ((with_reducible refine gd 2 rfl ?_); refine bx 2 #[.int .i64 a0_0, .slice A0_1 l0_1.length c0_1, .slice A0_2 l0_2.length c0_2] 55 ?_; intro gb535 hg w7 hbox hb; have GW535 := bz w hg; have GE535 := bz w hg; replace HB := bs hb; have BK535 := am hbox; clear hb hbox hg) | ((with_reducible refine gd 3 rfl ?_); refine bx 3 #[.int .i64 a1_0, .slice A1_1 l1_1.length c1_1, .slice A1_2 l1_2.length c1_2] 55 ?_; intro gb536 hg w8 hbox hb; have GW536 := bzw w hg; have GE536 := bzw w hg; replace HB := bsw hb; have BK536 := am hbox; have NB535_536 := nl BK535 hg; have NB536_535 := ng BK535 hg; replace BK535 := bb BK535 hb; clear hb hbox hg; have hnb9 := NB535_536.out; have hnc9 := NB536_535.out; obtain ⟨hcz10_0, hcz10_1, hcz10_2, hfz10_0, hfz10_1, hfz10_2⟩ := cc3 BK535; obtain ⟨hcz11_0, hcz11_1, hcz11_2, hfz11_0, hfz11_1, hfz11_2⟩ := cc3 BK536) | (go_at_call 145; (with_reducible refine (slices_Equal_int_int.calls k _ _ l0_1 _ _ l1_1 true _ ?side1 ?side2 ?side3 ?side4 A4.out).mono ?_); (case side1 => exact cb HR0_1); (case side2 => exact HC0_1.out); (case side3 => exact cb HR1_1); (case side4 => exact HC1_1.out); rintro e w' ⟨rfl, ⟨nd, rfl⟩⟩) | (go_at_call 145; (with_reducible refine (slices_Equal_int_int.calls k _ _ l0_2 _ _ l1_2 t538 _ ?side1 ?side2 ?side3 ?side4 A6.out).mono ?_); (case side1 => exact cbw HR0_2); (case side2 => exact HC0_2.out); (case side3 => exact cbw HR1_2); (case side4 => exact HC1_2.out); rintro e w' ⟨rfl, ⟨nd, rfl⟩⟩))
   go_ret
   exact ⟨se, sbw⟩
  ·replace H := im H
   obtain rfl := Option.some.inj H
   go_enter Try.func98, Try.ntmps98
   go_wp2_with (first | ((with_reducible refine gd 2 rfl ?_); refine bx 2 #[.int .i64 a0_0, .slice A0_1 l0_1.length c0_1, .slice A0_2 l0_2.length c0_2] 55 ?_; intro gb535 hg w12 hbox hb; have GW535 := bz w hg; have GE535 := bz w hg; replace HB := bs hb; have BK535 := am hbox; clear hb hbox hg) | ((with_reducible refine gd 3 rfl ?_); refine bx 3 #[.int .i64 a1_0, .slice A1_1 l1_1.length c1_1, .slice A1_2 l1_2.length c1_2] 55 ?_; intro gb536 hg w13 hbox hb; have GW536 := bzw w hg; have GE536 := bzw w hg; replace HB := bsw hb; have BK536 := am hbox; have NB535_536 := nl BK535 hg; have NB536_535 := ng BK535 hg; replace BK535 := bb BK535 hb; clear hb hbox hg; have hnb14 := NB535_536.out; have hnc14 := NB536_535.out; obtain ⟨hcz15_0, hcz15_1, hcz15_2, hfz15_0, hfz15_1, hfz15_2⟩ := cc3 BK535; obtain ⟨hcz16_0, hcz16_1, hcz16_2, hfz16_0, hfz16_1, hfz16_2⟩ := cc3 BK536) | (go_at_call 145; (with_reducible refine (slices_Equal_int_int.calls k _ _ l0_1 _ _ l1_1 false _ ?side1 ?side2 ?side3 ?side4 A4.out).mono ?_); (case side1 => exact cb HR0_1); (case side2 => exact HC0_1.out); (case side3 => exact cb HR1_1); (case side4 => exact HC1_1.out); rintro e w' ⟨rfl, ⟨nd, rfl⟩⟩))
   go_ret
   exact ⟨se, sbw⟩
 ·have c3b0 : (a0_0 == a1_0) = false := beq_eq_false_iff_ne.mpr c3
  have c3b1 : (a0_0 != a1_0) = true := bne_iff_ne.mpr c3
  obtain rfl := Option.some.inj H
  go_enter Try.func98, Try.ntmps98
  go_wp2_with (first | ((with_reducible refine gd 2 rfl ?_); refine bx 2 #[.int .i64 a0_0, .slice A0_1 l0_1.length c0_1, .slice A0_2 l0_2.length c0_2] 55 ?_; intro gb535 hg w17 hbox hb; have GW535 := bz w hg; have GE535 := bz w hg; replace HB := bs hb; have BK535 := am hbox; clear hb hbox hg) | ((with_reducible refine gd 3 rfl ?_); refine bx 3 #[.int .i64 a1_0, .slice A1_1 l1_1.length c1_1, .slice A1_2 l1_2.length c1_2] 55 ?_; intro gb536 hg w18 hbox hb; have GW536 := bzw w hg; have GE536 := bzw w hg; replace HB := bsw hb; have BK536 := am hbox; have NB535_536 := nl BK535 hg; have NB536_535 := ng BK535 hg; replace BK535 := bb BK535 hb; clear hb hbox hg; have hnb19 := NB535_536.out; have hnc19 := NB536_535.out; obtain ⟨hcz20_0, hcz20_1, hcz20_2, hfz20_0, hfz20_1, hfz20_2⟩ := cc3 BK535; obtain ⟨hcz21_0, hcz21_1, hcz21_2, hfz21_0, hfz21_1, hfz21_2⟩ := cc3 BK536))
  go_ret
  exact ⟨se, sbw⟩

def impl_Table.l0 : Nat → List (S55) → List (S55) → Int → Int → Option (Bool)
  | 0, _, _, _, _ => none
  | k + 1, x1, x15, x16, x17 => if x17 < x16 then (if 0 ≤ x17 then (if x17 < (x15.length : Int) then (if x17 < (x1.length : Int) then ((impl_EqualTables.f k ((rd_T55 x15 x17).f0) ((rd_T55 x15 x17).f1) ((rd_T55 x15 x17).f2) ((rd_T55 x1 x17).f0) ((rd_T55 x1 x17).f1) ((rd_T55 x1 x17).f2)).bind fun t543 => (if t543 = true then (impl_Table.l0 k x1 x15 x16 (wrap64 (x17 + 1))) else (some false))) else (none)) else (none)) else (none)) else (some true)
def impl_Table.f (k : Nat) (l0 : List (S55)) (l1 : List (S55)) (a2 : Int) : Option (Bool) := if (l0.length : Int) = (l1.length : Int) then (impl_Table.l0 k l1 l0 (l0.length : Int) 0) else (some false)
theorem impl_Table.mono_l : ∀ k, (∀ y0 y1 y2 y3, LeO (impl_Table.l0 k y0 y1 y2 y3) (impl_Table.l0 (k + 1) y0 y1 y2 y3))
  | 0 => fun _ _ _ _ r h => by simp [impl_Table.l0] at h
  | k + 1 => by
    have ih0 := impl_Table.mono_l k
    · intro y0 y1 y2 y3
      unfold impl_Table.l0
      have m0 := @impl_EqualTables.mono
      exact mo
theorem impl_Table.mono : ∀ a0 a1 a2 k, LeO (impl_Table.f k a0 a1 a2) (impl_Table.f (k + 1) a0 a1 a2) := by
  intro a0 a1 a2 k
  have ih0 := impl_Table.mono_l k
  unfold impl_Table.f
  have m0 := @impl_EqualTables.mono
  exact mo
theorem impl_Table.calls (k : Nat) (A0 : Option Addr) (c0 : Nat) (l0 : List (S55)) (A1 : Option Addr) (c1 : Nat) (l1 : List (S55)) (a2 : Int) (r : Bool) (w : World) (hr0 : Kd.C k55 w A0 l0.length l0) (hc0 : l0.length ≤ c0) (hr1 : Kd.C k55 w A1 l1.length l1) (hc1 : l1.length ≤ c1) (h : impl_Table.f k l0 l1 a2 = some r) :
    Calls Try.prog 96 #[.slice A0 l0.length c0, .slice A1 l1.length c1, .func (.func 98) #[] #[]] w fun e w' => e = .returned (.bool r) ∧ Below w.heap.size w w' := by
 have hu55 := Try.underlying55
 have HR0 := am hr0
 have HC0 := am hc0
 clear hr0 hc0
 have HR1 := am hr1
 have HC1 := am hc1
 clear hr1 hc1
 have HB := am (Below.refl w.heap.size w)
 have H : (if (l0.length : Int) = (l1.length : Int) then (impl_Table.l0 k l1 l0 (l0.length : Int) 0) else (some false)) = some r := h
 clear h
 obtain ⟨c4, H⟩ | ⟨c4, H⟩ := ie_ H
 ·have c4b0 : ((l0.length : Int) == (l1.length : Int)) = true := beq_iff_eq.mpr c4
  have c4b1 : ((l0.length : Int) != (l1.length : Int)) = false := bne_eq_false_iff_eq.mpr c4
  have c4b2 : (l0.length == l1.length) = true := by first | simpa using c4 | (simp at c4 ⊢; omega)
  clear c4
  have H' := am H
  clear H
  go_enter Try.func96, Try.ntmps96
  go_wp2
  go_loopg [17] k (fun kq v17 w' => ∃ (x17_1 : Int), v17 = .int .i64 x17_1 ∧ Aside0 (impl_Table.l0 kq l1 l0 (l0.length : Int) x17_1 = some r) ∧ Aside0 (kq ≤ k) ∧ Aside0 (Below w.heap.size w w'))
  case atStart => exact ⟨(0), sc, H', kk0, ⟨sb⟩⟩
  case round =>
   clear H'
   try clear c4
   try clear c4b0
   try clear c4b1
   try clear c4b2
   obtain ⟨x17_1, rfl, HA, HK1, HB⟩ := hrel
   cases gk with
   | zero => exact absurd HA.out (by simp [impl_Table.l0])
   | succ k1 =>
    have H := HA.out
    clear HA
    simp only [impl_Table.l0] at H
    obtain ⟨c5, H⟩ | ⟨c5, H⟩ := ie_ H
    ·have c5b0 := decide_eq_true c5
     clear c5
     obtain ⟨c6b0, H⟩ := id_ H
     obtain ⟨c7b0, H⟩ := id_ H
     obtain ⟨c8b0, H⟩ := id_ H
     obtain ⟨t543, A9, H⟩ := bnd H
     obtain rfl | rfl := tt t543
     ·replace H := ip H
      have H' := am H
      clear H
      obtain ⟨p539, q539, ad539, A539_1, c539_1, A539_2, c539_2, e539, _, _, _, hx539_0, hx539_1, hx539_2, HC539_1, HR539_1, HC539_2, HR539_2⟩ := aT_T55 HR0 HB x17_1
      cases e539
      go_wp2_with (first | ((with_reducible refine gd 8 rfl ?_); refine bx 8 #[.int .i64 0, .slice none 0 0, .slice none 0 0] 55 ?_; intro gb540 hg w11 hbox hb; have GW540 := bz w hg; have GE540 := bz w hg; replace HB := bs hb; have BK540 := am hbox; clear hb hbox hg; obtain ⟨hcz12_0, hcz12_1, hcz12_2, hfz12_0, hfz12_1, hfz12_2⟩ := cc3 BK540; have p541 : 0 ≤ (x17_1 : Int) := sa; have q541 : x17_1 < (l1.length : Int) := sa; obtain ⟨ad541, A541_1, c541_1, A541_2, c541_2, e541, hx541_0, hx541_1, hx541_2, hl541_1, hi541_1, hl541_2, hi541_2⟩ := at_T55 HR1.out x17_1 p541 q541; cases e541; have hn541_0 : ad541.block ≠ gb540 := Nat.ne_of_lt (Nat.lt_of_lt_of_le (bl hx541_0) GW540.out); have hn541_1 : ad541.block ≠ gb540 := Nat.ne_of_lt (Nat.lt_of_lt_of_le (bl hx541_0) GW540.out); have hn541_2 : ad541.block ≠ gb540 := Nat.ne_of_lt (Nat.lt_of_lt_of_le (bl hx541_0) GW540.out); replace hx541_0 := hb_ HB hx541_0; replace hx541_1 := hb_ HB hx541_1; replace hx541_2 := hb_ HB hx541_2; have HR541_1 := am hi541_1; have HC541_1 := am hl541_1; clear hi541_1 hl541_1; have HR541_2 := am hi541_2; have HC541_2 := am hl541_2; clear hi541_2 hl541_2; replace hx541_0 := (cell_far (p := ⟨gb540, 0, none⟩) (by first | (rw [add_block]; exact hn541_0) | (show (Addr.add _ _).block ≠ _; rw [add_block]; exact hn541_0) | exact hn541_0) (.int .i64 ((rd_T55 l0 x17_1).f0))).trans hx541_0; replace hx541_1 := (cell_far (p := ⟨gb540, 0, none⟩) (by first | (rw [add_block]; exact hn541_0) | (show (Addr.add _ _).block ≠ _; rw [add_block]; exact hn541_0) | exact hn541_0) (.int .i64 ((rd_T55 l0 x17_1).f0))).trans hx541_1; replace hx541_2 := (cell_far (p := ⟨gb540, 0, none⟩) (by first | (rw [add_block]; exact hn541_0) | (show (Addr.add _ _).block ≠ _; rw [add_block]; exact hn541_0) | exact hn541_0) (.int .i64 ((rd_T55 l0 x17_1).f0))).trans hx541_2; replace hx541_0 := (cell_far (p := ⟨gb540, 1, none⟩) (by first | (rw [add_block]; exact hn541_1) | (show (Addr.add _ _).block ≠ _; rw [add_block]; exact hn541_1) | exact hn541_1) (.slice A539_1 ((rd_T55 l0 x17_1).f1).length c539_1)).trans hx541_0; replace hx541_1 := (cell_far (p := ⟨gb540, 1, none⟩) (by first | (rw [add_block]; exact hn541_1) | (show (Addr.add _ _).block ≠ _; rw [add_block]; exact hn541_1) | exact hn541_1) (.slice A539_1 ((rd_T55 l0 x17_1).f1).length c539_1)).trans hx541_1; replace hx541_2 := (cell_far (p := ⟨gb540, 1, none⟩) (by first | (rw [add_block]; exact hn541_1) | (show (Addr.add _ _).block ≠ _; rw [add_block]; exact hn541_1) | exact hn541_1) (.slice A539_1 ((rd_T55 l0 x17_1).f1).length c539_1)).trans hx541_2; replace hx541_0 := (cell_far (p := ⟨gb540, 2, none⟩) (by first | (rw [add_block]; exact hn541_2) | (show (Addr.add _ _).block ≠ _; rw [add_block]; exact hn541_2) | exact hn541_2) (.slice A539_2 ((rd_T55 l0 x17_1).f2).length c539_2)).trans hx541_0; replace hx541_1 := (cell_far (p := ⟨gb540, 2, none⟩) (by first | (rw [add_block]; exact hn541_2) | (show (Addr.add _ _).block ≠ _; rw [add_block]; exact hn541_2) | exact hn541_2) (.slice A539_2 ((rd_T55 l0 x17_1).f2).length c539_2)).trans hx541_1; replace hx541_2 := (cell_far (p := ⟨gb540, 2, none⟩) (by first | (rw [add_block]; exact hn541_2) | (show (Addr.add _ _).block ≠ _; rw [add_block]; exact hn541_2) | exact hn541_2) (.slice A539_2 ((rd_T55 l0 x17_1).f2).length c539_2)).trans hx541_2; clear hn541_0; clear hn541_1; clear hn541_2; replace p541 := eq_true p541; replace q541 := eq_true q541) | ((with_reducible refine gd 9 rfl ?_); refine bx 9 #[.int .i64 0, .slice none 0 0, .slice none 0 0] 55 ?_; intro gb542 hg w13 hbox hb; have GW542 := bzw w hg; have GE542 := bzw w hg; replace HB := bsw hb; have BK542 := am hbox; have NB540_542 := am ((by rw [hg]; exact Nat.ne_of_lt (blk_lt (g := gb540) (o := .cells #[.int .i64 ((rd_T55 l0 x17_1).f0), .slice A539_1 ((rd_T55 l0 x17_1).f1).length c539_1, .slice A539_2 ((rd_T55 l0 x17_1).f2).length c539_2] 55 (0, 0)) (sp BK540)) : gb540 ≠ gb542)); have NB542_540 := am ((by rw [hg]; exact Nat.ne_of_gt (blk_lt (g := gb540) (o := .cells #[.int .i64 ((rd_T55 l0 x17_1).f0), .slice A539_1 ((rd_T55 l0 x17_1).f1).length c539_1, .slice A539_2 ((rd_T55 l0 x17_1).f2).length c539_2] 55 (0, 0)) (sp BK540)) : gb542 ≠ gb540)); replace BK540 := am (blk_below (g := gb540) (o := .cells #[.int .i64 ((rd_T55 l0 x17_1).f0), .slice A539_1 ((rd_T55 l0 x17_1).f1).length c539_1, .slice A539_2 ((rd_T55 l0 x17_1).f2).length c539_2] 55 (0, 0)) (sp BK540) hb); clear hb hbox hg; have hnb14 := NB542_540.out; have hnc14 := NB540_542.out; obtain ⟨hcz15_0, hcz15_1, hcz15_2, hfz15_0, hfz15_1, hfz15_2⟩ := cc3 BK542; obtain ⟨hcz16_0, hcz16_1, hcz16_2, hfz16_0, hfz16_1, hfz16_2⟩ := cc3 BK540) | (go_at_call 98; (refine (impl_EqualTables.calls k1 ((rd_T55 l0 x17_1).f0) _ _ ((rd_T55 l0 x17_1).f1) _ _ ((rd_T55 l0 x17_1).f2) ((rd_T55 l1 x17_1).f0) _ _ ((rd_T55 l1 x17_1).f1) _ _ ((rd_T55 l1 x17_1).f2) true _ ?side1 ?side2 ?side3 ?side4 ?side5 ?side6 ?side7 ?side8 A9.out).mono ?_); (case side1 => exact Kd.C_below HR539_1.out (sbw)); (case side2 => exact HC539_1.out); (case side3 => exact Kd.C_below HR539_2.out (sbw)); (case side4 => exact HC539_2.out); (case side5 => exact Kd.C_below HR541_1.out (sbw)); (case side6 => exact HC541_1.out); (case side7 => exact Kd.C_below HR541_2.out (sbw)); (case side8 => exact HC541_2.out); rintro e w17 ⟨rfl, hb⟩; (try refine ⟨_, rfl, ?_⟩); replace BK540 := am (blk_below (g := gb540) (o := .cells #[.int .i64 ((rd_T55 l0 x17_1).f0), .slice A539_1 ((rd_T55 l0 x17_1).f1).length c539_1, .slice A539_2 ((rd_T55 l0 x17_1).f2).length c539_2] 55 (0, 0)) (sp BK540) hb); replace BK542 := am (blk_below (g := gb542) (o := .cells #[.int .i64 ((rd_T55 l1 x17_1).f0), .slice A541_1 ((rd_T55 l1 x17_1).f1).length c541_1, .slice A541_2 ((rd_T55 l1 x17_1).f2).length c541_2] 55 (0, 0)) (sp BK542) hb); replace HB := bsw hb; (try clear hb); (try clear hb2); (try clear hk); (try clear hi)))
      go_roundg k1
      case measure => have := HK1.out; omega
      case rel => exact ⟨(wrap64 (x17_1 + 1)), sc, H', kk1, ⟨sbw⟩⟩
     ·replace H := im H
      obtain rfl := Option.some.inj H
      obtain ⟨p539, q539, ad539, A539_1, c539_1, A539_2, c539_2, e539, _, _, _, hx539_0, hx539_1, hx539_2, HC539_1, HR539_1, HC539_2, HR539_2⟩ := aT_T55 HR0 HB x17_1
      cases e539
      go_wp2_with (first | ((with_reducible refine gd 8 rfl ?_); refine bx 8 #[.int .i64 0, .slice none 0 0, .slice none 0 0] 55 ?_; intro gb540 hg w18 hbox hb; have GW540 := bz w hg; have GE540 := bz w hg; replace HB := bs hb; have BK540 := am hbox; clear hb hbox hg; obtain ⟨hcz19_0, hcz19_1, hcz19_2, hfz19_0, hfz19_1, hfz19_2⟩ := cc3 BK540; have p541 : 0 ≤ (x17_1 : Int) := sa; have q541 : x17_1 < (l1.length : Int) := sa; obtain ⟨ad541, A541_1, c541_1, A541_2, c541_2, e541, hx541_0, hx541_1, hx541_2, hl541_1, hi541_1, hl541_2, hi541_2⟩ := at_T55 HR1.out x17_1 p541 q541; cases e541; have hn541_0 : ad541.block ≠ gb540 := Nat.ne_of_lt (Nat.lt_of_lt_of_le (bl hx541_0) GW540.out); have hn541_1 : ad541.block ≠ gb540 := Nat.ne_of_lt (Nat.lt_of_lt_of_le (bl hx541_0) GW540.out); have hn541_2 : ad541.block ≠ gb540 := Nat.ne_of_lt (Nat.lt_of_lt_of_le (bl hx541_0) GW540.out); replace hx541_0 := hb_ HB hx541_0; replace hx541_1 := hb_ HB hx541_1; replace hx541_2 := hb_ HB hx541_2; have HR541_1 := am hi541_1; have HC541_1 := am hl541_1; clear hi541_1 hl541_1; have HR541_2 := am hi541_2; have HC541_2 := am hl541_2; clear hi541_2 hl541_2; replace hx541_0 := (cell_far (p := ⟨gb540, 0, none⟩) (by first | (rw [add_block]; exact hn541_0) | (show (Addr.add _ _).block ≠ _; rw [add_block]; exact hn541_0) | exact hn541_0) (.int .i64 ((rd_T55 l0 x17_1).f0))).trans hx541_0; replace hx541_1 := (cell_far (p := ⟨gb540, 0, none⟩) (by first | (rw [add_block]; exact hn541_0) | (show (Addr.add _ _).block ≠ _; rw [add_block]; exact hn541_0) | exact hn541_0) (.int .i64 ((rd_T55 l0 x17_1).f0))).trans hx541_1; replace hx541_2 := (cell_far (p := ⟨gb540, 0, none⟩) (by first | (rw [add_block]; exact hn541_0) | (show (Addr.add _ _).block ≠ _; rw [add_block]; exact hn541_0) | exact hn541_0) (.int .i64 ((rd_T55 l0 x17_1).f0))).trans hx541_2; replace hx541_0 := (cell_far (p := ⟨gb540, 1, none⟩) (by first | (rw [add_block]; exact hn541_1) | (show (Addr.add _ _).block ≠ _; rw [add_block]; exact hn541_1) | exact hn541_1) (.slice A539_1 ((rd_T55 l0 x17_1).f1).length c539_1)).trans hx541_0; replace hx541_1 := (cell_far (p := ⟨gb540, 1, none⟩) (by first | (rw [add_block]; exact hn541_1) | (show (Addr.add _ _).block ≠ _; rw [add_block]; exact hn541_1) | exact hn541_1) (.slice A539_1 ((rd_T55 l0 x17_1).f1).length c539_1)).trans hx541_1; replace hx541_2 := (cell_far (p := ⟨gb540, 1, none⟩) (by first | (rw [add_block]; exact hn541_1) | (show (Addr.add _ _).block ≠ _; rw [add_block]; exact hn541_1) | exact hn541_1) (.slice A539_1 ((rd_T55 l0 x17_1).f1).length c539_1)).trans hx541_2; replace hx541_0 := (cell_far (p := ⟨gb540, 2, none⟩) (by first | (rw [add_block]; exact hn541_2) | (show (Addr.add _ _).block ≠ _; rw [add_block]; exact hn541_2) | exact hn541_2) (.slice A539_2 ((rd_T55 l0 x17_1).f2).length c539_2)).trans hx541_0; replace hx541_1 := (cell_far (p := ⟨gb540, 2, none⟩) (by first | (rw [add_block]; exact hn541_2) | (show (Addr.add _ _).block ≠ _; rw [add_block]; exact hn541_2) | exact hn541_2) (.slice A539_2 ((rd_T55 l0 x17_1).f2).length c539_2)).trans hx541_1; replace hx541_2 := (cell_far (p := ⟨gb540, 2, none⟩) (by first | (rw [add_block]; exact hn541_2) | (show (Addr.add _ _).block ≠ _; rw [add_block]; exact hn541_2) | exact hn541_2) (.slice A539_2 ((rd_T55 l0 x17_1).f2).length c539_2)).trans hx541_2; clear hn541_0; clear hn541_1; clear hn541_2; replace p541 := eq_true p541; replace q541 := eq_true q541) | ((with_reducible refine gd 9 rfl ?_); refine bx 9 #[.int .i64 0, .slice none 0 0, .slice none 0 0] 55 ?_; intro gb542 hg w20 hbox hb; have GW542 := bzw w hg; have GE542 := bzw w hg; replace HB := bsw hb; have BK542 := am hbox; have NB540_542 := am ((by rw [hg]; exact Nat.ne_of_lt (blk_lt (g := gb540) (o := .cells #[.int .i64 ((rd_T55 l0 x17_1).f0), .slice A539_1 ((rd_T55 l0 x17_1).f1).length c539_1, .slice A539_2 ((rd_T55 l0 x17_1).f2).length c539_2] 55 (0, 0)) (sp BK540)) : gb540 ≠ gb542)); have NB542_540 := am ((by rw [hg]; exact Nat.ne_of_gt (blk_lt (g := gb540) (o := .cells #[.int .i64 ((rd_T55 l0 x17_1).f0), .slice A539_1 ((rd_T55 l0 x17_1).f1).length c539_1, .slice A539_2 ((rd_T55 l0 x17_1).f2).length c539_2] 55 (0, 0)) (sp BK540)) : gb542 ≠ gb540)); replace BK540 := am (blk_below (g := gb540) (o := .cells #[.int .i64 ((rd_T55 l0 x17_1).f0), .slice A539_1 ((rd_T55 l0 x17_1).f1).length c539_1, .slice A539_2 ((rd_T55 l0 x17_1).f2).length c539_2] 55 (0, 0)) (sp BK540) hb); clear hb hbox hg; have hnb21 := NB542_540.out; have hnc21 := NB540_542.out; obtain ⟨hcz22_0, hcz22_1, hcz22_2, hfz22_0, hfz22_1, hfz22_2⟩ := cc3 BK542; obtain ⟨hcz23_0, hcz23_1, hcz23_2, hfz23_0, hfz23_1, hfz23_2⟩ := cc3 BK540) | (go_at_call 98; (refine (impl_EqualTables.calls k1 ((rd_T55 l0 x17_1).f0) _ _ ((rd_T55 l0 x17_1).f1) _ _ ((rd_T55 l0 x17_1).f2) ((rd_T55 l1 x17_1).f0) _ _ ((rd_T55 l1 x17_1).f1) _ _ ((rd_T55 l1 x17_1).f2) false _ ?side1 ?side2 ?side3 ?side4 ?side5 ?side6 ?side7 ?side8 A9.out).mono ?_); (case side1 => exact Kd.C_below HR539_1.out (sbw)); (case side2 => exact HC539_1.out); (case side3 => exact Kd.C_below HR539_2.out (sbw)); (case side4 => exact HC539_2.out); (case side5 => exact Kd.C_below HR541_1.out (sbw)); (case side6 => exact HC541_1.out); (case side7 => exact Kd.C_below HR541_2.out (sbw)); (case side8 => exact HC541_2.out); rintro e w24 ⟨rfl, hb⟩; (try refine ⟨_, rfl, ?_⟩); replace BK540 := am (blk_below (g := gb540) (o := .cells #[.int .i64 ((rd_T55 l0 x17_1).f0), .slice A539_1 ((rd_T55 l0 x17_1).f1).length c539_1, .slice A539_2 ((rd_T55 l0 x17_1).f2).length c539_2] 55 (0, 0)) (sp BK540) hb); replace BK542 := am (blk_below (g := gb542) (o := .cells #[.int .i64 ((rd_T55 l1 x17_1).f0), .slice A541_1 ((rd_T55 l1 x17_1).f1).length c541_1, .slice A541_2 ((rd_T55 l1 x17_1).f2).length c541_2] 55 (0, 0)) (sp BK542) hb); replace HB := bsw hb; (try clear hb); (try clear hb2); (try clear hk); (try clear hi)))
      go_ret
      exact ⟨se, sbw⟩
    ·have c5b0 := decide_eq_false c5
     clear c5
     obtain rfl := Option.some.inj H
     go_wp2
     go_ret
     exact ⟨se, sb⟩
 ·have c4b0 : ((l0.length : Int) == (l1.length : Int)) = false := beq_eq_false_iff_ne.mpr c4
  have c4b1 : ((l0.length : Int) != (l1.length : Int)) = true := bne_iff_ne.mpr c4
  have c4b2 : (l0.length == l1.length) = false := by first | simpa using c4 | (simp at c4 ⊢; omega)
  obtain rfl := Option.some.inj H
  go_enter Try.func96, Try.ntmps96
  go_wp2
  go_ret
  exact ⟨se, sb⟩

/-- A row of ints of the call's own, behind a library function that wrote it and left the first m. -/
theorem row_put {w : World} {base g n c m q : Nat} {xs ys : List Int} {ok : Nat → Prop} (HO : Kd.R (Kd.int .i64) 3 w base ok (.slice (some ⟨g, 0, none⟩) n c) xs) (hy : ys.length = n) (hm : m ≤ n) (os : Array Obj) :
    Kd.R (Kd.int .i64) 3 (Go.Sort.grow (Go.Sort.putRow (Value.int .i64) (Go.Sort.ahead w q) g 0 ys.toArray) os) base ok (.slice (some ⟨g, 0, none⟩) m c) (ys.take m) ∧ w.grownBy (Go.Sort.grow (Go.Sort.putRow (Value.int .i64) (Go.Sort.ahead w q) g 0 ys.toArray) os) (some g) := by
  obtain ⟨hn, hnc, _⟩ := Kd.R_reads' HO
  obtain ⟨hok, inner, hown, hr⟩ := HO
  rcases hown.2 with ⟨hv', _⟩ | ⟨g', cap', cur, hv', hb, hh, hlc, hcm, hcs, htake⟩
  · cases hv'
  injection hv' with ha _ hc
  injection ha with ha
  injection ha with hg
  subst hg; subst hc
  have hcs' : cur.size = c := by rw [hcs]; exact Nat.mul_one c
  have hsz : (Go.Sort.putRow (Value.int .i64) (Go.Sort.ahead w q) g 0 ys.toArray).heap.size = w.heap.size := by
    simp [Go.Sort.putRow, Go.Sort.mapBlock, Go.Sort.ahead]
  have hg0 : g < w.heap.size := blk_lt hh
  have hB : (Go.Sort.grow (Go.Sort.putRow (Value.int .i64) (Go.Sort.ahead w q) g 0 ys.toArray) os).heap[g]? = some (.cells (Go.Sort.putCells (Value.int .i64) 0 ys.toArray cur) 3 (0, 0)) := by
    rw [Go.Sort.heap_grow_old _ _ (by omega)]
    show (w.heap.modify g (Go.Sort.onCells _))[g]? = _
    rw [Array.getElem?_modify, if_pos rfl, hh]
    rfl
  have hfar : ∀ k, k < w.heap.size → k ≠ g → (Go.Sort.grow (Go.Sort.putRow (Value.int .i64) (Go.Sort.ahead w q) g 0 ys.toArray) os).heap[k]? = w.heap[k]? := by
    intro k hk hne
    rw [Go.Sort.heap_grow_old _ _ (by omega)]
    show (w.heap.modify g (Go.Sort.onCells _))[k]? = _
    rw [Array.getElem?_modify, if_neg (fun e => hne e.symm)]
  have htl : (ys.take m).length = m := by rw [List.length_take]; omega
  refine ⟨⟨hok, (ys.take m).map (Value.int .i64), ⟨by rw [List.length_map]; exact (Nat.mul_one _).symm, .inr ⟨g, c, _, by rw [htl], hb, hB, by omega, hcm, ?_, ?_⟩⟩, ⟨by rw [List.length_map]; exact (Nat.mul_one _).symm, ?_⟩⟩, ⟨rfl, rfl, rfl, ?_, ?_⟩⟩
  · show (Go.Sort.putCells (Value.int .i64) 0 ys.toArray cur).size = c * 1
    simp [Go.Sort.putCells, hcs']
  · rw [htl]
    apply List.ext_getElem?
    intro i
    show ((Go.Sort.putCells (Value.int .i64) 0 ys.toArray cur).toList.take (m * 1))[i]? = _
    rw [Nat.mul_one, List.getElem?_take, List.getElem?_map, List.getElem?_take]
    by_cases hi : i < m
    · have h1 : i < cur.size := by omega
      have h2 : i < ys.length := by omega
      rw [if_pos hi, if_pos hi, Array.getElem?_toList]
      simp [Go.Sort.putCells, h1, h2]
    · rw [if_neg hi, if_neg hi]
      rfl
  · intro j p hp
    show ((((ys.take m).map (Value.int .i64)).drop (j * 1)).take 1) = [Value.int .i64 p]
    rw [Nat.mul_one]
    have h1 : ((ys.take m).map (Value.int .i64))[j]? = some (.int .i64 p) := by rw [List.getElem?_map, hp]; rfl
    obtain ⟨h2, h3⟩ := List.getElem?_eq_some_iff.1 h1
    rw [List.drop_eq_getElem_cons h2, h3]
    rfl
  · simp [Go.Sort.grow, hsz]
  · intro k hk hne
    exact hfar k hk (fun e => hne (by rw [e]))
theorem row_holds {w : World} {base g n c : Nat} {xs : List Int} {ok : Nat → Prop} (HO : Kd.R (Kd.int .i64) 3 w base ok (.slice (some ⟨g, 0, none⟩) n c) xs) : Go.Sort.Holds (Value.int .i64) w g 0 xs.toArray ∧ g < w.heap.size := by
  obtain ⟨hn, hnc, hC⟩ := Kd.R_reads' HO
  obtain ⟨hok, inner, hown, hr⟩ := HO
  rcases hown.2 with ⟨hv', _⟩ | ⟨g', cap', cur, hv', hb, hh, hlc, hcm, hcs, htake⟩
  · cases hv'
  injection hv' with ha _ hc
  injection ha with ha
  injection ha with hg
  subst hg; subst hc
  refine ⟨fun j hj => ⟨?_, blk_frozen hh _⟩, blk_lt hh⟩
  have hj' : j < xs.length := by simpa using hj
  obtain ⟨ad, e, h⟩ := Kd.at_int hC (j : Int) (by omega) (by omega)
  injection e with e
  subst e
  rw [Int.toNat_natCast, add_at] at h
  simpa [rd, hj'] using h
def slices_Sort_int_int.f (l0 : List Int) : Option (List Int) := if l0.length < 4611686018427387904 then some (l0.mergeSort fun x y => decide (x ≤ y)) else none
theorem slices_Sort_int_int.calls (P0_ : Nat → Prop) (u9000_ : Value) (l0 : List Int) (r : List Int) (w0 w : World) (hB : Below w0.heap.size w0 w) (ho0 : Kd.R (Kd.int .i64) 3 w w0.heap.size P0_ u9000_ l0) (h : slices_Sort_int_int.f l0 = some r) :
    Calls Try.prog 128 #[u9000_] w fun e w' => e = .returned (.tuple #[]) ∧ Kd.R (Kd.int .i64) 3 w' w0.heap.size (fun k_ => (P0_ k_ ∨ w.heap.size ≤ k_)) u9000_ r ∧ Below w0.heap.size w0 w' ∧ Kept w w' (fun k_ => P0_ k_) := by
 unfold slices_Sort_int_int.f at h
 by_cases hm : l0.length < 4611686018427387904
 rotate_left
 ·rw [if_neg hm] at h
  cases h
 rw [if_pos hm] at h
 obtain rfl := Option.some.inj h
 by_cases hz : l0 = []
 ·subst hz
  obtain ⟨A, c, rfl⟩ := Kd.R_slice ho0
  refine (Try.slices_Sort_int_none A c w).mono ?_
  rintro e w' ⟨rfl, rfl⟩
  refine ⟨rfl, ?_, hB, Kept.refl _ _⟩
  rw [List.mergeSort_nil]
  exact Kd.R_mono ho0 (fun _ h_ => Or.inl h_)
 have hlen : 0 < l0.length := List.length_pos_iff.2 hz
 obtain ⟨A, c, rfl⟩ := Kd.R_slice ho0
 obtain ⟨g, cap_, ev_, _⟩ := Kd.R_form ho0 (by omega)
 injection ev_ with ea_ _ ec_
 subst ea_
 obtain ⟨hH, hg0⟩ := row_holds ho0
 refine (Try.slices_Sort_int g 0 c l0 w hH hg0 hm).mono ?_
 rintro e w' ⟨rfl, q, os, rfl⟩
 have hs : (l0.mergeSort fun x y => decide (x ≤ y)).length = l0.length := List.length_mergeSort l0
 have h1 := row_put (q := q) ho0 hs (Nat.le_refl _) os
 rw [List.take_of_length_le (by omega)] at h1
 have hg : P0_ g := ho0.1 g (by simp [Value.ownBlock])
 exact ⟨rfl, Kd.R_mono h1.1 (fun _ h_ => Or.inl h_), hB.grown h1.2 hB.size (fun k_ e_ => by injection e_ with e_; subst e_; exact Kd.R_base ho0 _ (by simp [Value.ownBlock])), Kept.of_grown h1.2 (Kept.refl _ _) (fun k_ e_ => by injection e_ with e_; subst e_; exact Or.inl hg)⟩

def slices_Compact_int_int.f (l0 : List Int) : Option (List Int) := if l0.length ≤ 4611686018427387904 then some (Go.Lib.compact l0) else none
theorem slices_Compact_int_int.calls (P0_ : Nat → Prop) (u9000_ : Value) (l0 : List Int) (r : List Int) (w0 w : World) (hB : Below w0.heap.size w0 w) (ho0 : Kd.R (Kd.int .i64) 3 w w0.heap.size P0_ u9000_ l0) (h : slices_Compact_int_int.f l0 = some r) :
    Calls Try.prog 129 #[u9000_] w fun e w' => ∃ v0_ : Value, e = .returned (v0_) ∧ Kd.R (Kd.int .i64) 3 w' w0.heap.size (fun k_ => (P0_ k_ ∨ w.heap.size ≤ k_)) v0_ r ∧ Below w0.heap.size w0 w' ∧ Kept w w' (fun k_ => P0_ k_) := by
 unfold slices_Compact_int_int.f at h
 by_cases hm : l0.length ≤ 4611686018427387904
 rotate_left
 ·rw [if_neg hm] at h
  cases h
 rw [if_pos hm] at h
 obtain rfl := Option.some.inj h
 by_cases hz : l0 = []
 ·subst hz
  obtain ⟨A, c, rfl⟩ := Kd.R_slice ho0
  refine (Try.slices_Compact_int_empty A c w).mono ?_
  rintro e w' ⟨rfl, rfl⟩
  exact ⟨_, rfl, Kd.R_mono ho0 (fun _ h_ => Or.inl h_), hB, Kept.refl _ _⟩
 have hlen : 0 < l0.length := List.length_pos_iff.2 hz
 obtain ⟨A, c, rfl⟩ := Kd.R_slice ho0
 obtain ⟨g, cap_, ev_, _⟩ := Kd.R_form ho0 (by omega)
 injection ev_ with ea_ _ ec_
 subst ea_
 obtain ⟨hH, hg0⟩ := row_holds ho0
 have hlc := (Kd.R_reads' ho0).2.1
 refine (Try.slices_Compact_int g 0 c l0 w hH (by omega) hlc).mono ?_
 rintro e w' ⟨rfl, q, rfl⟩
 have hle : (Go.Lib.compact l0).length ≤ l0.length := by
  unfold Go.Lib.compact Go.Lib.compactUpTo
  rw [List.length_map]
  exact Nat.le_trans (List.length_filter_le _ _) (by simp)
 have hs : (Go.Lib.compact l0 ++ List.replicate (l0.length - (Go.Lib.compact l0).length) 0).length = l0.length := by
  rw [List.length_append, List.length_replicate]
  omega
 have h1 := row_put (q := q) ho0 hs hle #[]
 rw [List.take_left' rfl, Go.Sort.grow_empty] at h1
 have hg : P0_ g := ho0.1 g (by simp [Value.ownBlock])
 exact ⟨_, rfl, Kd.R_mono h1.1 (fun _ h_ => Or.inl h_), hB.grown h1.2 hB.size (fun k_ e_ => by injection e_ with e_; subst e_; exact Kd.R_base ho0 _ (by simp [Value.ownBlock])), Kept.of_grown h1.2 (Kept.refl _ _) (fun k_ e_ => by injection e_ with e_; subst e_; exact Or.inl hg)⟩

def impl_NeighborsIn.l0 : Nat → Int → List Int → List (S134) → Int → Int → Option (List Int)
  | 0, _, _, _, _, _ => none
  | k + 1, x1, x5, x9, x10, x11 => if x11 < x10 then (if 0 ≤ x11 then (if x11 < (x9.length : Int) then (if ((rd_T134 x9 x11).f0) = x1 then (if x5.length < 17592186044416 then ((some (x5 ++ [(rd_T134 x9 x11).f1] : List Int)).bind fun y553 => (if ((rd_T134 x9 x11).f1) = x1 then (if y553.length < 17592186044416 then (impl_NeighborsIn.l0 k x1 (y553 ++ [(rd_T134 x9 x11).f0]) x9 x10 (wrap64 (x11 + 1))) else (none)) else (impl_NeighborsIn.l0 k x1 y553 x9 x10 (wrap64 (x11 + 1))))) else (none)) else (if ((rd_T134 x9 x11).f1) = x1 then (if x5.length < 17592186044416 then (impl_NeighborsIn.l0 k x1 (x5 ++ [(rd_T134 x9 x11).f0]) x9 x10 (wrap64 (x11 + 1))) else (none)) else (impl_NeighborsIn.l0 k x1 x5 x9 x10 (wrap64 (x11 + 1))))) else (none)) else (none)) else ((slices_Sort_int_int.f x5).bind fun t547 => ((slices_Compact_int_int.f t547).bind fun t548 => (some t548)))
def impl_NeighborsIn.f (k : Nat) (l0 : List (S134)) (a1 : Int) : Option (List Int) := impl_NeighborsIn.l0 k a1 (([] : List Int)) l0 (l0.length : Int) 0
theorem impl_NeighborsIn.mono_l : ∀ k, (∀ y0 y1 y2 y3 y4, LeO (impl_NeighborsIn.l0 k y0 y1 y2 y3 y4) (impl_NeighborsIn.l0 (k + 1) y0 y1 y2 y3 y4))
  | 0 => fun _ _ _ _ _ r h => by simp [impl_NeighborsIn.l0] at h
  | k + 1 => by
    have ih0 := impl_NeighborsIn.mono_l k
    · intro y0 y1 y2 y3 y4
      unfold impl_NeighborsIn.l0
      exact mo
theorem impl_NeighborsIn.mono : ∀ a0 a1 k, LeO (impl_NeighborsIn.f k a0 a1) (impl_NeighborsIn.f (k + 1) a0 a1) := by
  intro a0 a1 k
  have ih0 := impl_NeighborsIn.mono_l k
  unfold impl_NeighborsIn.f
  exact mo
theorem impl_NeighborsIn.calls (k : Nat) (A0 : Option Addr) (c0 : Nat) (l0 : List (S134)) (a1 : Int) (r : List Int) (w : World) (hr0 : Kd.C k134 w A0 l0.length l0) (hc0 : l0.length ≤ c0) (h : impl_NeighborsIn.f k l0 a1 = some r) :
    Calls Try.prog 60 #[.slice A0 l0.length c0, .int .i64 a1] w fun e w' => ∃ v0_ : Value, e = .returned (v0_) ∧ Kd.R (Kd.int .i64) 3 w' w.heap.size (fun _ => True) v0_ r ∧ Below w.heap.size w w' := by
 have hu134 := Try.underlying134
 have HR0 := am hr0
 have HC0 := am hc0
 clear hr0 hc0
 have HB := am (Below.refl w.heap.size w)
 have H : (impl_NeighborsIn.l0 k a1 (([] : List Int)) l0 (l0.length : Int) 0) = some r := h
 clear h
 obtain ⟨y544, hy544⟩ : ∃ y_ : List Int, y_ = (([] : List Int)) := ⟨_, rfl⟩
 replace H : (impl_NeighborsIn.l0 k a1 y544 l0 (l0.length : Int) 0) = some r := ry hy544 H
 have Ny544 := am hy544
 clear hy544
 have H' := am H
 clear H
 go_enter Try.func60, Try.ntmps60
 go_wp2_with (first | ((with_reducible refine gd 8 rfl ?_); refine Kd.R_lit (Kd.int .i64) _ 3 ?hg (N := 8) ?hd (xs := ([] : List Int)) (inner := []) (ok := fun _ => True) (okp := fun _ => True) ?hr ?hp (fun _ hk => hk) trivial (Below.refl _ _) (Nat.le_refl _) (by simp) ?_; (case hd => rfl); (case hg => rfl); (case hr => first | (go_simp; done) | (go_simp; rfl)); (case hp => exact (Reps.none _ _)); intro v545 w3 ho4 hb hg_ hnew_; clear hg_ hnew_; (first | rw [← Ny544.out] at ho4 | (simp only [Int.reduceToNat] at ho4; rw [← Ny544.out] at ho4)); have HO546 := am (Kd.R_lower ho4 (below_size (sb))); replace HB := bs hb; clear hb ho4))
 go_loopg [5, 11] k (fun kq v5 v11 w' => ∃ (x5_1 : List Int) (x11_1 : Int), v11 = .int .i64 x11_1 ∧ Aside0 (impl_NeighborsIn.l0 kq a1 x5_1 l0 (l0.length : Int) x11_1 = some r) ∧ Aside0 (kq ≤ k) ∧ Aside0 (Kd.R (Kd.int .i64) 3 w' w.heap.size (fun _ => True) v5 x5_1) ∧ Aside0 (Below w.heap.size w w'))
 case atStart => exact ⟨(y544), (0), sc, H', kk0, ⟨sr HO546⟩, ⟨sb⟩⟩
 case round =>
  clear H'
  obtain ⟨x5_1, x11_1, rfl, HA, HK1, HO_5, HB⟩ := hrel
  cases gk with
  | zero => exact absurd HA.out (by simp [impl_NeighborsIn.l0])
  | succ k1 =>
   have H := HA.out
   clear HA
   simp only [impl_NeighborsIn.l0] at H
   obtain ⟨c5, H⟩ | ⟨c5, H⟩ := ie_ H
   ·have c5b0 := decide_eq_true c5
    clear c5
    obtain ⟨c6b0, H⟩ := id_ H
    obtain ⟨c7b0, H⟩ := id_ H
    obtain ⟨c8, H⟩ | ⟨c8, H⟩ := ie_ H
    ·have c8b0 : (((rd_T134 l0 x11_1).f0) == a1) = true := beq_iff_eq.mpr c8
     have c8b1 : (((rd_T134 l0 x11_1).f0) != a1) = false := bne_eq_false_iff_eq.mpr c8
     clear c8
     obtain ⟨LMc9, H⟩ := il_ H
     obtain ⟨y553, hy553⟩ : ∃ y_ : List Int, y_ = (x5_1 ++ [(rd_T134 l0 x11_1).f1]) := ⟨_, rfl⟩
     replace H : (if ((rd_T134 l0 x11_1).f1) = a1 then (if y553.length < 17592186044416 then (impl_NeighborsIn.l0 k1 a1 (y553 ++ [(rd_T134 l0 x11_1).f0]) l0 (l0.length : Int) (wrap64 (x11_1 + 1))) else (none)) else (impl_NeighborsIn.l0 k1 a1 y553 l0 (l0.length : Int) (wrap64 (x11_1 + 1)))) = some r := ry hy553 H
     have Ny553 := am hy553
     clear hy553
     obtain ⟨c10, H⟩ | ⟨c10, H⟩ := ie_ H
     ·have c10b0 : (((rd_T134 l0 x11_1).f1) == a1) = true := beq_iff_eq.mpr c10
      have c10b1 : (((rd_T134 l0 x11_1).f1) != a1) = false := bne_eq_false_iff_eq.mpr c10
      clear c10
      obtain ⟨LMc11, H⟩ := il_ H
      obtain ⟨y556, hy556⟩ : ∃ y_ : List Int, y_ = (y553 ++ [(rd_T134 l0 x11_1).f0]) := ⟨_, rfl⟩
      replace H : (impl_NeighborsIn.l0 k1 a1 y556 l0 (l0.length : Int) (wrap64 (x11_1 + 1))) = some r := ry hy556 H
      have Ny556 := am hy556
      clear hy556
      have H' := am H
      clear H
      obtain ⟨p551, q551, ad551, e551, _, _, hx551_0, hx551_1⟩ := aT_T134 HR0 HB x11_1
      cases e551
      go_wp2_with (first | ((with_reducible refine gd 7 rfl ?_); refine bx 7 #[.int .i64 0, .int .i64 0] 134 ?_; intro gb552 hg w12 hbox hb; replace HO_5 := rb HO_5 hb; have GW552 := bz w hg; have GE552 := bz w hg; replace HB := bs hb; have BK552 := am hbox; clear hb hbox hg; obtain ⟨hcz13_0, hcz13_1, hfz13_0, hfz13_1⟩ := cc2 BK552) | ((with_reducible refine gate_builtin (b := .append) (xs := #[.tmp 19, .tmp 22]) rfl ?_); at_builtin; refine Kd.R_append (Kd.int .i64) (w0 := w) w.heap.size rfl (.tmp 19) (.tmp 22) 28 3 (.int .i64 0) 8 rfl Try.underlying28 info3 rfl (by decide) (by omega) u5 x5_1 ((rd_T134 l0 x11_1).f1) [.int .i64 ((rd_T134 l0 x11_1).f1)] (fun _ => True) (fun _ => False) rfl (by first | (go_simp; done) | (go_simp; rfl)) ?aP (fun _ hk => hk.elim) ?aF ?aO ?aB ?aS ?aL ?_; (case aP => exact rfl); (case aB => exact (sbw)); (case aF => exact (fun _ _ => trivial)); (case aO => exact (by (with_reducible repeat (first | apply Kd.R_alloc | apply Kd.R_drewN | apply Kd.R_drew)); exact Kd.R_mono (Kd.R_far (p := ⟨gb552, 1, none⟩) (Kd.R_far (p := ⟨gb552, 0, none⟩) (Kd.R_types HO_5.out BK552.out (by decide)) (fun _ hk => hk.2) (.int .i64 ((rd_T134 l0 x11_1).f0))) (fun _ hk => hk.2) (.int .i64 ((rd_T134 l0 x11_1).f1))) (fun _ hk => trivial))); (case aS => exact (below_size (sbw))); (case aL => have := LMc9.out; omega); intro v554 w14 ho hb hg hat; rw [← Ny553.out] at ho; replace BK552 := am (blk_grown (g := gb552) (o := .cells #[.int .i64 ((rd_T134 l0 x11_1).f0), .int .i64 ((rd_T134 l0 x11_1).f1)] 134 (0, 0)) (sp BK552) hg (Kd.R_ne HO_5.out BK552.out (by decide))); replace HB := am hb; have HO555 := am ho; clear HO_5; clear ho hb hg hat; obtain ⟨hcz15_0, hcz15_1, hfz15_0, hfz15_1⟩ := cc2 BK552) | ((with_reducible refine gate_builtin (b := .append) (xs := #[.tmp 28, .tmp 31]) rfl ?_); at_builtin; refine Kd.R_append (Kd.int .i64) (w0 := w) w.heap.size rfl (.tmp 28) (.tmp 31) 28 3 (.int .i64 0) 8 rfl Try.underlying28 info3 rfl (by decide) (by omega) v554 y553 ((rd_T134 l0 x11_1).f0) [.int .i64 ((rd_T134 l0 x11_1).f0)] (fun _ => True) (fun _ => False) rfl rfl ?aP (fun _ hk => hk.elim) ?aF ?aO ?aB ?aS ?aL ?_; (case aP => exact rfl); (case aB => exact (sbw)); (case aF => exact (fun _ _ => trivial)); (case aO => exact (sr HO555)); (case aS => exact (below_size (sbw))); (case aL => have := LMc11.out; omega); intro v557 w16 ho hb hg hat; rw [← Ny556.out] at ho; replace BK552 := am (blk_grown (g := gb552) (o := .cells #[.int .i64 ((rd_T134 l0 x11_1).f0), .int .i64 ((rd_T134 l0 x11_1).f1)] 134 (0, 0)) (sk BK552) hg (Kd.R_ne HO555.out BK552.out (by decide))); replace HB := am hb; have HO558 := am ho; clear HO555; clear ho hb hg hat))
      go_roundg k1
      case measure => have := HK1.out; omega
      case rel => exact ⟨(y556), (wrap64 (x11_1 + 1)), sc, H', kk1, ⟨sr HO558⟩, ⟨sbw⟩⟩
     ·have c10b0 : (((rd_T134 l0 x11_1).f1) == a1) = false := beq_eq_false_iff_ne.mpr c10
      have c10b1 : (((rd_T134 l0 x11_1).f1) != a1) = true := bne_iff_ne.mpr c10
      have H' := am H
      clear H
      obtain ⟨p551, q551, ad551, e551, _, _, hx551_0, hx551_1⟩ := aT_T134 HR0 HB x11_1
      cases e551
      go_wp2_with (first | ((with_reducible refine gd 7 rfl ?_); refine bx 7 #[.int .i64 0, .int .i64 0] 134 ?_; intro gb552 hg w17 hbox hb; replace HO_5 := rb HO_5 hb; have GW552 := bz w hg; have GE552 := bz w hg; replace HB := bs hb; have BK552 := am hbox; clear hb hbox hg; obtain ⟨hcz18_0, hcz18_1, hfz18_0, hfz18_1⟩ := cc2 BK552) | ((with_reducible refine gate_builtin (b := .append) (xs := #[.tmp 19, .tmp 22]) rfl ?_); at_builtin; refine Kd.R_append (Kd.int .i64) (w0 := w) w.heap.size rfl (.tmp 19) (.tmp 22) 28 3 (.int .i64 0) 8 rfl Try.underlying28 info3 rfl (by decide) (by omega) u5 x5_1 ((rd_T134 l0 x11_1).f1) [.int .i64 ((rd_T134 l0 x11_1).f1)] (fun _ => True) (fun _ => False) rfl (by first | (go_simp; done) | (go_simp; rfl)) ?aP (fun _ hk => hk.elim) ?aF ?aO ?aB ?aS ?aL ?_; (case aP => exact rfl); (case aB => exact (sbw)); (case aF => exact (fun _ _ => trivial)); (case aO => exact (by (with_reducible repeat (first | apply Kd.R_alloc | apply Kd.R_drewN | apply Kd.R_drew)); exact Kd.R_mono (Kd.R_far (p := ⟨gb552, 1, none⟩) (Kd.R_far (p := ⟨gb552, 0, none⟩) (Kd.R_types HO_5.out BK552.out (by decide)) (fun _ hk => hk.2) (.int .i64 ((rd_T134 l0 x11_1).f0))) (fun _ hk => hk.2) (.int .i64 ((rd_T134 l0 x11_1).f1))) (fun _ hk => trivial))); (case aS => exact (below_size (sbw))); (case aL => have := LMc9.out; omega); intro v554 w19 ho hb hg hat; rw [← Ny553.out] at ho; replace BK552 := am (blk_grown (g := gb552) (o := .cells #[.int .i64 ((rd_T134 l0 x11_1).f0), .int .i64 ((rd_T134 l0 x11_1).f1)] 134 (0, 0)) (sp BK552) hg (Kd.R_ne HO_5.out BK552.out (by decide))); replace HB := am hb; have HO555 := am ho; clear HO_5; clear ho hb hg hat; obtain ⟨hcz20_0, hcz20_1, hfz20_0, hfz20_1⟩ := cc2 BK552))
      go_roundg k1
      case measure => have := HK1.out; omega
      case rel => exact ⟨(y553), (wrap64 (x11_1 + 1)), sc, H', kk1, ⟨sr HO555⟩, ⟨sbw⟩⟩
    ·have c8b0 : (((rd_T134 l0 x11_1).f0) == a1) = false := beq_eq_false_iff_ne.mpr c8
     have c8b1 : (((rd_T134 l0 x11_1).f0) != a1) = true := bne_iff_ne.mpr c8
     obtain ⟨c21, H⟩ | ⟨c21, H⟩ := ie_ H
     ·have c21b0 : (((rd_T134 l0 x11_1).f1) == a1) = true := beq_iff_eq.mpr c21
      have c21b1 : (((rd_T134 l0 x11_1).f1) != a1) = false := bne_eq_false_iff_eq.mpr c21
      clear c21
      obtain ⟨LMc22, H⟩ := il_ H
      obtain ⟨y559, hy559⟩ : ∃ y_ : List Int, y_ = (x5_1 ++ [(rd_T134 l0 x11_1).f0]) := ⟨_, rfl⟩
      replace H : (impl_NeighborsIn.l0 k1 a1 y559 l0 (l0.length : Int) (wrap64 (x11_1 + 1))) = some r := ry hy559 H
      have Ny559 := am hy559
      clear hy559
      have H' := am H
      clear H
      obtain ⟨p551, q551, ad551, e551, _, _, hx551_0, hx551_1⟩ := aT_T134 HR0 HB x11_1
      cases e551
      go_wp2_with (first | ((with_reducible refine gd 7 rfl ?_); refine bx 7 #[.int .i64 0, .int .i64 0] 134 ?_; intro gb552 hg w23 hbox hb; replace HO_5 := rb HO_5 hb; have GW552 := bz w hg; have GE552 := bz w hg; replace HB := bs hb; have BK552 := am hbox; clear hb hbox hg; obtain ⟨hcz24_0, hcz24_1, hfz24_0, hfz24_1⟩ := cc2 BK552) | ((with_reducible refine gate_builtin (b := .append) (xs := #[.tmp 28, .tmp 31]) rfl ?_); at_builtin; refine Kd.R_append (Kd.int .i64) (w0 := w) w.heap.size rfl (.tmp 28) (.tmp 31) 28 3 (.int .i64 0) 8 rfl Try.underlying28 info3 rfl (by decide) (by omega) u5 x5_1 ((rd_T134 l0 x11_1).f0) [.int .i64 ((rd_T134 l0 x11_1).f0)] (fun _ => True) (fun _ => False) rfl (by first | (go_simp; done) | (go_simp; rfl)) ?aP (fun _ hk => hk.elim) ?aF ?aO ?aB ?aS ?aL ?_; (case aP => exact rfl); (case aB => exact (sbw)); (case aF => exact (fun _ _ => trivial)); (case aO => exact (by (with_reducible repeat (first | apply Kd.R_alloc | apply Kd.R_drewN | apply Kd.R_drew)); exact Kd.R_mono (Kd.R_far (p := ⟨gb552, 1, none⟩) (Kd.R_far (p := ⟨gb552, 0, none⟩) (Kd.R_types HO_5.out BK552.out (by decide)) (fun _ hk => hk.2) (.int .i64 ((rd_T134 l0 x11_1).f0))) (fun _ hk => hk.2) (.int .i64 ((rd_T134 l0 x11_1).f1))) (fun _ hk => trivial))); (case aS => exact (below_size (sbw))); (case aL => have := LMc22.out; omega); intro v560 w25 ho hb hg hat; rw [← Ny559.out] at ho; replace BK552 := am (blk_grown (g := gb552) (o := .cells #[.int .i64 ((rd_T134 l0 x11_1).f0), .int .i64 ((rd_T134 l0 x11_1).f1)] 134 (0, 0)) (sp BK552) hg (Kd.R_ne HO_5.out BK552.out (by decide))); replace HB := am hb; have HO561 := am ho; clear HO_5; clear ho hb hg hat))
      go_roundg k1
      case measure => have := HK1.out; omega
      case rel => exact ⟨(y559), (wrap64 (x11_1 + 1)), sc, H', kk1, ⟨sr HO561⟩, ⟨sbw⟩⟩
     ·have c21b0 : (((rd_T134 l0 x11_1).f1) == a1) = false := beq_eq_false_iff_ne.mpr c21
      have c21b1 : (((rd_T134 l0 x11_1).f1) != a1) = true := bne_iff_ne.mpr c21
      have H' := am H
      clear H
      obtain ⟨p551, q551, ad551, e551, _, _, hx551_0, hx551_1⟩ := aT_T134 HR0 HB x11_1
      cases e551
      go_wp2_with (first | ((with_reducible refine gd 7 rfl ?_); refine bx 7 #[.int .i64 0, .int .i64 0] 134 ?_; intro gb552 hg w26 hbox hb; replace HO_5 := rb HO_5 hb; have GW552 := bz w hg; have GE552 := bz w hg; replace HB := bs hb; have BK552 := am hbox; clear hb hbox hg; obtain ⟨hcz27_0, hcz27_1, hfz27_0, hfz27_1⟩ := cc2 BK552))
      go_roundg k1
      case measure => have := HK1.out; omega
      case rel => exact ⟨(x5_1), (wrap64 (x11_1 + 1)), sc, H', kk1, ⟨by (with_reducible repeat (first | apply Kd.R_alloc | apply Kd.R_drewN | apply Kd.R_drew)); exact Kd.R_mono (Kd.R_far (p := ⟨gb552, 1, none⟩) (Kd.R_far (p := ⟨gb552, 0, none⟩) (Kd.R_types HO_5.out BK552.out (by decide)) (fun _ hk => hk.2) (.int .i64 ((rd_T134 l0 x11_1).f0))) (fun _ hk => hk.2) (.int .i64 ((rd_T134 l0 x11_1).f1))) (fun _ hk => trivial)⟩, ⟨sbw⟩⟩
   ·have c5b0 := decide_eq_false c5
    clear c5
    obtain ⟨t547, A28, H⟩ := bnd H
    obtain ⟨t548, A29, H⟩ := bnd H
    obtain rfl := Option.some.inj H
    obtain ⟨Ao30, co30, eo30⟩ := Kd.R_slice HO_5.out
    subst eo30
    go_wp2_with (first | ((with_reducible refine gc 128 rfl ?_); refine gL (some 35) Try.func128 #[.slice Ao30 x5_1.length co30] ?_; (with_reducible refine (slices_Sort_int_int.calls (fun k_ => some k_ = (.slice Ao30 x5_1.length co30 : Value).ownBlock) (.slice Ao30 x5_1.length co30) x5_1 t547 w _ ?side1 ?side2 A28.out).mono ?_); (case side1 => repeat (first | (with_reducible first | exact HB.out | apply below_alloc | apply pw_below_drewN | apply below_drew1) | exact HB.out)); (case side2 => exact Kd.R_tight rfl HO_5.out); rintro e w31 ⟨rfl, hy0, hb, hkp⟩; refine ⟨_, rfl, ?_⟩; replace HO_5 := am (Kd.R_reok rfl hy0 (fun k_ e_ => HO_5.out.1 k_ e_)); replace HB := am hb; (try clear hb); (try clear hkp); (try clear hy0)) | ((with_reducible refine gc 129 rfl ?_); refine gL (some 37) Try.func129 #[.slice Ao30 x5_1.length co30] ?_; (with_reducible refine (slices_Compact_int_int.calls (fun k_ => some k_ = (.slice Ao30 x5_1.length co30 : Value).ownBlock) (.slice Ao30 x5_1.length co30) t547 t548 w _ ?side1 ?side2 A29.out).mono ?_); (case side1 => repeat (first | (with_reducible first | exact HB.out | apply below_alloc | apply pw_below_drewN | apply below_drew1) | exact HB.out)); (case side2 => exact Kd.R_tight rfl HO_5.out); rintro e w32 ⟨v549, rfl, ho0, hb, hkp⟩; refine ⟨_, rfl, ?_⟩; have HO550 := am (Kd.R_mono (ok' := fun k_ => True) ho0 (fun k_ hk_ => trivial)); replace HB := am hb; clear HO_5; (try clear hb); (try clear hkp); (try clear ho0)))
    go_ret
    exact ⟨_, se, sr HO550, sb⟩

end Go.Proofs.Ytiihaabhjphaeaa.QFnMargins
