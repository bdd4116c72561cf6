/- Printed by a program of the session. Conditions: none. (squeezed). -/
import Derived.Test.YtiihaabhjphaeaaVFnSwitchedShelf
import Derived.Test.YtiihaabhjphaeaaVFnSwitchedQFnSwitchedx4
namespace Go.Proofs.Ytiihaabhjphaeaa.QFnSwitched
set_option maxHeartbeats 8000000
set_option maxRecDepth 100000
open Go.RowKit Go.Proofs.YtiihaabhjphaeaaW.PrintWords Go.Proofs.YtiihaabhjphaeaaW.PrintLast Go.Proofs.YtiihaabhjphaeaaW.PrintMore Go.Proofs.Ytiihaabhjphaeaa.Open Go.Proofs.Ytiihaabhjphaeaa.Sq
attribute [local go_sem] max2_int min2_int max_two min_two max_three min_three max_four min_four   -- for this text's walks alone
attribute [local go_sem] isSome_set
set_option linter.unusedVariables false
set_option linter.unusedSimpArgs false

theorem a5_6 {P : Prop} (h : P := by injection e_ with e_; subst e_; exact Kd.R_base ho0 _ (by simp [Value.ownBlock])) : P := h
theorem a5_5 {P : Prop} (h : P := by rw [hg]; exact Nat.ne_of_gt (blk_lt (g := gb201) (o := .cells #[.int .i64 ((rd_T55 l0 x17_1).f0), .slice A200_1 ((rd_T55 l0 x17_1).f1).length c200_1, .slice A200_2 ((rd_T55 l0 x17_1).f2).length c200_2] 55 (0, 0)) (sp BK201))) : P := h
theorem a5_4 {P : Prop} (h : P := by rw [hg]; exact Nat.ne_of_lt (blk_lt (g := gb201) (o := .cells #[.int .i64 ((rd_T55 l0 x17_1).f0), .slice A200_1 ((rd_T55 l0 x17_1).f1).length c200_1, .slice A200_2 ((rd_T55 l0 x17_1).f2).length c200_2] 55 (0, 0)) (sp BK201))) : P := h
theorem a5_3 {P : Prop} (h : P := by first | (rw [add_block]; exact hn202_2) | exact hn202_2) : P := h
theorem a5_2 {P : Prop} (h : P := by first | (rw [add_block]; exact hn202_1) | exact hn202_1) : P := h
theorem a5_1 {P : Prop} (h : P := by first | (rw [add_block]; exact hn202_0) | exact hn202_0) : P := h
theorem a5_0 {P : Prop} (h : P := by (with_reducible repeat (first | apply Kd.R_alloc | apply Kd.R_drewN | apply Kd.R_drew)); exact Kd.R_mono (Kd.R_far (p := ⟨gb213, 1, none⟩) (Kd.R_far (p := ⟨gb213, 0, none⟩) (Kd.R_types HO_5.out BK213.out (by decide)) (fun _ hk => hk.2) (.int .i64 ((rd_T134 l0 x11_1).f0))) (fun _ hk => hk.2) (.int .i64 ((rd_T134 l0 x11_1).f1))) (fun _ hk => trivial)) : P := h
def impl_isFrame.f (a0 : Int) (a1 : Int) (a2 : Int) : Option (Bool) := (impl_isNumber.f a0).bind fun t191 => (if t191 = true then ((impl_InRange.f a1 0 a0).bind fun t192 => (if t192 = true then ((impl_InRange.f a2 0 5).bind fun t193 => (some t193)) else (some false))) else (some false))
theorem e5_0 {P : Prop} (h : P := by
 obtain rfl := Option.some.inj H
 go_enter Try.func94, Try.ntmps94
 go_wp2_with (first | (have _ := A6; (with_reducible refine gc 120 rfl ?_); refine gL (some 8) Try.func120 #[.int .i64 a0] ?_; (with_reducible refine (impl_isNumber.calls a0 true _ A4.out).mono ?_); rintro e w' ⟨rfl, ⟨nd, rfl⟩⟩; refine ⟨_, rfl, ?_⟩) | (have _ := A8; go_at_call 95; (with_reducible refine (impl_InRange.calls a1 0 a0 true _ A6.out).mono ?_); rintro e w' ⟨rfl, ⟨nd, rfl⟩⟩) | (have _ := A8; go_at_call 95; (with_reducible refine (impl_InRange.calls a2 0 5 t193 _ A8.out).mono ?_); rintro e w' ⟨rfl, ⟨nd, rfl⟩⟩) | (have _ := A6; go_at_call 95; (with_reducible refine (impl_InRange.calls a1 0 a0 false _ A6.out).mono ?_); rintro e w' ⟨rfl, ⟨nd, rfl⟩⟩) | ((with_reducible refine gc 120 rfl ?_); refine gL (some 8) Try.func120 #[.int .i64 a0] ?_; (with_reducible refine (impl_isNumber.calls a0 false _ A4.out).mono ?_); rintro e w' ⟨rfl, ⟨nd, rfl⟩⟩; refine ⟨_, rfl, ?_⟩))
 first
 | have _ := A6
   go_ret
   exact ⟨sc, sd⟩
 | go_ret
   exact ⟨sc, sd⟩
   ) : P := h
theorem impl_isFrame.calls (a0 : Int) (a1 : Int) (a2 : Int) (r : Bool) (w : World) (h : impl_isFrame.f a0 a1 a2 = some r) :
    Calls Try.prog 94 #[.int .i64 a0, .int .i64 a1, .int .i64 a2] w fun e w' => e = .returned (.bool r) ∧ Drawn0 w w' := by
 have H := h; unfold impl_isFrame.f at H
 clear h
 obtain ⟨t191, A4, H⟩ := bnd H
 obtain rfl | rfl := tt t191
 ·replace H := ip H
  obtain ⟨t192, A6, H⟩ := bnd H
  obtain rfl | rfl := tt t192
  ·replace H := ip H
   obtain ⟨t193, A8, H⟩ := bnd H
   exact e5_0
  ·replace H := im H
   exact e5_0
 ·replace H := im H
  exact e5_0
def slices_Equal_int_int.l0 : Nat → List Int → List Int → Int → Int → Option (Bool)
  | 0, _, _, _, _ => none
  | k + 1, x0, x1, x12, x13 => if x13 < x12 then (if 0 ≤ x13 then (if x13 < (x0.length : Int) then (if x13 < (x1.length : Int) then (if (rd x0 x13) = (rd x1 x13) then (slices_Equal_int_int.l0 k x0 x1 x12 (wrap64 (x13 + 1))) else (some false)) else (none)) else (none)) else (none)) else (some true)
def slices_Equal_int_int.f (k : Nat) (l0 : List Int) (l1 : List Int) : Option (Bool) := if (l0.length : Int) = (l1.length : Int) then (slices_Equal_int_int.l0 k l0 l1 (l0.length : Int) 0) else (some false)
theorem slices_Equal_int_int.mono_l : ∀ k, (∀ y0 y1 y2 y3, LeO (slices_Equal_int_int.l0 k y0 y1 y2 y3) (slices_Equal_int_int.l0 (k + 1) y0 y1 y2 y3))
  | 0 => fun _ _ _ _ r h => by simp [slices_Equal_int_int.l0] at h
  | k + 1 => by
    have ih0 := slices_Equal_int_int.mono_l k
    · intro y0 y1 y2 y3
      unfold slices_Equal_int_int.l0
      exact mo
theorem slices_Equal_int_int.mono : ∀ a0 a1 k, LeO (slices_Equal_int_int.f k a0 a1) (slices_Equal_int_int.f (k + 1) a0 a1) := by
  intro a0 a1 k
  have ih0 := slices_Equal_int_int.mono_l k
  unfold slices_Equal_int_int.f
  exact mo
theorem slices_Equal_int_int.calls (k : Nat) (A0 : Option Addr) (c0 : Nat) (l0 : List Int) (A1 : Option Addr) (c1 : Nat) (l1 : List Int) (r : Bool) (w : World) (hr0 : Kd.C (Kd.int .i64) w A0 l0.length l0) (hc0 : l0.length ≤ c0) (hr1 : Kd.C (Kd.int .i64) w A1 l1.length l1) (hc1 : l1.length ≤ c1) (h : slices_Equal_int_int.f k l0 l1 = some r) :
    Calls Try.prog 145 #[.slice A0 l0.length c0, .slice A1 l1.length c1] w fun e w' => e = .returned (.bool r) ∧ Drawn0 w w' := by
 have HR0 := am hr0
 have HC0 := am hc0
 clear hr0 hc0
 have HR1 := am hr1
 have HC1 := am hc1
 clear hr1 hc1
 have H := h; unfold slices_Equal_int_int.f at H
 clear h
 obtain ⟨c3, c3b0, c3b1, H⟩ | ⟨c3, c3b0, c3b1, H⟩ := ib_ H
 ·have c3b2 : (l0.length == l1.length) = true := by first | simpa using c3 | (simp at c3 ⊢; omega)
  clear c3
  have H' := am H
  clear H
  go_enter Try.func145, Try.ntmps145
  go_wp2
  repeat (go_quiet (fail); try go_wp2)
  go_loopg [13] k (fun kq v13 w' => ∃ (x13_1 : Int), v13 = .int .i64 x13_1 ∧ Aside0 (slices_Equal_int_int.l0 kq l0 l1 (l0.length : Int) x13_1 = some r) ∧ Aside0 (kq ≤ k) ∧ Drawn0 w w')
  case atStart => exact ⟨(0), sc, H', kk0, sd⟩
  case round =>
   clear H'
   try clear c3
   try clear c3b0
   try clear c3b1
   try clear c3b2
   obtain ⟨x13_1, rfl, HA, HK1, ⟨m1, rfl⟩⟩ := hrel
   cases gk with
   | zero => exact absurd HA.out (by simp [slices_Equal_int_int.l0])
   | succ k1 =>
    have H := HA.out
    clear HA
    simp only [slices_Equal_int_int.l0] at H
    obtain ⟨-, c4b0, H⟩ | ⟨-, c4b0, H⟩ := ic_ H
    ·obtain ⟨c5b0, H⟩ := id_ H
     obtain ⟨c6b0, H⟩ := id_ H
     obtain ⟨c7b0, H⟩ := id_ H
     obtain ⟨-, c8b0, c8b1, H⟩ | ⟨c8, c8b0, c8b1, H⟩ := ib_ H
     ·have H' := am H
      clear H
      have p194 : 0 ≤ (x13_1 : Int) := sa
      have q194 : x13_1 < (l0.length : Int) := sa
      obtain ⟨ad194, e194, hx194_0⟩ := Kd.at_int HR0.out x13_1 p194 q194
      cases e194
      replace p194 := eq_true p194
      replace q194 := eq_true q194
      have p195 : 0 ≤ (x13_1 : Int) := sa
      have q195 : x13_1 < (l1.length : Int) := sa
      obtain ⟨ad195, e195, hx195_0⟩ := Kd.at_int HR1.out x13_1 p195 q195
      cases e195
      replace p195 := eq_true p195
      replace q195 := eq_true q195
      go_wp2
      repeat (go_quiet (fail); try go_wp2)
      go_roundg k1
      case measure => have := HK1.out; omega
      case rel => exact ⟨(wrap64 (x13_1 + 1)), sc, H', kk1, sd⟩
     ·obtain rfl := Option.some.inj H
      have p194 : 0 ≤ (x13_1 : Int) := sa
      have q194 : x13_1 < (l0.length : Int) := sa
      obtain ⟨ad194, e194, hx194_0⟩ := Kd.at_int HR0.out x13_1 p194 q194
      cases e194
      replace p194 := eq_true p194
      replace q194 := eq_true q194
      have p195 : 0 ≤ (x13_1 : Int) := sa
      have q195 : x13_1 < (l1.length : Int) := sa
      obtain ⟨ad195, e195, hx195_0⟩ := Kd.at_int HR1.out x13_1 p195 q195
      cases e195
      replace p195 := eq_true p195
      replace q195 := eq_true q195
      go_wp2
      repeat (go_quiet (fail); try go_wp2)
      go_ret
      exact ⟨sc, sd⟩
    ·obtain rfl := Option.some.inj H
     go_wp2
     repeat (go_quiet (fail); try go_wp2)
     go_ret
     exact ⟨sc, sd⟩
 ·have c3b2 : (l0.length == l1.length) = false := by first | simpa using c3 | (simp at c3 ⊢; omega)
  obtain rfl := Option.some.inj H
  go_enter Try.func145, Try.ntmps145
  go_wp2
  repeat (go_quiet (fail); try go_wp2)
  go_ret
  exact ⟨sc, sd⟩

def impl_EqualTables.f (k : Nat) (a0_0 : Int) (l0_1 : List Int) (l0_2 : List Int) (a1_0 : Int) (l1_1 : List Int) (l1_2 : List Int) : Option (Bool) := if a0_0 = a1_0 then ((slices_Equal_int_int.f k l0_1 l1_1).bind fun t198 => (if t198 = true then ((slices_Equal_int_int.f k l0_2 l1_2).bind fun t199 => (some t199)) else (some false))) else (some false)
theorem impl_EqualTables.mono : ∀ a0 a1 a2 a3 a4 a5 k, LeO (impl_EqualTables.f k a0 a1 a2 a3 a4 a5) (impl_EqualTables.f (k + 1) a0 a1 a2 a3 a4 a5) := by
  intro a0 a1 a2 a3 a4 a5 k
  unfold impl_EqualTables.f
  have m0 := @slices_Equal_int_int.mono
  exact mo
theorem e5_1 {P : Prop} (h : P := by
 obtain rfl := Option.some.inj H
 go_enter Try.func98, Try.ntmps98
 go_wp2_with (first | ((with_reducible refine gd 2 rfl ?_); refine bx 2 #[.int .i64 a0_0, .slice A0_1 l0_1.length c0_1, .slice A0_2 l0_2.length c0_2] 55 ?_; intro gb196 hg w7 hbox hb; have GW196 := bz w hg; have GE196 := bz w hg; replace HB := bs hb; have BK196 := am hbox; clear hb hbox hg) | ((with_reducible refine gd 3 rfl ?_); refine bx 3 #[.int .i64 a1_0, .slice A1_1 l1_1.length c1_1, .slice A1_2 l1_2.length c1_2] 55 ?_; intro gb197 hg w8 hbox hb; have GW197 := bzw w hg; have GE197 := bzw w hg; replace HB := bsw hb; have BK197 := am hbox; have NB196_197 := nl BK196 hg; have NB197_196 := ng BK196 hg; replace BK196 := bb BK196 hb; clear hb hbox hg; have hnb9 := NB196_197.out; have hnc9 := NB197_196.out; obtain ⟨hcz10_0, hcz10_1, hcz10_2, hfz10_0, hfz10_1, hfz10_2⟩ := cc3 BK196; obtain ⟨hcz11_0, hcz11_1, hcz11_2, hfz11_0, hfz11_1, hfz11_2⟩ := cc3 BK197) | (have _ := A6; go_at_call 145; (with_reducible refine (slices_Equal_int_int.calls k _ _ l0_1 _ _ l1_1 true _ ?side1 ?side2 ?side3 ?side4 A4.out).mono ?_); (case side1 => exact cb HR0_1); (case side2 => exact HC0_1.out); (case side3 => exact cb HR1_1); (case side4 => exact HC1_1.out); rintro e w' ⟨rfl, ⟨nd, rfl⟩⟩) | (have _ := A6; go_at_call 145; (with_reducible refine (slices_Equal_int_int.calls k _ _ l0_2 _ _ l1_2 t199 _ ?side1 ?side2 ?side3 ?side4 A6.out).mono ?_); (case side1 => exact cbw HR0_2); (case side2 => exact HC0_2.out); (case side3 => exact cbw HR1_2); (case side4 => exact HC1_2.out); rintro e w' ⟨rfl, ⟨nd, rfl⟩⟩) | (go_at_call 145; (with_reducible refine (slices_Equal_int_int.calls k _ _ l0_1 _ _ l1_1 false _ ?side1 ?side2 ?side3 ?side4 A4.out).mono ?_); (case side1 => exact cb HR0_1); (case side2 => exact HC0_1.out); (case side3 => exact cb HR1_1); (case side4 => exact HC1_1.out); rintro e w' ⟨rfl, ⟨nd, rfl⟩⟩))
 first
 | have _ := A4
   go_ret
   exact ⟨se, sbw⟩
 | go_ret
   exact ⟨se, sbw⟩
   ) : P := h
theorem impl_EqualTables.calls (k : Nat) (a0_0 : Int) (A0_1 : Option Addr) (c0_1 : Nat) (l0_1 : List Int) (A0_2 : Option Addr) (c0_2 : Nat) (l0_2 : List Int) (a1_0 : Int) (A1_1 : Option Addr) (c1_1 : Nat) (l1_1 : List Int) (A1_2 : Option Addr) (c1_2 : Nat) (l1_2 : List Int) (r : Bool) (w : World) (hr0_1 : Kd.C (Kd.int .i64) w A0_1 l0_1.length l0_1) (hc0_1 : l0_1.length ≤ c0_1) (hr0_2 : Kd.C (Kd.int .i64) w A0_2 l0_2.length l0_2) (hc0_2 : l0_2.length ≤ c0_2) (hr1_1 : Kd.C (Kd.int .i64) w A1_1 l1_1.length l1_1) (hc1_1 : l1_1.length ≤ c1_1) (hr1_2 : Kd.C (Kd.int .i64) w A1_2 l1_2.length l1_2) (hc1_2 : l1_2.length ≤ c1_2) (h : impl_EqualTables.f k a0_0 l0_1 l0_2 a1_0 l1_1 l1_2 = some r) :
    Calls Try.prog 98 #[.agg #[.int .i64 a0_0, .slice A0_1 l0_1.length c0_1, .slice A0_2 l0_2.length c0_2], .agg #[.int .i64 a1_0, .slice A1_1 l1_1.length c1_1, .slice A1_2 l1_2.length c1_2]] w fun e w' => e = .returned (.bool r) ∧ Below w.heap.size w w' := by
 have hu55 := Try.underlying55
 have HR0_1 := am hr0_1
 have HC0_1 := am hc0_1
 clear hr0_1 hc0_1
 have HR0_2 := am hr0_2
 have HC0_2 := am hc0_2
 clear hr0_2 hc0_2
 have HR1_1 := am hr1_1
 have HC1_1 := am hc1_1
 clear hr1_1 hc1_1
 have HR1_2 := am hr1_2
 have HC1_2 := am hc1_2
 clear hr1_2 hc1_2
 have HB := am (Below.refl w.heap.size w)
 have H := h; unfold impl_EqualTables.f at H
 clear h
 obtain ⟨-, c3b0, c3b1, H⟩ | ⟨c3, c3b0, c3b1, H⟩ := ib_ H
 ·obtain ⟨t198, A4, H⟩ := bnd H
  obtain rfl | rfl := tt t198
  ·replace H := ip H
   obtain ⟨t199, A6, H⟩ := bnd H
   exact e5_1
  ·replace H := im H
   exact e5_1
 ·exact e5_1
def impl_Table.l0 : Nat → List (S55) → List (S55) → Int → Int → Option (Bool)
  | 0, _, _, _, _ => none
  | k + 1, x1, x15, x16, x17 => if x17 < x16 then (if 0 ≤ x17 then (if x17 < (x15.length : Int) then (if x17 < (x1.length : Int) then ((impl_EqualTables.f k ((rd_T55 x15 x17).f0) ((rd_T55 x15 x17).f1) ((rd_T55 x15 x17).f2) ((rd_T55 x1 x17).f0) ((rd_T55 x1 x17).f1) ((rd_T55 x1 x17).f2)).bind fun t204 => (if t204 = true then (impl_Table.l0 k x1 x15 x16 (wrap64 (x17 + 1))) else (some false))) else (none)) else (none)) else (none)) else (some true)
def impl_Table.f (k : Nat) (l0 : List (S55)) (l1 : List (S55)) (a2 : Int) : Option (Bool) := if (l0.length : Int) = (l1.length : Int) then (impl_Table.l0 k l1 l0 (l0.length : Int) 0) else (some false)
theorem impl_Table.mono_l : ∀ k, (∀ y0 y1 y2 y3, LeO (impl_Table.l0 k y0 y1 y2 y3) (impl_Table.l0 (k + 1) y0 y1 y2 y3))
  | 0 => fun _ _ _ _ r h => by simp [impl_Table.l0] at h
  | k + 1 => by
    have ih0 := impl_Table.mono_l k
    · intro y0 y1 y2 y3
      unfold impl_Table.l0
      have m0 := @impl_EqualTables.mono
      exact mo
theorem impl_Table.mono : ∀ a0 a1 a2 k, LeO (impl_Table.f k a0 a1 a2) (impl_Table.f (k + 1) a0 a1 a2) := by
  intro a0 a1 a2 k
  have ih0 := impl_Table.mono_l k
  unfold impl_Table.f
  have m0 := @impl_EqualTables.mono
  exact mo
theorem impl_Table.calls (k : Nat) (A0 : Option Addr) (c0 : Nat) (l0 : List (S55)) (A1 : Option Addr) (c1 : Nat) (l1 : List (S55)) (a2 : Int) (r : Bool) (w : World) (hr0 : Kd.C k55 w A0 l0.length l0) (hc0 : l0.length ≤ c0) (hr1 : Kd.C k55 w A1 l1.length l1) (hc1 : l1.length ≤ c1) (h : impl_Table.f k l0 l1 a2 = some r) :
    Calls Try.prog 96 #[.slice A0 l0.length c0, .slice A1 l1.length c1, .func (.func 98) #[] #[]] w fun e w' => e = .returned (.bool r) ∧ Below w.heap.size w w' := by
 have hu55 := Try.underlying55
 have HR0 := am hr0
 have HC0 := am hc0
 clear hr0 hc0
 have HR1 := am hr1
 have HC1 := am hc1
 clear hr1 hc1
 have HB := am (Below.refl w.heap.size w)
 have H := h; unfold impl_Table.f at H
 clear h
 obtain ⟨c4, c4b0, c4b1, H⟩ | ⟨c4, c4b0, c4b1, H⟩ := ib_ H
 ·have c4b2 : (l0.length == l1.length) = true := by first | simpa using c4 | (simp at c4 ⊢; omega)
  clear c4
  have H' := am H
  clear H
  go_enter Try.func96, Try.ntmps96
  go_wp2
  go_loopg [17] k (fun kq v17 w' => ∃ (x17_1 : Int), v17 = .int .i64 x17_1 ∧ Aside0 (impl_Table.l0 kq l1 l0 (l0.length : Int) x17_1 = some r) ∧ Aside0 (kq ≤ k) ∧ Aside0 (Below w.heap.size w w'))
  case atStart => exact ⟨(0), sc, H', kk0, ⟨sb⟩⟩
  case round =>
   clear H'
   try clear c4
   try clear c4b0
   try clear c4b1
   try clear c4b2
   obtain ⟨x17_1, rfl, HA, HK1, HB⟩ := hrel
   cases gk with
   | zero => exact absurd HA.out (by simp [impl_Table.l0])
   | succ k1 =>
    have H := HA.out
    clear HA
    simp only [impl_Table.l0] at H
    obtain ⟨-, c5b0, H⟩ | ⟨-, c5b0, H⟩ := ic_ H
    ·obtain ⟨c6b0, H⟩ := id_ H
     obtain ⟨c7b0, H⟩ := id_ H
     obtain ⟨c8b0, H⟩ := id_ H
     obtain ⟨t204, A9, H⟩ := bnd H
     obtain rfl | rfl := tt t204
     ·replace H := ip H
      have H' := am H
      clear H
      obtain ⟨p200, q200, ad200, A200_1, c200_1, A200_2, c200_2, e200, _, _, _, hx200_0, hx200_1, hx200_2, HC200_1, HR200_1, HC200_2, HR200_2⟩ := aT_T55 HR0 HB x17_1
      cases e200
      go_wp2_with (first | ((with_reducible refine gd 8 rfl ?_); refine bx 8 #[.int .i64 0, .slice none 0 0, .slice none 0 0] 55 ?_; intro gb201 hg w11 hbox hb; have GW201 := bz w hg; have GE201 := bz w hg; replace HB := bs hb; have BK201 := am hbox; clear hb hbox hg; obtain ⟨hcz12_0, hcz12_1, hcz12_2, hfz12_0, hfz12_1, hfz12_2⟩ := cc3 BK201; have p202 : 0 ≤ (x17_1 : Int) := sa; have q202 : x17_1 < (l1.length : Int) := sa; obtain ⟨ad202, A202_1, c202_1, A202_2, c202_2, e202, hx202_0, hx202_1, hx202_2, hl202_1, hi202_1, hl202_2, hi202_2⟩ := at_T55 HR1.out x17_1 p202 q202; cases e202; have hn202_0 : ad202.block ≠ gb201 := Nat.ne_of_lt (Nat.lt_of_lt_of_le (bl hx202_0) GW201.out); have hn202_1 : ad202.block ≠ gb201 := Nat.ne_of_lt (Nat.lt_of_lt_of_le (bl hx202_0) GW201.out); have hn202_2 : ad202.block ≠ gb201 := Nat.ne_of_lt (Nat.lt_of_lt_of_le (bl hx202_0) GW201.out); replace hx202_0 := hb_ HB hx202_0; replace hx202_1 := hb_ HB hx202_1; replace hx202_2 := hb_ HB hx202_2; have HR202_1 := am hi202_1; have HC202_1 := am hl202_1; clear hi202_1 hl202_1; have HR202_2 := am hi202_2; have HC202_2 := am hl202_2; clear hi202_2 hl202_2; replace hx202_0 := (cell_far (p := ⟨gb201, 0, none⟩) a5_1 (.int .i64 ((rd_T55 l0 x17_1).f0))).trans hx202_0; replace hx202_1 := (cell_far (p := ⟨gb201, 0, none⟩) a5_1 (.int .i64 ((rd_T55 l0 x17_1).f0))).trans hx202_1; replace hx202_2 := (cell_far (p := ⟨gb201, 0, none⟩) a5_1 (.int .i64 ((rd_T55 l0 x17_1).f0))).trans hx202_2; replace hx202_0 := (cell_far (p := ⟨gb201, 1, none⟩) a5_2 (.slice A200_1 ((rd_T55 l0 x17_1).f1).length c200_1)).trans hx202_0; replace hx202_1 := (cell_far (p := ⟨gb201, 1, none⟩) a5_2 (.slice A200_1 ((rd_T55 l0 x17_1).f1).length c200_1)).trans hx202_1; replace hx202_2 := (cell_far (p := ⟨gb201, 1, none⟩) a5_2 (.slice A200_1 ((rd_T55 l0 x17_1).f1).length c200_1)).trans hx202_2; replace hx202_0 := (cell_far (p := ⟨gb201, 2, none⟩) a5_3 (.slice A200_2 ((rd_T55 l0 x17_1).f2).length c200_2)).trans hx202_0; replace hx202_1 := (cell_far (p := ⟨gb201, 2, none⟩) a5_3 (.slice A200_2 ((rd_T55 l0 x17_1).f2).length c200_2)).trans hx202_1; replace hx202_2 := (cell_far (p := ⟨gb201, 2, none⟩) a5_3 (.slice A200_2 ((rd_T55 l0 x17_1).f2).length c200_2)).trans hx202_2; clear hn202_0; clear hn202_1; clear hn202_2; replace p202 := eq_true p202; replace q202 := eq_true q202) | ((with_reducible refine gd 9 rfl ?_); refine bx 9 #[.int .i64 0, .slice none 0 0, .slice none 0 0] 55 ?_; intro gb203 hg w13 hbox hb; have GW203 := bzw w hg; have GE203 := bzw w hg; replace HB := bsw hb; have BK203 := am hbox; have NB201_203 := am ((a5_4 : gb201 ≠ gb203)); have NB203_201 := am ((a5_5 : gb203 ≠ gb201)); replace BK201 := am (blk_below (g := gb201) (o := .cells #[.int .i64 ((rd_T55 l0 x17_1).f0), .slice A200_1 ((rd_T55 l0 x17_1).f1).length c200_1, .slice A200_2 ((rd_T55 l0 x17_1).f2).length c200_2] 55 (0, 0)) (sp BK201) hb); clear hb hbox hg; have hnb14 := NB203_201.out; have hnc14 := NB201_203.out; obtain ⟨hcz15_0, hcz15_1, hcz15_2, hfz15_0, hfz15_1, hfz15_2⟩ := cc3 BK203; obtain ⟨hcz16_0, hcz16_1, hcz16_2, hfz16_0, hfz16_1, hfz16_2⟩ := cc3 BK201) | (go_at_call 98; (refine (impl_EqualTables.calls k1 ((rd_T55 l0 x17_1).f0) _ _ ((rd_T55 l0 x17_1).f1) _ _ ((rd_T55 l0 x17_1).f2) ((rd_T55 l1 x17_1).f0) _ _ ((rd_T55 l1 x17_1).f1) _ _ ((rd_T55 l1 x17_1).f2) true _ ?side1 ?side2 ?side3 ?side4 ?side5 ?side6 ?side7 ?side8 A9.out).mono ?_); (case side1 => exact Kd.C_below HR200_1.out (sbw)); (case side2 => exact HC200_1.out); (case side3 => exact Kd.C_below HR200_2.out (sbw)); (case side4 => exact HC200_2.out); (case side5 => exact Kd.C_below HR202_1.out (sbw)); (case side6 => exact HC202_1.out); (case side7 => exact Kd.C_below HR202_2.out (sbw)); (case side8 => exact HC202_2.out); rintro e w17 ⟨rfl, hb⟩; (try refine ⟨_, rfl, ?_⟩); replace BK201 := am (blk_below (g := gb201) (o := .cells #[.int .i64 ((rd_T55 l0 x17_1).f0), .slice A200_1 ((rd_T55 l0 x17_1).f1).length c200_1, .slice A200_2 ((rd_T55 l0 x17_1).f2).length c200_2] 55 (0, 0)) (sp BK201) hb); replace BK203 := am (blk_below (g := gb203) (o := .cells #[.int .i64 ((rd_T55 l1 x17_1).f0), .slice A202_1 ((rd_T55 l1 x17_1).f1).length c202_1, .slice A202_2 ((rd_T55 l1 x17_1).f2).length c202_2] 55 (0, 0)) (sp BK203) hb); replace HB := bsw hb; (try clear hb)))
      go_roundg k1
      case measure => have := HK1.out; omega
      case rel => exact ⟨(wrap64 (x17_1 + 1)), sc, H', kk1, ⟨sbw⟩⟩
     ·replace H := im H
      obtain rfl := Option.some.inj H
      obtain ⟨p200, q200, ad200, A200_1, c200_1, A200_2, c200_2, e200, _, _, _, hx200_0, hx200_1, hx200_2, HC200_1, HR200_1, HC200_2, HR200_2⟩ := aT_T55 HR0 HB x17_1
      cases e200
      go_wp2_with (first | ((with_reducible refine gd 8 rfl ?_); refine bx 8 #[.int .i64 0, .slice none 0 0, .slice none 0 0] 55 ?_; intro gb201 hg w18 hbox hb; have GW201 := bz w hg; have GE201 := bz w hg; replace HB := bs hb; have BK201 := am hbox; clear hb hbox hg; obtain ⟨hcz19_0, hcz19_1, hcz19_2, hfz19_0, hfz19_1, hfz19_2⟩ := cc3 BK201; have p202 : 0 ≤ (x17_1 : Int) := sa; have q202 : x17_1 < (l1.length : Int) := sa; obtain ⟨ad202, A202_1, c202_1, A202_2, c202_2, e202, hx202_0, hx202_1, hx202_2, hl202_1, hi202_1, hl202_2, hi202_2⟩ := at_T55 HR1.out x17_1 p202 q202; cases e202; have hn202_0 : ad202.block ≠ gb201 := Nat.ne_of_lt (Nat.lt_of_lt_of_le (bl hx202_0) GW201.out); have hn202_1 : ad202.block ≠ gb201 := Nat.ne_of_lt (Nat.lt_of_lt_of_le (bl hx202_0) GW201.out); have hn202_2 : ad202.block ≠ gb201 := Nat.ne_of_lt (Nat.lt_of_lt_of_le (bl hx202_0) GW201.out); replace hx202_0 := hb_ HB hx202_0; replace hx202_1 := hb_ HB hx202_1; replace hx202_2 := hb_ HB hx202_2; have HR202_1 := am hi202_1; have HC202_1 := am hl202_1; clear hi202_1 hl202_1; have HR202_2 := am hi202_2; have HC202_2 := am hl202_2; clear hi202_2 hl202_2; replace hx202_0 := (cell_far (p := ⟨gb201, 0, none⟩) a5_1 (.int .i64 ((rd_T55 l0 x17_1).f0))).trans hx202_0; replace hx202_1 := (cell_far (p := ⟨gb201, 0, none⟩) a5_1 (.int .i64 ((rd_T55 l0 x17_1).f0))).trans hx202_1; replace hx202_2 := (cell_far (p := ⟨gb201, 0, none⟩) a5_1 (.int .i64 ((rd_T55 l0 x17_1).f0))).trans hx202_2; replace hx202_0 := (cell_far (p := ⟨gb201, 1, none⟩) a5_2 (.slice A200_1 ((rd_T55 l0 x17_1).f1).length c200_1)).trans hx202_0; replace hx202_1 := (cell_far (p := ⟨gb201, 1, none⟩) a5_2 (.slice A200_1 ((rd_T55 l0 x17_1).f1).length c200_1)).trans hx202_1; replace hx202_2 := (cell_far (p := ⟨gb201, 1, none⟩) a5_2 (.slice A200_1 ((rd_T55 l0 x17_1).f1).length c200_1)).trans hx202_2; replace hx202_0 := (cell_far (p := ⟨gb201, 2, none⟩) a5_3 (.slice A200_2 ((rd_T55 l0 x17_1).f2).length c200_2)).trans hx202_0; replace hx202_1 := (cell_far (p := ⟨gb201, 2, none⟩) a5_3 (.slice A200_2 ((rd_T55 l0 x17_1).f2).length c200_2)).trans hx202_1; replace hx202_2 := (cell_far (p := ⟨gb201, 2, none⟩) a5_3 (.slice A200_2 ((rd_T55 l0 x17_1).f2).length c200_2)).trans hx202_2; clear hn202_0; clear hn202_1; clear hn202_2; replace p202 := eq_true p202; replace q202 := eq_true q202) | ((with_reducible refine gd 9 rfl ?_); refine bx 9 #[.int .i64 0, .slice none 0 0, .slice none 0 0] 55 ?_; intro gb203 hg w20 hbox hb; have GW203 := bzw w hg; have GE203 := bzw w hg; replace HB := bsw hb; have BK203 := am hbox; have NB201_203 := am ((a5_4 : gb201 ≠ gb203)); have NB203_201 := am ((a5_5 : gb203 ≠ gb201)); replace BK201 := am (blk_below (g := gb201) (o := .cells #[.int .i64 ((rd_T55 l0 x17_1).f0), .slice A200_1 ((rd_T55 l0 x17_1).f1).length c200_1, .slice A200_2 ((rd_T55 l0 x17_1).f2).length c200_2] 55 (0, 0)) (sp BK201) hb); clear hb hbox hg; have hnb21 := NB203_201.out; have hnc21 := NB201_203.out; obtain ⟨hcz22_0, hcz22_1, hcz22_2, hfz22_0, hfz22_1, hfz22_2⟩ := cc3 BK203; obtain ⟨hcz23_0, hcz23_1, hcz23_2, hfz23_0, hfz23_1, hfz23_2⟩ := cc3 BK201) | (go_at_call 98; (refine (impl_EqualTables.calls k1 ((rd_T55 l0 x17_1).f0) _ _ ((rd_T55 l0 x17_1).f1) _ _ ((rd_T55 l0 x17_1).f2) ((rd_T55 l1 x17_1).f0) _ _ ((rd_T55 l1 x17_1).f1) _ _ ((rd_T55 l1 x17_1).f2) false _ ?side1 ?side2 ?side3 ?side4 ?side5 ?side6 ?side7 ?side8 A9.out).mono ?_); (case side1 => exact Kd.C_below HR200_1.out (sbw)); (case side2 => exact HC200_1.out); (case side3 => exact Kd.C_below HR200_2.out (sbw)); (case side4 => exact HC200_2.out); (case side5 => exact Kd.C_below HR202_1.out (sbw)); (case side6 => exact HC202_1.out); (case side7 => exact Kd.C_below HR202_2.out (sbw)); (case side8 => exact HC202_2.out); rintro e w24 ⟨rfl, hb⟩; (try refine ⟨_, rfl, ?_⟩); replace BK201 := am (blk_below (g := gb201) (o := .cells #[.int .i64 ((rd_T55 l0 x17_1).f0), .slice A200_1 ((rd_T55 l0 x17_1).f1).length c200_1, .slice A200_2 ((rd_T55 l0 x17_1).f2).length c200_2] 55 (0, 0)) (sp BK201) hb); replace BK203 := am (blk_below (g := gb203) (o := .cells #[.int .i64 ((rd_T55 l1 x17_1).f0), .slice A202_1 ((rd_T55 l1 x17_1).f1).length c202_1, .slice A202_2 ((rd_T55 l1 x17_1).f2).length c202_2] 55 (0, 0)) (sp BK203) hb); replace HB := bsw hb; (try clear hb)))
      go_ret
      exact ⟨se, sbw⟩
    ·obtain rfl := Option.some.inj H
     go_wp2
     go_ret
     exact ⟨se, sb⟩
 ·have c4b2 : (l0.length == l1.length) = false := by first | simpa using c4 | (simp at c4 ⊢; omega)
  obtain rfl := Option.some.inj H
  go_enter Try.func96, Try.ntmps96
  go_wp2
  go_ret
  exact ⟨se, sb⟩

/-- A row of ints of the call's own, behind a library function that wrote it and left the first m. -/
theorem row_put {w : World} {base g n c m q : Nat} {xs ys : List Int} {ok : Nat → Prop} (HO : Kd.R (Kd.int .i64) 3 w base ok (.slice (some ⟨g, 0, none⟩) n c) xs) (hy : ys.length = n) (hm : m ≤ n) (os : Array Obj) :
    Kd.R (Kd.int .i64) 3 (Go.Sort.grow (Go.Sort.putRow (Value.int .i64) (Go.Sort.ahead w q) g 0 ys.toArray) os) base ok (.slice (some ⟨g, 0, none⟩) m c) (ys.take m) ∧ w.grownBy (Go.Sort.grow (Go.Sort.putRow (Value.int .i64) (Go.Sort.ahead w q) g 0 ys.toArray) os) (some g) := by
  obtain ⟨hn, hnc, _⟩ := Kd.R_reads' HO
  obtain ⟨hok, inner, hown, hr⟩ := HO
  rcases hown.2 with ⟨hv', _⟩ | ⟨g', cap', cur, hv', hb, hh, hlc, hcm, hcs, htake⟩
  · cases hv'
  injection hv' with ha _ hc
  injection ha with ha
  injection ha with hg
  subst hg; subst hc
  have hcs' : cur.size = c := by rw [hcs]; exact Nat.mul_one c
  have hsz : (Go.Sort.putRow (Value.int .i64) (Go.Sort.ahead w q) g 0 ys.toArray).heap.size = w.heap.size := by
    simp [Go.Sort.putRow, Go.Sort.mapBlock, Go.Sort.ahead]
  have hg0 : g < w.heap.size := blk_lt hh
  have hB : (Go.Sort.grow (Go.Sort.putRow (Value.int .i64) (Go.Sort.ahead w q) g 0 ys.toArray) os).heap[g]? = some (.cells (Go.Sort.putCells (Value.int .i64) 0 ys.toArray cur) 3 (0, 0)) := by
    rw [Go.Sort.heap_grow_old _ _ (by omega)]
    show (w.heap.modify g (Go.Sort.onCells _))[g]? = _
    rw [Array.getElem?_modify, if_pos rfl, hh]
    rfl
  have hfar : ∀ k, k < w.heap.size → k ≠ g → (Go.Sort.grow (Go.Sort.putRow (Value.int .i64) (Go.Sort.ahead w q) g 0 ys.toArray) os).heap[k]? = w.heap[k]? := by
    intro k hk hne
    rw [Go.Sort.heap_grow_old _ _ (by omega)]
    show (w.heap.modify g (Go.Sort.onCells _))[k]? = _
    rw [Array.getElem?_modify, if_neg (fun e => hne e.symm)]
  have htl : (ys.take m).length = m := by rw [List.length_take]; omega
  refine ⟨⟨hok, (ys.take m).map (Value.int .i64), ⟨by rw [List.length_map]; exact (Nat.mul_one _).symm, .inr ⟨g, c, _, by rw [htl], hb, hB, by omega, hcm, ?_, ?_⟩⟩, ⟨by rw [List.length_map]; exact (Nat.mul_one _).symm, ?_⟩⟩, ⟨rfl, rfl, rfl, ?_, ?_⟩⟩
  · show (Go.Sort.putCells (Value.int .i64) 0 ys.toArray cur).size = c * 1
    simp [Go.Sort.putCells, hcs']
  · rw [htl]
    apply List.ext_getElem?
    intro i
    show ((Go.Sort.putCells (Value.int .i64) 0 ys.toArray cur).toList.take (m * 1))[i]? = _
    rw [Nat.mul_one, List.getElem?_take, List.getElem?_map, List.getElem?_take]
    by_cases hi : i < m
    · have h1 : i < cur.size := by omega
      have h2 : i < ys.length := by omega
      rw [if_pos hi, if_pos hi, Array.getElem?_toList]
      simp [Go.Sort.putCells, h1, h2]
    · rw [if_neg hi, if_neg hi]
      rfl
  · intro j p hp
    show ((((ys.take m).map (Value.int .i64)).drop (j * 1)).take 1) = [Value.int .i64 p]
    rw [Nat.mul_one]
    have h1 : ((ys.take m).map (Value.int .i64))[j]? = some (.int .i64 p) := by rw [List.getElem?_map, hp]; rfl
    obtain ⟨h2, h3⟩ := List.getElem?_eq_some_iff.1 h1
    rw [List.drop_eq_getElem_cons h2, h3]
    rfl
  · simp [Go.Sort.grow, hsz]
  · intro k hk hne
    exact hfar k hk (fun e => hne (by rw [e]))
theorem row_holds {w : World} {base g n c : Nat} {xs : List Int} {ok : Nat → Prop} (HO : Kd.R (Kd.int .i64) 3 w base ok (.slice (some ⟨g, 0, none⟩) n c) xs) : Go.Sort.Holds (Value.int .i64) w g 0 xs.toArray ∧ g < w.heap.size := by
  obtain ⟨hn, hnc, hC⟩ := Kd.R_reads' HO
  obtain ⟨hok, inner, hown, hr⟩ := HO
  rcases hown.2 with ⟨hv', _⟩ | ⟨g', cap', cur, hv', hb, hh, hlc, hcm, hcs, htake⟩
  · cases hv'
  injection hv' with ha _ hc
  injection ha with ha
  injection ha with hg
  subst hg; subst hc
  refine ⟨fun j hj => ⟨?_, blk_frozen hh _⟩, blk_lt hh⟩
  have hj' : j < xs.length := by simpa using hj
  obtain ⟨ad, e, h⟩ := Kd.at_int hC (j : Int) (by omega) (by omega)
  injection e with e
  subst e
  rw [Int.toNat_natCast, add_at] at h
  simpa [rd, hj'] using h
def slices_Sort_int_int.f (l0 : List Int) : Option (List Int) := if l0.length < 4611686018427387904 then some (l0.mergeSort fun x y => decide (x ≤ y)) else none
theorem slices_Sort_int_int.calls (P0_ : Nat → Prop) (u9000_ : Value) (l0 : List Int) (r : List Int) (w0 w : World) (hB : Below w0.heap.size w0 w) (ho0 : Kd.R (Kd.int .i64) 3 w w0.heap.size P0_ u9000_ l0) (h : slices_Sort_int_int.f l0 = some r) :
    Calls Try.prog 128 #[u9000_] w fun e w' => e = .returned (.tuple #[]) ∧ Kd.R (Kd.int .i64) 3 w' w0.heap.size (fun k_ => (P0_ k_ ∨ w.heap.size ≤ k_)) u9000_ r ∧ Below w0.heap.size w0 w' ∧ Kept w w' (fun k_ => P0_ k_) := by
 unfold slices_Sort_int_int.f at h
 by_cases hm : l0.length < 4611686018427387904
 rotate_left
 ·rw [if_neg hm] at h
  cases h
 rw [if_pos hm] at h
 obtain rfl := Option.some.inj h
 by_cases hz : l0 = []
 ·subst hz
  obtain ⟨A, c, rfl⟩ := Kd.R_slice ho0
  refine (Try.slices_Sort_int_none A c w).mono ?_
  rintro e w' ⟨rfl, rfl⟩
  refine ⟨rfl, ?_, hB, Kept.refl _ _⟩
  rw [List.mergeSort_nil]
  exact Kd.R_mono ho0 (fun _ h_ => Or.inl h_)
 have hlen : 0 < l0.length := List.length_pos_iff.2 hz
 obtain ⟨A, c, rfl⟩ := Kd.R_slice ho0
 obtain ⟨g, cap_, ev_, _⟩ := Kd.R_form ho0 (by omega)
 injection ev_ with ea_ _ ec_
 subst ea_
 obtain ⟨hH, hg0⟩ := row_holds ho0
 refine (Try.slices_Sort_int g 0 c l0 w hH hg0 hm).mono ?_
 rintro e w' ⟨rfl, q, os, rfl⟩
 have hs : (l0.mergeSort fun x y => decide (x ≤ y)).length = l0.length := List.length_mergeSort l0
 have h1 := row_put (q := q) ho0 hs (Nat.le_refl _) os
 rw [List.take_of_length_le (by omega)] at h1
 have hg : P0_ g := ho0.1 g (by simp [Value.ownBlock])
 exact ⟨rfl, Kd.R_mono h1.1 (fun _ h_ => Or.inl h_), hB.grown h1.2 hB.size (fun k_ e_ => a5_6), Kept.of_grown h1.2 (Kept.refl _ _) (fun k_ e_ => by injection e_ with e_; subst e_; exact Or.inl hg)⟩

def slices_Compact_int_int.f (l0 : List Int) : Option (List Int) := if l0.length ≤ 4611686018427387904 then some (Go.Lib.compact l0) else none
theorem slices_Compact_int_int.calls (P0_ : Nat → Prop) (u9000_ : Value) (l0 : List Int) (r : List Int) (w0 w : World) (hB : Below w0.heap.size w0 w) (ho0 : Kd.R (Kd.int .i64) 3 w w0.heap.size P0_ u9000_ l0) (h : slices_Compact_int_int.f l0 = some r) :
    Calls Try.prog 129 #[u9000_] w fun e w' => ∃ v0_ : Value, e = .returned (v0_) ∧ Kd.R (Kd.int .i64) 3 w' w0.heap.size (fun k_ => (P0_ k_ ∨ w.heap.size ≤ k_)) v0_ r ∧ Below w0.heap.size w0 w' ∧ Kept w w' (fun k_ => P0_ k_) := by
 unfold slices_Compact_int_int.f at h
 by_cases hm : l0.length ≤ 4611686018427387904
 rotate_left
 ·rw [if_neg hm] at h
  cases h
 rw [if_pos hm] at h
 obtain rfl := Option.some.inj h
 by_cases hz : l0 = []
 ·subst hz
  obtain ⟨A, c, rfl⟩ := Kd.R_slice ho0
  refine (Try.slices_Compact_int_empty A c w).mono ?_
  rintro e w' ⟨rfl, rfl⟩
  exact ⟨_, rfl, Kd.R_mono ho0 (fun _ h_ => Or.inl h_), hB, Kept.refl _ _⟩
 have hlen : 0 < l0.length := List.length_pos_iff.2 hz
 obtain ⟨A, c, rfl⟩ := Kd.R_slice ho0
 obtain ⟨g, cap_, ev_, _⟩ := Kd.R_form ho0 (by omega)
 injection ev_ with ea_ _ ec_
 subst ea_
 obtain ⟨hH, hg0⟩ := row_holds ho0
 have hlc := (Kd.R_reads' ho0).2.1
 refine (Try.slices_Compact_int g 0 c l0 w hH (by omega) hlc).mono ?_
 rintro e w' ⟨rfl, q, rfl⟩
 have hle : (Go.Lib.compact l0).length ≤ l0.length := by
  unfold Go.Lib.compact Go.Lib.compactUpTo
  rw [List.length_map]
  exact Nat.le_trans (List.length_filter_le _ _) (by simp)
 have hs : (Go.Lib.compact l0 ++ List.replicate (l0.length - (Go.Lib.compact l0).length) 0).length = l0.length := by
  rw [List.length_append, List.length_replicate]
  omega
 have h1 := row_put (q := q) ho0 hs hle #[]
 rw [List.take_left' rfl, Go.Sort.grow_empty] at h1
 have hg : P0_ g := ho0.1 g (by simp [Value.ownBlock])
 exact ⟨_, rfl, Kd.R_mono h1.1 (fun _ h_ => Or.inl h_), hB.grown h1.2 hB.size (fun k_ e_ => a5_6), Kept.of_grown h1.2 (Kept.refl _ _) (fun k_ e_ => by injection e_ with e_; subst e_; exact Or.inl hg)⟩

def impl_NeighborsIn.l0 : Nat → Int → List Int → List (S134) → Int → Int → Option (List Int)
  | 0, _, _, _, _, _ => none
  | k + 1, x1, x5, x9, x10, x11 => if x11 < x10 then (if 0 ≤ x11 then (if x11 < (x9.length : Int) then (if ((rd_T134 x9 x11).f0) = x1 then (if x5.length < 17592186044416 then ((some (x5 ++ [(rd_T134 x9 x11).f1] : List Int)).bind fun y214 => (if ((rd_T134 x9 x11).f1) = x1 then (if y214.length < 17592186044416 then (impl_NeighborsIn.l0 k x1 (y214 ++ [(rd_T134 x9 x11).f0]) x9 x10 (wrap64 (x11 + 1))) else (none)) else (impl_NeighborsIn.l0 k x1 y214 x9 x10 (wrap64 (x11 + 1))))) else (none)) else (if ((rd_T134 x9 x11).f1) = x1 then (if x5.length < 17592186044416 then (impl_NeighborsIn.l0 k x1 (x5 ++ [(rd_T134 x9 x11).f0]) x9 x10 (wrap64 (x11 + 1))) else (none)) else (impl_NeighborsIn.l0 k x1 x5 x9 x10 (wrap64 (x11 + 1))))) else (none)) else (none)) else ((slices_Sort_int_int.f x5).bind fun t208 => ((slices_Compact_int_int.f t208).bind fun t209 => (some t209)))
def impl_NeighborsIn.f (k : Nat) (l0 : List (S134)) (a1 : Int) : Option (List Int) := impl_NeighborsIn.l0 k a1 (([] : List Int)) l0 (l0.length : Int) 0
theorem impl_NeighborsIn.mono_l : ∀ k, (∀ y0 y1 y2 y3 y4, LeO (impl_NeighborsIn.l0 k y0 y1 y2 y3 y4) (impl_NeighborsIn.l0 (k + 1) y0 y1 y2 y3 y4))
  | 0 => fun _ _ _ _ _ r h => by simp [impl_NeighborsIn.l0] at h
  | k + 1 => by
    have ih0 := impl_NeighborsIn.mono_l k
    · intro y0 y1 y2 y3 y4
      unfold impl_NeighborsIn.l0
      exact mo
theorem impl_NeighborsIn.mono : ∀ a0 a1 k, LeO (impl_NeighborsIn.f k a0 a1) (impl_NeighborsIn.f (k + 1) a0 a1) := by
  intro a0 a1 k
  have ih0 := impl_NeighborsIn.mono_l k
  unfold impl_NeighborsIn.f
  exact mo
theorem e5_2 {P : Prop} (h : P := by
 go_wp2_with (first | ((with_reducible refine gd 7 rfl ?_); refine bx 7 #[.int .i64 0, .int .i64 0] 134 ?_; intro gb213 hg w12 hbox hb; replace HO_5 := rb HO_5 hb; have GW213 := bz w hg; have GE213 := bz w hg; replace HB := bs hb; have BK213 := am hbox; clear hb hbox hg; obtain ⟨hcz13_0, hcz13_1, hfz13_0, hfz13_1⟩ := cc2 BK213) | (have _ := c10b0; (with_reducible refine gate_builtin (b := .append) (xs := #[.tmp 19, .tmp 22]) rfl ?_); at_builtin; refine Kd.R_append (Kd.int .i64) (w0 := w) w.heap.size rfl (.tmp 19) (.tmp 22) 28 3 (.int .i64 0) 8 rfl Try.underlying28 info3 rfl (by decide) (by omega) u5 x5_1 ((rd_T134 l0 x11_1).f1) [.int .i64 ((rd_T134 l0 x11_1).f1)] (fun _ => True) (fun _ => False) rfl (by first | (go_simp; done) | (go_simp; rfl)) ?aP (fun _ hk => hk.elim) ?aF ?aO ?aB ?aS ?aL ?_; (case aP => exact rfl); (case aB => exact (sbw)); (case aF => exact (fun _ _ => trivial)); (case aO => exact a5_0); (case aS => exact (below_size (sbw))); (case aL => have := LMc9.out; omega); intro v215 w14 ho hb hg hat; rw [← Ny214.out] at ho; replace BK213 := am (blk_grown (g := gb213) (o := .cells #[.int .i64 ((rd_T134 l0 x11_1).f0), .int .i64 ((rd_T134 l0 x11_1).f1)] 134 (0, 0)) (sp BK213) hg (Kd.R_ne HO_5.out BK213.out (by decide))); replace HB := am hb; have HO216 := am ho; clear HO_5; clear ho hb hg hat; obtain ⟨hcz15_0, hcz15_1, hfz15_0, hfz15_1⟩ := cc2 BK213) | (have _ := c10b0; (with_reducible refine gate_builtin (b := .append) (xs := #[.tmp 28, .tmp 31]) rfl ?_); at_builtin; refine Kd.R_append (Kd.int .i64) (w0 := w) w.heap.size rfl (.tmp 28) (.tmp 31) 28 3 (.int .i64 0) 8 rfl Try.underlying28 info3 rfl (by decide) (by omega) v215 y214 ((rd_T134 l0 x11_1).f0) [.int .i64 ((rd_T134 l0 x11_1).f0)] (fun _ => True) (fun _ => False) rfl rfl ?aP (fun _ hk => hk.elim) ?aF ?aO ?aB ?aS ?aL ?_; (case aP => exact rfl); (case aB => exact (sbw)); (case aF => exact (fun _ _ => trivial)); (case aO => exact (sr HO216)); (case aS => exact (below_size (sbw))); (case aL => have := LMc11.out; omega); intro v218 w16 ho hb hg hat; rw [← Ny217.out] at ho; replace BK213 := am (blk_grown (g := gb213) (o := .cells #[.int .i64 ((rd_T134 l0 x11_1).f0), .int .i64 ((rd_T134 l0 x11_1).f1)] 134 (0, 0)) (sk BK213) hg (Kd.R_ne HO216.out BK213.out (by decide))); replace HB := am hb; have HO219 := am ho; clear HO216; clear ho hb hg hat) | (have _ := c6b0; (with_reducible refine gate_builtin (b := .append) (xs := #[.tmp 28, .tmp 31]) rfl ?_); at_builtin; refine Kd.R_append (Kd.int .i64) (w0 := w) w.heap.size rfl (.tmp 28) (.tmp 31) 28 3 (.int .i64 0) 8 rfl Try.underlying28 info3 rfl (by decide) (by omega) u5 x5_1 ((rd_T134 l0 x11_1).f0) [.int .i64 ((rd_T134 l0 x11_1).f0)] (fun _ => True) (fun _ => False) rfl (by first | (go_simp; done) | (go_simp; rfl)) ?aP (fun _ hk => hk.elim) ?aF ?aO ?aB ?aS ?aL ?_; (case aP => exact rfl); (case aB => exact (sbw)); (case aF => exact (fun _ _ => trivial)); (case aO => exact a5_0); (case aS => exact (below_size (sbw))); (case aL => have := LMc22.out; omega); intro v221 w25 ho hb hg hat; rw [← Ny220.out] at ho; replace BK213 := am (blk_grown (g := gb213) (o := .cells #[.int .i64 ((rd_T134 l0 x11_1).f0), .int .i64 ((rd_T134 l0 x11_1).f1)] 134 (0, 0)) (sp BK213) hg (Kd.R_ne HO_5.out BK213.out (by decide))); replace HB := am hb; have HO222 := am ho; clear HO_5; clear ho hb hg hat) | ((with_reducible refine gc 128 rfl ?_); refine gL (some 35) Try.func128 #[.slice Ao30 x5_1.length co30] ?_; (with_reducible refine (slices_Sort_int_int.calls (fun k_ => some k_ = (.slice Ao30 x5_1.length co30 : Value).ownBlock) (.slice Ao30 x5_1.length co30) x5_1 t208 w _ ?side1 ?side2 A28.out).mono ?_); (case side1 => repeat (first | (with_reducible first | exact HB.out | apply below_alloc | apply pw_below_drewN | apply below_drew1) | exact HB.out)); (case side2 => exact Kd.R_tight rfl HO_5.out); rintro e w31 ⟨rfl, hy0, hb, hkp⟩; refine ⟨_, rfl, ?_⟩; replace HO_5 := am (Kd.R_reok rfl hy0 (fun k_ e_ => HO_5.out.1 k_ e_)); replace HB := am hb; (try clear hb); (try clear hkp); (try clear hy0)) | ((with_reducible refine gc 129 rfl ?_); refine gL (some 37) Try.func129 #[.slice Ao30 x5_1.length co30] ?_; (with_reducible refine (slices_Compact_int_int.calls (fun k_ => some k_ = (.slice Ao30 x5_1.length co30 : Value).ownBlock) (.slice Ao30 x5_1.length co30) t208 t209 w _ ?side1 ?side2 A29.out).mono ?_); (case side1 => repeat (first | (with_reducible first | exact HB.out | apply below_alloc | apply pw_below_drewN | apply below_drew1) | exact HB.out)); (case side2 => exact Kd.R_tight rfl HO_5.out); rintro e w32 ⟨v210, rfl, ho0, hb, hkp⟩; refine ⟨_, rfl, ?_⟩; have HO211 := am (Kd.R_mono (ok' := fun k_ => True) ho0 (fun k_ hk_ => trivial)); replace HB := am hb; clear HO_5; (try clear hb); (try clear hkp); (try clear ho0)))
 first
 | have _ := y217
   go_roundg k1
   case measure => have := HK1.out; omega
   case rel => exact ⟨(y217), (wrap64 (x11_1 + 1)), sc, H', kk1, ⟨sr HO219⟩, ⟨sbw⟩⟩
 | have _ := c10b0
   go_roundg k1
   case measure => have := HK1.out; omega
   case rel => exact ⟨(y214), (wrap64 (x11_1 + 1)), sc, H', kk1, ⟨sr HO216⟩, ⟨sbw⟩⟩
 | have _ := y220
   go_roundg k1
   case measure => have := HK1.out; omega
   case rel => exact ⟨(y220), (wrap64 (x11_1 + 1)), sc, H', kk1, ⟨sr HO222⟩, ⟨sbw⟩⟩
 | have _ := c6b0
   go_roundg k1
   case measure => have := HK1.out; omega
   case rel => exact ⟨(x5_1), (wrap64 (x11_1 + 1)), sc, H', kk1, ⟨a5_0⟩, ⟨sbw⟩⟩
 | go_ret
   exact ⟨_, se, sr HO211, sb⟩
   ) : P := h
theorem impl_NeighborsIn.calls (k : Nat) (A0 : Option Addr) (c0 : Nat) (l0 : List (S134)) (a1 : Int) (r : List Int) (w : World) (hr0 : Kd.C k134 w A0 l0.length l0) (hc0 : l0.length ≤ c0) (h : impl_NeighborsIn.f k l0 a1 = some r) :
    Calls Try.prog 60 #[.slice A0 l0.length c0, .int .i64 a1] w fun e w' => ∃ v0_ : Value, e = .returned (v0_) ∧ Kd.R (Kd.int .i64) 3 w' w.heap.size (fun _ => True) v0_ r ∧ Below w.heap.size w w' := by
 have hu134 := Try.underlying134
 have HR0 := am hr0
 have HC0 := am hc0
 clear hr0 hc0
 have HB := am (Below.refl w.heap.size w)
 have H := h; unfold impl_NeighborsIn.f at H
 clear h
 obtain ⟨y205, hy205⟩ : ∃ y_ : List Int, y_ = (([] : List Int)) := ⟨_, rfl⟩
 replace H : (impl_NeighborsIn.l0 k a1 y205 l0 (l0.length : Int) 0) = some r := ry hy205 H
 have Ny205 := am hy205
 clear hy205
 have H' := am H
 clear H
 go_enter Try.func60, Try.ntmps60
 go_wp2_with (first | ((with_reducible refine gd 8 rfl ?_); refine Kd.R_lit (Kd.int .i64) _ 3 ?hg (N := 8) ?hd (xs := ([] : List Int)) (inner := []) (ok := fun _ => True) (okp := fun _ => True) ?hr ?hp (fun _ hk => hk) trivial (Below.refl _ _) (Nat.le_refl _) (by simp) ?_; (case hd => rfl); (case hg => rfl); (case hr => first | (go_simp; done) | (go_simp; rfl)); (case hp => exact (Reps.none _ _)); intro v206 w3 ho4 hb hg_ hnew_; clear hg_ hnew_; (first | rw [← Ny205.out] at ho4 | (simp only [Int.reduceToNat] at ho4; rw [← Ny205.out] at ho4)); have HO207 := am (Kd.R_lower ho4 (below_size (sb))); replace HB := bs hb; clear hb ho4))
 go_loopg [5, 11] k (fun kq v5 v11 w' => ∃ (x5_1 : List Int) (x11_1 : Int), v11 = .int .i64 x11_1 ∧ Aside0 (impl_NeighborsIn.l0 kq a1 x5_1 l0 (l0.length : Int) x11_1 = some r) ∧ Aside0 (kq ≤ k) ∧ Aside0 (Kd.R (Kd.int .i64) 3 w' w.heap.size (fun _ => True) v5 x5_1) ∧ Aside0 (Below w.heap.size w w'))
 case atStart => exact ⟨(y205), (0), sc, H', kk0, ⟨sr HO207⟩, ⟨sb⟩⟩
 case round =>
  clear H'
  obtain ⟨x5_1, x11_1, rfl, HA, HK1, HO_5, HB⟩ := hrel
  cases gk with
  | zero => exact absurd HA.out (by simp [impl_NeighborsIn.l0])
  | succ k1 =>
   have H := HA.out
   clear HA
   simp only [impl_NeighborsIn.l0] at H
   obtain ⟨-, c5b0, H⟩ | ⟨-, c5b0, H⟩ := ic_ H
   ·obtain ⟨c6b0, H⟩ := id_ H
    obtain ⟨c7b0, H⟩ := id_ H
    obtain ⟨-, c8b0, c8b1, H⟩ | ⟨c8, c8b0, c8b1, H⟩ := ib_ H
    ·obtain ⟨LMc9, H⟩ := il_ H
     obtain ⟨y214, Ny214, H⟩ := iy_ H
     obtain ⟨-, c10b0, c10b1, H⟩ | ⟨c10, c10b0, c10b1, H⟩ := ib_ H
     ·obtain ⟨LMc11, H⟩ := il_ H
      obtain ⟨y217, hy217⟩ : ∃ y_ : List Int, y_ = (y214 ++ [(rd_T134 l0 x11_1).f0]) := ⟨_, rfl⟩
      replace H : (impl_NeighborsIn.l0 k1 a1 y217 l0 (l0.length : Int) (wrap64 (x11_1 + 1))) = some r := ry hy217 H
      have Ny217 := am hy217
      clear hy217
      have H' := am H
      clear H
      obtain ⟨p212, q212, ad212, e212, _, _, hx212_0, hx212_1⟩ := aT_T134 HR0 HB x11_1
      cases e212
      exact e5_2
     ·have H' := am H
      clear H
      obtain ⟨p212, q212, ad212, e212, _, _, hx212_0, hx212_1⟩ := aT_T134 HR0 HB x11_1
      cases e212
      exact e5_2
    ·obtain ⟨-, c21b0, c21b1, H⟩ | ⟨c21, c21b0, c21b1, H⟩ := ib_ H
     ·obtain ⟨LMc22, H⟩ := il_ H
      obtain ⟨y220, hy220⟩ : ∃ y_ : List Int, y_ = (x5_1 ++ [(rd_T134 l0 x11_1).f0]) := ⟨_, rfl⟩
      replace H : (impl_NeighborsIn.l0 k1 a1 y220 l0 (l0.length : Int) (wrap64 (x11_1 + 1))) = some r := ry hy220 H
      have Ny220 := am hy220
      clear hy220
      have H' := am H
      clear H
      obtain ⟨p212, q212, ad212, e212, _, _, hx212_0, hx212_1⟩ := aT_T134 HR0 HB x11_1
      cases e212
      exact e5_2
     ·have H' := am H
      clear H
      obtain ⟨p212, q212, ad212, e212, _, _, hx212_0, hx212_1⟩ := aT_T134 HR0 HB x11_1
      cases e212
      exact e5_2
   ·obtain ⟨t208, A28, H⟩ := bnd H
    obtain ⟨t209, A29, H⟩ := bnd H
    obtain rfl := Option.some.inj H
    obtain ⟨Ao30, co30, eo30⟩ := Kd.R_slice HO_5.out
    subst eo30
    exact e5_2
end Go.Proofs.Ytiihaabhjphaeaa.QFnSwitched
