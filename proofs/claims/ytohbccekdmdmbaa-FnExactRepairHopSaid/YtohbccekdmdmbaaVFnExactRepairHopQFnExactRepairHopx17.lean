/- Printed by a program of the session. Conditions: none. (squeezed). -/
import Derived.Test.YtohbccekdmdmbaaVFnExactRepairHopQFnExactRepairHopx12
import Derived.Test.YtohbccekdmdmbaaVFnExactRepairHopQFnExactRepairHopx16
namespace Go.Proofs.Ytohbccekdmdmbaa.QFnExactRepairHop
set_option maxHeartbeats 8000000
set_option maxRecDepth 100000
open Go.RowKit Go.Proofs.YtohbccekdmdmbaaW.PrintWords Go.Proofs.YtohbccekdmdmbaaW.PrintLast Go.Proofs.YtohbccekdmdmbaaW.PrintMore Go.Proofs.Ytohbccekdmdmbaa.Open Go.Proofs.Ytohbccekdmdmbaa.Sq
attribute [local go_sem] max2_int min2_int max_two min_two max_three min_three max_four min_four   -- for this text's walks alone
attribute [local go_sem] isSome_set
set_option linter.unusedVariables false
set_option linter.unusedSimpArgs false

def slices_Index_int_int.l0 : Nat → List Int → Int → Int → Int → Option (Int)
  | 0, _, _, _, _ => none
  | k + 1, x0, x1, x7, x8 => if x8 < x7 then (if 0 ≤ x8 then (if x8 < (x0.length : Int) then (if x1 = (rd x0 x8) then (some x8) else (slices_Index_int_int.l0 k x0 x1 x7 (wrap64 (x8 + 1)))) else (none)) else (none)) else (some (-1))
def slices_Index_int_int.f (k : Nat) (l0 : List Int) (a1 : Int) : Option (Int) := slices_Index_int_int.l0 k l0 a1 (l0.length : Int) 0
theorem slices_Index_int_int.mono_l : ∀ k, (∀ y0 y1 y2 y3, LeO (slices_Index_int_int.l0 k y0 y1 y2 y3) (slices_Index_int_int.l0 (k + 1) y0 y1 y2 y3))
  | 0 => fun _ _ _ _ r h => by simp [slices_Index_int_int.l0] at h
  | k + 1 => by
    have ih0 := slices_Index_int_int.mono_l k
    · intro y0 y1 y2 y3
      unfold slices_Index_int_int.l0
      exact mo
theorem slices_Index_int_int.mono : ∀ a0 a1 k, LeO (slices_Index_int_int.f k a0 a1) (slices_Index_int_int.f (k + 1) a0 a1) := by
  intro a0 a1 k
  have ih0 := slices_Index_int_int.mono_l k
  unfold slices_Index_int_int.f
  exact mo
theorem slices_Index_int_int.calls (k : Nat) (A0 : Option Addr) (c0 : Nat) (l0 : List Int) (a1 : Int) (r : Int) (w : World) (hr0 : Kd.C (Kd.int .i64) w A0 l0.length l0) (hc0 : l0.length ≤ c0) (h : slices_Index_int_int.f k l0 a1 = some r) :
    Calls Try.prog 64 #[.slice A0 l0.length c0, .int .i64 a1] w fun e w' => e = .returned (.int .i64 r) ∧ Drawn0 w w' := by
 have HR0 := am hr0
 have HC0 := am hc0
 clear hr0 hc0
 have H := h; unfold slices_Index_int_int.f at H
 clear h
 have H' := am H
 clear H
 go_enter Try.func64, Try.ntmps64
 go_wp2
 go_loopg [8] k (fun kq v8 w' => ∃ (x8_1 : Int), v8 = .int .i64 x8_1 ∧ Aside0 (slices_Index_int_int.l0 kq l0 a1 (l0.length : Int) x8_1 = some r) ∧ Aside0 (kq ≤ k) ∧ Drawn0 w w')
 case atStart => exact ⟨(0), sc, H', kk0, sd⟩
 case round =>
  clear H'
  obtain ⟨x8_1, rfl, HA, HK1, ⟨m1, rfl⟩⟩ := hrel
  cases gk with
  | zero => exact absurd HA.out (by simp [slices_Index_int_int.l0])
  | succ k1 =>
   have H := HA.out
   clear HA
   simp only [slices_Index_int_int.l0] at H
   obtain ⟨-, c3b0, H⟩ | ⟨-, c3b0, H⟩ := ic_ H
   ·obtain ⟨c4b0, H⟩ := id_ H
    obtain ⟨c5b0, H⟩ := id_ H
    obtain ⟨-, c6b0, c6b1, H⟩ | ⟨c6, c6b0, c6b1, H⟩ := ib_ H
    ·obtain rfl := Option.some.inj H
     have p606 : 0 ≤ (x8_1 : Int) := sa
     have q606 : x8_1 < (l0.length : Int) := sa
     obtain ⟨ad606, e606, hx606_0⟩ := Kd.at_int HR0.out x8_1 p606 q606
     cases e606
     replace p606 := eq_true p606
     replace q606 := eq_true q606
     go_wp2
     go_ret
     exact ⟨sc, sd⟩
    ·have H' := am H
     clear H
     have p606 : 0 ≤ (x8_1 : Int) := sa
     have q606 : x8_1 < (l0.length : Int) := sa
     obtain ⟨ad606, e606, hx606_0⟩ := Kd.at_int HR0.out x8_1 p606 q606
     cases e606
     replace p606 := eq_true p606
     replace q606 := eq_true q606
     go_wp2
     go_roundg k1
     case measure => have := HK1.out; omega
     case rel => exact ⟨(wrap64 (x8_1 + 1)), sc, H', kk1, sd⟩
   ·obtain rfl := Option.some.inj H
    go_wp2
    go_ret
    exact ⟨sc, sd⟩

def slices_Contains_int_int.f (k : Nat) (l0 : List Int) (a1 : Int) : Option (Bool) := (slices_Index_int_int.f k l0 a1).bind fun t607 => (some (decide (t607 ≥ 0)))
theorem slices_Contains_int_int.mono : ∀ a0 a1 k, LeO (slices_Contains_int_int.f k a0 a1) (slices_Contains_int_int.f (k + 1) a0 a1) := by
  intro a0 a1 k
  unfold slices_Contains_int_int.f
  have m0 := @slices_Index_int_int.mono
  exact mo
theorem slices_Contains_int_int.calls (k : Nat) (A0 : Option Addr) (c0 : Nat) (l0 : List Int) (a1 : Int) (r : Bool) (w : World) (hr0 : Kd.C (Kd.int .i64) w A0 l0.length l0) (hc0 : l0.length ≤ c0) (h : slices_Contains_int_int.f k l0 a1 = some r) :
    Calls Try.prog 45 #[.slice A0 l0.length c0, .int .i64 a1] w fun e w' => e = .returned (.bool r) ∧ Drawn0 w w' := by
 have HR0 := am hr0
 have HC0 := am hc0
 clear hr0 hc0
 have H := h; unfold slices_Contains_int_int.f at H
 clear h
 obtain ⟨t607, A3, H⟩ := bnd H
 obtain rfl := Option.some.inj H
 go_enter Try.func45, Try.ntmps45
 go_wp2_with (first | ((with_reducible refine gc 64 rfl ?_); refine gL (some 7) Try.func64 #[.slice A0 l0.length c0, .int .i64 a1] ?_; (with_reducible refine (slices_Index_int_int.calls k _ _ l0 a1 t607 _ ?side1 ?side2 A3.out).mono ?_); (case side1 => repeat (first | exact HR0.out | (with_reducible refine Kd.C_alloc ?_ _) | (with_reducible refine Kd.C_drewN ?_ _) | (with_reducible refine Kd.C_drew ?_))); (case side2 => exact HC0.out); rintro e w' ⟨rfl, ⟨nd, rfl⟩⟩; refine ⟨_, rfl, ?_⟩))
 go_ret
 exact ⟨sc, sd⟩

def impl_IsCalm.f (k : Nat) (a0_0 : Int) (a0_1 : Int) (a0_2 : Int) (l0_3 : List (S75)) (a1 : Int) : Option (Bool) := (impl_isSkewed.f a0_0 a0_1 a0_2 l0_3 a1).bind fun t609 => (if t609 = true then ((impl_PiecesIn.f k a0_0 a0_1 a0_2 l0_3 (wrap64 (a1 - (wrap64 (2 * a0_2)))) (wrap64 (a1 + (wrap64 (2 * a0_2))))).bind fun t610 => (some ((t610.length : Int) == 1))) else (some false))
theorem impl_IsCalm.mono : ∀ a0 a1 a2 a3 a4 k, LeO (impl_IsCalm.f k a0 a1 a2 a3 a4) (impl_IsCalm.f (k + 1) a0 a1 a2 a3 a4) := by
  intro a0 a1 a2 a3 a4 k
  unfold impl_IsCalm.f
  have m0 := @impl_PiecesIn.mono
  exact mo
theorem e17_0 {P : Prop} (h : P := by
 obtain rfl := Option.some.inj H
 go_enter Try.func46, Try.ntmps46
 go_wp2_with (first | ((with_reducible refine gd 2 rfl ?_); (try (refine gate_guard (by rfl) ?_; dsimp only)); refine bx 2 #[.int .i64 a0_0, .int .i64 a0_1, .int .i64 a0_2, .slice A0_3 l0_3.length c0_3] 49 ?_; intro gb608 hg w6 hbox hb; have GW608 := bz w hg; have GE608 := bz w hg; replace HB := bs hb; have BK608 := am hbox; clear hb hbox hg; obtain ⟨hcz7_0, hcz7_1, hcz7_2, hcz7_3, hfz7_0, hfz7_1, hfz7_2, hfz7_3⟩ := cc4 BK608) | (have _ := A5; (with_reducible refine gc 62 rfl ?_); refine gL (some 7) Try.func62 #[.agg #[.int .i64 a0_0, .int .i64 a0_1, .int .i64 a0_2, .slice A0_3 l0_3.length c0_3], .int .i64 a1] ?_; (with_reducible refine (impl_isSkewed.calls a0_0 a0_1 a0_2 _ _ l0_3 a1 true _ ?side1 ?side2 A3.out).mono ?_); (case side1 => exact cb HR0_3); (case side2 => exact HC0_3.out); rintro e w8 ⟨rfl, hb⟩; refine ⟨_, rfl, ?_⟩; replace BK608 := bb BK608 hb; replace HB := bsw hb; (try clear hb); obtain ⟨hcz9_0, hcz9_1, hcz9_2, hcz9_3, hfz9_0, hfz9_1, hfz9_2, hfz9_3⟩ := cc4 BK608) | (have _ := A5; go_at_call 65; (try simp only [i64_w, i32_w]); (with_reducible refine (impl_PiecesIn.calls k a0_0 a0_1 a0_2 _ _ l0_3 (wrap64 (a1 - (wrap64 (2 * a0_2)))) (wrap64 (a1 + (wrap64 (2 * a0_2)))) t610 _ ?side1 ?side2 A5.out).mono ?_); (case side1 => exact cb HR0_3); (case side2 => exact HC0_3.out); rintro e w10 ⟨v611, rfl, ho0, hb⟩; have HO612 := am (Kd.R_lower ho0 (below_size (sbw))); replace BK608 := bb BK608 hb; replace HB := bsw hb; (try clear hb); (try clear ho0); obtain ⟨Ao11, co11, eo11⟩ := Kd.R_slice HO612.out; subst eo11) | ((with_reducible refine gc 62 rfl ?_); refine gL (some 7) Try.func62 #[.agg #[.int .i64 a0_0, .int .i64 a0_1, .int .i64 a0_2, .slice A0_3 l0_3.length c0_3], .int .i64 a1] ?_; (with_reducible refine (impl_isSkewed.calls a0_0 a0_1 a0_2 _ _ l0_3 a1 false _ ?side1 ?side2 A3.out).mono ?_); (case side1 => exact cb HR0_3); (case side2 => exact HC0_3.out); rintro e w14 ⟨rfl, hb⟩; refine ⟨_, rfl, ?_⟩; replace BK608 := bb BK608 hb; replace HB := bsw hb; (try clear hb)))
 first
 | have _ := A5
   go_ret
   exact ⟨se, sbw⟩
 | go_ret
   exact ⟨se, sbw⟩
   ) : P := h
theorem impl_IsCalm.calls (k : Nat) (a0_0 : Int) (a0_1 : Int) (a0_2 : Int) (A0_3 : Option Addr) (c0_3 : Nat) (l0_3 : List (S75)) (a1 : Int) (r : Bool) (w : World) (hr0_3 : Kd.C k75 w A0_3 l0_3.length l0_3) (hc0_3 : l0_3.length ≤ c0_3) (h : impl_IsCalm.f k a0_0 a0_1 a0_2 l0_3 a1 = some r) :
    Calls Try.prog 46 #[.agg #[.int .i64 a0_0, .int .i64 a0_1, .int .i64 a0_2, .slice A0_3 l0_3.length c0_3], .int .i64 a1] w fun e w' => e = .returned (.bool r) ∧ Below w.heap.size w w' := by
 have hu49 := Try.underlying49
 have HR0_3 := am hr0_3
 have HC0_3 := am hc0_3
 clear hr0_3 hc0_3
 have HB := am (Below.refl w.heap.size w)
 have H := h; unfold impl_IsCalm.f at H
 clear h
 obtain ⟨t609, A3, H⟩ := bnd H
 obtain rfl | rfl := tt t609
 ·replace H := ip H
  obtain ⟨t610, A5, H⟩ := bnd H
  exact e17_0
 ·replace H := im H
  exact e17_0
mutual
def impl_RepairHop.j0 : Nat → Int → Int → Int → List Int → Bool → Int → Int → Int → List (S75) → Option (Int)
  | 0, _, _, _, _, _, _, _, _, _ => none
  | k + 1, x1, x2, x3, x4, x34, x614000, x614001, x614002, x614003 => if x34 = true then (some (-1)) else ((impl_PieceAt.f x614000 x614001 x614002 x614003 x3).bind fun t617 => ((impl_TableIn.f x614000 x614001 x614002 x614003 t617 x2).bind fun bt618 => (if 0 ≤ t617 then (if t617 < (x614003.length : Int) then ((impl_AltsOf.f k bt618.1 bt618.2.1 bt618.2.2.1 ((rd_T75 x614003 t617).f1) x614001 x1).bind fun t628 => (impl_RepairHop.l0 k x4 t628 (t628.length : Int) 0)) else (none)) else (none))))
def impl_RepairHop.l0 : Nat → List Int → List Int → Int → Int → Option (Int)
  | 0, _, _, _, _ => none
  | k + 1, x4, x55, x56, x57 => if x57 < x56 then (if 0 ≤ x57 then (if x57 < (x55.length : Int) then ((slices_Contains_int_int.f k x4 (rd x55 x57)).bind fun t632 => (if t632 = true then (impl_RepairHop.l0 k x4 x55 x56 (wrap64 (x57 + 1))) else (some (rd x55 x57)))) else (none)) else (none)) else (some (-1))
end
def impl_RepairHop.f (k : Nat) (a0_0 : Int) (a0_1 : Int) (a0_2 : Int) (l0_3 : List (S75)) (a1 : Int) (a2 : Int) (a3 : Int) (l4 : List Int) : Option (Int) := (impl_HopAt.f k a0_0 a0_1 a0_2 l0_3 a1 a2 a3).bind fun t614 => ((slices_Contains_int_int.f k l4 t614).bind fun t615 => (if t615 = true then (if t614 < 0 then (impl_RepairHop.j0 k a1 a2 a3 l4 true a0_0 a0_1 a0_2 l0_3) else ((impl_IsCalm.f k a0_0 a0_1 a0_2 l0_3 a3).bind fun t616 => (impl_RepairHop.j0 k a1 a2 a3 l4 (!t616) a0_0 a0_1 a0_2 l0_3))) else (some t614)))
theorem impl_RepairHop.mono_l : ∀ k, (∀ y0 y1 y2 y3 y4 y5 y6 y7 y8, LeO (impl_RepairHop.j0 k y0 y1 y2 y3 y4 y5 y6 y7 y8) (impl_RepairHop.j0 (k + 1) y0 y1 y2 y3 y4 y5 y6 y7 y8)) ∧ (∀ y0 y1 y2 y3, LeO (impl_RepairHop.l0 k y0 y1 y2 y3) (impl_RepairHop.l0 (k + 1) y0 y1 y2 y3))
  | 0 => ⟨fun _ _ _ _ _ _ _ _ _ r h => by simp [impl_RepairHop.j0] at h, fun _ _ _ _ r h => by simp [impl_RepairHop.l0] at h⟩
  | k + 1 => by
    obtain ⟨ih0, ih1⟩ := impl_RepairHop.mono_l k
    refine ⟨?_, ?_⟩
    · intro y0 y1 y2 y3 y4 y5 y6 y7 y8
      unfold impl_RepairHop.j0
      have m0 := @impl_AltsOf.mono
      have m1 := @impl_HopAt.mono
      have m2 := @impl_IsCalm.mono
      have m3 := @slices_Contains_int_int.mono
      exact mo
    · intro y0 y1 y2 y3
      unfold impl_RepairHop.l0
      have m0 := @impl_AltsOf.mono
      have m1 := @impl_HopAt.mono
      have m2 := @impl_IsCalm.mono
      have m3 := @slices_Contains_int_int.mono
      exact mo
theorem impl_RepairHop.mono : ∀ a0 a1 a2 a3 a4 a5 a6 a7 k, LeO (impl_RepairHop.f k a0 a1 a2 a3 a4 a5 a6 a7) (impl_RepairHop.f (k + 1) a0 a1 a2 a3 a4 a5 a6 a7) := by
  intro a0 a1 a2 a3 a4 a5 a6 a7 k
  obtain ⟨ih0, ih1⟩ := impl_RepairHop.mono_l k
  unfold impl_RepairHop.f
  have m0 := @impl_AltsOf.mono
  have m1 := @impl_HopAt.mono
  have m2 := @impl_IsCalm.mono
  have m3 := @slices_Contains_int_int.mono
  exact mo
def impl_RepairHop.T8 : Bool × List (List Nat × List Nat) := (true, [([], []), ([], []), ([1], [1]), ([], []), ([2, 3], [2, 3]), ([4], [4]), ([5], [5]), ([], []), ([7], [7]), ([], []), ([0, 6, 8, 9], [0, 6, 8, 9]), ([10], [10]), ([], [])])
def impl_RepairHop.B8 : List Nat := [0, 0, 2, 0, 14, 30, 62, 0, 128, 0, 1023, 2047, 0]
theorem impl_RepairHop.tab8 : rtab .any (opsOf Try.f25 8) = impl_RepairHop.T8 := by kernel_rfl
theorem impl_RepairHop.bits8 : waitsOk impl_RepairHop.T8.2 impl_RepairHop.B8 = true := by kernel_rfl
theorem impl_RepairHop.calls (k : Nat) (a0_0 : Int) (a0_1 : Int) (a0_2 : Int) (A0_3 : Option Addr) (c0_3 : Nat) (l0_3 : List (S75)) (a1 : Int) (a2 : Int) (a3 : Int) (A4 : Option Addr) (c4 : Nat) (l4 : List Int) (r : Int) (w : World) (hr0_3 : Kd.C k75 w A0_3 l0_3.length l0_3) (hc0_3 : l0_3.length ≤ c0_3) (hr4 : Kd.C (Kd.int .i64) w A4 l4.length l4) (hc4 : l4.length ≤ c4) (h : impl_RepairHop.f k a0_0 a0_1 a0_2 l0_3 a1 a2 a3 l4 = some r) :
    Calls Try.prog 25 #[.agg #[.int .i64 a0_0, .int .i64 a0_1, .int .i64 a0_2, .slice A0_3 l0_3.length c0_3], .int .i64 a1, .int .i64 a2, .int .i64 a3, .slice A4 l4.length c4] w fun e w' => e = .returned (.int .i64 r) ∧ Below w.heap.size w w' := by
 have hu49 := Try.underlying49
 have hu29 := Try.underlying29
 have HR0_3 := am hr0_3
 have HC0_3 := am hc0_3
 clear hr0_3 hc0_3
 have HR4 := am hr4
 have HC4 := am hc4
 clear hr4 hc4
 have HB := am (Below.refl w.heap.size w)
 have H := h; unfold impl_RepairHop.f at H
 clear h
 obtain ⟨t614, A6, H⟩ := bnd H
 obtain ⟨t615, A7, H⟩ := bnd H
 obtain rfl | rfl := tt t615
 ·replace H := ip H
  have HC9 := am H
  clear H
  go_enter Try.func25, Try.ntmps25
  go_upto_region 4 with (first | ((with_reducible refine gd 5 rfl ?_); refine bx 5 #[.int .i64 a0_0, .int .i64 a0_1, .int .i64 a0_2, .slice A0_3 l0_3.length c0_3] 49 ?_; intro gb613 hg w10 hbox hb; have GW613 := bz w hg; have GE613 := bz w hg; replace HB := bs hb; have BK613 := am hbox; clear hb hbox hg; obtain ⟨hcz11_0, hcz11_1, hcz11_2, hcz11_3, hfz11_0, hfz11_1, hfz11_2, hfz11_3⟩ := cc4 BK613) | ((with_reducible refine gc 44 rfl ?_); refine gL (some 21) Try.func44 #[.agg #[.int .i64 a0_0, .int .i64 a0_1, .int .i64 a0_2, .slice A0_3 l0_3.length c0_3], .int .i64 a1, .int .i64 a2, .int .i64 a3] ?_; (with_reducible refine (impl_HopAt.calls k a0_0 a0_1 a0_2 _ _ l0_3 a1 a2 a3 t614 _ ?side1 ?side2 A6.out).mono ?_); (case side1 => exact cb HR0_3); (case side2 => exact HC0_3.out); rintro e w12 ⟨rfl, hb⟩; refine ⟨_, rfl, ?_⟩; replace BK613 := bb BK613 hb; replace HB := bsw hb; (try clear hb)) | ((with_reducible refine gc 45 rfl ?_); refine gL (some 24) Try.func45 #[.slice A4 l4.length c4, .int .i64 t614] ?_; (with_reducible refine (slices_Contains_int_int.calls k _ _ l4 t614 true _ ?side1 ?side2 A7.out).mono ?_); (case side1 => exact cb HR4); (case side2 => exact HC4.out); rintro e w' ⟨rfl, ⟨nd, rfl⟩⟩; refine ⟨_, rfl, ?_⟩))
  (try simp only [Act.put, List.setIfInBounds_toArray, List.set_cons_zero, List.set_cons_succ])
  go_cut [34] (fun v34 wc => ∃ (kq : Nat) (x34_8 : Bool), v34 = .bool x34_8 ∧ Aside0 (impl_RepairHop.j0 kq a1 a2 a3 l4 x34_8 a0_0 a0_1 a0_2 l0_3 = some r) ∧ Aside0 (kq ≤ k) ∧ Aside0 (wc.heap[gb613]? = some (.cells #[.int .i64 a0_0, .int .i64 a0_1, .int .i64 a0_2, (.slice A0_3 l0_3.length c0_3)] 49 (0, 0))) ∧ Aside0 (Below w.heap.size w wc))
  case first =>
   have H := HC9.out
   clear HC9
   obtain ⟨-, c13b0, H⟩ | ⟨-, c13b0, H⟩ := ic_ H
   ·(first | rw [c13b0] | (simp only [i64_w, i32_w]; rw [c13b0]) | rw [c13b1] | skip)
    have H' := am H
    clear H
    go_wp2
    go_meet
    case rel => exact ⟨_, (true), sc, H', ⟨by first | omega | exact Nat.le_refl _⟩, ⟨sk BK613⟩, ⟨sbw⟩⟩
   ·(first | rw [c13b0] | (simp only [i64_w, i32_w]; rw [c13b0]) | rw [c13b1] | skip)
    obtain ⟨t616, A14, H⟩ := bnd H
    have H' := am H
    clear H
    obtain ⟨hcz15_0, hcz15_1, hcz15_2, hcz15_3, hfz15_0, hfz15_1, hfz15_2, hfz15_3⟩ := cc4 BK613
    go_wp2_with (first | (go_at_call 46; (with_reducible refine (impl_IsCalm.calls k a0_0 a0_1 a0_2 _ _ l0_3 a3 t616 _ ?side1 ?side2 A14.out).mono ?_); (case side1 => exact cb HR0_3); (case side2 => exact HC0_3.out); rintro e w16 ⟨rfl, hb⟩; replace BK613 := bb BK613 hb; replace HB := bsw hb; (try clear hb)))
    go_meet
    case rel => exact ⟨_, (!t616), sc, H', ⟨by first | omega | exact Nat.le_refl _⟩, ⟨sk BK613⟩, ⟨sbw⟩⟩
  case rest =>
   clear HC9
   try clear c4
   obtain ⟨kq, x34_8, rfl, HA, HJ8, BK613, HB⟩ := hcut
   cases kq with
   | zero => exact absurd HA.out (by simp [impl_RepairHop.j0])
   | succ kj8 =>
    have H := HA.out
    clear HA
    simp only [impl_RepairHop.j0] at H
    obtain rfl | rfl := tt x34_8
    ·replace H := ip H
     obtain rfl := Option.some.inj H
     go_wp2
     go_ret
     exact ⟨se, sbw⟩
    ·replace H := im H
     obtain ⟨t617, A18, H⟩ := bnd H
     obtain ⟨⟨t618, t619, t622, t625⟩, A19, H⟩ := bnd H
     try dsimp only at H
     obtain ⟨c20b0, H⟩ := id_ H
     obtain ⟨c21b0, H⟩ := id_ H
     obtain ⟨t628, A22, H⟩ := bnd H
     have H' := am H
     clear H
     obtain ⟨hcz23_0, hcz23_1, hcz23_2, hcz23_3, hfz23_0, hfz23_1, hfz23_2, hfz23_3⟩ := cc4 BK613
     try go_wp2_with (first | ((with_reducible refine gc 47 rfl ?_); refine gL (some 37) Try.func47 #[.agg #[.int .i64 a0_0, .int .i64 a0_1, .int .i64 a0_2, .slice A0_3 l0_3.length c0_3], .int .i64 a3] ?_; (with_reducible refine (impl_PieceAt.calls a0_0 a0_1 a0_2 _ _ l0_3 a3 t617 _ ?side1 ?side2 A18.out).mono ?_); (case side1 => exact cb HR0_3); (case side2 => exact HC0_3.out); rintro e w24 ⟨rfl, hb⟩; refine ⟨_, rfl, ?_⟩; replace BK613 := bb BK613 hb; replace HB := bsw hb; (try clear hb); obtain ⟨hcz25_0, hcz25_1, hcz25_2, hcz25_3, hfz25_0, hfz25_1, hfz25_2, hfz25_3⟩ := cc4 BK613) | ((with_reducible refine gc 48 rfl ?_); refine gL (some 42) Try.func48 #[.agg #[.int .i64 a0_0, .int .i64 a0_1, .int .i64 a0_2, .slice A0_3 l0_3.length c0_3], .int .i64 t617, .int .i64 a2] ?_; (with_reducible refine (impl_TableIn.calls a0_0 a0_1 a0_2 _ _ l0_3 t617 a2 t618 t619 t622 t625 _ ?side1 ?side2 A19.out).mono ?_); (case side1 => exact cb HR0_3); (case side2 => exact HC0_3.out); rintro e w26 ⟨v620, v623, rfl, ho0, ho1, hb⟩; refine ⟨_, rfl, ?_⟩; have HO621 := am (Kd.R_lower ho0 (below_size (sbw))); have HO624 := am (Kd.R_lower ho1 (below_size (sbw))); replace BK613 := bb BK613 hb; replace HB := bsw hb; (try clear hb); (try clear ho0); (try clear ho1)) | ((with_reducible refine gd 13 rfl ?_); refine bx 13 #[.int .i64 0, .slice none 0 0, .slice none 0 0] 29 ?_; intro gb626 hg w27 hbox hb; replace HO621 := rb HO621 hb; replace HO624 := rb HO624 hb; have GW626 := bzw w hg; have GE626 := bzw w hg; replace HB := bsw hb; have BK626 := am hbox; have NB613_626 := nl BK613 hg; have NB626_613 := ng BK613 hg; replace BK613 := bb BK613 hb; clear hb hbox hg; have hnb28 := NB626_613.out; have hnc28 := NB613_626.out; obtain ⟨hcz29_0, hcz29_1, hcz29_2, hfz29_0, hfz29_1, hfz29_2⟩ := cc3 BK626; obtain ⟨Ao30, co30, eo30⟩ := Kd.R_slice HO621.out; subst eo30; obtain ⟨Ao31, co31, eo31⟩ := Kd.R_slice HO624.out; subst eo31))
     have n0_ : Aside0 (Kd.R (Kd.int .i64) 3 (((w27.setCell ⟨gb626, 0, none⟩ (.int .i64 t618)).setCell ⟨gb626, 1, none⟩ (.slice Ao30 t619.length co30)).setCell ⟨gb626, 2, none⟩ (.slice Ao31 t622.length co31)) w.heap.size (fun k_ => some k_ ≠ (.slice Ao31 t622.length co31 : Value).ownBlock) (.slice Ao30 t619.length co30) t619) := ⟨by (with_reducible repeat (first | apply Kd.R_alloc | apply Kd.R_drewN | apply Kd.R_drew)); exact Kd.R_mono (h3 HO621 BK626) (fun _ hk => hk.1)⟩
     have n1_ : Aside0 (Kd.R (Kd.int .i64) 3 (((w27.setCell ⟨gb626, 0, none⟩ (.int .i64 t618)).setCell ⟨gb626, 1, none⟩ (.slice Ao30 t619.length co30)).setCell ⟨gb626, 2, none⟩ (.slice Ao31 t622.length co31)) w.heap.size (fun k_ => some k_ ≠ (.slice Ao30 t619.length co30 : Value).ownBlock) (.slice Ao31 t622.length co31) t622) := ⟨by (with_reducible repeat (first | apply Kd.R_alloc | apply Kd.R_drewN | apply Kd.R_drew)); exact Kd.R_mono (h3 HO624 BK626) (fun _ hk => hk.1)⟩
     have n2_ : Aside0 ((((w27.setCell ⟨gb626, 0, none⟩ (.int .i64 t618)).setCell ⟨gb626, 1, none⟩ (.slice Ao30 t619.length co30)).setCell ⟨gb626, 2, none⟩ (.slice Ao31 t622.length co31)).heap[gb613]? = some (.cells #[.int .i64 a0_0, .int .i64 a0_1, .int .i64 a0_2, .slice A0_3 l0_3.length c0_3] 49 (0, 0))) := ⟨sp BK613⟩
     have n3_ : Aside0 ((((w27.setCell ⟨gb626, 0, none⟩ (.int .i64 t618)).setCell ⟨gb626, 1, none⟩ (.slice Ao30 t619.length co30)).setCell ⟨gb626, 2, none⟩ (.slice Ao31 t622.length co31)).heap[gb626]? = some (.cells #[.int .i64 t618, .slice Ao30 t619.length co30, .slice Ao31 t622.length co31] 29 (0, 0))) := ⟨sp BK626⟩
     have n4_ : Aside0 (Below w.heap.size w (((w27.setCell ⟨gb626, 0, none⟩ (.int .i64 t618)).setCell ⟨gb626, 1, none⟩ (.slice Ao30 t619.length co30)).setCell ⟨gb626, 2, none⟩ (.slice Ao31 t622.length co31))) := ⟨sbw⟩
     (try clear HO621)
     (try clear HO624)
     (try clear BK613)
     (try clear BK626)
     (try clear HB)
     generalize (((w27.setCell ⟨gb626, 0, none⟩ (.int .i64 t618)).setCell ⟨gb626, 1, none⟩ (.slice Ao30 t619.length co30)).setCell ⟨gb626, 2, none⟩ (.slice Ao31 t622.length co31)) = w32 at n0_ n1_ n2_ n3_ n4_ ⊢
     have HO621 := n0_
     have HO624 := n1_
     have BK613 := n2_
     have BK626 := n3_
     have HB := n4_
     clear n0_ n1_ n2_ n3_ n4_
     replace HO621 := am (Kd.R_drew HO621.out)
     replace HO624 := am (Kd.R_drew HO624.out)
     replace BK613 := am (blk_drew BK613.out)
     replace BK626 := am (blk_drew BK626.out)
     replace HB := am (below_drew1 HB.out)
     obtain ⟨p627, q627, ad627, A627_2, c627_2, A627_3, c627_3, e627, hw627_0, hw627_1, hw627_2, hw627_3, hx627_0, hx627_1, hx627_2, hx627_3, HC627_2, HR627_2, HC627_3, HR627_3⟩ := aT_T75 HR0_3 HB t617
     cases e627
     refine start_ (n := 13) (S := fun w' => w'.cell? ⟨gb626, 0, none⟩ = some (.int .i64 t618) ∧ w'.cell? ⟨gb626, 1, none⟩ = some (.slice Ao30 t619.length co30) ∧ w'.cell? ⟨gb626, 2, none⟩ = some (.slice Ao31 t622.length co31) ∧ w'.cell? ⟨gb613, 0, none⟩ = some (.int .i64 a0_0) ∧ w'.cell? ⟨gb613, 1, none⟩ = some (.int .i64 a0_1) ∧ w'.cell? ⟨gb613, 2, none⟩ = some (.int .i64 a0_2) ∧ w'.cell? ⟨gb613, 3, none⟩ = some (.slice (some ad627) l0_3.length c0_3) ∧ w'.cell? (ad627.add ((t617).toNat * 4)) = some (.int .i64 ((rd_T75 l0_3 t617).f0.f0)) ∧ w'.cell? ⟨(ad627.add ((t617).toNat * 4)).block, (ad627.add ((t617).toNat * 4)).off + 1, none⟩ = some (.int .i64 ((rd_T75 l0_3 t617).f0.f1)) ∧ w'.cell? ⟨(ad627.add ((t617).toNat * 4)).block, (ad627.add ((t617).toNat * 4)).off + 2, none⟩ = some (.slice A627_2 ((rd_T75 l0_3 t617).f1).length c627_2) ∧ w'.cell? ⟨(ad627.add ((t617).toNat * 4)).block, (ad627.add ((t617).toNat * 4)).off + 3, none⟩ = some (.slice A627_3 ((rd_T75 l0_3 t617).f2).length c627_3)) (ds := []) #[false, false, false, false, false, false, false, false, false, false, false, false, false] (by kernel_rfl) rfl rfl ⟨bc0 BK626, bc1 BK626, bc2 BK626, bc0 BK613, bc1 BK613, bc2 BK613, bc3 BK613, (hb_ HB hw627_0), (hb_ HB hw627_1), (hb_ HB hw627_2), (hb_ HB hw627_3)⟩ (fun hHeld => ?_); refine with_tabW impl_RepairHop.tab8 impl_RepairHop.bits8 (fun HT_ HW_ => ?_)
     generalize w32.drew = w33 at HO621 HO624 BK613 BK626 HB HR627_2 HR627_3 hx627_0 hx627_1 hx627_2 hx627_3 hHeld ⊢
     refine put 1 46 (bt 13 2) HT_ ?_
     refine put 3 48 (bt 13 10) HT_ ?_
     refine put 7 52 (bt 13 138) HT_ ?_
     refine put 9 54 (bt 13 650) HT_ ?_
     refine put 12 57 (bt 13 4746) HT_ ?_
     refine tat11 0 45 (bt 13 4747) HT_ HW_ hHeld ?_
     refine tat11 2 47 (bt 13 4751) HT_ HW_ hHeld ?_
     refine put 4 49 (bt 13 4767) HT_ ?_
     refine put 5 50 (bt 13 4799) HT_ ?_
     refine tat11 6 51 (bt 13 4863) HT_ HW_ hHeld ?_
     refine tat11 8 53 (bt 13 5119) HT_ HW_ hHeld ?_
     refine on 10 55 (bt 13 6143) HT_ (fun K hK => ?_)
     refine goes_ Try.func15 (by kernel_rfl) rfl #[.agg #[.int .i64 t618, .slice Ao30 t619.length co30, .slice Ao31 t622.length co31], .slice A627_2 ((rd_T75 l0_3 t617).f1).length c627_2, .int .i64 a0_1, .int .i64 a1] (by rfl) rfl rfl sl ?_
     with_reducible refine (impl_AltsOf.calls kj8 t618 _ _ t619 _ _ t622 _ _ ((rd_T75 l0_3 t617).f1) a0_1 a1 t628 _ ?side1 ?side2 ?side3 ?side4 ?side5 ?side6 A22.out).mono ?_
     (case side1 => exact cr HO621)
     (case side2 => exact (Kd.R_reads' HO621.out).2.1)
     (case side3 => exact cr HO624)
     (case side4 => exact (Kd.R_reads' HO624.out).2.1)
     (case side5 => exact cb HR627_2)
     (case side6 => exact HC627_2.out)
     rintro e w34 ⟨v629, rfl, ho0, hb⟩
     refine ⟨_, rfl, ?_⟩
     have HO630 := am (Kd.R_lower (Kd.R_new' (Kd.R_new' ho0 (Kd.R_lt (sr HO621))) (Kd.R_lt (sr HO624))) (below_size (sbw)))
     replace HO621 := am (Kd.R_elder' (sr HO621) (Kd.R_base ho0) hb)
     replace HO624 := am (Kd.R_elder' (sr HO624) (Kd.R_base ho0) hb)
     replace BK613 := bb BK613 hb
     replace BK626 := bb BK626 hb
     replace HB := bsw hb
     (try clear hb)
     (try clear hb2)
     (try clear hk)
     (try clear hi)
     (try clear ho0)
     obtain ⟨Ao35, co35, eo35⟩ := Kd.R_slice HO630.out
     (first | subst eo35 | (injection eo35 with f1_ f2_ f3_; have f4_ := f1_.symm; have f5_ := f3_.symm; clear f1_ f2_ f3_; subst f4_; subst f5_))
     refine hK.out _ _ ⟨bc0 BK626, bc1 BK626, bc2 BK626, bc0 BK613, bc1 BK613, bc2 BK613, bc3 BK613, (hb_ HB hw627_0), (hb_ HB hw627_1), (hb_ HB hw627_2), (hb_ HB hw627_3)⟩ (fun hHeld => ?_)
     clear hK K
     refine nm 55 ?_
     refine put 11 56 (bt 13 8191) HT_ ?_
     refine done_ (done_of HT_.out (by kernel_rfl)) ?_
     try go_wp2
     go_loopg [57] kj8 (fun kq v57 w' => ∃ (x57_2 : Int), v57 = .int .i64 x57_2 ∧ Aside0 (impl_RepairHop.l0 kq l4 t628 (t628.length : Int) x57_2 = some r) ∧ Aside0 (kq ≤ kj8) ∧ Aside0 (Kd.R (Kd.int .i64) 3 w' w.heap.size (fun k_ => some k_ ≠ ((.slice Ao30 t619.length co30) : Value).ownBlock ∧ some k_ ≠ ((.slice Ao31 t622.length co31) : Value).ownBlock) (.slice Ao35 t628.length co35) t628) ∧ Aside0 (Kd.R (Kd.int .i64) 3 w' w.heap.size (fun k_ => some k_ ≠ ((.slice Ao35 t628.length co35) : Value).ownBlock ∧ some k_ ≠ ((.slice Ao31 t622.length co31) : Value).ownBlock) (.slice Ao30 t619.length co30) t619) ∧ Aside0 (Kd.R (Kd.int .i64) 3 w' w.heap.size (fun k_ => some k_ ≠ ((.slice Ao35 t628.length co35) : Value).ownBlock ∧ some k_ ≠ ((.slice Ao30 t619.length co30) : Value).ownBlock) (.slice Ao31 t622.length co31) t622) ∧ Aside0 (w'.heap[gb613]? = some (.cells #[.int .i64 a0_0, .int .i64 a0_1, .int .i64 a0_2, (.slice (some ad627) l0_3.length c0_3)] 49 (0, 0))) ∧ Aside0 (w'.heap[gb626]? = some (.cells #[.int .i64 t618, (.slice Ao30 t619.length co30), (.slice Ao31 t622.length co31)] 29 (0, 0))) ∧ Aside0 (Below w.heap.size w w'))
     case atStart => exact ⟨(0), sc, H', kk0, ⟨by exact rm HO630 (fun _ hk => ⟨hk.1.2, hk.2⟩)⟩, ⟨by exact rm HO621 (fun _ hk => ⟨hk.2, hk.1⟩)⟩, ⟨by exact rm HO624 (fun _ hk => ⟨hk.2, hk.1⟩)⟩, ⟨sk BK613⟩, ⟨sk BK626⟩, ⟨sbw⟩⟩
     case round =>
      clear H'
      try clear c4
      try clear c20b0
      try clear c21b0
      try clear hcz23_0
      try clear hcz23_1
      try clear hcz23_2
      try clear hcz23_3
      try clear hfz23_0
      try clear hfz23_1
      try clear hfz23_2
      try clear hfz23_3
      try clear hx627_0
      try clear hx627_1
      try clear hx627_2
      try clear hx627_3
      try clear p627
      try clear q627
      obtain ⟨x57_2, rfl, HA, HK2, HO_55, HO_627001, HO_627002, BK613, BK626, HB⟩ := hrel
      cases gk with
      | zero => exact absurd HA.out (by simp [impl_RepairHop.l0])
      | succ k2 =>
       have H := HA.out
       clear HA
       simp only [impl_RepairHop.l0] at H
       obtain ⟨-, c36b0, H⟩ | ⟨-, c36b0, H⟩ := ic_ H
       ·obtain ⟨c37b0, H⟩ := id_ H
        obtain ⟨c38b0, H⟩ := id_ H
        obtain ⟨t632, A39, H⟩ := bnd H
        obtain rfl | rfl := tt t632
        ·replace H := ip H
         have H' := am H
         clear H
         have p631 : 0 ≤ (x57_2 : Int) := sa
         have q631 : x57_2 < (t628.length : Int) := sa
         obtain ⟨ad631, e631, hx631_0⟩ := Kd.at_int (Kd.R_reads' HO_55.out).2.2 x57_2 p631 q631
         cases e631
         replace p631 := eq_true p631
         replace q631 := eq_true q631
         go_wp2_with (first | ((with_reducible refine gc 45 rfl ?_); refine gL (some 63) Try.func45 #[.slice A4 l4.length c4, .int .i64 (rd t628 x57_2)] ?_; (with_reducible refine (slices_Contains_int_int.calls k2 _ _ l4 (rd t628 x57_2) true _ ?side1 ?side2 A39.out).mono ?_); (case side1 => exact cb HR4); (case side2 => exact HC4.out); rintro e w' ⟨rfl, ⟨nd, rfl⟩⟩; refine ⟨_, rfl, ?_⟩))
         go_roundg k2
         case measure => have := HJ8.out; have := HK2.out; omega
         case rel => exact ⟨(wrap64 (x57_2 + 1)), sc, H', ⟨by have := HJ8.out; have := HK2.out; omega⟩, ⟨sr HO_55⟩, ⟨sr HO_627001⟩, ⟨sr HO_627002⟩, ⟨sk BK613⟩, ⟨sk BK626⟩, ⟨sbw⟩⟩
        ·replace H := im H
         obtain rfl := Option.some.inj H
         have p631 : 0 ≤ (x57_2 : Int) := sa
         have q631 : x57_2 < (t628.length : Int) := sa
         obtain ⟨ad631, e631, hx631_0⟩ := Kd.at_int (Kd.R_reads' HO_55.out).2.2 x57_2 p631 q631
         cases e631
         replace p631 := eq_true p631
         replace q631 := eq_true q631
         go_wp2_with (first | ((with_reducible refine gc 45 rfl ?_); refine gL (some 63) Try.func45 #[.slice A4 l4.length c4, .int .i64 (rd t628 x57_2)] ?_; (with_reducible refine (slices_Contains_int_int.calls k2 _ _ l4 (rd t628 x57_2) false _ ?side1 ?side2 A39.out).mono ?_); (case side1 => exact cb HR4); (case side2 => exact HC4.out); rintro e w' ⟨rfl, ⟨nd, rfl⟩⟩; refine ⟨_, rfl, ?_⟩))
         go_ret
         exact ⟨se, sbw⟩
       ·obtain rfl := Option.some.inj H
        go_wp2
        go_ret
        exact ⟨se, sbw⟩
 ·replace H := im H
  obtain rfl := Option.some.inj H
  go_enter Try.func25, Try.ntmps25
  go_wp2_with (first | ((with_reducible refine gd 5 rfl ?_); refine bx 5 #[.int .i64 a0_0, .int .i64 a0_1, .int .i64 a0_2, .slice A0_3 l0_3.length c0_3] 49 ?_; intro gb613 hg w41 hbox hb; have GW613 := bz w hg; have GE613 := bz w hg; replace HB := bs hb; have BK613 := am hbox; clear hb hbox hg; obtain ⟨hcz42_0, hcz42_1, hcz42_2, hcz42_3, hfz42_0, hfz42_1, hfz42_2, hfz42_3⟩ := cc4 BK613) | ((with_reducible refine gc 44 rfl ?_); refine gL (some 21) Try.func44 #[.agg #[.int .i64 a0_0, .int .i64 a0_1, .int .i64 a0_2, .slice A0_3 l0_3.length c0_3], .int .i64 a1, .int .i64 a2, .int .i64 a3] ?_; (with_reducible refine (impl_HopAt.calls k a0_0 a0_1 a0_2 _ _ l0_3 a1 a2 a3 t614 _ ?side1 ?side2 A6.out).mono ?_); (case side1 => exact cb HR0_3); (case side2 => exact HC0_3.out); rintro e w43 ⟨rfl, hb⟩; refine ⟨_, rfl, ?_⟩; replace BK613 := bb BK613 hb; replace HB := bsw hb; (try clear hb)) | ((with_reducible refine gc 45 rfl ?_); refine gL (some 24) Try.func45 #[.slice A4 l4.length c4, .int .i64 t614] ?_; (with_reducible refine (slices_Contains_int_int.calls k _ _ l4 t614 false _ ?side1 ?side2 A7.out).mono ?_); (case side1 => exact cb HR4); (case side2 => exact HC4.out); rintro e w' ⟨rfl, ⟨nd, rfl⟩⟩; refine ⟨_, rfl, ?_⟩))
  go_ret
  exact ⟨se, sbw⟩

def laws_eqLink.f (a0_0 : Int) (a0_1 : Int) (a1_0 : Int) (a1_1 : Int) : Option (Bool) := if a0_0 = a1_0 then (if a0_1 = a1_1 then (some true) else (some false)) else (some false)
theorem e17_1 {P : Prop} (h : P := by
 obtain rfl := Option.some.inj H
 go_enter Try.func29, Try.ntmps29
 go_wp2_with (first | ((with_reducible refine gd 2 rfl ?_); refine bx 2 #[.int .i64 a0_0, .int .i64 a0_1] 55 ?_; intro gb633 hg w5 hbox hb; have GW633 := bz w hg; have GE633 := bz w hg; replace HB := bs hb; have BK633 := am hbox; clear hb hbox hg) | ((with_reducible refine gd 3 rfl ?_); refine bx 3 #[.int .i64 a1_0, .int .i64 a1_1] 55 ?_; intro gb634 hg w6 hbox hb; have GW634 := bzw w hg; have GE634 := bzw w hg; replace HB := bsw hb; have BK634 := am hbox; have NB633_634 := nl BK633 hg; have NB634_633 := ng BK633 hg; replace BK633 := bb BK633 hb; clear hb hbox hg; have hnb7 := NB633_634.out; have hnc7 := NB634_633.out; obtain ⟨hcz8_0, hcz8_1, hfz8_0, hfz8_1⟩ := cc2 BK633; obtain ⟨hcz9_0, hcz9_1, hfz9_0, hfz9_1⟩ := cc2 BK634))
 first
 | have _ := c4b0
   go_ret
   exact ⟨se, sbw⟩
 | go_ret
   exact ⟨se, sbw⟩
   ) : P := h
theorem laws_eqLink.calls (a0_0 : Int) (a0_1 : Int) (a1_0 : Int) (a1_1 : Int) (r : Bool) (w : World) (h : laws_eqLink.f a0_0 a0_1 a1_0 a1_1 = some r) :
    Calls Try.prog 29 #[.agg #[.int .i64 a0_0, .int .i64 a0_1], .agg #[.int .i64 a1_0, .int .i64 a1_1]] w fun e w' => e = .returned (.bool r) ∧ Below w.heap.size w w' := by
 have hu55 := Try.underlying55
 have HB := am (Below.refl w.heap.size w)
 have H := h; unfold laws_eqLink.f at H
 clear h
 obtain ⟨-, c3b0, c3b1, H⟩ | ⟨c3, c3b0, c3b1, H⟩ := ib_ H
 ·obtain ⟨-, c4b0, c4b1, H⟩ | ⟨c4, c4b0, c4b1, H⟩ := ib_ H
  ·exact e17_1
  ·exact e17_1
 ·exact e17_1
end Go.Proofs.Ytohbccekdmdmbaa.QFnExactRepairHop
