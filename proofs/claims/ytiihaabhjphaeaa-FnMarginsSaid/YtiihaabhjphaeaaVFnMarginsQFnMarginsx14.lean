/- Printed by a program of the session. Conditions: none. (squeezed). -/
import Derived.Test.YtiihaabhjphaeaaVFnMarginsQFnMarginsx13
namespace Go.Proofs.Ytiihaabhjphaeaa.QFnMargins
set_option maxHeartbeats 8000000
set_option maxRecDepth 100000
open Go.RowKit Go.Proofs.YtiihaabhjphaeaaW.PrintWords Go.Proofs.YtiihaabhjphaeaaW.PrintLast Go.Proofs.YtiihaabhjphaeaaW.PrintMore Go.Proofs.Ytiihaabhjphaeaa.Open Go.Proofs.Ytiihaabhjphaeaa.Sq
attribute [local go_sem] max2_int min2_int max_two min_two max_three min_three max_four min_four   -- for this text's walks alone
attribute [local go_sem] isSome_set
set_option linter.unusedVariables false
set_option linter.unusedSimpArgs false

attribute [local go_sem high] eqA134
def impl_MayUse.l0 : Nat → Int → Int → Int → Int → Int → Int → Int → List (S105) → Option (Bool)
  | 0, _, _, _, _, _, _, _, _ => none
  | k + 1, x1, x2, x3, x9, x485000, x485001, x485002, x485003 => if x9 ≤ (wrap64 (x3 + x485002)) then ((impl_IsLinked.f x485000 x485001 x485002 x485003 x1 x2 x9).bind fun t486 => (if t486 = true then (impl_MayUse.l0 k x1 x2 x3 (wrap64 (x9 + 1)) x485000 x485001 x485002 x485003) else (some false))) else (some true)
def impl_MayUse.f (k : Nat) (a0_0 : Int) (a0_1 : Int) (a0_2 : Int) (l0_3 : List (S105)) (a1 : Int) (a2 : Int) (a3 : Int) : Option (Bool) := (impl_isSkewed.f a0_0 a0_1 a0_2 l0_3 a3).bind fun t485 => (if t485 = true then (impl_MayUse.l0 k a1 a2 a3 (wrap64 (a3 - a0_2)) a0_0 a0_1 a0_2 l0_3) else (some false))
theorem impl_MayUse.mono_l : ∀ k, (∀ y0 y1 y2 y3 y4 y5 y6 y7, LeO (impl_MayUse.l0 k y0 y1 y2 y3 y4 y5 y6 y7) (impl_MayUse.l0 (k + 1) y0 y1 y2 y3 y4 y5 y6 y7))
  | 0 => fun _ _ _ _ _ _ _ _ r h => by simp [impl_MayUse.l0] at h
  | k + 1 => by
    have ih0 := impl_MayUse.mono_l k
    · intro y0 y1 y2 y3 y4 y5 y6 y7
      unfold impl_MayUse.l0
      exact mo
theorem impl_MayUse.mono : ∀ a0 a1 a2 a3 a4 a5 a6 k, LeO (impl_MayUse.f k a0 a1 a2 a3 a4 a5 a6) (impl_MayUse.f (k + 1) a0 a1 a2 a3 a4 a5 a6) := by
  intro a0 a1 a2 a3 a4 a5 a6 k
  have ih0 := impl_MayUse.mono_l k
  unfold impl_MayUse.f
  exact mo
theorem impl_MayUse.calls (k : Nat) (a0_0 : Int) (a0_1 : Int) (a0_2 : Int) (A0_3 : Option Addr) (c0_3 : Nat) (l0_3 : List (S105)) (a1 : Int) (a2 : Int) (a3 : Int) (r : Bool) (w : World) (hr0_3 : Kd.C k105 w A0_3 l0_3.length l0_3) (hc0_3 : l0_3.length ≤ c0_3) (h : impl_MayUse.f k a0_0 a0_1 a0_2 l0_3 a1 a2 a3 = some r) :
    Calls Try.prog 30 #[.agg #[.int .i64 a0_0, .int .i64 a0_1, .int .i64 a0_2, .slice A0_3 l0_3.length c0_3], .int .i64 a1, .int .i64 a2, .int .i64 a3] w fun e w' => e = .returned (.bool r) ∧ Below w.heap.size w w' := by
 have hu31 := Try.underlying31
 have HR0_3 := am hr0_3
 have HC0_3 := am hc0_3
 clear hr0_3 hc0_3
 have HB := am (Below.refl w.heap.size w)
 have H : ((impl_isSkewed.f a0_0 a0_1 a0_2 l0_3 a3).bind fun t485 => (if t485 = true then (impl_MayUse.l0 k a1 a2 a3 (wrap64 (a3 - a0_2)) a0_0 a0_1 a0_2 l0_3) else (some false))) = some r := h
 clear h
 obtain ⟨t485, A5, H⟩ := bnd H
 obtain rfl | rfl := tt t485
 ·replace H := ip H
  have H' := am H
  clear H
  go_enter Try.func30, Try.ntmps30
  go_wp2_with (first | ((with_reducible refine gd 4 rfl ?_); refine bx 4 #[.int .i64 a0_0, .int .i64 a0_1, .int .i64 a0_2, .slice A0_3 l0_3.length c0_3] 31 ?_; intro gb484 hg w7 hbox hb; have GW484 := bz w hg; have GE484 := bz w hg; replace HB := bs hb; have BK484 := am hbox; clear hb hbox hg; obtain ⟨hcz8_0, hcz8_1, hcz8_2, hcz8_3, hfz8_0, hfz8_1, hfz8_2, hfz8_3⟩ := cc4 BK484) | ((with_reducible refine gc 88 rfl ?_); refine gL (some 12) Try.func88 #[.agg #[.int .i64 a0_0, .int .i64 a0_1, .int .i64 a0_2, .slice A0_3 l0_3.length c0_3], .int .i64 a3] ?_; (with_reducible refine (impl_isSkewed.calls a0_0 a0_1 a0_2 _ _ l0_3 a3 true _ ?side1 ?side2 A5.out).mono ?_); (case side1 => exact cb HR0_3); (case side2 => exact HC0_3.out); rintro e w9 ⟨rfl, hb⟩; refine ⟨_, rfl, ?_⟩; replace BK484 := bb BK484 hb; replace HB := bsw hb; (try clear hb); (try clear hb2); (try clear hk); (try clear hi); obtain ⟨hcz10_0, hcz10_1, hcz10_2, hcz10_3, hfz10_0, hfz10_1, hfz10_2, hfz10_3⟩ := cc4 BK484))
  go_loopg [9] k (fun kq v9 w' => ∃ (x9_1 : Int), v9 = .int .i64 x9_1 ∧ Aside0 (impl_MayUse.l0 kq a1 a2 a3 x9_1 a0_0 a0_1 a0_2 l0_3 = some r) ∧ Aside0 (kq ≤ k) ∧ Aside0 (w'.heap[gb484]? = some (.cells #[.int .i64 a0_0, .int .i64 a0_1, .int .i64 a0_2, (.slice A0_3 l0_3.length c0_3)] 31 (0, 0))) ∧ Aside0 (Below w.heap.size w w'))
  case atStart => exact ⟨(wrap64 (a3 - a0_2)), sc, H', kk0, ⟨sk BK484⟩, ⟨sbw⟩⟩
  case round =>
   clear H'
   obtain ⟨x9_1, rfl, HA, HK1, BK484, HB⟩ := hrel
   cases gk with
   | zero => exact absurd HA.out (by simp [impl_MayUse.l0])
   | succ k1 =>
    have H := HA.out
    clear HA
    simp only [impl_MayUse.l0] at H
    obtain ⟨c11, H⟩ | ⟨c11, H⟩ := ie_ H
    ·have c11b0 := decide_eq_true c11
     clear c11
     obtain ⟨t486, A12, H⟩ := bnd H
     obtain rfl | rfl := tt t486
     ·replace H := ip H
      have H' := am H
      clear H
      obtain ⟨hcz14_0, hcz14_1, hcz14_2, hcz14_3, hfz14_0, hfz14_1, hfz14_2, hfz14_3⟩ := cc4 BK484
      go_wp2_with (first | ((with_reducible refine gc 32 rfl ?_); refine gL (some 30) Try.func32 #[.agg #[.int .i64 a0_0, .int .i64 a0_1, .int .i64 a0_2, .slice A0_3 l0_3.length c0_3], .int .i64 a1, .int .i64 a2, .int .i64 x9_1] ?_; (with_reducible refine (impl_IsLinked.calls a0_0 a0_1 a0_2 _ _ l0_3 a1 a2 x9_1 true _ ?side1 ?side2 A12.out).mono ?_); (case side1 => exact cb HR0_3); (case side2 => exact HC0_3.out); rintro e w15 ⟨rfl, hb⟩; refine ⟨_, rfl, ?_⟩; replace BK484 := bb BK484 hb; replace HB := bsw hb; (try clear hb); (try clear hb2); (try clear hk); (try clear hi)))
      go_roundg k1
      case measure => have := HK1.out; omega
      case rel => exact ⟨(wrap64 (x9_1 + 1)), sc, H', kk1, ⟨sk BK484⟩, ⟨sbw⟩⟩
     ·replace H := im H
      obtain rfl := Option.some.inj H
      obtain ⟨hcz16_0, hcz16_1, hcz16_2, hcz16_3, hfz16_0, hfz16_1, hfz16_2, hfz16_3⟩ := cc4 BK484
      go_wp2_with (first | ((with_reducible refine gc 32 rfl ?_); refine gL (some 30) Try.func32 #[.agg #[.int .i64 a0_0, .int .i64 a0_1, .int .i64 a0_2, .slice A0_3 l0_3.length c0_3], .int .i64 a1, .int .i64 a2, .int .i64 x9_1] ?_; (with_reducible refine (impl_IsLinked.calls a0_0 a0_1 a0_2 _ _ l0_3 a1 a2 x9_1 false _ ?side1 ?side2 A12.out).mono ?_); (case side1 => exact cb HR0_3); (case side2 => exact HC0_3.out); rintro e w17 ⟨rfl, hb⟩; refine ⟨_, rfl, ?_⟩; replace BK484 := bb BK484 hb; replace HB := bsw hb; (try clear hb); (try clear hb2); (try clear hk); (try clear hi)))
      go_ret
      exact ⟨se, sbw⟩
    ·have c11b0 := decide_eq_false c11
     clear c11
     obtain rfl := Option.some.inj H
     obtain ⟨hcz18_0, hcz18_1, hcz18_2, hcz18_3, hfz18_0, hfz18_1, hfz18_2, hfz18_3⟩ := cc4 BK484
     go_wp2
     go_ret
     exact ⟨se, sbw⟩
 ·replace H := im H
  obtain rfl := Option.some.inj H
  go_enter Try.func30, Try.ntmps30
  go_wp2_with (first | ((with_reducible refine gd 4 rfl ?_); refine bx 4 #[.int .i64 a0_0, .int .i64 a0_1, .int .i64 a0_2, .slice A0_3 l0_3.length c0_3] 31 ?_; intro gb484 hg w19 hbox hb; have GW484 := bz w hg; have GE484 := bz w hg; replace HB := bs hb; have BK484 := am hbox; clear hb hbox hg; obtain ⟨hcz20_0, hcz20_1, hcz20_2, hcz20_3, hfz20_0, hfz20_1, hfz20_2, hfz20_3⟩ := cc4 BK484) | ((with_reducible refine gc 88 rfl ?_); refine gL (some 12) Try.func88 #[.agg #[.int .i64 a0_0, .int .i64 a0_1, .int .i64 a0_2, .slice A0_3 l0_3.length c0_3], .int .i64 a3] ?_; (with_reducible refine (impl_isSkewed.calls a0_0 a0_1 a0_2 _ _ l0_3 a3 false _ ?side1 ?side2 A5.out).mono ?_); (case side1 => exact cb HR0_3); (case side2 => exact HC0_3.out); rintro e w21 ⟨rfl, hb⟩; refine ⟨_, rfl, ?_⟩; replace BK484 := bb BK484 hb; replace HB := bsw hb; (try clear hb); (try clear hb2); (try clear hk); (try clear hi)))
  go_ret
  exact ⟨se, sbw⟩

def spec_HasLink.l0 : Nat → Int → Int → List (S134) → Int → Option (Bool)
  | 0, _, _, _, _ => none
  | k + 1, x2, x3, x9, x10 => if x10 < (x9.length : Int) then (if 0 ≤ x10 then (if (((rd_T134 x9 x10).f0) == x2 && (((rd_T134 x9 x10).f1) == x3)) = true then (some true) else (if (((rd_T134 x9 x10).f0) == x3 && (((rd_T134 x9 x10).f1) == x2)) = true then (some true) else (spec_HasLink.l0 k x2 x3 x9 (wrap64 (x10 + 1))))) else (none)) else (some false)
def spec_HasLink.f (k : Nat) (a0_0 : Int) (a0_1 : Int) (a0_2 : Int) (l0_3 : List (S105)) (a1 : Int) (a2 : Int) (a3 : Int) : Option (Bool) := (spec_l1In.f a1 0 (wrap64 ((l0_3.length : Int) - 1))).bind fun t488 => (if t488 = true then (if 0 ≤ a1 then (if a1 < (l0_3.length : Int) then (spec_HasLink.l0 k a2 a3 ((rd_T105 l0_3 a1).f1) 0) else (none)) else (none)) else (some false))
theorem spec_HasLink.mono_l : ∀ k, (∀ y0 y1 y2 y3, LeO (spec_HasLink.l0 k y0 y1 y2 y3) (spec_HasLink.l0 (k + 1) y0 y1 y2 y3))
  | 0 => fun _ _ _ _ r h => by simp [spec_HasLink.l0] at h
  | k + 1 => by
    have ih0 := spec_HasLink.mono_l k
    · intro y0 y1 y2 y3
      unfold spec_HasLink.l0
      exact mo
theorem spec_HasLink.mono : ∀ a0 a1 a2 a3 a4 a5 a6 k, LeO (spec_HasLink.f k a0 a1 a2 a3 a4 a5 a6) (spec_HasLink.f (k + 1) a0 a1 a2 a3 a4 a5 a6) := by
  intro a0 a1 a2 a3 a4 a5 a6 k
  have ih0 := spec_HasLink.mono_l k
  unfold spec_HasLink.f
  exact mo
theorem spec_HasLink.calls (k : Nat) (a0_0 : Int) (a0_1 : Int) (a0_2 : Int) (A0_3 : Option Addr) (c0_3 : Nat) (l0_3 : List (S105)) (a1 : Int) (a2 : Int) (a3 : Int) (r : Bool) (w : World) (hr0_3 : Kd.C k105 w A0_3 l0_3.length l0_3) (hc0_3 : l0_3.length ≤ c0_3) (h : spec_HasLink.f k a0_0 a0_1 a0_2 l0_3 a1 a2 a3 = some r) :
    Calls Try.prog 143 #[.agg #[.int .i64 a0_0, .int .i64 a0_1, .int .i64 a0_2, .slice A0_3 l0_3.length c0_3], .int .i64 a1, .int .i64 a2, .int .i64 a3] w fun e w' => e = .returned (.bool r) ∧ Below w.heap.size w w' := by
 have hu31 := Try.underlying31
 have hu134 := Try.underlying134
 have HR0_3 := am hr0_3
 have HC0_3 := am hc0_3
 clear hr0_3 hc0_3
 have HB := am (Below.refl w.heap.size w)
 have H : ((spec_l1In.f a1 0 (wrap64 ((l0_3.length : Int) - 1))).bind fun t488 => (if t488 = true then (if 0 ≤ a1 then (if a1 < (l0_3.length : Int) then (spec_HasLink.l0 k a2 a3 ((rd_T105 l0_3 a1).f1) 0) else (none)) else (none)) else (some false))) = some r := h
 clear h
 obtain ⟨t488, A5, H⟩ := bnd H
 obtain rfl | rfl := tt t488
 ·replace H := ip H
  obtain ⟨c7b0, H⟩ := id_ H
  obtain ⟨c8b0, H⟩ := id_ H
  have H' := am H
  clear H
  go_enter Try.func143, Try.ntmps143
  go_wp2_with (first | ((with_reducible refine gd 4 rfl ?_); refine bx 4 #[.int .i64 a0_0, .int .i64 a0_1, .int .i64 a0_2, .slice A0_3 l0_3.length c0_3] 31 ?_; intro gb487 hg w9 hbox hb; have GW487 := bz w hg; have GE487 := bz w hg; replace HB := bs hb; have BK487 := am hbox; clear hb hbox hg; obtain ⟨hcz10_0, hcz10_1, hcz10_2, hcz10_3, hfz10_0, hfz10_1, hfz10_2, hfz10_3⟩ := cc4 BK487) | ((with_reducible refine gc 85 rfl ?_); refine gL (some 16) Try.func85 #[.int .i64 a1, .int .i64 0, .int .i64 (wrap64 ((l0_3.length : Int) - 1))] ?_; (with_reducible refine (spec_l1In.calls a1 0 (wrap64 ((l0_3.length : Int) - 1)) true _ A5.out).mono ?_); rintro e w' ⟨rfl, ⟨nd, rfl⟩⟩; refine ⟨_, rfl, ?_⟩; obtain ⟨p489, q489, ad489, A489_2, c489_2, A489_3, c489_3, e489, _, _, _, _, hx489_0, hx489_1, hx489_2, hx489_3, HC489_2, HR489_2, HC489_3, HR489_3⟩ := aT_T105 HR0_3 HB a1; cases e489))
  go_loopg [10] k (fun kq v10 w' => ∃ (x10_1 : Int), v10 = .int .i64 x10_1 ∧ Aside0 (spec_HasLink.l0 kq a2 a3 ((rd_T105 l0_3 a1).f1) x10_1 = some r) ∧ Aside0 (kq ≤ k) ∧ Aside0 (w'.heap[gb487]? = some (.cells #[.int .i64 a0_0, .int .i64 a0_1, .int .i64 a0_2, (.slice (some ad489) l0_3.length c0_3)] 31 (0, 0))) ∧ Aside0 (Below w.heap.size w w'))
  case atStart => exact ⟨(0), sc, H', kk0, ⟨sk BK487⟩, ⟨sbw⟩⟩
  case round =>
   clear H'
   try clear c7b0
   try clear c8b0
   try clear hcz10_0
   try clear hcz10_1
   try clear hcz10_2
   try clear hcz10_3
   try clear hfz10_0
   try clear hfz10_1
   try clear hfz10_2
   try clear hfz10_3
   try clear hx489_0
   try clear hx489_1
   try clear hx489_2
   try clear hx489_3
   try clear p489
   try clear q489
   obtain ⟨x10_1, rfl, HA, HK1, BK487, HB⟩ := hrel
   cases gk with
   | zero => exact absurd HA.out (by simp [spec_HasLink.l0])
   | succ k1 =>
    have H := HA.out
    clear HA
    simp only [spec_HasLink.l0] at H
    obtain ⟨c11, H⟩ | ⟨c11, H⟩ := ie_ H
    ·have c11b0 := decide_eq_true c11
     clear c11
     obtain ⟨c12b0, H⟩ := id_ H
     obtain ⟨c13, H⟩ | ⟨c13, H⟩ := ie_ H
     ·have c13b0 : (((rd_T134 ((rd_T105 l0_3 a1).f1) x10_1).f0) == a2 && (((rd_T134 ((rd_T105 l0_3 a1).f1) x10_1).f1) == a3)) = true := c13
      (try (have c13b1 : decide (((rd_T134 ((rd_T105 l0_3 a1).f1) x10_1).f0) = a2 && (((rd_T134 ((rd_T105 l0_3 a1).f1) x10_1).f1) == a3)) = true := by simpa using c13))
      (try (have c13b2 : (((rd_T134 ((rd_T105 l0_3 a1).f1) x10_1).f0) == a2 && (((rd_T134 ((rd_T105 l0_3 a1).f1) x10_1).f1) == a3)) = true := by simpa using c13))
      clear c13
      obtain rfl := Option.some.inj H
      obtain ⟨p490, q490, ad490, e490, _, _, hx490_0, hx490_1⟩ := aT_T134 HR489_2 HB x10_1
      cases e490
      go_wp2
      go_ret
      exact ⟨se, sbw⟩
     ·have c13b0 : (((rd_T134 ((rd_T105 l0_3 a1).f1) x10_1).f0) == a2 && (((rd_T134 ((rd_T105 l0_3 a1).f1) x10_1).f1) == a3)) = false := by simpa using c13
      (try (have c13b1 : decide (((rd_T134 ((rd_T105 l0_3 a1).f1) x10_1).f0) = a2 && (((rd_T134 ((rd_T105 l0_3 a1).f1) x10_1).f1) == a3)) = false := by simpa using c13))
      (try (have c13b2 : (((rd_T134 ((rd_T105 l0_3 a1).f1) x10_1).f0) == a2 && (((rd_T134 ((rd_T105 l0_3 a1).f1) x10_1).f1) == a3)) = false := by simpa using c13))
      (try (have c13b3 : ¬ (((rd_T134 ((rd_T105 l0_3 a1).f1) x10_1).f0) = a2 && (((rd_T134 ((rd_T105 l0_3 a1).f1) x10_1).f1) == a3)) := by simpa using c13))
      clear c13
      obtain ⟨c14, H⟩ | ⟨c14, H⟩ := ie_ H
      ·have c14b0 : (((rd_T134 ((rd_T105 l0_3 a1).f1) x10_1).f0) == a3 && (((rd_T134 ((rd_T105 l0_3 a1).f1) x10_1).f1) == a2)) = true := c14
       (try (have c14b1 : decide (((rd_T134 ((rd_T105 l0_3 a1).f1) x10_1).f0) = a3 && (((rd_T134 ((rd_T105 l0_3 a1).f1) x10_1).f1) == a2)) = true := by simpa using c14))
       (try (have c14b2 : (((rd_T134 ((rd_T105 l0_3 a1).f1) x10_1).f0) == a3 && (((rd_T134 ((rd_T105 l0_3 a1).f1) x10_1).f1) == a2)) = true := by simpa using c14))
       clear c14
       obtain rfl := Option.some.inj H
       obtain ⟨p490, q490, ad490, e490, _, _, hx490_0, hx490_1⟩ := aT_T134 HR489_2 HB x10_1
       cases e490
       obtain ⟨p491, q491, ad491, e491, _, _, hx491_0, hx491_1⟩ := aT_T134 HR489_2 HB x10_1
       obtain rfl : ad490 = ad491 := (by injection e491)
       go_wp2
       go_ret
       exact ⟨se, sbw⟩
      ·have c14b0 : (((rd_T134 ((rd_T105 l0_3 a1).f1) x10_1).f0) == a3 && (((rd_T134 ((rd_T105 l0_3 a1).f1) x10_1).f1) == a2)) = false := by simpa using c14
       (try (have c14b1 : decide (((rd_T134 ((rd_T105 l0_3 a1).f1) x10_1).f0) = a3 && (((rd_T134 ((rd_T105 l0_3 a1).f1) x10_1).f1) == a2)) = false := by simpa using c14))
       (try (have c14b2 : (((rd_T134 ((rd_T105 l0_3 a1).f1) x10_1).f0) == a3 && (((rd_T134 ((rd_T105 l0_3 a1).f1) x10_1).f1) == a2)) = false := by simpa using c14))
       (try (have c14b3 : ¬ (((rd_T134 ((rd_T105 l0_3 a1).f1) x10_1).f0) = a3 && (((rd_T134 ((rd_T105 l0_3 a1).f1) x10_1).f1) == a2)) := by simpa using c14))
       clear c14
       have H' := am H
       clear H
       obtain ⟨p490, q490, ad490, e490, _, _, hx490_0, hx490_1⟩ := aT_T134 HR489_2 HB x10_1
       cases e490
       obtain ⟨p491, q491, ad491, e491, _, _, hx491_0, hx491_1⟩ := aT_T134 HR489_2 HB x10_1
       obtain rfl : ad490 = ad491 := (by injection e491)
       go_wp2
       go_roundg k1
       case measure => have := HK1.out; omega
       case rel => exact ⟨(wrap64 (x10_1 + 1)), sc, H', kk1, ⟨sk BK487⟩, ⟨sbw⟩⟩
    ·have c11b0 := decide_eq_false c11
     clear c11
     obtain rfl := Option.some.inj H
     go_wp2
     go_ret
     exact ⟨se, sbw⟩
 ·replace H := im H
  obtain rfl := Option.some.inj H
  go_enter Try.func143, Try.ntmps143
  go_wp2_with (first | ((with_reducible refine gd 4 rfl ?_); refine bx 4 #[.int .i64 a0_0, .int .i64 a0_1, .int .i64 a0_2, .slice A0_3 l0_3.length c0_3] 31 ?_; intro gb487 hg w15 hbox hb; have GW487 := bz w hg; have GE487 := bz w hg; replace HB := bs hb; have BK487 := am hbox; clear hb hbox hg; obtain ⟨hcz16_0, hcz16_1, hcz16_2, hcz16_3, hfz16_0, hfz16_1, hfz16_2, hfz16_3⟩ := cc4 BK487) | ((with_reducible refine gc 85 rfl ?_); refine gL (some 16) Try.func85 #[.int .i64 a1, .int .i64 0, .int .i64 (wrap64 ((l0_3.length : Int) - 1))] ?_; (with_reducible refine (spec_l1In.calls a1 0 (wrap64 ((l0_3.length : Int) - 1)) false _ A5.out).mono ?_); rintro e w' ⟨rfl, ⟨nd, rfl⟩⟩; refine ⟨_, rfl, ?_⟩))
  go_ret
  exact ⟨se, sbw⟩

def spec_PieceAt.l0 : Nat → Int → Int → Int → Int → Int → List (S105) → Option (Int)
  | 0, _, _, _, _, _, _ => none
  | k + 1, x1, x5, x493000, x493001, x493002, x493003 => if x5 < (x493003.length : Int) then (if 0 ≤ x5 then ((spec_InSpan.f ((rd_T105 x493003 x5).f0.f0) ((rd_T105 x493003 x5).f0.f1) x1).bind fun t494 => (if t494 = true then (some x5) else (spec_PieceAt.l0 k x1 (wrap64 (x5 + 1)) x493000 x493001 x493002 x493003))) else (none)) else (some (-1))
def spec_PieceAt.f (k : Nat) (a0_0 : Int) (a0_1 : Int) (a0_2 : Int) (l0_3 : List (S105)) (a1 : Int) : Option (Int) := spec_PieceAt.l0 k a1 0 a0_0 a0_1 a0_2 l0_3
theorem spec_PieceAt.mono_l : ∀ k, (∀ y0 y1 y2 y3 y4 y5, LeO (spec_PieceAt.l0 k y0 y1 y2 y3 y4 y5) (spec_PieceAt.l0 (k + 1) y0 y1 y2 y3 y4 y5))
  | 0 => fun _ _ _ _ _ _ r h => by simp [spec_PieceAt.l0] at h
  | k + 1 => by
    have ih0 := spec_PieceAt.mono_l k
    · intro y0 y1 y2 y3 y4 y5
      unfold spec_PieceAt.l0
      exact mo
theorem spec_PieceAt.mono : ∀ a0 a1 a2 a3 a4 k, LeO (spec_PieceAt.f k a0 a1 a2 a3 a4) (spec_PieceAt.f (k + 1) a0 a1 a2 a3 a4) := by
  intro a0 a1 a2 a3 a4 k
  have ih0 := spec_PieceAt.mono_l k
  unfold spec_PieceAt.f
  exact mo
theorem spec_PieceAt.calls (k : Nat) (a0_0 : Int) (a0_1 : Int) (a0_2 : Int) (A0_3 : Option Addr) (c0_3 : Nat) (l0_3 : List (S105)) (a1 : Int) (r : Int) (w : World) (hr0_3 : Kd.C k105 w A0_3 l0_3.length l0_3) (hc0_3 : l0_3.length ≤ c0_3) (h : spec_PieceAt.f k a0_0 a0_1 a0_2 l0_3 a1 = some r) :
    Calls Try.prog 144 #[.agg #[.int .i64 a0_0, .int .i64 a0_1, .int .i64 a0_2, .slice A0_3 l0_3.length c0_3], .int .i64 a1] w fun e w' => e = .returned (.int .i64 r) ∧ Below w.heap.size w w' := by
 have hu31 := Try.underlying31
 have hu102 := Try.underlying102
 have HR0_3 := am hr0_3
 have HC0_3 := am hc0_3
 clear hr0_3 hc0_3
 have HB := am (Below.refl w.heap.size w)
 have H : (spec_PieceAt.l0 k a1 0 a0_0 a0_1 a0_2 l0_3) = some r := h
 clear h
 have H' := am H
 clear H
 go_enter Try.func144, Try.ntmps144
 go_wp2_with (first | ((with_reducible refine gd 2 rfl ?_); refine bx 2 #[.int .i64 a0_0, .int .i64 a0_1, .int .i64 a0_2, .slice A0_3 l0_3.length c0_3] 31 ?_; intro gb492 hg w3 hbox hb; have GW492 := bz w hg; have GE492 := bz w hg; replace HB := bs hb; have BK492 := am hbox; clear hb hbox hg))
 go_loopg [5] k (fun kq v5 w' => ∃ (x5_1 : Int), v5 = .int .i64 x5_1 ∧ Aside0 (spec_PieceAt.l0 kq a1 x5_1 a0_0 a0_1 a0_2 l0_3 = some r) ∧ Aside0 (kq ≤ k) ∧ Aside0 (w'.heap[gb492]? = some (.cells #[.int .i64 a0_0, .int .i64 a0_1, .int .i64 a0_2, (.slice A0_3 l0_3.length c0_3)] 31 (0, 0))) ∧ Aside0 (Below w.heap.size w w'))
 case atStart => exact ⟨(0), sc, H', kk0, ⟨sk BK492⟩, ⟨sbw⟩⟩
 case round =>
  clear H'
  obtain ⟨x5_1, rfl, HA, HK1, BK492, HB⟩ := hrel
  cases gk with
  | zero => exact absurd HA.out (by simp [spec_PieceAt.l0])
  | succ k1 =>
   have H := HA.out
   clear HA
   simp only [spec_PieceAt.l0] at H
   obtain ⟨c4, H⟩ | ⟨c4, H⟩ := ie_ H
   ·have c4b0 := decide_eq_true c4
    clear c4
    obtain ⟨c5b0, H⟩ := id_ H
    obtain ⟨t494, A6, H⟩ := bnd H
    obtain rfl | rfl := tt t494
    ·replace H := ip H
     obtain rfl := Option.some.inj H
     obtain ⟨hcz8_0, hcz8_1, hcz8_2, hcz8_3, hfz8_0, hfz8_1, hfz8_2, hfz8_3⟩ := cc4 BK492
     obtain ⟨p493, q493, ad493, A493_2, c493_2, A493_3, c493_3, e493, _, _, _, _, hx493_0, hx493_1, hx493_2, hx493_3, HC493_2, HR493_2, HC493_3, HR493_3⟩ := aT_T105 HR0_3 HB x5_1
     cases e493
     go_wp2_with (first | ((with_reducible refine gc 159 rfl ?_); refine gL (some 20) Try.func159 #[.agg #[.int .i64 ((rd_T105 l0_3 x5_1).f0.f0), .int .i64 ((rd_T105 l0_3 x5_1).f0.f1)], .int .i64 a1] ?_; (with_reducible refine (spec_InSpan.calls ((rd_T105 l0_3 x5_1).f0.f0) ((rd_T105 l0_3 x5_1).f0.f1) a1 true _ A6.out).mono ?_); rintro e w9 ⟨rfl, hb⟩; refine ⟨_, rfl, ?_⟩; replace BK492 := bb BK492 hb; replace HB := bsw hb; (try clear hb); (try clear hb2); (try clear hk); (try clear hi)))
     go_ret
     exact ⟨se, sbw⟩
    ·replace H := im H
     have H' := am H
     clear H
     obtain ⟨hcz10_0, hcz10_1, hcz10_2, hcz10_3, hfz10_0, hfz10_1, hfz10_2, hfz10_3⟩ := cc4 BK492
     obtain ⟨p493, q493, ad493, A493_2, c493_2, A493_3, c493_3, e493, _, _, _, _, hx493_0, hx493_1, hx493_2, hx493_3, HC493_2, HR493_2, HC493_3, HR493_3⟩ := aT_T105 HR0_3 HB x5_1
     cases e493
     go_wp2_with (first | ((with_reducible refine gc 159 rfl ?_); refine gL (some 20) Try.func159 #[.agg #[.int .i64 ((rd_T105 l0_3 x5_1).f0.f0), .int .i64 ((rd_T105 l0_3 x5_1).f0.f1)], .int .i64 a1] ?_; (with_reducible refine (spec_InSpan.calls ((rd_T105 l0_3 x5_1).f0.f0) ((rd_T105 l0_3 x5_1).f0.f1) a1 false _ A6.out).mono ?_); rintro e w11 ⟨rfl, hb⟩; refine ⟨_, rfl, ?_⟩; replace BK492 := bb BK492 hb; replace HB := bsw hb; (try clear hb); (try clear hb2); (try clear hk); (try clear hi)))
     go_roundg k1
     case measure => have := HK1.out; omega
     case rel => exact ⟨(wrap64 (x5_1 + 1)), sc, H', kk1, ⟨sk BK492⟩, ⟨sbw⟩⟩
   ·have c4b0 := decide_eq_false c4
    clear c4
    obtain rfl := Option.some.inj H
    obtain ⟨hcz12_0, hcz12_1, hcz12_2, hcz12_3, hfz12_0, hfz12_1, hfz12_2, hfz12_3⟩ := cc4 BK492
    go_wp2
    go_ret
    exact ⟨se, sbw⟩

def spec_IsLinked.f (k : Nat) (a0_0 : Int) (a0_1 : Int) (a0_2 : Int) (l0_3 : List (S105)) (a1 : Int) (a2 : Int) (a3 : Int) : Option (Bool) := (spec_PieceAt.f k a0_0 a0_1 a0_2 l0_3 a3).bind fun t496 => ((spec_HasLink.f k a0_0 a0_1 a0_2 l0_3 t496 a1 a2).bind fun t497 => (some t497))
theorem spec_IsLinked.mono : ∀ a0 a1 a2 a3 a4 a5 a6 k, LeO (spec_IsLinked.f k a0 a1 a2 a3 a4 a5 a6) (spec_IsLinked.f (k + 1) a0 a1 a2 a3 a4 a5 a6) := by
  intro a0 a1 a2 a3 a4 a5 a6 k
  unfold spec_IsLinked.f
  have m0 := @spec_HasLink.mono
  have m1 := @spec_PieceAt.mono
  exact mo
def spec_IsLinked.T1 : Bool × List (List Nat × List Nat) := (true, [([], []), ([], []), ([], []), ([1, 2], [1, 2]), ([], []), ([], []), ([0, 3, 4, 5, 3], [0, 3, 4, 5]), ([6, 6, 0, 1, 2, 3, 4, 5, 6], [6])])
def spec_IsLinked.B1 : List Nat := [0, 0, 0, 6, 0, 0, 63, 127]
theorem spec_IsLinked.tab1 : rtab .any (opsOf Try.f90 1) = spec_IsLinked.T1 := by kernel_rfl
theorem spec_IsLinked.bits1 : waitsOk spec_IsLinked.T1.2 spec_IsLinked.B1 = true := by kernel_rfl
theorem spec_IsLinked.calls (k : Nat) (a0_0 : Int) (a0_1 : Int) (a0_2 : Int) (A0_3 : Option Addr) (c0_3 : Nat) (l0_3 : List (S105)) (a1 : Int) (a2 : Int) (a3 : Int) (r : Bool) (w : World) (hr0_3 : Kd.C k105 w A0_3 l0_3.length l0_3) (hc0_3 : l0_3.length ≤ c0_3) (h : spec_IsLinked.f k a0_0 a0_1 a0_2 l0_3 a1 a2 a3 = some r) :
    Calls Try.prog 90 #[.agg #[.int .i64 a0_0, .int .i64 a0_1, .int .i64 a0_2, .slice A0_3 l0_3.length c0_3], .int .i64 a1, .int .i64 a2, .int .i64 a3] w fun e w' => e = .returned (.bool r) ∧ Below w.heap.size w w' := by
 have hu31 := Try.underlying31
 have HR0_3 := am hr0_3
 have HC0_3 := am hc0_3
 clear hr0_3 hc0_3
 have HB := am (Below.refl w.heap.size w)
 have H : ((spec_PieceAt.f k a0_0 a0_1 a0_2 l0_3 a3).bind fun t496 => ((spec_HasLink.f k a0_0 a0_1 a0_2 l0_3 t496 a1 a2).bind fun t497 => (some t497))) = some r := h
 clear h
 obtain ⟨t496, A5, H⟩ := bnd H
 obtain ⟨t497, A6, H⟩ := bnd H
 obtain rfl := Option.some.inj H
 go_enter Try.func90, Try.ntmps90
 try go_wp2_with (first | ((with_reducible refine gd 4 rfl ?_); refine bx 4 #[.int .i64 a0_0, .int .i64 a0_1, .int .i64 a0_2, .slice A0_3 l0_3.length c0_3] 31 ?_; intro gb495 hg w7 hbox hb; have GW495 := bz w hg; have GE495 := bz w hg; replace HB := bs hb; have BK495 := am hbox; clear hb hbox hg))
 replace BK495 := am (blk_drew BK495.out)
 replace HB := am (below_drew1 HB.out)
 refine start_ (n := 8) (S := fun w' => w'.cell? ⟨gb495, 0, none⟩ = some (.int .i64 a0_0) ∧ w'.cell? ⟨gb495, 1, none⟩ = some (.int .i64 a0_1) ∧ w'.cell? ⟨gb495, 2, none⟩ = some (.int .i64 a0_2) ∧ w'.cell? ⟨gb495, 3, none⟩ = some (.slice A0_3 l0_3.length c0_3)) (ds := []) #[false, false, false, false, false, false, false, false] (by kernel_rfl) rfl rfl ⟨bc0 BK495, bc1 BK495, bc2 BK495, bc3 BK495⟩ (fun hHeld => ?_); refine with_tabW spec_IsLinked.tab1 spec_IsLinked.bits1 (fun HT_ HW_ => ?_)
 generalize w7.drew = w8 at BK495 HB hHeld ⊢
 refine put 2 11 (bt 8 4) HT_ ?_
 refine put 4 13 (bt 8 20) HT_ ?_
 refine put 5 14 (bt 8 52) HT_ ?_
 refine tat4 0 9 (bt 8 53) HT_ HW_ hHeld ?_
 refine tat4 1 10 (bt 8 55) HT_ HW_ hHeld ?_
 refine one_ (i := 3) (N := some 12) (bt 8 63) rfl rfl (one_of HT_.out (by kernel_rfl)) (by decide) (fun K hK => ?_)
 refine goes_ Try.func144 (by kernel_rfl) rfl #[.agg #[.int .i64 a0_0, .int .i64 a0_1, .int .i64 a0_2, .slice A0_3 l0_3.length c0_3], .int .i64 a3] (by rfl) rfl rfl sl ?_
 with_reducible refine (spec_PieceAt.calls k a0_0 a0_1 a0_2 _ _ l0_3 a3 t496 _ ?side1 ?side2 A5.out).mono ?_
 (case side1 => exact cb HR0_3)
 (case side2 => exact HC0_3.out)
 rintro e w9 ⟨rfl, hb⟩
 refine ⟨_, rfl, ?_⟩
 replace BK495 := bb BK495 hb
 replace HB := bsw hb
 (try clear hb)
 (try clear hb2)
 (try clear hk)
 (try clear hi)
 refine hK.out _ _ ⟨bc0 BK495, bc1 BK495, bc2 BK495, bc3 BK495⟩ (fun hHeld => ?_)
 clear hK K
 refine nm 12 ?_
 refine one_ (i := 6) (N := some 15) (bt 8 127) rfl rfl (one_of HT_.out (by kernel_rfl)) (by decide) (fun K hK => ?_)
 refine goes_ Try.func143 (by kernel_rfl) rfl #[.agg #[.int .i64 a0_0, .int .i64 a0_1, .int .i64 a0_2, .slice A0_3 l0_3.length c0_3], .int .i64 t496, .int .i64 a1, .int .i64 a2] (by rfl) rfl rfl sl ?_
 with_reducible refine (spec_HasLink.calls k a0_0 a0_1 a0_2 _ _ l0_3 t496 a1 a2 t497 _ ?side1 ?side2 A6.out).mono ?_
 (case side1 => exact cb HR0_3)
 (case side2 => exact HC0_3.out)
 rintro e w10 ⟨rfl, hb⟩
 refine ⟨_, rfl, ?_⟩
 replace BK495 := bb BK495 hb
 replace HB := bsw hb
 (try clear hb)
 (try clear hb2)
 (try clear hk)
 (try clear hi)
 refine hK.out _ _ ⟨bc0 BK495, bc1 BK495, bc2 BK495, bc3 BK495⟩ (fun hHeld => ?_)
 clear hK K
 refine nm 15 ?_
 refine put 7 8 (bt 8 255) HT_ ?_
 refine done_ (done_of HT_.out (by kernel_rfl)) ?_
 try go_wp2
 go_ret
 exact ⟨se, sbw⟩

end Go.Proofs.Ytiihaabhjphaeaa.QFnMargins
