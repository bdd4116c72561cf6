/- What the Go functions of the law FnExactUseSpans come to, as Lean functions, and that they do: by a program of the session, out of the kit's printer. Conditions: none. (squeezed). -/
import Derived.Test.YtlakjlolahjphaaSq
import Derived.Test.YtlakjlolahjphaaQFnExactUseSpansx0
import Derived.Test.YtlakjlolahjphaaQFnExactUseSpansx1
import Derived.Test.YtlakjlolahjphaaQFnExactUseSpansx5
namespace Go.Proofs.Ytlakjlolahjphaa.QFnExactUseSpans
open Go.RowKit Go.Proofs.YtlakjlolahjphaaW.PrintWords Go.Proofs.YtlakjlolahjphaaW.PrintLast Go.Proofs.YtlakjlolahjphaaW.PrintMore Go.Proofs.Ytlakjlolahjphaa.Open Go.Proofs.Ytlakjlolahjphaa.Sq
attribute [local go_sem] max2_int min2_int max_two min_two max_three min_three max_four min_four   -- for this text's walks alone
attribute [local go_sem] isSome_set
set_option linter.unusedVariables false
set_option linter.unusedSimpArgs false

attribute [local go_sem high] eqA128
/-! ### spec_HasLink: function 138 -/
def spec_HasLink.l0 : Nat → Int → Int → List (S128) → Int → Option (Bool)
  | 0, _, _, _, _ => none
  | k + 1, x2, x3, x9, x10 => if x10 < (x9.length : Int) then (if 0 ≤ x10 then (if (((rd_T128 x9 x10).f0) == x2 && (((rd_T128 x9 x10).f1) == x3)) = true then (some true) else (if (((rd_T128 x9 x10).f0) == x3 && (((rd_T128 x9 x10).f1) == x2)) = true then (some true) else (spec_HasLink.l0 k x2 x3 x9 (wrap64 (x10 + 1))))) else (none)) else (some false)
def spec_HasLink.f (k : Nat) (a0_0 : Int) (a0_1 : Int) (a0_2 : Int) (l0_3 : List (S106)) (a1 : Int) (a2 : Int) (a3 : Int) : Option (Bool) := (spec_l1In.f a1 0 (wrap64 ((l0_3.length : Int) - 1))).bind fun t216 => (if t216 = true then (if 0 ≤ a1 then (if a1 < (l0_3.length : Int) then (spec_HasLink.l0 k a2 a3 ((rd_T106 l0_3 a1).f1) 0) else (none)) else (none)) else (some false))
theorem spec_HasLink.mono_l : ∀ k, (∀ y0 y1 y2 y3, LeO (spec_HasLink.l0 k y0 y1 y2 y3) (spec_HasLink.l0 (k + 1) y0 y1 y2 y3))
  | 0 => fun _ _ _ _ r h => by simp [spec_HasLink.l0] at h
  | k + 1 => by
    have ih0 := spec_HasLink.mono_l k
    · intro y0 y1 y2 y3
      unfold spec_HasLink.l0
      exact mo
theorem spec_HasLink.mono : ∀ a0 a1 a2 a3 a4 a5 a6 k, LeO (spec_HasLink.f k a0 a1 a2 a3 a4 a5 a6) (spec_HasLink.f (k + 1) a0 a1 a2 a3 a4 a5 a6) := by
  intro a0 a1 a2 a3 a4 a5 a6 k
  have ih0 := spec_HasLink.mono_l k
  unfold spec_HasLink.f
  exact mo
set_option maxHeartbeats 8000000 in
set_option maxRecDepth 100000 in
theorem spec_HasLink.calls (k : Nat) (a0_0 : Int) (a0_1 : Int) (a0_2 : Int) (A0_3 : Option Addr) (c0_3 : Nat) (l0_3 : List (S106)) (a1 : Int) (a2 : Int) (a3 : Int) (r : Bool) (w : World) (hr0_3 : Kd.C k106 w A0_3 l0_3.length l0_3) (hc0_3 : l0_3.length ≤ c0_3) (h : spec_HasLink.f k a0_0 a0_1 a0_2 l0_3 a1 a2 a3 = some r) :
    Calls Try.prog 138 #[.agg #[.int .i64 a0_0, .int .i64 a0_1, .int .i64 a0_2, .slice A0_3 l0_3.length c0_3], .int .i64 a1, .int .i64 a2, .int .i64 a3] w fun e w' => e = .returned (.bool r) ∧ Below w.heap.size w w' := by
 have hu29 := Try.underlying29
 have hu128 := Try.underlying128
 have HR0_3 := Aside0.mk hr0_3
 have HC0_3 := Aside0.mk hc0_3
 clear hr0_3 hc0_3
 have HB := Aside0.mk (Below.refl w.heap.size w)
 have H : ((spec_l1In.f a1 0 (wrap64 ((l0_3.length : Int) - 1))).bind fun t216 => (if t216 = true then (if 0 ≤ a1 then (if a1 < (l0_3.length : Int) then (spec_HasLink.l0 k a2 a3 ((rd_T106 l0_3 a1).f1) 0) else (none)) else (none)) else (some false))) = some r := h
 clear h
 obtain ⟨t216, A5, H⟩ := bnd H
 obtain rfl | rfl := tt t216
 ·replace H := ip H
  obtain ⟨c7b0, H⟩ := id_ H
  obtain ⟨c8b0, H⟩ := id_ H
  have H' := Aside0.mk H
  clear H
  go_enter Try.func138, Try.ntmps138
  go_wp2_with (first | ((with_reducible refine gate_dst (N := 4) rfl ?_); refine bx 4 #[.int .i64 a0_0, .int .i64 a0_1, .int .i64 a0_2, .slice A0_3 l0_3.length c0_3] 29 ?_; intro gb215 hg w9 hbox hb; have BK215 := Aside0.mk hbox; have GW215 := bz w hg; have GE215 := bz w hg; replace HB := bs hb; clear hb hbox hg; obtain ⟨hcz10_0, hcz10_1, hcz10_2, hcz10_3, hfz10_0, hfz10_1, hfz10_2, hfz10_3⟩ := cc4 BK215) | ((with_reducible refine gate_callee (f := 63) rfl ?_); refine gL (some 16) Try.func63 #[.int .i64 a1, .int .i64 0, .int .i64 (wrap64 ((l0_3.length : Int) - 1))] ?_; (with_reducible refine (spec_l1In.calls a1 0 (wrap64 ((l0_3.length : Int) - 1)) true _ A5.out).mono ?_); rintro e w' ⟨rfl, ⟨nd, rfl⟩⟩; refine ⟨_, rfl, ?_⟩; obtain ⟨p217, q217, ad217, A217_2, c217_2, A217_3, c217_3, e217, _, _, _, _, hx217_0, hx217_1, hx217_2, hx217_3, HC217_2, HR217_2, HC217_3, HR217_3⟩ := aT_T106 HR0_3 HB a1; cases e217))
  go_loopg [10] k (fun kq v10 w' => ∃ (x10_1 : Int), v10 = .int .i64 x10_1 ∧ Aside0 (spec_HasLink.l0 kq a2 a3 ((rd_T106 l0_3 a1).f1) x10_1 = some r) ∧ Aside0 (kq ≤ k) ∧ Aside0 (w'.heap[gb215]? = some (.cells #[.int .i64 a0_0, .int .i64 a0_1, .int .i64 a0_2, (.slice (some ad217) l0_3.length c0_3)] 29 (0, 0))) ∧ Aside0 (Below w.heap.size w w'))
  case atStart => exact ⟨(0), sc, H', kk0, ⟨sk BK215⟩, ⟨sbw⟩⟩
  case round =>
   clear H'
   try clear c7b0
   try clear c8b0
   try clear hcz10_0
   try clear hcz10_1
   try clear hcz10_2
   try clear hcz10_3
   try clear hfz10_0
   try clear hfz10_1
   try clear hfz10_2
   try clear hfz10_3
   try clear hx217_0
   try clear hx217_1
   try clear hx217_2
   try clear hx217_3
   try clear p217
   try clear q217
   obtain ⟨x10_1, rfl, HA, HK1, BK215, HB⟩ := hrel
   cases gk with
   | zero => exact absurd HA.out (by simp [spec_HasLink.l0])
   | succ k1 =>
    have H := HA.out
    clear HA
    simp only [spec_HasLink.l0] at H
    obtain ⟨c11, H⟩ | ⟨c11, H⟩ := ie_ H
    ·have c11b0 := decide_eq_true c11
     clear c11
     obtain ⟨c12b0, H⟩ := id_ H
     obtain ⟨c13, H⟩ | ⟨c13, H⟩ := ie_ H
     ·have c13b0 : (((rd_T128 ((rd_T106 l0_3 a1).f1) x10_1).f0) == a2 && (((rd_T128 ((rd_T106 l0_3 a1).f1) x10_1).f1) == a3)) = true := c13
      (try (have c13b1 : decide (((rd_T128 ((rd_T106 l0_3 a1).f1) x10_1).f0) = a2 && (((rd_T128 ((rd_T106 l0_3 a1).f1) x10_1).f1) == a3)) = true := by simpa using c13))
      (try (have c13b2 : (((rd_T128 ((rd_T106 l0_3 a1).f1) x10_1).f0) == a2 && (((rd_T128 ((rd_T106 l0_3 a1).f1) x10_1).f1) == a3)) = true := by simpa using c13))
      clear c13
      obtain rfl := Option.some.inj H
      obtain ⟨p218, q218, ad218, e218, _, _, hx218_0, hx218_1⟩ := aT_T128 HR217_2 HB x10_1
      cases e218
      go_wp2
      go_ret
      exact ⟨se, sbw⟩
     ·have c13b0 : (((rd_T128 ((rd_T106 l0_3 a1).f1) x10_1).f0) == a2 && (((rd_T128 ((rd_T106 l0_3 a1).f1) x10_1).f1) == a3)) = false := by simpa using c13
      (try (have c13b1 : decide (((rd_T128 ((rd_T106 l0_3 a1).f1) x10_1).f0) = a2 && (((rd_T128 ((rd_T106 l0_3 a1).f1) x10_1).f1) == a3)) = false := by simpa using c13))
      (try (have c13b2 : (((rd_T128 ((rd_T106 l0_3 a1).f1) x10_1).f0) == a2 && (((rd_T128 ((rd_T106 l0_3 a1).f1) x10_1).f1) == a3)) = false := by simpa using c13))
      (try (have c13b3 : ¬ (((rd_T128 ((rd_T106 l0_3 a1).f1) x10_1).f0) = a2 && (((rd_T128 ((rd_T106 l0_3 a1).f1) x10_1).f1) == a3)) := by simpa using c13))
      clear c13
      obtain ⟨c14, H⟩ | ⟨c14, H⟩ := ie_ H
      ·have c14b0 : (((rd_T128 ((rd_T106 l0_3 a1).f1) x10_1).f0) == a3 && (((rd_T128 ((rd_T106 l0_3 a1).f1) x10_1).f1) == a2)) = true := c14
       (try (have c14b1 : decide (((rd_T128 ((rd_T106 l0_3 a1).f1) x10_1).f0) = a3 && (((rd_T128 ((rd_T106 l0_3 a1).f1) x10_1).f1) == a2)) = true := by simpa using c14))
       (try (have c14b2 : (((rd_T128 ((rd_T106 l0_3 a1).f1) x10_1).f0) == a3 && (((rd_T128 ((rd_T106 l0_3 a1).f1) x10_1).f1) == a2)) = true := by simpa using c14))
       clear c14
       obtain rfl := Option.some.inj H
       obtain ⟨p218, q218, ad218, e218, _, _, hx218_0, hx218_1⟩ := aT_T128 HR217_2 HB x10_1
       cases e218
       obtain ⟨p219, q219, ad219, e219, _, _, hx219_0, hx219_1⟩ := aT_T128 HR217_2 HB x10_1
       obtain rfl : ad218 = ad219 := (by injection e219)
       go_wp2
       go_ret
       exact ⟨se, sbw⟩
      ·have c14b0 : (((rd_T128 ((rd_T106 l0_3 a1).f1) x10_1).f0) == a3 && (((rd_T128 ((rd_T106 l0_3 a1).f1) x10_1).f1) == a2)) = false := by simpa using c14
       (try (have c14b1 : decide (((rd_T128 ((rd_T106 l0_3 a1).f1) x10_1).f0) = a3 && (((rd_T128 ((rd_T106 l0_3 a1).f1) x10_1).f1) == a2)) = false := by simpa using c14))
       (try (have c14b2 : (((rd_T128 ((rd_T106 l0_3 a1).f1) x10_1).f0) == a3 && (((rd_T128 ((rd_T106 l0_3 a1).f1) x10_1).f1) == a2)) = false := by simpa using c14))
       (try (have c14b3 : ¬ (((rd_T128 ((rd_T106 l0_3 a1).f1) x10_1).f0) = a3 && (((rd_T128 ((rd_T106 l0_3 a1).f1) x10_1).f1) == a2)) := by simpa using c14))
       clear c14
       have H' := Aside0.mk H
       clear H
       obtain ⟨p218, q218, ad218, e218, _, _, hx218_0, hx218_1⟩ := aT_T128 HR217_2 HB x10_1
       cases e218
       obtain ⟨p219, q219, ad219, e219, _, _, hx219_0, hx219_1⟩ := aT_T128 HR217_2 HB x10_1
       obtain rfl : ad218 = ad219 := (by injection e219)
       go_wp2
       go_roundg k1
       case measure => have := HK1.out; omega
       case rel => exact ⟨(wrap64 (x10_1 + 1)), sc, H', kk1, ⟨sk BK215⟩, ⟨sbw⟩⟩
    ·have c11b0 := decide_eq_false c11
     clear c11
     obtain rfl := Option.some.inj H
     go_wp2
     go_ret
     exact ⟨se, sbw⟩
 ·replace H := im H
  obtain rfl := Option.some.inj H
  go_enter Try.func138, Try.ntmps138
  go_wp2_with (first | ((with_reducible refine gate_dst (N := 4) rfl ?_); refine bx 4 #[.int .i64 a0_0, .int .i64 a0_1, .int .i64 a0_2, .slice A0_3 l0_3.length c0_3] 29 ?_; intro gb215 hg w15 hbox hb; have BK215 := Aside0.mk hbox; have GW215 := bz w hg; have GE215 := bz w hg; replace HB := bs hb; clear hb hbox hg; obtain ⟨hcz16_0, hcz16_1, hcz16_2, hcz16_3, hfz16_0, hfz16_1, hfz16_2, hfz16_3⟩ := cc4 BK215) | ((with_reducible refine gate_callee (f := 63) rfl ?_); refine gL (some 16) Try.func63 #[.int .i64 a1, .int .i64 0, .int .i64 (wrap64 ((l0_3.length : Int) - 1))] ?_; (with_reducible refine (spec_l1In.calls a1 0 (wrap64 ((l0_3.length : Int) - 1)) false _ A5.out).mono ?_); rintro e w' ⟨rfl, ⟨nd, rfl⟩⟩; refine ⟨_, rfl, ?_⟩))
  go_ret
  exact ⟨se, sbw⟩

/-! ### spec_IsLinked: function 86 -/
def spec_IsLinked.f (k : Nat) (a0_0 : Int) (a0_1 : Int) (a0_2 : Int) (l0_3 : List (S106)) (a1 : Int) (a2 : Int) (a3 : Int) : Option (Bool) := (spec_PieceAt.f k a0_0 a0_1 a0_2 l0_3 a3).bind fun t221 => ((spec_HasLink.f k a0_0 a0_1 a0_2 l0_3 t221 a1 a2).bind fun t222 => (some t222))
theorem spec_IsLinked.mono : ∀ a0 a1 a2 a3 a4 a5 a6 k, LeO (spec_IsLinked.f k a0 a1 a2 a3 a4 a5 a6) (spec_IsLinked.f (k + 1) a0 a1 a2 a3 a4 a5 a6) := by
  intro a0 a1 a2 a3 a4 a5 a6 k
  unfold spec_IsLinked.f
  have m0 := @spec_HasLink.mono
  have m1 := @spec_PieceAt.mono
  exact mo
def spec_IsLinked.T1 : Bool × List (List Nat × List Nat) := (true, [([], []), ([], []), ([], []), ([1, 2], [1, 2]), ([], []), ([], []), ([0, 3, 4, 5, 3], [0, 3, 4, 5]), ([6, 6, 0, 1, 2, 3, 4, 5, 6], [6])])
def spec_IsLinked.B1 : List Nat := [0, 0, 0, 6, 0, 0, 63, 127]
theorem spec_IsLinked.tab1 : rtab .any (opsOf Try.f86 1) = spec_IsLinked.T1 := by kernel_rfl
theorem spec_IsLinked.bits1 : waitsOk spec_IsLinked.T1.2 spec_IsLinked.B1 = true := by kernel_rfl
set_option maxHeartbeats 8000000 in
set_option maxRecDepth 100000 in
theorem spec_IsLinked.calls (k : Nat) (a0_0 : Int) (a0_1 : Int) (a0_2 : Int) (A0_3 : Option Addr) (c0_3 : Nat) (l0_3 : List (S106)) (a1 : Int) (a2 : Int) (a3 : Int) (r : Bool) (w : World) (hr0_3 : Kd.C k106 w A0_3 l0_3.length l0_3) (hc0_3 : l0_3.length ≤ c0_3) (h : spec_IsLinked.f k a0_0 a0_1 a0_2 l0_3 a1 a2 a3 = some r) :
    Calls Try.prog 86 #[.agg #[.int .i64 a0_0, .int .i64 a0_1, .int .i64 a0_2, .slice A0_3 l0_3.length c0_3], .int .i64 a1, .int .i64 a2, .int .i64 a3] w fun e w' => e = .returned (.bool r) ∧ Below w.heap.size w w' := by
 have hu29 := Try.underlying29
 have HR0_3 := Aside0.mk hr0_3
 have HC0_3 := Aside0.mk hc0_3
 clear hr0_3 hc0_3
 have HB := Aside0.mk (Below.refl w.heap.size w)
 have H : ((spec_PieceAt.f k a0_0 a0_1 a0_2 l0_3 a3).bind fun t221 => ((spec_HasLink.f k a0_0 a0_1 a0_2 l0_3 t221 a1 a2).bind fun t222 => (some t222))) = some r := h
 clear h
 obtain ⟨t221, A5, H⟩ := bnd H
 obtain ⟨t222, A6, H⟩ := bnd H
 obtain rfl := Option.some.inj H
 go_enter Try.func86, Try.ntmps86
 try go_wp2_with (first | ((with_reducible refine gate_dst (N := 4) rfl ?_); refine bx 4 #[.int .i64 a0_0, .int .i64 a0_1, .int .i64 a0_2, .slice A0_3 l0_3.length c0_3] 29 ?_; intro gb220 hg w7 hbox hb; have BK220 := Aside0.mk hbox; have GW220 := bz w hg; have GE220 := bz w hg; replace HB := bs hb; clear hb hbox hg))
 replace BK220 := Aside0.mk (blk_drew BK220.out)
 replace HB := Aside0.mk (below_drew1 HB.out)
 refine start_ (n := 8) (S := fun w' => w'.cell? ⟨gb220, 0, none⟩ = some (.int .i64 a0_0) ∧ w'.cell? ⟨gb220, 1, none⟩ = some (.int .i64 a0_1) ∧ w'.cell? ⟨gb220, 2, none⟩ = some (.int .i64 a0_2) ∧ w'.cell? ⟨gb220, 3, none⟩ = some (.slice A0_3 l0_3.length c0_3)) (ds := []) #[false, false, false, false, false, false, false, false] (by kernel_rfl) rfl rfl ⟨bc0 BK220, bc1 BK220, bc2 BK220, bc3 BK220⟩ (fun hHeld => ?_); refine with_tabW spec_IsLinked.tab1 spec_IsLinked.bits1 (fun HT_ HW_ => ?_)
 generalize w7.drew = w8 at BK220 HB hHeld ⊢
 refine put 2 11 #[false, false, true, false, false, false, false, false] HT_ ?_
 refine put 4 13 #[false, false, true, false, true, false, false, false] HT_ ?_
 refine put 5 14 #[false, false, true, false, true, true, false, false] HT_ ?_
 refine tat4 0 9 #[true, false, true, false, true, true, false, false] HT_ HW_ hHeld ?_
 refine tat4 1 10 #[true, true, true, false, true, true, false, false] HT_ HW_ hHeld ?_
 refine one_ (i := 3) (N := some 12) #[true, true, true, true, true, true, false, false] rfl rfl (one_of HT_.out (by kernel_rfl)) (by decide) (fun K hK => ?_)
 refine goes_ Try.func103 (by kernel_rfl) rfl #[.agg #[.int .i64 a0_0, .int .i64 a0_1, .int .i64 a0_2, .slice A0_3 l0_3.length c0_3], .int .i64 a3] (by rfl) rfl rfl sl ?_
 with_reducible refine (spec_PieceAt.calls k a0_0 a0_1 a0_2 _ _ l0_3 a3 t221 _ ?side1 ?side2 A5.out).mono ?_
 (case side1 => exact cb HR0_3)
 (case side2 => exact HC0_3.out)
 rintro e w9 ⟨rfl, hb⟩
 refine ⟨_, rfl, ?_⟩
 replace BK220 := bb BK220 hb
 replace HB := bsw hb
 (try clear hb)
 (try clear hb2)
 (try clear hk)
 (try clear hi)
 refine hK.out _ _ ⟨bc0 BK220, bc1 BK220, bc2 BK220, bc3 BK220⟩ (fun hHeld => ?_)
 clear hK K
 refine norm_ (a' := ?_) ?_ ?_
 rotate_left
 ·show Act.put _ (some 12) _ = _
  simp only [Act.put, List.setIfInBounds_toArray, List.set_cons_zero, List.set_cons_succ, i64_w, i32_w]
  rfl
 refine one_ (i := 6) (N := some 15) #[true, true, true, true, true, true, true, false] rfl rfl (one_of HT_.out (by kernel_rfl)) (by decide) (fun K hK => ?_)
 refine goes_ Try.func138 (by kernel_rfl) rfl #[.agg #[.int .i64 a0_0, .int .i64 a0_1, .int .i64 a0_2, .slice A0_3 l0_3.length c0_3], .int .i64 t221, .int .i64 a1, .int .i64 a2] (by rfl) rfl rfl sl ?_
 with_reducible refine (spec_HasLink.calls k a0_0 a0_1 a0_2 _ _ l0_3 t221 a1 a2 t222 _ ?side1 ?side2 A6.out).mono ?_
 (case side1 => exact cb HR0_3)
 (case side2 => exact HC0_3.out)
 rintro e w10 ⟨rfl, hb⟩
 refine ⟨_, rfl, ?_⟩
 replace BK220 := bb BK220 hb
 replace HB := bsw hb
 (try clear hb)
 (try clear hb2)
 (try clear hk)
 (try clear hi)
 refine hK.out _ _ ⟨bc0 BK220, bc1 BK220, bc2 BK220, bc3 BK220⟩ (fun hHeld => ?_)
 clear hK K
 refine norm_ (a' := ?_) ?_ ?_
 rotate_left
 ·show Act.put _ (some 15) _ = _
  simp only [Act.put, List.setIfInBounds_toArray, List.set_cons_zero, List.set_cons_succ, i64_w, i32_w]
  rfl
 refine put 7 8 #[true, true, true, true, true, true, true, true] HT_ ?_
 refine done_ (done_of HT_.out (by kernel_rfl)) ?_
 try go_wp2
 go_ret
 exact ⟨se, sbw⟩

/-! ### spec_MayUse: function 42 -/
mutual
def spec_MayUse.j0 : Nat → Int → Int → Int → Bool → Int → Int → Int → List (S106) → Option (Bool)
  | 0, _, _, _, _, _, _, _, _ => none
  | k + 1, x1, x2, x3, x18, x224000, x224001, x224002, x224003 => if x18 = true then (some false) else (spec_MayUse.l0 k x1 x2 x3 (wrap64 (x3 - x224002)) x224000 x224001 x224002 x224003)
def spec_MayUse.l0 : Nat → Int → Int → Int → Int → Int → Int → Int → List (S106) → Option (Bool)
  | 0, _, _, _, _, _, _, _, _ => none
  | k + 1, x1, x2, x3, x9, x224000, x224001, x224002, x224003 => if x9 ≤ (wrap64 (x3 + x224002)) then ((spec_IsLinked.f k x224000 x224001 x224002 x224003 x1 x2 x9).bind fun t226 => (if t226 = true then (spec_MayUse.l0 k x1 x2 x3 (wrap64 (x9 + 1)) x224000 x224001 x224002 x224003) else (some false))) else (some true)
end
def spec_MayUse.f (k : Nat) (a0_0 : Int) (a0_1 : Int) (a0_2 : Int) (l0_3 : List (S106)) (a1 : Int) (a2 : Int) (a3 : Int) : Option (Bool) := (spec_l1In.f a0_2 0 5).bind fun t224 => (if t224 = true then ((spec_l1In.f a3 0 1000).bind fun t225 => (spec_MayUse.j0 k a1 a2 a3 (!t225) a0_0 a0_1 a0_2 l0_3)) else (spec_MayUse.j0 k a1 a2 a3 true a0_0 a0_1 a0_2 l0_3))
theorem spec_MayUse.mono_l : ∀ k, (∀ y0 y1 y2 y3 y4 y5 y6 y7, LeO (spec_MayUse.j0 k y0 y1 y2 y3 y4 y5 y6 y7) (spec_MayUse.j0 (k + 1) y0 y1 y2 y3 y4 y5 y6 y7)) ∧ (∀ y0 y1 y2 y3 y4 y5 y6 y7, LeO (spec_MayUse.l0 k y0 y1 y2 y3 y4 y5 y6 y7) (spec_MayUse.l0 (k + 1) y0 y1 y2 y3 y4 y5 y6 y7))
  | 0 => ⟨fun _ _ _ _ _ _ _ _ r h => by simp [spec_MayUse.j0] at h, fun _ _ _ _ _ _ _ _ r h => by simp [spec_MayUse.l0] at h⟩
  | k + 1 => by
    obtain ⟨ih0, ih1⟩ := spec_MayUse.mono_l k
    refine ⟨?_, ?_⟩
    · intro y0 y1 y2 y3 y4 y5 y6 y7
      unfold spec_MayUse.j0
      have m0 := @spec_IsLinked.mono
      exact mo
    · intro y0 y1 y2 y3 y4 y5 y6 y7
      unfold spec_MayUse.l0
      have m0 := @spec_IsLinked.mono
      exact mo
theorem spec_MayUse.mono : ∀ a0 a1 a2 a3 a4 a5 a6 k, LeO (spec_MayUse.f k a0 a1 a2 a3 a4 a5 a6) (spec_MayUse.f (k + 1) a0 a1 a2 a3 a4 a5 a6) := by
  intro a0 a1 a2 a3 a4 a5 a6 k
  obtain ⟨ih0, ih1⟩ := spec_MayUse.mono_l k
  unfold spec_MayUse.f
  have m0 := @spec_IsLinked.mono
  exact mo
set_option maxHeartbeats 8000000 in
set_option maxRecDepth 100000 in
theorem spec_MayUse.calls (k : Nat) (a0_0 : Int) (a0_1 : Int) (a0_2 : Int) (A0_3 : Option Addr) (c0_3 : Nat) (l0_3 : List (S106)) (a1 : Int) (a2 : Int) (a3 : Int) (r : Bool) (w : World) (hr0_3 : Kd.C k106 w A0_3 l0_3.length l0_3) (hc0_3 : l0_3.length ≤ c0_3) (h : spec_MayUse.f k a0_0 a0_1 a0_2 l0_3 a1 a2 a3 = some r) :
    Calls Try.prog 42 #[.agg #[.int .i64 a0_0, .int .i64 a0_1, .int .i64 a0_2, .slice A0_3 l0_3.length c0_3], .int .i64 a1, .int .i64 a2, .int .i64 a3] w fun e w' => e = .returned (.bool r) ∧ Below w.heap.size w w' := by
 have hu29 := Try.underlying29
 have HR0_3 := Aside0.mk hr0_3
 have HC0_3 := Aside0.mk hc0_3
 clear hr0_3 hc0_3
 have HB := Aside0.mk (Below.refl w.heap.size w)
 have H : ((spec_l1In.f a0_2 0 5).bind fun t224 => (if t224 = true then ((spec_l1In.f a3 0 1000).bind fun t225 => (spec_MayUse.j0 k a1 a2 a3 (!t225) a0_0 a0_1 a0_2 l0_3)) else (spec_MayUse.j0 k a1 a2 a3 true a0_0 a0_1 a0_2 l0_3))) = some r := h
 clear h
 have HC5 := Aside0.mk H
 clear H
 go_enter Try.func42, Try.ntmps42
 go_upto_region 1 with (first | ((with_reducible refine gate_dst (N := 4) rfl ?_); refine bx 4 #[.int .i64 a0_0, .int .i64 a0_1, .int .i64 a0_2, .slice A0_3 l0_3.length c0_3] 29 ?_; intro gb223 hg w6 hbox hb; have BK223 := Aside0.mk hbox; have GW223 := bz w hg; have GE223 := bz w hg; replace HB := bs hb; clear hb hbox hg))
 (try simp only [Act.put, List.setIfInBounds_toArray, List.set_cons_zero, List.set_cons_succ])
 go_cut [18] (fun v18 wc => ∃ (kq : Nat) (x18_4 : Bool), v18 = .bool x18_4 ∧ Aside0 (spec_MayUse.j0 kq a1 a2 a3 x18_4 a0_0 a0_1 a0_2 l0_3 = some r) ∧ Aside0 (kq ≤ k) ∧ Aside0 (wc.heap[gb223]? = some (.cells #[.int .i64 a0_0, .int .i64 a0_1, .int .i64 a0_2, (.slice A0_3 l0_3.length c0_3)] 29 (0, 0))) ∧ Aside0 (Below w.heap.size w wc))
 case first =>
  have H := HC5.out
  clear HC5
  obtain ⟨t224, A7, H⟩ := bnd H
  obtain rfl | rfl := tt t224
  ·replace H := ip H
   obtain ⟨t225, A9, H⟩ := bnd H
   have H' := Aside0.mk H
   clear H
   obtain ⟨hcz10_0, hcz10_1, hcz10_2, hcz10_3, hfz10_0, hfz10_1, hfz10_2, hfz10_3⟩ := cc4 BK223
   go_wp2_with (first | ((with_reducible refine gate_callee (f := 63) rfl ?_); refine gL (some 12) Try.func63 #[.int .i64 a0_2, .int .i64 0, .int .i64 5] ?_; (with_reducible refine (spec_l1In.calls a0_2 0 5 true _ A7.out).mono ?_); rintro e w' ⟨rfl, ⟨nd, rfl⟩⟩; refine ⟨_, rfl, ?_⟩) | (go_at_call 63; (with_reducible refine (spec_l1In.calls a3 0 1000 t225 _ A9.out).mono ?_); rintro e w' ⟨rfl, ⟨nd, rfl⟩⟩))
   go_meet
   case rel => exact ⟨_, (!t225), sc, H', ⟨by first | omega | exact Nat.le_refl _⟩, ⟨sk BK223⟩, ⟨sbw⟩⟩
  ·replace H := im H
   have H' := Aside0.mk H
   clear H
   obtain ⟨hcz11_0, hcz11_1, hcz11_2, hcz11_3, hfz11_0, hfz11_1, hfz11_2, hfz11_3⟩ := cc4 BK223
   go_wp2_with (first | ((with_reducible refine gate_callee (f := 63) rfl ?_); refine gL (some 12) Try.func63 #[.int .i64 a0_2, .int .i64 0, .int .i64 5] ?_; (with_reducible refine (spec_l1In.calls a0_2 0 5 false _ A7.out).mono ?_); rintro e w' ⟨rfl, ⟨nd, rfl⟩⟩; refine ⟨_, rfl, ?_⟩))
   go_meet
   case rel => exact ⟨_, (true), sc, H', ⟨by first | omega | exact Nat.le_refl _⟩, ⟨sk BK223⟩, ⟨sbw⟩⟩
 case rest =>
  clear HC5
  try clear hcz10_0
  try clear hcz10_1
  try clear hcz10_2
  try clear hcz10_3
  try clear hcz11_0
  try clear hcz11_1
  try clear hcz11_2
  try clear hcz11_3
  try clear hfz10_0
  try clear hfz10_1
  try clear hfz10_2
  try clear hfz10_3
  try clear hfz11_0
  try clear hfz11_1
  try clear hfz11_2
  try clear hfz11_3
  obtain ⟨kq, x18_4, rfl, HA, HJ4, BK223, HB⟩ := hcut
  cases kq with
  | zero => exact absurd HA.out (by simp [spec_MayUse.j0])
  | succ kj4 =>
   have H := HA.out
   clear HA
   simp only [spec_MayUse.j0] at H
   obtain rfl | rfl := tt x18_4
   ·replace H := ip H
    obtain rfl := Option.some.inj H
    go_wp2
    go_ret
    exact ⟨se, sbw⟩
   ·replace H := im H
    have H' := Aside0.mk H
    clear H
    obtain ⟨hcz13_0, hcz13_1, hcz13_2, hcz13_3, hfz13_0, hfz13_1, hfz13_2, hfz13_3⟩ := cc4 BK223
    go_wp2
    go_loopg [9] kj4 (fun kq v9 w' => ∃ (x9_2 : Int), v9 = .int .i64 x9_2 ∧ Aside0 (spec_MayUse.l0 kq a1 a2 a3 x9_2 a0_0 a0_1 a0_2 l0_3 = some r) ∧ Aside0 (kq ≤ kj4) ∧ Aside0 (w'.heap[gb223]? = some (.cells #[.int .i64 a0_0, .int .i64 a0_1, .int .i64 a0_2, (.slice A0_3 l0_3.length c0_3)] 29 (0, 0))) ∧ Aside0 (Below w.heap.size w w'))
    case atStart => exact ⟨(wrap64 (a3 - a0_2)), sc, H', kk0, ⟨sk BK223⟩, ⟨sbw⟩⟩
    case round =>
     clear H'
     try clear hcz10_0
     try clear hcz10_1
     try clear hcz10_2
     try clear hcz10_3
     try clear hcz11_0
     try clear hcz11_1
     try clear hcz11_2
     try clear hcz11_3
     try clear hcz13_0
     try clear hcz13_1
     try clear hcz13_2
     try clear hcz13_3
     try clear hfz10_0
     try clear hfz10_1
     try clear hfz10_2
     try clear hfz10_3
     try clear hfz11_0
     try clear hfz11_1
     try clear hfz11_2
     try clear hfz11_3
     try clear hfz13_0
     try clear hfz13_1
     try clear hfz13_2
     try clear hfz13_3
     obtain ⟨x9_2, rfl, HA, HK2, BK223, HB⟩ := hrel
     cases gk with
     | zero => exact absurd HA.out (by simp [spec_MayUse.l0])
     | succ k2 =>
      have H := HA.out
      clear HA
      simp only [spec_MayUse.l0] at H
      obtain ⟨c14, H⟩ | ⟨c14, H⟩ := ie_ H
      ·have c14b0 := decide_eq_true c14
       clear c14
       obtain ⟨t226, A15, H⟩ := bnd H
       obtain rfl | rfl := tt t226
       ·replace H := ip H
        have H' := Aside0.mk H
        clear H
        obtain ⟨hcz17_0, hcz17_1, hcz17_2, hcz17_3, hfz17_0, hfz17_1, hfz17_2, hfz17_3⟩ := cc4 BK223
        go_wp2_with (first | ((with_reducible refine gate_callee (f := 86) rfl ?_); refine gL (some 35) Try.func86 #[.agg #[.int .i64 a0_0, .int .i64 a0_1, .int .i64 a0_2, .slice A0_3 l0_3.length c0_3], .int .i64 a1, .int .i64 a2, .int .i64 x9_2] ?_; (with_reducible refine (spec_IsLinked.calls k2 a0_0 a0_1 a0_2 _ _ l0_3 a1 a2 x9_2 true _ ?side1 ?side2 A15.out).mono ?_); (case side1 => exact cb HR0_3); (case side2 => exact HC0_3.out); rintro e w18 ⟨rfl, hb⟩; refine ⟨_, rfl, ?_⟩; replace BK223 := bb BK223 hb; replace HB := bsw hb; (try clear hb); (try clear hb2); (try clear hk); (try clear hi)))
        go_roundg k2
        case measure => have := HJ4.out; have := HK2.out; omega
        case rel => exact ⟨(wrap64 (x9_2 + 1)), sc, H', ⟨by have := HJ4.out; have := HK2.out; omega⟩, ⟨sk BK223⟩, ⟨sbw⟩⟩
       ·replace H := im H
        obtain rfl := Option.some.inj H
        obtain ⟨hcz19_0, hcz19_1, hcz19_2, hcz19_3, hfz19_0, hfz19_1, hfz19_2, hfz19_3⟩ := cc4 BK223
        go_wp2_with (first | ((with_reducible refine gate_callee (f := 86) rfl ?_); refine gL (some 35) Try.func86 #[.agg #[.int .i64 a0_0, .int .i64 a0_1, .int .i64 a0_2, .slice A0_3 l0_3.length c0_3], .int .i64 a1, .int .i64 a2, .int .i64 x9_2] ?_; (with_reducible refine (spec_IsLinked.calls k2 a0_0 a0_1 a0_2 _ _ l0_3 a1 a2 x9_2 false _ ?side1 ?side2 A15.out).mono ?_); (case side1 => exact cb HR0_3); (case side2 => exact HC0_3.out); rintro e w20 ⟨rfl, hb⟩; refine ⟨_, rfl, ?_⟩; replace BK223 := bb BK223 hb; replace HB := bsw hb; (try clear hb); (try clear hb2); (try clear hk); (try clear hi)))
        go_ret
        exact ⟨se, sbw⟩
      ·have c14b0 := decide_eq_false c14
       clear c14
       obtain rfl := Option.some.inj H
       obtain ⟨hcz21_0, hcz21_1, hcz21_2, hcz21_3, hfz21_0, hfz21_1, hfz21_2, hfz21_3⟩ := cc4 BK223
       go_wp2
       go_ret
       exact ⟨se, sbw⟩

/-! ### spec_Max: function 132 -/
def spec_Max.f (a0 : Int) (a1 : Int) : Option (Int) := if a1 > a0 then (some a1) else (some a0)
set_option maxHeartbeats 8000000 in
set_option maxRecDepth 100000 in
theorem spec_Max.calls (a0 : Int) (a1 : Int) (r : Int) (w : World) (h : spec_Max.f a0 a1 = some r) :
    Calls Try.prog 132 #[.int .i64 a0, .int .i64 a1] w fun e w' => e = .returned (.int .i64 r) ∧ Drawn0 w w' := by
 have H : (if a1 > a0 then (some a1) else (some a0)) = some r := h
 clear h
 obtain ⟨c3, H⟩ | ⟨c3, H⟩ := ie_ H
 ·have c3b0 := decide_eq_true c3
  clear c3
  obtain rfl := Option.some.inj H
  go_enter Try.func132, Try.ntmps132
  go_wp2
  go_ret
  exact ⟨sc, sd⟩
 ·have c3b0 := decide_eq_false c3
  clear c3
  obtain rfl := Option.some.inj H
  go_enter Try.func132, Try.ntmps132
  go_wp2
  go_ret
  exact ⟨sc, sd⟩

/-! ### spec_Min: function 133 -/
def spec_Min.f (a0 : Int) (a1 : Int) : Option (Int) := if a1 < a0 then (some a1) else (some a0)
set_option maxHeartbeats 8000000 in
set_option maxRecDepth 100000 in
theorem spec_Min.calls (a0 : Int) (a1 : Int) (r : Int) (w : World) (h : spec_Min.f a0 a1 = some r) :
    Calls Try.prog 133 #[.int .i64 a0, .int .i64 a1] w fun e w' => e = .returned (.int .i64 r) ∧ Drawn0 w w' := by
 have H : (if a1 < a0 then (some a1) else (some a0)) = some r := h
 clear h
 obtain ⟨c3, H⟩ | ⟨c3, H⟩ := ie_ H
 ·have c3b0 := decide_eq_true c3
  clear c3
  obtain rfl := Option.some.inj H
  go_enter Try.func133, Try.ntmps133
  go_wp2
  go_ret
  exact ⟨sc, sd⟩
 ·have c3b0 := decide_eq_false c3
  clear c3
  obtain rfl := Option.some.inj H
  go_enter Try.func133, Try.ntmps133
  go_wp2
  go_ret
  exact ⟨sc, sd⟩

/-! ### spec_l20Last: function 71 -/
def spec_l20Last.l0 : Nat → Int → Int → Int → Int → Int → List (S106) → Option (Int)
  | 0, _, _, _, _, _, _ => none
  | k + 1, x3, x4, x228000, x228001, x228002, x228003 => if x4 < (x228003.length : Int) then (if 0 ≤ x4 then ((spec_Min.f 1000 ((rd_T106 x228003 x4).f0.f1)).bind fun t229 => ((spec_Max.f x3 t229).bind fun t230 => (spec_l20Last.l0 k t230 (wrap64 (x4 + 1)) x228000 x228001 x228002 x228003))) else (none)) else (some x3)
def spec_l20Last.f (k : Nat) (a0_0 : Int) (a0_1 : Int) (a0_2 : Int) (l0_3 : List (S106)) : Option (Int) := spec_l20Last.l0 k 0 0 a0_0 a0_1 a0_2 l0_3
theorem spec_l20Last.mono_l : ∀ k, (∀ y0 y1 y2 y3 y4 y5, LeO (spec_l20Last.l0 k y0 y1 y2 y3 y4 y5) (spec_l20Last.l0 (k + 1) y0 y1 y2 y3 y4 y5))
  | 0 => fun _ _ _ _ _ _ r h => by simp [spec_l20Last.l0] at h
  | k + 1 => by
    have ih0 := spec_l20Last.mono_l k
    · intro y0 y1 y2 y3 y4 y5
      unfold spec_l20Last.l0
      exact mo
theorem spec_l20Last.mono : ∀ a0 a1 a2 a3 k, LeO (spec_l20Last.f k a0 a1 a2 a3) (spec_l20Last.f (k + 1) a0 a1 a2 a3) := by
  intro a0 a1 a2 a3 k
  have ih0 := spec_l20Last.mono_l k
  unfold spec_l20Last.f
  exact mo
set_option maxHeartbeats 8000000 in
set_option maxRecDepth 100000 in
theorem spec_l20Last.calls (k : Nat) (a0_0 : Int) (a0_1 : Int) (a0_2 : Int) (A0_3 : Option Addr) (c0_3 : Nat) (l0_3 : List (S106)) (r : Int) (w : World) (hr0_3 : Kd.C k106 w A0_3 l0_3.length l0_3) (hc0_3 : l0_3.length ≤ c0_3) (h : spec_l20Last.f k a0_0 a0_1 a0_2 l0_3 = some r) :
    Calls Try.prog 71 #[.agg #[.int .i64 a0_0, .int .i64 a0_1, .int .i64 a0_2, .slice A0_3 l0_3.length c0_3]] w fun e w' => e = .returned (.int .i64 r) ∧ Below w.heap.size w w' := by
 have hu29 := Try.underlying29
 have HR0_3 := Aside0.mk hr0_3
 have HC0_3 := Aside0.mk hc0_3
 clear hr0_3 hc0_3
 have HB := Aside0.mk (Below.refl w.heap.size w)
 have H : (spec_l20Last.l0 k 0 0 a0_0 a0_1 a0_2 l0_3) = some r := h
 clear h
 have H' := Aside0.mk H
 clear H
 go_enter Try.func71, Try.ntmps71
 go_wp2_with (first | ((with_reducible refine gate_dst (N := 1) rfl ?_); refine bx 1 #[.int .i64 a0_0, .int .i64 a0_1, .int .i64 a0_2, .slice A0_3 l0_3.length c0_3] 29 ?_; intro gb227 hg w2 hbox hb; have BK227 := Aside0.mk hbox; have GW227 := bz w hg; have GE227 := bz w hg; replace HB := bs hb; clear hb hbox hg))
 go_loopg [3, 4] k (fun kq v3 v4 w' => ∃ (x3_1 : Int) (x4_1 : Int), v3 = .int .i64 x3_1 ∧ v4 = .int .i64 x4_1 ∧ Aside0 (spec_l20Last.l0 kq x3_1 x4_1 a0_0 a0_1 a0_2 l0_3 = some r) ∧ Aside0 (kq ≤ k) ∧ Aside0 (w'.heap[gb227]? = some (.cells #[.int .i64 a0_0, .int .i64 a0_1, .int .i64 a0_2, (.slice A0_3 l0_3.length c0_3)] 29 (0, 0))) ∧ Aside0 (Below w.heap.size w w'))
 case atStart => exact ⟨(0), (0), sc, sc, H', kk0, ⟨sk BK227⟩, ⟨sbw⟩⟩
 case round =>
  clear H'
  obtain ⟨x3_1, x4_1, rfl, rfl, HA, HK1, BK227, HB⟩ := hrel
  cases gk with
  | zero => exact absurd HA.out (by simp [spec_l20Last.l0])
  | succ k1 =>
   have H := HA.out
   clear HA
   simp only [spec_l20Last.l0] at H
   obtain ⟨c3, H⟩ | ⟨c3, H⟩ := ie_ H
   ·have c3b0 := decide_eq_true c3
    clear c3
    obtain ⟨c4b0, H⟩ := id_ H
    obtain ⟨t229, A5, H⟩ := bnd H
    obtain ⟨t230, A6, H⟩ := bnd H
    have H' := Aside0.mk H
    clear H
    obtain ⟨hcz7_0, hcz7_1, hcz7_2, hcz7_3, hfz7_0, hfz7_1, hfz7_2, hfz7_3⟩ := cc4 BK227
    obtain ⟨p228, q228, ad228, A228_2, c228_2, A228_3, c228_3, e228, _, _, _, _, hx228_0, hx228_1, hx228_2, hx228_3, HC228_2, HR228_2, HC228_3, HR228_3⟩ := aT_T106 HR0_3 HB x4_1
    cases e228
    go_wp2_with (first | ((with_reducible refine gate_callee (f := 133) rfl ?_); refine gL (some 20) Try.func133 #[.int .i64 1000, .int .i64 ((rd_T106 l0_3 x4_1).f0.f1)] ?_; (with_reducible refine (spec_Min.calls 1000 ((rd_T106 l0_3 x4_1).f0.f1) t229 _ A5.out).mono ?_); rintro e w' ⟨rfl, ⟨nd, rfl⟩⟩; refine ⟨_, rfl, ?_⟩) | ((with_reducible refine gate_callee (f := 132) rfl ?_); refine gL (some 21) Try.func132 #[.int .i64 x3_1, .int .i64 t229] ?_; (with_reducible refine (spec_Max.calls x3_1 t229 t230 _ A6.out).mono ?_); rintro e w' ⟨rfl, ⟨nd, rfl⟩⟩; refine ⟨_, rfl, ?_⟩))
    go_roundg k1
    case measure => have := HK1.out; omega
    case rel => exact ⟨(t230), (wrap64 (x4_1 + 1)), sc, sc, H', kk1, ⟨sk BK227⟩, ⟨sbw⟩⟩
   ·have c3b0 := decide_eq_false c3
    clear c3
    obtain rfl := Option.some.inj H
    obtain ⟨hcz8_0, hcz8_1, hcz8_2, hcz8_3, hfz8_0, hfz8_1, hfz8_2, hfz8_3⟩ := cc4 BK227
    go_wp2
    go_ret
    exact ⟨se, sbw⟩

end Go.Proofs.Ytlakjlolahjphaa.QFnExactUseSpans
