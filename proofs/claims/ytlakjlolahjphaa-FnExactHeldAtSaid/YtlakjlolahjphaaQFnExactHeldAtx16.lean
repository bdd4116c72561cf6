/- What the Go functions of the law FnExactHeldAt come to, as Lean functions, and that they do: by a program of the session, out of the kit's printer. Conditions: none. (squeezed). -/
import Derived.Test.YtlakjlolahjphaaSq
import Derived.Test.YtlakjlolahjphaaQFnExactHeldAtx0
import Derived.Test.YtlakjlolahjphaaQFnExactHeldAtx11
import Derived.Test.YtlakjlolahjphaaQFnExactHeldAtx12
import Derived.Test.YtlakjlolahjphaaQFnExactHeldAtx15
namespace Go.Proofs.Ytlakjlolahjphaa.QFnExactHeldAt
open Go.RowKit Go.Proofs.YtlakjlolahjphaaW.PrintWords Go.Proofs.YtlakjlolahjphaaW.PrintLast Go.Proofs.YtlakjlolahjphaaW.PrintMore Go.Proofs.Ytlakjlolahjphaa.Open Go.Proofs.Ytlakjlolahjphaa.Sq
attribute [local go_sem] max2_int min2_int max_two min_two max_three min_three max_four min_four   -- for this text's walks alone
attribute [local go_sem] isSome_set
set_option linter.unusedVariables false
set_option linter.unusedSimpArgs false

/-! ### impl_IsHolding: function 26 -/
def impl_IsHolding.f (k : Nat) (a0_0 : Int) (a0_1 : Int) (a0_2 : Int) (l0_3 : List (S106)) (a1 : Int) (a2 : Int) (a3 : Int) : Option (Bool) := (impl_PieceAt.f a0_0 a0_1 a0_2 l0_3 a3).bind fun t427 => ((impl_nextIn.f a0_0 a0_1 a0_2 l0_3 t427 a2 a1).bind fun bt428 => ((impl_HopAt.f k a0_0 a0_1 a0_2 l0_3 a1 a2 a3).bind fun t430 => (if t430 = (-1) then (some (decide (bt428.1 ≥ 0))) else (some false))))
theorem impl_IsHolding.mono : ∀ a0 a1 a2 a3 a4 a5 a6 k, LeO (impl_IsHolding.f k a0 a1 a2 a3 a4 a5 a6) (impl_IsHolding.f (k + 1) a0 a1 a2 a3 a4 a5 a6) := by
  intro a0 a1 a2 a3 a4 a5 a6 k
  unfold impl_IsHolding.f
  have m0 := @impl_HopAt.mono
  exact mo
def impl_IsHolding.T1 : Bool × List (List Nat × List Nat) := (true, [([], []), ([], []), ([], []), ([1, 2], [1, 2]), ([], []), ([], []), ([0, 3, 4, 5, 3], [0, 3, 4, 5]), ([6], [6]), ([7], [7]), ([7], [7]), ([8, 6, 0, 1, 2, 3, 4, 5, 6, 7, 8], [8]), ([9, 10, 0, 1, 2, 3, 4, 5, 6, 7, 8, 9, 10], [9])])
def impl_IsHolding.B1 : List Nat := [0, 0, 0, 6, 0, 0, 63, 127, 255, 255, 511, 2047]
theorem impl_IsHolding.tab1 : rtab .any (opsOf Try.f26 1) = impl_IsHolding.T1 := by kernel_rfl
theorem impl_IsHolding.bits1 : waitsOk impl_IsHolding.T1.2 impl_IsHolding.B1 = true := by kernel_rfl
set_option maxHeartbeats 8000000 in
set_option maxRecDepth 100000 in
theorem impl_IsHolding.calls (k : Nat) (a0_0 : Int) (a0_1 : Int) (a0_2 : Int) (A0_3 : Option Addr) (c0_3 : Nat) (l0_3 : List (S106)) (a1 : Int) (a2 : Int) (a3 : Int) (r : Bool) (w : World) (hr0_3 : Kd.C k106 w A0_3 l0_3.length l0_3) (hc0_3 : l0_3.length ≤ c0_3) (h : impl_IsHolding.f k a0_0 a0_1 a0_2 l0_3 a1 a2 a3 = some r) :
    Calls Try.prog 26 #[.agg #[.int .i64 a0_0, .int .i64 a0_1, .int .i64 a0_2, .slice A0_3 l0_3.length c0_3], .int .i64 a1, .int .i64 a2, .int .i64 a3] w fun e w' => e = .returned (.bool r) ∧ Below w.heap.size w w' := by
 have hu29 := Try.underlying29
 have HR0_3 := Aside0.mk hr0_3
 have HC0_3 := Aside0.mk hc0_3
 clear hr0_3 hc0_3
 have HB := Aside0.mk (Below.refl w.heap.size w)
 have H : ((impl_PieceAt.f a0_0 a0_1 a0_2 l0_3 a3).bind fun t427 => ((impl_nextIn.f a0_0 a0_1 a0_2 l0_3 t427 a2 a1).bind fun bt428 => ((impl_HopAt.f k a0_0 a0_1 a0_2 l0_3 a1 a2 a3).bind fun t430 => (if t430 = (-1) then (some (decide (bt428.1 ≥ 0))) else (some false))))) = some r := h
 clear h
 obtain ⟨t427, A5, H⟩ := bnd H
 obtain ⟨⟨t428, t429⟩, A6, H⟩ := bnd H
 replace H : ((impl_HopAt.f k a0_0 a0_1 a0_2 l0_3 a1 a2 a3).bind fun t430 => (if t430 = (-1) then (some (decide (t428 ≥ 0))) else (some false))) = some r := H
 obtain ⟨t430, A7, H⟩ := bnd H
 obtain ⟨c8, H⟩ | ⟨c8, H⟩ := ie_ H
 ·have c8b0 : (t430 == (-1)) = true := beq_iff_eq.mpr c8
  have c8b1 : (t430 != (-1)) = false := bne_eq_false_iff_eq.mpr c8
  clear c8
  obtain rfl := Option.some.inj H
  go_enter Try.func26, Try.ntmps26
  try go_wp2_with (first | ((with_reducible refine gate_dst (N := 4) rfl ?_); refine bx 4 #[.int .i64 a0_0, .int .i64 a0_1, .int .i64 a0_2, .slice A0_3 l0_3.length c0_3] 29 ?_; intro gb426 hg w9 hbox hb; have BK426 := Aside0.mk hbox; have GW426 := bz w hg; have GE426 := bz w hg; replace HB := bs hb; clear hb hbox hg))
  replace BK426 := Aside0.mk (blk_drew BK426.out)
  replace HB := Aside0.mk (below_drew1 HB.out)
  refine start_ (n := 12) (S := fun w' => w'.cell? ⟨gb426, 0, none⟩ = some (.int .i64 a0_0) ∧ w'.cell? ⟨gb426, 1, none⟩ = some (.int .i64 a0_1) ∧ w'.cell? ⟨gb426, 2, none⟩ = some (.int .i64 a0_2) ∧ w'.cell? ⟨gb426, 3, none⟩ = some (.slice A0_3 l0_3.length c0_3)) (ds := []) #[false, false, false, false, false, false, false, false, false, false, false, false] (by kernel_rfl) rfl rfl ⟨bc0 BK426, bc1 BK426, bc2 BK426, bc3 BK426⟩ (fun hHeld => ?_); refine with_tabW impl_IsHolding.tab1 impl_IsHolding.bits1 (fun HT_ HW_ => ?_)
  generalize w9.drew = w10 at BK426 HB hHeld ⊢
  refine put 2 14 #[false, false, true, false, false, false, false, false, false, false, false, false] HT_ ?_
  refine put 4 16 #[false, false, true, false, true, false, false, false, false, false, false, false] HT_ ?_
  refine put 5 17 #[false, false, true, false, true, true, false, false, false, false, false, false] HT_ ?_
  refine tat4 0 12 #[true, false, true, false, true, true, false, false, false, false, false, false] HT_ HW_ hHeld ?_
  refine tat4 1 13 #[true, true, true, false, true, true, false, false, false, false, false, false] HT_ HW_ hHeld ?_
  refine one_ (i := 3) (N := some 15) #[true, true, true, true, true, true, false, false, false, false, false, false] rfl rfl (one_of HT_.out (by kernel_rfl)) (by decide) (fun K hK => ?_)
  refine goes_ Try.func52 (by kernel_rfl) rfl #[.agg #[.int .i64 a0_0, .int .i64 a0_1, .int .i64 a0_2, .slice A0_3 l0_3.length c0_3], .int .i64 a3] (by rfl) rfl rfl sl ?_
  with_reducible refine (impl_PieceAt.calls a0_0 a0_1 a0_2 _ _ l0_3 a3 t427 _ ?side1 ?side2 A5.out).mono ?_
  (case side1 => exact cb HR0_3)
  (case side2 => exact HC0_3.out)
  rintro e w11 ⟨rfl, hb⟩
  refine ⟨_, rfl, ?_⟩
  replace BK426 := bb BK426 hb
  replace HB := bsw hb
  (try clear hb)
  (try clear hb2)
  (try clear hk)
  (try clear hi)
  refine hK.out _ _ ⟨bc0 BK426, bc1 BK426, bc2 BK426, bc3 BK426⟩ (fun hHeld => ?_)
  clear hK K
  refine norm_ (a' := ?_) ?_ ?_
  rotate_left
  ·show Act.put _ (some 15) _ = _
   simp only [Act.put, List.setIfInBounds_toArray, List.set_cons_zero, List.set_cons_succ, i64_w, i32_w]
   rfl
  refine one_ (i := 6) (N := some 18) #[true, true, true, true, true, true, true, false, false, false, false, false] rfl rfl (one_of HT_.out (by kernel_rfl)) (by decide) (fun K hK => ?_)
  refine goes_ Try.func67 (by kernel_rfl) rfl #[.agg #[.int .i64 a0_0, .int .i64 a0_1, .int .i64 a0_2, .slice A0_3 l0_3.length c0_3], .int .i64 t427, .int .i64 a2, .int .i64 a1] (by rfl) rfl rfl sl ?_
  with_reducible refine (impl_nextIn.calls a0_0 a0_1 a0_2 _ _ l0_3 t427 a2 a1 t428 t429 _ ?side1 ?side2 A6.out).mono ?_
  (case side1 => exact cb HR0_3)
  (case side2 => exact HC0_3.out)
  rintro e w12 ⟨rfl, hb⟩
  refine ⟨_, rfl, ?_⟩
  replace BK426 := bb BK426 hb
  replace HB := bsw hb
  (try clear hb)
  (try clear hb2)
  (try clear hk)
  (try clear hi)
  refine hK.out _ _ ⟨bc0 BK426, bc1 BK426, bc2 BK426, bc3 BK426⟩ (fun hHeld => ?_)
  clear hK K
  refine norm_ (a' := ?_) ?_ ?_
  rotate_left
  ·show Act.put _ (some 18) _ = _
   simp only [Act.put, List.setIfInBounds_toArray, List.set_cons_zero, List.set_cons_succ, i64_w, i32_w]
   rfl
  refine put 7 11 #[true, true, true, true, true, true, true, true, false, false, false, false] HT_ ?_
  refine put 8 19 #[true, true, true, true, true, true, true, true, true, false, false, false] HT_ ?_
  refine put 9 20 #[true, true, true, true, true, true, true, true, true, true, false, false] HT_ ?_
  refine put 10 9 #[true, true, true, true, true, true, true, true, true, true, true, false] HT_ ?_
  refine put 11 10 #[true, true, true, true, true, true, true, true, true, true, true, true] HT_ ?_
  refine done_ (done_of HT_.out (by kernel_rfl)) ?_
  obtain ⟨hcz13_0, hcz13_1, hcz13_2, hcz13_3, hfz13_0, hfz13_1, hfz13_2, hfz13_3⟩ := cc4 BK426
  try go_wp2_with (first | ((with_reducible refine gate_callee (f := 17) rfl ?_); refine gL (some 25) Try.func17 #[.agg #[.int .i64 a0_0, .int .i64 a0_1, .int .i64 a0_2, .slice A0_3 l0_3.length c0_3], .int .i64 a1, .int .i64 a2, .int .i64 a3] ?_; (with_reducible refine (impl_HopAt.calls k a0_0 a0_1 a0_2 _ _ l0_3 a1 a2 a3 t430 _ ?side1 ?side2 A7.out).mono ?_); (case side1 => exact cb HR0_3); (case side2 => exact HC0_3.out); rintro e w14 ⟨rfl, hb⟩; refine ⟨_, rfl, ?_⟩; replace BK426 := bb BK426 hb; replace HB := bsw hb; (try clear hb); (try clear hb2); (try clear hk); (try clear hi)))
  go_ret
  exact ⟨se, sbw⟩
 ·have c8b0 : (t430 == (-1)) = false := beq_eq_false_iff_ne.mpr c8
  have c8b1 : (t430 != (-1)) = true := bne_iff_ne.mpr c8
  obtain rfl := Option.some.inj H
  go_enter Try.func26, Try.ntmps26
  try go_wp2_with (first | ((with_reducible refine gate_dst (N := 4) rfl ?_); refine bx 4 #[.int .i64 a0_0, .int .i64 a0_1, .int .i64 a0_2, .slice A0_3 l0_3.length c0_3] 29 ?_; intro gb426 hg w15 hbox hb; have BK426 := Aside0.mk hbox; have GW426 := bz w hg; have GE426 := bz w hg; replace HB := bs hb; clear hb hbox hg))
  replace BK426 := Aside0.mk (blk_drew BK426.out)
  replace HB := Aside0.mk (below_drew1 HB.out)
  refine start_ (n := 12) (S := fun w' => w'.cell? ⟨gb426, 0, none⟩ = some (.int .i64 a0_0) ∧ w'.cell? ⟨gb426, 1, none⟩ = some (.int .i64 a0_1) ∧ w'.cell? ⟨gb426, 2, none⟩ = some (.int .i64 a0_2) ∧ w'.cell? ⟨gb426, 3, none⟩ = some (.slice A0_3 l0_3.length c0_3)) (ds := []) #[false, false, false, false, false, false, false, false, false, false, false, false] (by kernel_rfl) rfl rfl ⟨bc0 BK426, bc1 BK426, bc2 BK426, bc3 BK426⟩ (fun hHeld => ?_); refine with_tabW impl_IsHolding.tab1 impl_IsHolding.bits1 (fun HT_ HW_ => ?_)
  generalize w15.drew = w16 at BK426 HB hHeld ⊢
  refine put 2 14 #[false, false, true, false, false, false, false, false, false, false, false, false] HT_ ?_
  refine put 4 16 #[false, false, true, false, true, false, false, false, false, false, false, false] HT_ ?_
  refine put 5 17 #[false, false, true, false, true, true, false, false, false, false, false, false] HT_ ?_
  refine tat4 0 12 #[true, false, true, false, true, true, false, false, false, false, false, false] HT_ HW_ hHeld ?_
  refine tat4 1 13 #[true, true, true, false, true, true, false, false, false, false, false, false] HT_ HW_ hHeld ?_
  refine one_ (i := 3) (N := some 15) #[true, true, true, true, true, true, false, false, false, false, false, false] rfl rfl (one_of HT_.out (by kernel_rfl)) (by decide) (fun K hK => ?_)
  refine goes_ Try.func52 (by kernel_rfl) rfl #[.agg #[.int .i64 a0_0, .int .i64 a0_1, .int .i64 a0_2, .slice A0_3 l0_3.length c0_3], .int .i64 a3] (by rfl) rfl rfl sl ?_
  with_reducible refine (impl_PieceAt.calls a0_0 a0_1 a0_2 _ _ l0_3 a3 t427 _ ?side1 ?side2 A5.out).mono ?_
  (case side1 => exact cb HR0_3)
  (case side2 => exact HC0_3.out)
  rintro e w17 ⟨rfl, hb⟩
  refine ⟨_, rfl, ?_⟩
  replace BK426 := bb BK426 hb
  replace HB := bsw hb
  (try clear hb)
  (try clear hb2)
  (try clear hk)
  (try clear hi)
  refine hK.out _ _ ⟨bc0 BK426, bc1 BK426, bc2 BK426, bc3 BK426⟩ (fun hHeld => ?_)
  clear hK K
  refine norm_ (a' := ?_) ?_ ?_
  rotate_left
  ·show Act.put _ (some 15) _ = _
   simp only [Act.put, List.setIfInBounds_toArray, List.set_cons_zero, List.set_cons_succ, i64_w, i32_w]
   rfl
  refine one_ (i := 6) (N := some 18) #[true, true, true, true, true, true, true, false, false, false, false, false] rfl rfl (one_of HT_.out (by kernel_rfl)) (by decide) (fun K hK => ?_)
  refine goes_ Try.func67 (by kernel_rfl) rfl #[.agg #[.int .i64 a0_0, .int .i64 a0_1, .int .i64 a0_2, .slice A0_3 l0_3.length c0_3], .int .i64 t427, .int .i64 a2, .int .i64 a1] (by rfl) rfl rfl sl ?_
  with_reducible refine (impl_nextIn.calls a0_0 a0_1 a0_2 _ _ l0_3 t427 a2 a1 t428 t429 _ ?side1 ?side2 A6.out).mono ?_
  (case side1 => exact cb HR0_3)
  (case side2 => exact HC0_3.out)
  rintro e w18 ⟨rfl, hb⟩
  refine ⟨_, rfl, ?_⟩
  replace BK426 := bb BK426 hb
  replace HB := bsw hb
  (try clear hb)
  (try clear hb2)
  (try clear hk)
  (try clear hi)
  refine hK.out _ _ ⟨bc0 BK426, bc1 BK426, bc2 BK426, bc3 BK426⟩ (fun hHeld => ?_)
  clear hK K
  refine norm_ (a' := ?_) ?_ ?_
  rotate_left
  ·show Act.put _ (some 18) _ = _
   simp only [Act.put, List.setIfInBounds_toArray, List.set_cons_zero, List.set_cons_succ, i64_w, i32_w]
   rfl
  refine put 7 11 #[true, true, true, true, true, true, true, true, false, false, false, false] HT_ ?_
  refine put 8 19 #[true, true, true, true, true, true, true, true, true, false, false, false] HT_ ?_
  refine put 9 20 #[true, true, true, true, true, true, true, true, true, true, false, false] HT_ ?_
  refine put 10 9 #[true, true, true, true, true, true, true, true, true, true, true, false] HT_ ?_
  refine put 11 10 #[true, true, true, true, true, true, true, true, true, true, true, true] HT_ ?_
  refine done_ (done_of HT_.out (by kernel_rfl)) ?_
  obtain ⟨hcz19_0, hcz19_1, hcz19_2, hcz19_3, hfz19_0, hfz19_1, hfz19_2, hfz19_3⟩ := cc4 BK426
  try go_wp2_with (first | ((with_reducible refine gate_callee (f := 17) rfl ?_); refine gL (some 25) Try.func17 #[.agg #[.int .i64 a0_0, .int .i64 a0_1, .int .i64 a0_2, .slice A0_3 l0_3.length c0_3], .int .i64 a1, .int .i64 a2, .int .i64 a3] ?_; (with_reducible refine (impl_HopAt.calls k a0_0 a0_1 a0_2 _ _ l0_3 a1 a2 a3 t430 _ ?side1 ?side2 A7.out).mono ?_); (case side1 => exact cb HR0_3); (case side2 => exact HC0_3.out); rintro e w20 ⟨rfl, hb⟩; refine ⟨_, rfl, ?_⟩; replace BK426 := bb BK426 hb; replace HB := bsw hb; (try clear hb); (try clear hb2); (try clear hk); (try clear hi)))
  go_ret
  exact ⟨se, sbw⟩

/-! ### impl_AreOffsets: function 136 -/
def impl_AreOffsets.l0 : Nat → List Int → Int → Int → Int → Int → Int → List (S106) → Option (Bool)
  | 0, _, _, _, _, _, _, _ => none
  | k + 1, x12, x13, x14, x432000, x432001, x432002, x432003 => if x14 < x13 then (if 0 ≤ x14 then (if x14 < (x12.length : Int) then ((impl_InRange.f x432002 0 5).bind fun t433 => (if t433 = true then ((impl_InRange.f (rd x12 x14) (wrap64 (-x432002)) x432002).bind fun t434 => (if t434 = true then (impl_AreOffsets.l0 k x12 x13 (wrap64 (x14 + 1)) x432000 x432001 x432002 x432003) else (some false))) else (some false))) else (none)) else (none)) else (some true)
def impl_AreOffsets.f (k : Nat) (a0_0 : Int) (a0_1 : Int) (a0_2 : Int) (l0_3 : List (S106)) (l1 : List Int) : Option (Bool) := if (l1.length : Int) = a0_0 then (impl_AreOffsets.l0 k l1 (l1.length : Int) 0 a0_0 a0_1 a0_2 l0_3) else (some false)
theorem impl_AreOffsets.mono_l : ∀ k, (∀ y0 y1 y2 y3 y4 y5 y6, LeO (impl_AreOffsets.l0 k y0 y1 y2 y3 y4 y5 y6) (impl_AreOffsets.l0 (k + 1) y0 y1 y2 y3 y4 y5 y6))
  | 0 => fun _ _ _ _ _ _ _ r h => by simp [impl_AreOffsets.l0] at h
  | k + 1 => by
    have ih0 := impl_AreOffsets.mono_l k
    · intro y0 y1 y2 y3 y4 y5 y6
      unfold impl_AreOffsets.l0
      exact mo
theorem impl_AreOffsets.mono : ∀ a0 a1 a2 a3 a4 k, LeO (impl_AreOffsets.f k a0 a1 a2 a3 a4) (impl_AreOffsets.f (k + 1) a0 a1 a2 a3 a4) := by
  intro a0 a1 a2 a3 a4 k
  have ih0 := impl_AreOffsets.mono_l k
  unfold impl_AreOffsets.f
  exact mo
set_option maxHeartbeats 8000000 in
set_option maxRecDepth 100000 in
theorem impl_AreOffsets.calls (k : Nat) (a0_0 : Int) (a0_1 : Int) (a0_2 : Int) (A0_3 : Option Addr) (c0_3 : Nat) (l0_3 : List (S106)) (A1 : Option Addr) (c1 : Nat) (l1 : List Int) (r : Bool) (w : World) (hr0_3 : Kd.C k106 w A0_3 l0_3.length l0_3) (hc0_3 : l0_3.length ≤ c0_3) (hr1 : Kd.C (Kd.int .i64) w A1 l1.length l1) (hc1 : l1.length ≤ c1) (h : impl_AreOffsets.f k a0_0 a0_1 a0_2 l0_3 l1 = some r) :
    Calls Try.prog 136 #[.agg #[.int .i64 a0_0, .int .i64 a0_1, .int .i64 a0_2, .slice A0_3 l0_3.length c0_3], .slice A1 l1.length c1] w fun e w' => e = .returned (.bool r) ∧ Below w.heap.size w w' := by
 have hu29 := Try.underlying29
 have HR0_3 := Aside0.mk hr0_3
 have HC0_3 := Aside0.mk hc0_3
 clear hr0_3 hc0_3
 have HR1 := Aside0.mk hr1
 have HC1 := Aside0.mk hc1
 clear hr1 hc1
 have HB := Aside0.mk (Below.refl w.heap.size w)
 have H : (if (l1.length : Int) = a0_0 then (impl_AreOffsets.l0 k l1 (l1.length : Int) 0 a0_0 a0_1 a0_2 l0_3) else (some false)) = some r := h
 clear h
 obtain ⟨c3, H⟩ | ⟨c3, H⟩ := ie_ H
 ·have c3b0 : ((l1.length : Int) == a0_0) = true := beq_iff_eq.mpr c3
  have c3b1 : ((l1.length : Int) != a0_0) = false := bne_eq_false_iff_eq.mpr c3
  clear c3
  have H' := Aside0.mk H
  clear H
  go_enter Try.func136, Try.ntmps136
  go_wp2_with (first | ((with_reducible refine gate_dst (N := 2) rfl ?_); refine bx 2 #[.int .i64 a0_0, .int .i64 a0_1, .int .i64 a0_2, .slice A0_3 l0_3.length c0_3] 29 ?_; intro gb431 hg w4 hbox hb; have BK431 := Aside0.mk hbox; have GW431 := bz w hg; have GE431 := bz w hg; replace HB := bs hb; clear hb hbox hg; obtain ⟨hcz5_0, hcz5_1, hcz5_2, hcz5_3, hfz5_0, hfz5_1, hfz5_2, hfz5_3⟩ := cc4 BK431))
  go_loopg [14] k (fun kq v14 w' => ∃ (x14_1 : Int), v14 = .int .i64 x14_1 ∧ Aside0 (impl_AreOffsets.l0 kq l1 (l1.length : Int) x14_1 a0_0 a0_1 a0_2 l0_3 = some r) ∧ Aside0 (kq ≤ k) ∧ Aside0 (w'.heap[gb431]? = some (.cells #[.int .i64 a0_0, .int .i64 a0_1, .int .i64 a0_2, (.slice A0_3 l0_3.length c0_3)] 29 (0, 0))) ∧ Aside0 (Below w.heap.size w w'))
  case atStart => exact ⟨(0), sc, H', kk0, ⟨sk BK431⟩, ⟨sbw⟩⟩
  case round =>
   clear H'
   try clear c3
   try clear c3b0
   try clear c3b1
   try clear hcz5_0
   try clear hcz5_1
   try clear hcz5_2
   try clear hcz5_3
   try clear hfz5_0
   try clear hfz5_1
   try clear hfz5_2
   try clear hfz5_3
   obtain ⟨x14_1, rfl, HA, HK1, BK431, HB⟩ := hrel
   cases gk with
   | zero => exact absurd HA.out (by simp [impl_AreOffsets.l0])
   | succ k1 =>
    have H := HA.out
    clear HA
    simp only [impl_AreOffsets.l0] at H
    obtain ⟨c6, H⟩ | ⟨c6, H⟩ := ie_ H
    ·have c6b0 := decide_eq_true c6
     clear c6
     obtain ⟨c7b0, H⟩ := id_ H
     obtain ⟨c8b0, H⟩ := id_ H
     obtain ⟨t433, A9, H⟩ := bnd H
     obtain rfl | rfl := tt t433
     ·replace H := ip H
      obtain ⟨t434, A11, H⟩ := bnd H
      obtain rfl | rfl := tt t434
      ·replace H := ip H
       have H' := Aside0.mk H
       clear H
       obtain ⟨p432, q432, ad432, e432, _, hx432_0⟩ := at_i HR1 HB x14_1
       cases e432
       obtain ⟨hcz13_0, hcz13_1, hcz13_2, hcz13_3, hfz13_0, hfz13_1, hfz13_2, hfz13_3⟩ := cc4 BK431
       go_wp2_with (first | ((with_reducible refine gate_callee (f := 89) rfl ?_); refine gL (some 20) Try.func89 #[.int .i64 a0_2, .int .i64 0, .int .i64 5] ?_; (with_reducible refine (impl_InRange.calls a0_2 0 5 true _ A9.out).mono ?_); rintro e w' ⟨rfl, ⟨nd, rfl⟩⟩; refine ⟨_, rfl, ?_⟩) | (go_at_call 89; (try simp only [i64_w, i32_w]); (with_reducible refine (impl_InRange.calls (rd l1 x14_1) (wrap64 (-a0_2)) a0_2 true _ A11.out).mono ?_); rintro e w' ⟨rfl, ⟨nd, rfl⟩⟩))
       go_roundg k1
       case measure => have := HK1.out; omega
       case rel => exact ⟨(wrap64 (x14_1 + 1)), sc, H', kk1, ⟨sk BK431⟩, ⟨sbw⟩⟩
      ·replace H := im H
       obtain rfl := Option.some.inj H
       obtain ⟨p432, q432, ad432, e432, _, hx432_0⟩ := at_i HR1 HB x14_1
       cases e432
       obtain ⟨hcz14_0, hcz14_1, hcz14_2, hcz14_3, hfz14_0, hfz14_1, hfz14_2, hfz14_3⟩ := cc4 BK431
       go_wp2_with (first | ((with_reducible refine gate_callee (f := 89) rfl ?_); refine gL (some 20) Try.func89 #[.int .i64 a0_2, .int .i64 0, .int .i64 5] ?_; (with_reducible refine (impl_InRange.calls a0_2 0 5 true _ A9.out).mono ?_); rintro e w' ⟨rfl, ⟨nd, rfl⟩⟩; refine ⟨_, rfl, ?_⟩) | (go_at_call 89; (try simp only [i64_w, i32_w]); (with_reducible refine (impl_InRange.calls (rd l1 x14_1) (wrap64 (-a0_2)) a0_2 false _ A11.out).mono ?_); rintro e w' ⟨rfl, ⟨nd, rfl⟩⟩))
       go_ret
       exact ⟨se, sbw⟩
     ·replace H := im H
      obtain rfl := Option.some.inj H
      obtain ⟨p432, q432, ad432, e432, _, hx432_0⟩ := at_i HR1 HB x14_1
      cases e432
      obtain ⟨hcz15_0, hcz15_1, hcz15_2, hcz15_3, hfz15_0, hfz15_1, hfz15_2, hfz15_3⟩ := cc4 BK431
      go_wp2_with (first | ((with_reducible refine gate_callee (f := 89) rfl ?_); refine gL (some 20) Try.func89 #[.int .i64 a0_2, .int .i64 0, .int .i64 5] ?_; (with_reducible refine (impl_InRange.calls a0_2 0 5 false _ A9.out).mono ?_); rintro e w' ⟨rfl, ⟨nd, rfl⟩⟩; refine ⟨_, rfl, ?_⟩))
      go_ret
      exact ⟨se, sbw⟩
    ·have c6b0 := decide_eq_false c6
     clear c6
     obtain rfl := Option.some.inj H
     go_wp2
     go_ret
     exact ⟨se, sbw⟩
 ·have c3b0 : ((l1.length : Int) == a0_0) = false := beq_eq_false_iff_ne.mpr c3
  have c3b1 : ((l1.length : Int) != a0_0) = true := bne_iff_ne.mpr c3
  obtain rfl := Option.some.inj H
  go_enter Try.func136, Try.ntmps136
  go_wp2_with (first | ((with_reducible refine gate_dst (N := 2) rfl ?_); refine bx 2 #[.int .i64 a0_0, .int .i64 a0_1, .int .i64 a0_2, .slice A0_3 l0_3.length c0_3] 29 ?_; intro gb431 hg w16 hbox hb; have BK431 := Aside0.mk hbox; have GW431 := bz w hg; have GE431 := bz w hg; replace HB := bs hb; clear hb hbox hg; obtain ⟨hcz17_0, hcz17_1, hcz17_2, hcz17_3, hfz17_0, hfz17_1, hfz17_2, hfz17_3⟩ := cc4 BK431))
  go_ret
  exact ⟨se, sbw⟩

/-! ### impl_isMoment: function 78 -/
def impl_isMoment.f (k : Nat) (a0_0 : Int) (a0_1 : Int) (a0_2 : Int) (l0_3 : List (S106)) (a1 : Int) (l2 : List Int) : Option (Bool) := (impl_AreOffsets.f k a0_0 a0_1 a0_2 l0_3 l2).bind fun t436 => (if t436 = true then ((impl_InRange.f a1 0 1000).bind fun t437 => (some t437)) else (some false))
theorem impl_isMoment.mono : ∀ a0 a1 a2 a3 a4 a5 k, LeO (impl_isMoment.f k a0 a1 a2 a3 a4 a5) (impl_isMoment.f (k + 1) a0 a1 a2 a3 a4 a5) := by
  intro a0 a1 a2 a3 a4 a5 k
  unfold impl_isMoment.f
  have m0 := @impl_AreOffsets.mono
  exact mo
set_option maxHeartbeats 8000000 in
set_option maxRecDepth 100000 in
theorem impl_isMoment.calls (k : Nat) (a0_0 : Int) (a0_1 : Int) (a0_2 : Int) (A0_3 : Option Addr) (c0_3 : Nat) (l0_3 : List (S106)) (a1 : Int) (A2 : Option Addr) (c2 : Nat) (l2 : List Int) (r : Bool) (w : World) (hr0_3 : Kd.C k106 w A0_3 l0_3.length l0_3) (hc0_3 : l0_3.length ≤ c0_3) (hr2 : Kd.C (Kd.int .i64) w A2 l2.length l2) (hc2 : l2.length ≤ c2) (h : impl_isMoment.f k a0_0 a0_1 a0_2 l0_3 a1 l2 = some r) :
    Calls Try.prog 78 #[.agg #[.int .i64 a0_0, .int .i64 a0_1, .int .i64 a0_2, .slice A0_3 l0_3.length c0_3], .int .i64 a1, .slice A2 l2.length c2] w fun e w' => e = .returned (.bool r) ∧ Below w.heap.size w w' := by
 have hu29 := Try.underlying29
 have HR0_3 := Aside0.mk hr0_3
 have HC0_3 := Aside0.mk hc0_3
 clear hr0_3 hc0_3
 have HR2 := Aside0.mk hr2
 have HC2 := Aside0.mk hc2
 clear hr2 hc2
 have HB := Aside0.mk (Below.refl w.heap.size w)
 have H : ((impl_AreOffsets.f k a0_0 a0_1 a0_2 l0_3 l2).bind fun t436 => (if t436 = true then ((impl_InRange.f a1 0 1000).bind fun t437 => (some t437)) else (some false))) = some r := h
 clear h
 obtain ⟨t436, A4, H⟩ := bnd H
 obtain rfl | rfl := tt t436
 ·replace H := ip H
  obtain ⟨t437, A6, H⟩ := bnd H
  obtain rfl := Option.some.inj H
  go_enter Try.func78, Try.ntmps78
  go_wp2_with (first | ((with_reducible refine gate_dst (N := 3) rfl ?_); refine bx 3 #[.int .i64 a0_0, .int .i64 a0_1, .int .i64 a0_2, .slice A0_3 l0_3.length c0_3] 29 ?_; intro gb435 hg w7 hbox hb; have BK435 := Aside0.mk hbox; have GW435 := bz w hg; have GE435 := bz w hg; replace HB := bs hb; clear hb hbox hg; obtain ⟨hcz8_0, hcz8_1, hcz8_2, hcz8_3, hfz8_0, hfz8_1, hfz8_2, hfz8_3⟩ := cc4 BK435) | ((with_reducible refine gate_callee (f := 136) rfl ?_); refine gL (some 9) Try.func136 #[.agg #[.int .i64 a0_0, .int .i64 a0_1, .int .i64 a0_2, .slice A0_3 l0_3.length c0_3], .slice A2 l2.length c2] ?_; (with_reducible refine (impl_AreOffsets.calls k a0_0 a0_1 a0_2 _ _ l0_3 _ _ l2 true _ ?side1 ?side2 ?side3 ?side4 A4.out).mono ?_); (case side1 => exact cb HR0_3); (case side2 => exact HC0_3.out); (case side3 => exact cb HR2); (case side4 => exact HC2.out); rintro e w9 ⟨rfl, hb⟩; refine ⟨_, rfl, ?_⟩; replace BK435 := bb BK435 hb; replace HB := bsw hb; (try clear hb); (try clear hb2); (try clear hk); (try clear hi)) | (go_at_call 89; (with_reducible refine (impl_InRange.calls a1 0 1000 t437 _ A6.out).mono ?_); rintro e w' ⟨rfl, ⟨nd, rfl⟩⟩))
  go_ret
  exact ⟨se, sbw⟩
 ·replace H := im H
  obtain rfl := Option.some.inj H
  go_enter Try.func78, Try.ntmps78
  go_wp2_with (first | ((with_reducible refine gate_dst (N := 3) rfl ?_); refine bx 3 #[.int .i64 a0_0, .int .i64 a0_1, .int .i64 a0_2, .slice A0_3 l0_3.length c0_3] 29 ?_; intro gb435 hg w10 hbox hb; have BK435 := Aside0.mk hbox; have GW435 := bz w hg; have GE435 := bz w hg; replace HB := bs hb; clear hb hbox hg; obtain ⟨hcz11_0, hcz11_1, hcz11_2, hcz11_3, hfz11_0, hfz11_1, hfz11_2, hfz11_3⟩ := cc4 BK435) | ((with_reducible refine gate_callee (f := 136) rfl ?_); refine gL (some 9) Try.func136 #[.agg #[.int .i64 a0_0, .int .i64 a0_1, .int .i64 a0_2, .slice A0_3 l0_3.length c0_3], .slice A2 l2.length c2] ?_; (with_reducible refine (impl_AreOffsets.calls k a0_0 a0_1 a0_2 _ _ l0_3 _ _ l2 false _ ?side1 ?side2 ?side3 ?side4 A4.out).mono ?_); (case side1 => exact cb HR0_3); (case side2 => exact HC0_3.out); (case side3 => exact cb HR2); (case side4 => exact HC2.out); rintro e w12 ⟨rfl, hb⟩; refine ⟨_, rfl, ?_⟩; replace BK435 := bb BK435 hb; replace HB := bsw hb; (try clear hb); (try clear hb2); (try clear hk); (try clear hi)))
  go_ret
  exact ⟨se, sbw⟩

/-! ### impl_HeldAt: function 29 -/
mutual
def impl_HeldAt.l0 : Nat → Int → List Int → Int → List Int → Int → Int → Int → Int → Int → List (S106) → Option (Int)
  | 0, _, _, _, _, _, _, _, _, _, _ => none
  | k + 1, x1, x2, x7, x17, x18, x19, x439000, x439001, x439002, x439003 => if x19 < x18 then (if 0 ≤ x19 then (if x19 < (x17.length : Int) then (impl_HeldAt.l1 k x1 x2 x7 x19 (rd x17 x19) x17 x18 x19 (x2.length : Int) 0 x439000 x439001 x439002 x439003) else (none)) else (none)) else (some x7)
def impl_HeldAt.l1 : Nat → Int → List Int → Int → Int → Int → List Int → Int → Int → Int → Int → Int → Int → Int → List (S106) → Option (Int)
  | 0, _, _, _, _, _, _, _, _, _, _, _, _, _, _ => none
  | k + 1, x1, x2, x7, x8, x9, x17, x18, x19, x25, x26, x439000, x439001, x439002, x439003 => if x26 < x25 then ((impl_IsHolding.f k x439000 x439001 x439002 x439003 x8 x26 (wrap64 (x1 + x9))).bind fun t441 => (if t441 = true then (impl_HeldAt.l1 k x1 x2 (wrap64 (x7 + 1)) x8 x9 x17 x18 x19 x25 (wrap64 (x26 + 1)) x439000 x439001 x439002 x439003) else (impl_HeldAt.l1 k x1 x2 x7 x8 x9 x17 x18 x19 x25 (wrap64 (x26 + 1)) x439000 x439001 x439002 x439003))) else (impl_HeldAt.l0 k x1 x2 x7 x17 x18 (wrap64 (x19 + 1)) x439000 x439001 x439002 x439003)
end
def impl_HeldAt.f (k : Nat) (a0_0 : Int) (a0_1 : Int) (a0_2 : Int) (l0_3 : List (S106)) (a1 : Int) (l2 : List Int) : Option (Int) := (impl_isMoment.f k a0_0 a0_1 a0_2 l0_3 a1 l2).bind fun t439 => (if t439 = true then (impl_HeldAt.l0 k a1 l2 0 l2 (l2.length : Int) 0 a0_0 a0_1 a0_2 l0_3) else (some 0))
theorem impl_HeldAt.mono_l : ∀ k, (∀ y0 y1 y2 y3 y4 y5 y6 y7 y8 y9, LeO (impl_HeldAt.l0 k y0 y1 y2 y3 y4 y5 y6 y7 y8 y9) (impl_HeldAt.l0 (k + 1) y0 y1 y2 y3 y4 y5 y6 y7 y8 y9)) ∧ (∀ y0 y1 y2 y3 y4 y5 y6 y7 y8 y9 y10 y11 y12 y13, LeO (impl_HeldAt.l1 k y0 y1 y2 y3 y4 y5 y6 y7 y8 y9 y10 y11 y12 y13) (impl_HeldAt.l1 (k + 1) y0 y1 y2 y3 y4 y5 y6 y7 y8 y9 y10 y11 y12 y13))
  | 0 => ⟨fun _ _ _ _ _ _ _ _ _ _ r h => by simp [impl_HeldAt.l0] at h, fun _ _ _ _ _ _ _ _ _ _ _ _ _ _ r h => by simp [impl_HeldAt.l1] at h⟩
  | k + 1 => by
    obtain ⟨ih0, ih1⟩ := impl_HeldAt.mono_l k
    refine ⟨?_, ?_⟩
    · intro y0 y1 y2 y3 y4 y5 y6 y7 y8 y9
      unfold impl_HeldAt.l0
      have m0 := @impl_IsHolding.mono
      have m1 := @impl_isMoment.mono
      exact mo
    · intro y0 y1 y2 y3 y4 y5 y6 y7 y8 y9 y10 y11 y12 y13
      unfold impl_HeldAt.l1
      have m0 := @impl_IsHolding.mono
      have m1 := @impl_isMoment.mono
      exact mo
theorem impl_HeldAt.mono : ∀ a0 a1 a2 a3 a4 a5 k, LeO (impl_HeldAt.f k a0 a1 a2 a3 a4 a5) (impl_HeldAt.f (k + 1) a0 a1 a2 a3 a4 a5) := by
  intro a0 a1 a2 a3 a4 a5 k
  obtain ⟨ih0, ih1⟩ := impl_HeldAt.mono_l k
  unfold impl_HeldAt.f
  have m0 := @impl_IsHolding.mono
  have m1 := @impl_isMoment.mono
  exact mo
set_option maxHeartbeats 8000000 in
set_option maxRecDepth 100000 in
theorem impl_HeldAt.calls (k : Nat) (a0_0 : Int) (a0_1 : Int) (a0_2 : Int) (A0_3 : Option Addr) (c0_3 : Nat) (l0_3 : List (S106)) (a1 : Int) (A2 : Option Addr) (c2 : Nat) (l2 : List Int) (r : Int) (w : World) (hr0_3 : Kd.C k106 w A0_3 l0_3.length l0_3) (hc0_3 : l0_3.length ≤ c0_3) (hr2 : Kd.C (Kd.int .i64) w A2 l2.length l2) (hc2 : l2.length ≤ c2) (h : impl_HeldAt.f k a0_0 a0_1 a0_2 l0_3 a1 l2 = some r) :
    Calls Try.prog 29 #[.agg #[.int .i64 a0_0, .int .i64 a0_1, .int .i64 a0_2, .slice A0_3 l0_3.length c0_3], .int .i64 a1, .slice A2 l2.length c2] w fun e w' => e = .returned (.int .i64 r) ∧ Below w.heap.size w w' := by
 have hu29 := Try.underlying29
 have HR0_3 := Aside0.mk hr0_3
 have HC0_3 := Aside0.mk hc0_3
 clear hr0_3 hc0_3
 have HR2 := Aside0.mk hr2
 have HC2 := Aside0.mk hc2
 clear hr2 hc2
 have HB := Aside0.mk (Below.refl w.heap.size w)
 have H : ((impl_isMoment.f k a0_0 a0_1 a0_2 l0_3 a1 l2).bind fun t439 => (if t439 = true then (impl_HeldAt.l0 k a1 l2 0 l2 (l2.length : Int) 0 a0_0 a0_1 a0_2 l0_3) else (some 0))) = some r := h
 clear h
 obtain ⟨t439, A4, H⟩ := bnd H
 obtain rfl | rfl := tt t439
 ·replace H := ip H
  have H' := Aside0.mk H
  clear H
  go_enter Try.func29, Try.ntmps29
  go_wp2_with (first | ((with_reducible refine gate_dst (N := 3) rfl ?_); refine bx 3 #[.int .i64 a0_0, .int .i64 a0_1, .int .i64 a0_2, .slice A0_3 l0_3.length c0_3] 29 ?_; intro gb438 hg w6 hbox hb; have BK438 := Aside0.mk hbox; have GW438 := bz w hg; have GE438 := bz w hg; replace HB := bs hb; clear hb hbox hg; obtain ⟨hcz7_0, hcz7_1, hcz7_2, hcz7_3, hfz7_0, hfz7_1, hfz7_2, hfz7_3⟩ := cc4 BK438) | ((with_reducible refine gate_callee (f := 78) rfl ?_); refine gL (some 14) Try.func78 #[.agg #[.int .i64 a0_0, .int .i64 a0_1, .int .i64 a0_2, .slice A0_3 l0_3.length c0_3], .int .i64 a1, .slice A2 l2.length c2] ?_; (with_reducible refine (impl_isMoment.calls k a0_0 a0_1 a0_2 _ _ l0_3 a1 _ _ l2 true _ ?side1 ?side2 ?side3 ?side4 A4.out).mono ?_); (case side1 => exact cb HR0_3); (case side2 => exact HC0_3.out); (case side3 => exact cb HR2); (case side4 => exact HC2.out); rintro e w8 ⟨rfl, hb⟩; refine ⟨_, rfl, ?_⟩; replace BK438 := bb BK438 hb; replace HB := bsw hb; (try clear hb); (try clear hb2); (try clear hk); (try clear hi)))
  go_loopg [7, 19] k (fun kq v7 v19 w' => ∃ (x7_1 : Int) (x19_1 : Int), v7 = .int .i64 x7_1 ∧ v19 = .int .i64 x19_1 ∧ Aside0 (impl_HeldAt.l0 kq a1 l2 x7_1 l2 (l2.length : Int) x19_1 a0_0 a0_1 a0_2 l0_3 = some r) ∧ Aside0 (kq ≤ k) ∧ Aside0 (w'.heap[gb438]? = some (.cells #[.int .i64 a0_0, .int .i64 a0_1, .int .i64 a0_2, (.slice A0_3 l0_3.length c0_3)] 29 (0, 0))) ∧ Aside0 (Below w.heap.size w w'))
  case atStart => exact ⟨(0), (0), sc, sc, H', kk0, ⟨sk BK438⟩, ⟨sbw⟩⟩
  case round =>
   clear H'
   obtain ⟨x7_1, x19_1, rfl, rfl, HA, HK1, BK438, HB⟩ := hrel
   cases gk with
   | zero => exact absurd HA.out (by simp [impl_HeldAt.l0])
   | succ k1 =>
    have H := HA.out
    clear HA
    simp only [impl_HeldAt.l0] at H
    obtain ⟨c9, H⟩ | ⟨c9, H⟩ := ie_ H
    ·have c9b0 := decide_eq_true c9
     clear c9
     obtain ⟨c10b0, H⟩ := id_ H
     obtain ⟨c11b0, H⟩ := id_ H
     have H' := Aside0.mk H
     clear H
     obtain ⟨p440, q440, ad440, e440, _, hx440_0⟩ := at_i HR2 HB x19_1
     cases e440
     go_wp2
     go_loopg [7, 26] k1 (fun kq v7 v26 w' => ∃ (x7_2 : Int) (x26_2 : Int), v7 = .int .i64 x7_2 ∧ v26 = .int .i64 x26_2 ∧ Aside0 (impl_HeldAt.l1 kq a1 l2 x7_2 x19_1 (rd l2 x19_1) l2 (l2.length : Int) x19_1 (l2.length : Int) x26_2 a0_0 a0_1 a0_2 l0_3 = some r) ∧ Aside0 (kq ≤ k1) ∧ Aside0 (w'.heap[gb438]? = some (.cells #[.int .i64 a0_0, .int .i64 a0_1, .int .i64 a0_2, (.slice A0_3 l0_3.length c0_3)] 29 (0, 0))) ∧ Aside0 (Below w.heap.size w w'))
     case atStart => exact ⟨(x7_1), (0), sc, sc, H', kk0, ⟨sk BK438⟩, ⟨sbw⟩⟩
     case round =>
      clear H'
      try clear c9
      try clear c9b0
      try clear c10b0
      try clear c11b0
      try clear hx440_0
      try clear p440
      try clear q440
      obtain ⟨x7_2, x26_2, rfl, rfl, HA, HK2, BK438, HB⟩ := hrel
      cases gk with
      | zero => exact absurd HA.out (by simp [impl_HeldAt.l1])
      | succ k2 =>
       have H := HA.out
       clear HA
       simp only [impl_HeldAt.l1] at H
       obtain ⟨c12, H⟩ | ⟨c12, H⟩ := ie_ H
       ·have c12b0 := decide_eq_true c12
        clear c12
        obtain ⟨t441, A13, H⟩ := bnd H
        obtain rfl | rfl := tt t441
        ·replace H := ip H
         have H' := Aside0.mk H
         clear H
         obtain ⟨hcz15_0, hcz15_1, hcz15_2, hcz15_3, hfz15_0, hfz15_1, hfz15_2, hfz15_3⟩ := cc4 BK438
         go_wp2_with (first | ((with_reducible refine gate_callee (f := 26) rfl ?_); refine gL (some 35) Try.func26 #[.agg #[.int .i64 a0_0, .int .i64 a0_1, .int .i64 a0_2, .slice A0_3 l0_3.length c0_3], .int .i64 x19_1, .int .i64 x26_2, .int .i64 (wrap64 (a1 + (rd l2 x19_1)))] ?_; (with_reducible refine (impl_IsHolding.calls k2 a0_0 a0_1 a0_2 _ _ l0_3 x19_1 x26_2 (wrap64 (a1 + (rd l2 x19_1))) true _ ?side1 ?side2 A13.out).mono ?_); (case side1 => exact cb HR0_3); (case side2 => exact HC0_3.out); rintro e w16 ⟨rfl, hb⟩; refine ⟨_, rfl, ?_⟩; replace BK438 := bb BK438 hb; replace HB := bsw hb; (try clear hb); (try clear hb2); (try clear hk); (try clear hi)))
         go_roundg k2
         case measure => have := HK1.out; have := HK2.out; omega
         case rel => exact ⟨(wrap64 (x7_2 + 1)), (wrap64 (x26_2 + 1)), sc, sc, H', kk2, ⟨sk BK438⟩, ⟨sbw⟩⟩
        ·replace H := im H
         have H' := Aside0.mk H
         clear H
         obtain ⟨hcz17_0, hcz17_1, hcz17_2, hcz17_3, hfz17_0, hfz17_1, hfz17_2, hfz17_3⟩ := cc4 BK438
         go_wp2_with (first | ((with_reducible refine gate_callee (f := 26) rfl ?_); refine gL (some 35) Try.func26 #[.agg #[.int .i64 a0_0, .int .i64 a0_1, .int .i64 a0_2, .slice A0_3 l0_3.length c0_3], .int .i64 x19_1, .int .i64 x26_2, .int .i64 (wrap64 (a1 + (rd l2 x19_1)))] ?_; (with_reducible refine (impl_IsHolding.calls k2 a0_0 a0_1 a0_2 _ _ l0_3 x19_1 x26_2 (wrap64 (a1 + (rd l2 x19_1))) false _ ?side1 ?side2 A13.out).mono ?_); (case side1 => exact cb HR0_3); (case side2 => exact HC0_3.out); rintro e w18 ⟨rfl, hb⟩; refine ⟨_, rfl, ?_⟩; replace BK438 := bb BK438 hb; replace HB := bsw hb; (try clear hb); (try clear hb2); (try clear hk); (try clear hi)))
         go_roundg k2
         case measure => have := HK1.out; have := HK2.out; omega
         case rel => exact ⟨(x7_2), (wrap64 (x26_2 + 1)), sc, sc, H', kk2, ⟨sk BK438⟩, ⟨sbw⟩⟩
       ·have c12b0 := decide_eq_false c12
        clear c12
        have H' := Aside0.mk H
        clear H
        go_wp2
        go_roundg k2
        case measure => have := HK1.out; have := HK2.out; omega
        case rel => exact ⟨(x7_2), (wrap64 (x19_1 + 1)), sc, sc, H', kk2, ⟨sk BK438⟩, ⟨sbw⟩⟩
    ·have c9b0 := decide_eq_false c9
     clear c9
     obtain rfl := Option.some.inj H
     go_wp2
     go_ret
     exact ⟨se, sbw⟩
 ·replace H := im H
  obtain rfl := Option.some.inj H
  go_enter Try.func29, Try.ntmps29
  go_wp2_with (first | ((with_reducible refine gate_dst (N := 3) rfl ?_); refine bx 3 #[.int .i64 a0_0, .int .i64 a0_1, .int .i64 a0_2, .slice A0_3 l0_3.length c0_3] 29 ?_; intro gb438 hg w19 hbox hb; have BK438 := Aside0.mk hbox; have GW438 := bz w hg; have GE438 := bz w hg; replace HB := bs hb; clear hb hbox hg; obtain ⟨hcz20_0, hcz20_1, hcz20_2, hcz20_3, hfz20_0, hfz20_1, hfz20_2, hfz20_3⟩ := cc4 BK438) | ((with_reducible refine gate_callee (f := 78) rfl ?_); refine gL (some 14) Try.func78 #[.agg #[.int .i64 a0_0, .int .i64 a0_1, .int .i64 a0_2, .slice A0_3 l0_3.length c0_3], .int .i64 a1, .slice A2 l2.length c2] ?_; (with_reducible refine (impl_isMoment.calls k a0_0 a0_1 a0_2 _ _ l0_3 a1 _ _ l2 false _ ?side1 ?side2 ?side3 ?side4 A4.out).mono ?_); (case side1 => exact cb HR0_3); (case side2 => exact HC0_3.out); (case side3 => exact cb HR2); (case side4 => exact HC2.out); rintro e w21 ⟨rfl, hb⟩; refine ⟨_, rfl, ?_⟩; replace BK438 := bb BK438 hb; replace HB := bsw hb; (try clear hb); (try clear hb2); (try clear hk); (try clear hi)))
  go_ret
  exact ⟨se, sbw⟩

end Go.Proofs.Ytlakjlolahjphaa.QFnExactHeldAt
