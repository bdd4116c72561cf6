/- What the Go functions of the law FnExactIsHolding come to, as Lean functions, and that they do: by a program of the session, out of the kit's printer. Conditions: none. (squeezed). -/
import Derived.Test.YtlakjlolahjphaaSq
import Derived.Test.YtlakjlolahjphaaQFnExactIsHoldingx0
import Derived.Test.YtlakjlolahjphaaQFnExactIsHoldingx1
import Derived.Test.YtlakjlolahjphaaQFnExactIsHoldingx2
import Derived.Test.YtlakjlolahjphaaQFnExactIsHoldingx4
import Derived.Test.YtlakjlolahjphaaQFnExactIsHoldingx10
import Derived.Test.YtlakjlolahjphaaQFnExactIsHoldingx13
namespace Go.Proofs.Ytlakjlolahjphaa.QFnExactIsHolding
open Go.RowKit Go.Proofs.YtlakjlolahjphaaW.PrintWords Go.Proofs.YtlakjlolahjphaaW.PrintLast Go.Proofs.YtlakjlolahjphaaW.PrintMore Go.Proofs.Ytlakjlolahjphaa.Open Go.Proofs.Ytlakjlolahjphaa.Sq
attribute [local go_sem] max2_int min2_int max_two min_two max_three min_three max_four min_four   -- for this text's walks alone
attribute [local go_sem] isSome_set
set_option linter.unusedVariables false
set_option linter.unusedSimpArgs false

/-! ### impl_IsHolding: function 26 -/
def impl_IsHolding.f (k : Nat) (a0_0 : Int) (a0_1 : Int) (a0_2 : Int) (l0_3 : List (S106)) (a1 : Int) (a2 : Int) (a3 : Int) : Option (Bool) := (impl_PieceAt.f a0_0 a0_1 a0_2 l0_3 a3).bind fun t418 => ((impl_nextIn.f a0_0 a0_1 a0_2 l0_3 t418 a2 a1).bind fun bt419 => ((impl_HopAt.f k a0_0 a0_1 a0_2 l0_3 a1 a2 a3).bind fun t421 => (if t421 = (-1) then (some (decide (bt419.1 ≥ 0))) else (some false))))
theorem impl_IsHolding.mono : ∀ a0 a1 a2 a3 a4 a5 a6 k, LeO (impl_IsHolding.f k a0 a1 a2 a3 a4 a5 a6) (impl_IsHolding.f (k + 1) a0 a1 a2 a3 a4 a5 a6) := by
  intro a0 a1 a2 a3 a4 a5 a6 k
  unfold impl_IsHolding.f
  have m0 := @impl_HopAt.mono
  exact mo
def impl_IsHolding.T1 : Bool × List (List Nat × List Nat) := (true, [([], []), ([], []), ([], []), ([1, 2], [1, 2]), ([], []), ([], []), ([0, 3, 4, 5, 3], [0, 3, 4, 5]), ([6], [6]), ([7], [7]), ([7], [7]), ([8, 6, 0, 1, 2, 3, 4, 5, 6, 7, 8], [8]), ([9, 10, 0, 1, 2, 3, 4, 5, 6, 7, 8, 9, 10], [9])])
def impl_IsHolding.B1 : List Nat := [0, 0, 0, 6, 0, 0, 63, 127, 255, 255, 511, 2047]
theorem impl_IsHolding.tab1 : rtab .any (opsOf Try.f26 1) = impl_IsHolding.T1 := by kernel_rfl
theorem impl_IsHolding.bits1 : waitsOk impl_IsHolding.T1.2 impl_IsHolding.B1 = true := by kernel_rfl
set_option maxHeartbeats 8000000 in
set_option maxRecDepth 100000 in
theorem impl_IsHolding.calls (k : Nat) (a0_0 : Int) (a0_1 : Int) (a0_2 : Int) (A0_3 : Option Addr) (c0_3 : Nat) (l0_3 : List (S106)) (a1 : Int) (a2 : Int) (a3 : Int) (r : Bool) (w : World) (hr0_3 : Kd.C k106 w A0_3 l0_3.length l0_3) (hc0_3 : l0_3.length ≤ c0_3) (h : impl_IsHolding.f k a0_0 a0_1 a0_2 l0_3 a1 a2 a3 = some r) :
    Calls Try.prog 26 #[.agg #[.int .i64 a0_0, .int .i64 a0_1, .int .i64 a0_2, .slice A0_3 l0_3.length c0_3], .int .i64 a1, .int .i64 a2, .int .i64 a3] w fun e w' => e = .returned (.bool r) ∧ Below w.heap.size w w' := by
 have hu29 := Try.underlying29
 have HR0_3 := Aside0.mk hr0_3
 have HC0_3 := Aside0.mk hc0_3
 clear hr0_3 hc0_3
 have HB := Aside0.mk (Below.refl w.heap.size w)
 have H : ((impl_PieceAt.f a0_0 a0_1 a0_2 l0_3 a3).bind fun t418 => ((impl_nextIn.f a0_0 a0_1 a0_2 l0_3 t418 a2 a1).bind fun bt419 => ((impl_HopAt.f k a0_0 a0_1 a0_2 l0_3 a1 a2 a3).bind fun t421 => (if t421 = (-1) then (some (decide (bt419.1 ≥ 0))) else (some false))))) = some r := h
 clear h
 obtain ⟨t418, A5, H⟩ := bnd H
 obtain ⟨⟨t419, t420⟩, A6, H⟩ := bnd H
 replace H : ((impl_HopAt.f k a0_0 a0_1 a0_2 l0_3 a1 a2 a3).bind fun t421 => (if t421 = (-1) then (some (decide (t419 ≥ 0))) else (some false))) = some r := H
 obtain ⟨t421, A7, H⟩ := bnd H
 obtain ⟨c8, H⟩ | ⟨c8, H⟩ := ie_ H
 ·have c8b0 : (t421 == (-1)) = true := beq_iff_eq.mpr c8
  have c8b1 : (t421 != (-1)) = false := bne_eq_false_iff_eq.mpr c8
  clear c8
  obtain rfl := Option.some.inj H
  go_enter Try.func26, Try.ntmps26
  try go_wp2_with (first | ((with_reducible refine gate_dst (N := 4) rfl ?_); refine bx 4 #[.int .i64 a0_0, .int .i64 a0_1, .int .i64 a0_2, .slice A0_3 l0_3.length c0_3] 29 ?_; intro gb417 hg w9 hbox hb; have BK417 := Aside0.mk hbox; have GW417 := bz w hg; have GE417 := bz w hg; replace HB := bs hb; clear hb hbox hg))
  replace BK417 := Aside0.mk (blk_drew BK417.out)
  replace HB := Aside0.mk (below_drew1 HB.out)
  refine start_ (n := 12) (S := fun w' => w'.cell? ⟨gb417, 0, none⟩ = some (.int .i64 a0_0) ∧ w'.cell? ⟨gb417, 1, none⟩ = some (.int .i64 a0_1) ∧ w'.cell? ⟨gb417, 2, none⟩ = some (.int .i64 a0_2) ∧ w'.cell? ⟨gb417, 3, none⟩ = some (.slice A0_3 l0_3.length c0_3)) (ds := []) #[false, false, false, false, false, false, false, false, false, false, false, false] (by kernel_rfl) rfl rfl ⟨bc0 BK417, bc1 BK417, bc2 BK417, bc3 BK417⟩ (fun hHeld => ?_); refine with_tabW impl_IsHolding.tab1 impl_IsHolding.bits1 (fun HT_ HW_ => ?_)
  generalize w9.drew = w10 at BK417 HB hHeld ⊢
  refine put 2 14 #[false, false, true, false, false, false, false, false, false, false, false, false] HT_ ?_
  refine put 4 16 #[false, false, true, false, true, false, false, false, false, false, false, false] HT_ ?_
  refine put 5 17 #[false, false, true, false, true, true, false, false, false, false, false, false] HT_ ?_
  refine tat4 0 12 #[true, false, true, false, true, true, false, false, false, false, false, false] HT_ HW_ hHeld ?_
  refine tat4 1 13 #[true, true, true, false, true, true, false, false, false, false, false, false] HT_ HW_ hHeld ?_
  refine one_ (i := 3) (N := some 15) #[true, true, true, true, true, true, false, false, false, false, false, false] rfl rfl (one_of HT_.out (by kernel_rfl)) (by decide) (fun K hK => ?_)
  refine goes_ Try.func52 (by kernel_rfl) rfl #[.agg #[.int .i64 a0_0, .int .i64 a0_1, .int .i64 a0_2, .slice A0_3 l0_3.length c0_3], .int .i64 a3] (by rfl) rfl rfl sl ?_
  with_reducible refine (impl_PieceAt.calls a0_0 a0_1 a0_2 _ _ l0_3 a3 t418 _ ?side1 ?side2 A5.out).mono ?_
  (case side1 => exact cb HR0_3)
  (case side2 => exact HC0_3.out)
  rintro e w11 ⟨rfl, hb⟩
  refine ⟨_, rfl, ?_⟩
  replace BK417 := bb BK417 hb
  replace HB := bsw hb
  (try clear hb)
  (try clear hb2)
  (try clear hk)
  (try clear hi)
  refine hK.out _ _ ⟨bc0 BK417, bc1 BK417, bc2 BK417, bc3 BK417⟩ (fun hHeld => ?_)
  clear hK K
  refine norm_ (a' := ?_) ?_ ?_
  rotate_left
  ·show Act.put _ (some 15) _ = _
   simp only [Act.put, List.setIfInBounds_toArray, List.set_cons_zero, List.set_cons_succ, i64_w, i32_w]
   rfl
  refine one_ (i := 6) (N := some 18) #[true, true, true, true, true, true, true, false, false, false, false, false] rfl rfl (one_of HT_.out (by kernel_rfl)) (by decide) (fun K hK => ?_)
  refine goes_ Try.func67 (by kernel_rfl) rfl #[.agg #[.int .i64 a0_0, .int .i64 a0_1, .int .i64 a0_2, .slice A0_3 l0_3.length c0_3], .int .i64 t418, .int .i64 a2, .int .i64 a1] (by rfl) rfl rfl sl ?_
  with_reducible refine (impl_nextIn.calls a0_0 a0_1 a0_2 _ _ l0_3 t418 a2 a1 t419 t420 _ ?side1 ?side2 A6.out).mono ?_
  (case side1 => exact cb HR0_3)
  (case side2 => exact HC0_3.out)
  rintro e w12 ⟨rfl, hb⟩
  refine ⟨_, rfl, ?_⟩
  replace BK417 := bb BK417 hb
  replace HB := bsw hb
  (try clear hb)
  (try clear hb2)
  (try clear hk)
  (try clear hi)
  refine hK.out _ _ ⟨bc0 BK417, bc1 BK417, bc2 BK417, bc3 BK417⟩ (fun hHeld => ?_)
  clear hK K
  refine norm_ (a' := ?_) ?_ ?_
  rotate_left
  ·show Act.put _ (some 18) _ = _
   simp only [Act.put, List.setIfInBounds_toArray, List.set_cons_zero, List.set_cons_succ, i64_w, i32_w]
   rfl
  refine put 7 11 #[true, true, true, true, true, true, true, true, false, false, false, false] HT_ ?_
  refine put 8 19 #[true, true, true, true, true, true, true, true, true, false, false, false] HT_ ?_
  refine put 9 20 #[true, true, true, true, true, true, true, true, true, true, false, false] HT_ ?_
  refine put 10 9 #[true, true, true, true, true, true, true, true, true, true, true, false] HT_ ?_
  refine put 11 10 #[true, true, true, true, true, true, true, true, true, true, true, true] HT_ ?_
  refine done_ (done_of HT_.out (by kernel_rfl)) ?_
  obtain ⟨hcz13_0, hcz13_1, hcz13_2, hcz13_3, hfz13_0, hfz13_1, hfz13_2, hfz13_3⟩ := cc4 BK417
  try go_wp2_with (first | ((with_reducible refine gate_callee (f := 17) rfl ?_); refine gL (some 25) Try.func17 #[.agg #[.int .i64 a0_0, .int .i64 a0_1, .int .i64 a0_2, .slice A0_3 l0_3.length c0_3], .int .i64 a1, .int .i64 a2, .int .i64 a3] ?_; (with_reducible refine (impl_HopAt.calls k a0_0 a0_1 a0_2 _ _ l0_3 a1 a2 a3 t421 _ ?side1 ?side2 A7.out).mono ?_); (case side1 => exact cb HR0_3); (case side2 => exact HC0_3.out); rintro e w14 ⟨rfl, hb⟩; refine ⟨_, rfl, ?_⟩; replace BK417 := bb BK417 hb; replace HB := bsw hb; (try clear hb); (try clear hb2); (try clear hk); (try clear hi)))
  go_ret
  exact ⟨se, sbw⟩
 ·have c8b0 : (t421 == (-1)) = false := beq_eq_false_iff_ne.mpr c8
  have c8b1 : (t421 != (-1)) = true := bne_iff_ne.mpr c8
  obtain rfl := Option.some.inj H
  go_enter Try.func26, Try.ntmps26
  try go_wp2_with (first | ((with_reducible refine gate_dst (N := 4) rfl ?_); refine bx 4 #[.int .i64 a0_0, .int .i64 a0_1, .int .i64 a0_2, .slice A0_3 l0_3.length c0_3] 29 ?_; intro gb417 hg w15 hbox hb; have BK417 := Aside0.mk hbox; have GW417 := bz w hg; have GE417 := bz w hg; replace HB := bs hb; clear hb hbox hg))
  replace BK417 := Aside0.mk (blk_drew BK417.out)
  replace HB := Aside0.mk (below_drew1 HB.out)
  refine start_ (n := 12) (S := fun w' => w'.cell? ⟨gb417, 0, none⟩ = some (.int .i64 a0_0) ∧ w'.cell? ⟨gb417, 1, none⟩ = some (.int .i64 a0_1) ∧ w'.cell? ⟨gb417, 2, none⟩ = some (.int .i64 a0_2) ∧ w'.cell? ⟨gb417, 3, none⟩ = some (.slice A0_3 l0_3.length c0_3)) (ds := []) #[false, false, false, false, false, false, false, false, false, false, false, false] (by kernel_rfl) rfl rfl ⟨bc0 BK417, bc1 BK417, bc2 BK417, bc3 BK417⟩ (fun hHeld => ?_); refine with_tabW impl_IsHolding.tab1 impl_IsHolding.bits1 (fun HT_ HW_ => ?_)
  generalize w15.drew = w16 at BK417 HB hHeld ⊢
  refine put 2 14 #[false, false, true, false, false, false, false, false, false, false, false, false] HT_ ?_
  refine put 4 16 #[false, false, true, false, true, false, false, false, false, false, false, false] HT_ ?_
  refine put 5 17 #[false, false, true, false, true, true, false, false, false, false, false, false] HT_ ?_
  refine tat4 0 12 #[true, false, true, false, true, true, false, false, false, false, false, false] HT_ HW_ hHeld ?_
  refine tat4 1 13 #[true, true, true, false, true, true, false, false, false, false, false, false] HT_ HW_ hHeld ?_
  refine one_ (i := 3) (N := some 15) #[true, true, true, true, true, true, false, false, false, false, false, false] rfl rfl (one_of HT_.out (by kernel_rfl)) (by decide) (fun K hK => ?_)
  refine goes_ Try.func52 (by kernel_rfl) rfl #[.agg #[.int .i64 a0_0, .int .i64 a0_1, .int .i64 a0_2, .slice A0_3 l0_3.length c0_3], .int .i64 a3] (by rfl) rfl rfl sl ?_
  with_reducible refine (impl_PieceAt.calls a0_0 a0_1 a0_2 _ _ l0_3 a3 t418 _ ?side1 ?side2 A5.out).mono ?_
  (case side1 => exact cb HR0_3)
  (case side2 => exact HC0_3.out)
  rintro e w17 ⟨rfl, hb⟩
  refine ⟨_, rfl, ?_⟩
  replace BK417 := bb BK417 hb
  replace HB := bsw hb
  (try clear hb)
  (try clear hb2)
  (try clear hk)
  (try clear hi)
  refine hK.out _ _ ⟨bc0 BK417, bc1 BK417, bc2 BK417, bc3 BK417⟩ (fun hHeld => ?_)
  clear hK K
  refine norm_ (a' := ?_) ?_ ?_
  rotate_left
  ·show Act.put _ (some 15) _ = _
   simp only [Act.put, List.setIfInBounds_toArray, List.set_cons_zero, List.set_cons_succ, i64_w, i32_w]
   rfl
  refine one_ (i := 6) (N := some 18) #[true, true, true, true, true, true, true, false, false, false, false, false] rfl rfl (one_of HT_.out (by kernel_rfl)) (by decide) (fun K hK => ?_)
  refine goes_ Try.func67 (by kernel_rfl) rfl #[.agg #[.int .i64 a0_0, .int .i64 a0_1, .int .i64 a0_2, .slice A0_3 l0_3.length c0_3], .int .i64 t418, .int .i64 a2, .int .i64 a1] (by rfl) rfl rfl sl ?_
  with_reducible refine (impl_nextIn.calls a0_0 a0_1 a0_2 _ _ l0_3 t418 a2 a1 t419 t420 _ ?side1 ?side2 A6.out).mono ?_
  (case side1 => exact cb HR0_3)
  (case side2 => exact HC0_3.out)
  rintro e w18 ⟨rfl, hb⟩
  refine ⟨_, rfl, ?_⟩
  replace BK417 := bb BK417 hb
  replace HB := bsw hb
  (try clear hb)
  (try clear hb2)
  (try clear hk)
  (try clear hi)
  refine hK.out _ _ ⟨bc0 BK417, bc1 BK417, bc2 BK417, bc3 BK417⟩ (fun hHeld => ?_)
  clear hK K
  refine norm_ (a' := ?_) ?_ ?_
  rotate_left
  ·show Act.put _ (some 18) _ = _
   simp only [Act.put, List.setIfInBounds_toArray, List.set_cons_zero, List.set_cons_succ, i64_w, i32_w]
   rfl
  refine put 7 11 #[true, true, true, true, true, true, true, true, false, false, false, false] HT_ ?_
  refine put 8 19 #[true, true, true, true, true, true, true, true, true, false, false, false] HT_ ?_
  refine put 9 20 #[true, true, true, true, true, true, true, true, true, true, false, false] HT_ ?_
  refine put 10 9 #[true, true, true, true, true, true, true, true, true, true, true, false] HT_ ?_
  refine put 11 10 #[true, true, true, true, true, true, true, true, true, true, true, true] HT_ ?_
  refine done_ (done_of HT_.out (by kernel_rfl)) ?_
  obtain ⟨hcz19_0, hcz19_1, hcz19_2, hcz19_3, hfz19_0, hfz19_1, hfz19_2, hfz19_3⟩ := cc4 BK417
  try go_wp2_with (first | ((with_reducible refine gate_callee (f := 17) rfl ?_); refine gL (some 25) Try.func17 #[.agg #[.int .i64 a0_0, .int .i64 a0_1, .int .i64 a0_2, .slice A0_3 l0_3.length c0_3], .int .i64 a1, .int .i64 a2, .int .i64 a3] ?_; (with_reducible refine (impl_HopAt.calls k a0_0 a0_1 a0_2 _ _ l0_3 a1 a2 a3 t421 _ ?side1 ?side2 A7.out).mono ?_); (case side1 => exact cb HR0_3); (case side2 => exact HC0_3.out); rintro e w20 ⟨rfl, hb⟩; refine ⟨_, rfl, ?_⟩; replace BK417 := bb BK417 hb; replace HB := bsw hb; (try clear hb); (try clear hb2); (try clear hk); (try clear hi)))
  go_ret
  exact ⟨se, sbw⟩

/-! ### laws_FnExactIsHolding: function 5 -/
def laws_FnExactIsHolding.f (k : Nat) (a0_0 : Int) (a0_1 : Int) (a0_2 : Int) (l0_3 : List (S139)) (a1 : Int) (a2 : Int) (a3 : Int) : Option (Bool) := (laws_szProgram.f k a0_0 a0_1 a0_2 l0_3 1048576).bind fun t423 => (if t423 < 0 then (some true) else ((laws_toProgram.f k a0_0 a0_1 a0_2 l0_3).bind fun bt424 => ((spec_IsHolding.f k bt424.1 bt424.2.1 bt424.2.2.1 bt424.2.2.2 a1 a2 a3).bind fun t430 => ((laws_toProgram.f k a0_0 a0_1 a0_2 l0_3).bind fun bt431 => ((impl_IsHolding.f k bt431.1 bt431.2.1 bt431.2.2.1 bt431.2.2.2 a1 a2 a3).bind fun t438 => (if (t438 != t430) = true then (some false) else ((laws_toProgram.f k a0_0 a0_1 a0_2 l0_3).bind fun bt439 => ((laws_eqProgram.f k bt431.1 bt431.2.1 bt431.2.2.1 bt431.2.2.2 bt439.1 bt439.2.1 bt439.2.2.1 bt439.2.2.2).bind fun t445 => (if t445 = true then (some true) else (some false))))))))))
theorem laws_FnExactIsHolding.mono : ∀ a0 a1 a2 a3 a4 a5 a6 k, LeO (laws_FnExactIsHolding.f k a0 a1 a2 a3 a4 a5 a6) (laws_FnExactIsHolding.f (k + 1) a0 a1 a2 a3 a4 a5 a6) := by
  intro a0 a1 a2 a3 a4 a5 a6 k
  unfold laws_FnExactIsHolding.f
  have m0 := @impl_IsHolding.mono
  have m1 := @laws_eqProgram.mono
  have m2 := @laws_szProgram.mono
  have m3 := @laws_toProgram.mono
  have m4 := @spec_IsHolding.mono
  exact mo
set_option maxHeartbeats 8000000 in
set_option maxRecDepth 100000 in
theorem laws_FnExactIsHolding.calls (k : Nat) (a0_0 : Int) (a0_1 : Int) (a0_2 : Int) (A0_3 : Option Addr) (c0_3 : Nat) (l0_3 : List (S139)) (a1 : Int) (a2 : Int) (a3 : Int) (r : Bool) (w : World) (hr0_3 : Kd.C k139 w A0_3 l0_3.length l0_3) (hc0_3 : l0_3.length ≤ c0_3) (h : laws_FnExactIsHolding.f k a0_0 a0_1 a0_2 l0_3 a1 a2 a3 = some r) :
    Calls Try.prog 5 #[.agg #[.int .i64 a0_0, .int .i64 a0_1, .int .i64 a0_2, .slice A0_3 l0_3.length c0_3], .int .i64 a1, .int .i64 a2, .int .i64 a3] w fun e w' => e = .returned (.bool r) ∧ Below w.heap.size w w' := by
 have hu24 := Try.underlying24
 have hu29 := Try.underlying29
 have HR0_3 := Aside0.mk hr0_3
 have HC0_3 := Aside0.mk hc0_3
 clear hr0_3 hc0_3
 have HB := Aside0.mk (Below.refl w.heap.size w)
 have H : ((laws_szProgram.f k a0_0 a0_1 a0_2 l0_3 1048576).bind fun t423 => (if t423 < 0 then (some true) else ((laws_toProgram.f k a0_0 a0_1 a0_2 l0_3).bind fun bt424 => ((spec_IsHolding.f k bt424.1 bt424.2.1 bt424.2.2.1 bt424.2.2.2 a1 a2 a3).bind fun t430 => ((laws_toProgram.f k a0_0 a0_1 a0_2 l0_3).bind fun bt431 => ((impl_IsHolding.f k bt431.1 bt431.2.1 bt431.2.2.1 bt431.2.2.2 a1 a2 a3).bind fun t438 => (if (t438 != t430) = true then (some false) else ((laws_toProgram.f k a0_0 a0_1 a0_2 l0_3).bind fun bt439 => ((laws_eqProgram.f k bt431.1 bt431.2.1 bt431.2.2.1 bt431.2.2.2 bt439.1 bt439.2.1 bt439.2.2.1 bt439.2.2.2).bind fun t445 => (if t445 = true then (some true) else (some false))))))))))) = some r := h
 clear h
 obtain ⟨t423, A5, H⟩ := bnd H
 obtain ⟨c6, H⟩ | ⟨c6, H⟩ := ie_ H
 ·have c6b0 := decide_eq_true c6
  clear c6
  obtain rfl := Option.some.inj H
  go_enter Try.func5, Try.ntmps5
  go_wp2_with (first | ((with_reducible refine gate_dst (N := 4) rfl ?_); refine bx 4 #[.int .i64 a0_0, .int .i64 a0_1, .int .i64 a0_2, .slice A0_3 l0_3.length c0_3] 24 ?_; intro gb422 hg w7 hbox hb; have BK422 := Aside0.mk hbox; have GW422 := bz w hg; have GE422 := bz w hg; replace HB := bs hb; clear hb hbox hg; obtain ⟨hcz8_0, hcz8_1, hcz8_2, hcz8_3, hfz8_0, hfz8_1, hfz8_2, hfz8_3⟩ := cc4 BK422) | ((with_reducible refine gate_callee (f := 14) rfl ?_); refine gL (some 15) Try.func14 #[.agg #[.int .i64 a0_0, .int .i64 a0_1, .int .i64 a0_2, .slice A0_3 l0_3.length c0_3], .int .i64 1048576] ?_; (with_reducible refine (laws_szProgram.calls k a0_0 a0_1 a0_2 _ _ l0_3 1048576 t423 _ ?side1 ?side2 A5.out).mono ?_); (case side1 => exact cb HR0_3); (case side2 => exact HC0_3.out); rintro e w9 ⟨rfl, hb⟩; refine ⟨_, rfl, ?_⟩; replace BK422 := bb BK422 hb; replace HB := bsw hb; (try clear hb); (try clear hb2); (try clear hk); (try clear hi)))
  go_ret
  exact ⟨se, sbw⟩
 ·have c6b0 := decide_eq_false c6
  clear c6
  obtain ⟨⟨t424, t425, t426, t427⟩, A10, H⟩ := bnd H
  replace H : ((spec_IsHolding.f k t424 t425 t426 t427 a1 a2 a3).bind fun t430 => ((laws_toProgram.f k a0_0 a0_1 a0_2 l0_3).bind fun bt431 => ((impl_IsHolding.f k bt431.1 bt431.2.1 bt431.2.2.1 bt431.2.2.2 a1 a2 a3).bind fun t438 => (if (t438 != t430) = true then (some false) else ((laws_toProgram.f k a0_0 a0_1 a0_2 l0_3).bind fun bt439 => ((laws_eqProgram.f k bt431.1 bt431.2.1 bt431.2.2.1 bt431.2.2.2 bt439.1 bt439.2.1 bt439.2.2.1 bt439.2.2.2).bind fun t445 => (if t445 = true then (some true) else (some false)))))))) = some r := H
  obtain ⟨t430, A11, H⟩ := bnd H
  obtain ⟨⟨t431, t432, t433, t434⟩, A12, H⟩ := bnd H
  replace H : ((impl_IsHolding.f k t431 t432 t433 t434 a1 a2 a3).bind fun t438 => (if (t438 != t430) = true then (some false) else ((laws_toProgram.f k a0_0 a0_1 a0_2 l0_3).bind fun bt439 => ((laws_eqProgram.f k t431 t432 t433 t434 bt439.1 bt439.2.1 bt439.2.2.1 bt439.2.2.2).bind fun t445 => (if t445 = true then (some true) else (some false)))))) = some r := H
  obtain ⟨t438, A13, H⟩ := bnd H
  obtain ⟨c14, H⟩ | ⟨c14, H⟩ := ie_ H
  ·have c14b0 : (t438 != t430) = true := c14
   (try (have c14b1 : decide (t438 = t430) = false := by simpa using c14))
   (try (have c14b2 : (t438 == t430) = false := by simpa using c14))
   (try (have c14b3 : ¬ (t438 = t430) := by simpa using c14))
   clear c14
   obtain rfl := Option.some.inj H
   go_enter Try.func5, Try.ntmps5
   go_wp2_with (first | ((with_reducible refine gate_dst (N := 4) rfl ?_); refine bx 4 #[.int .i64 a0_0, .int .i64 a0_1, .int .i64 a0_2, .slice A0_3 l0_3.length c0_3] 24 ?_; intro gb422 hg w15 hbox hb; have BK422 := Aside0.mk hbox; have GW422 := bz w hg; have GE422 := bz w hg; replace HB := bs hb; clear hb hbox hg; obtain ⟨hcz16_0, hcz16_1, hcz16_2, hcz16_3, hfz16_0, hfz16_1, hfz16_2, hfz16_3⟩ := cc4 BK422) | ((with_reducible refine gate_callee (f := 14) rfl ?_); refine gL (some 15) Try.func14 #[.agg #[.int .i64 a0_0, .int .i64 a0_1, .int .i64 a0_2, .slice A0_3 l0_3.length c0_3], .int .i64 1048576] ?_; (with_reducible refine (laws_szProgram.calls k a0_0 a0_1 a0_2 _ _ l0_3 1048576 t423 _ ?side1 ?side2 A5.out).mono ?_); (case side1 => exact cb HR0_3); (case side2 => exact HC0_3.out); rintro e w17 ⟨rfl, hb⟩; refine ⟨_, rfl, ?_⟩; replace BK422 := bb BK422 hb; replace HB := bsw hb; (try clear hb); (try clear hb2); (try clear hk); (try clear hi); obtain ⟨hcz18_0, hcz18_1, hcz18_2, hcz18_3, hfz18_0, hfz18_1, hfz18_2, hfz18_3⟩ := cc4 BK422) | ((with_reducible refine gate_callee (f := 16) rfl ?_); refine gL (some 19) Try.func16 #[.agg #[.int .i64 a0_0, .int .i64 a0_1, .int .i64 a0_2, .slice A0_3 l0_3.length c0_3]] ?_; (with_reducible refine (laws_toProgram.calls k a0_0 a0_1 a0_2 _ _ l0_3 t424 t425 t426 t427 _ ?side1 ?side2 A10.out).mono ?_); (case side1 => exact cb HR0_3); (case side2 => exact HC0_3.out); rintro e w19 ⟨v428, rfl, ho0, hb⟩; refine ⟨_, rfl, ?_⟩; have HO429 := Aside0.mk (Kd.R_lower ho0 (below_size (sbw))); replace BK422 := bb BK422 hb; replace HB := bsw hb; (try clear hb); (try clear hb2); (try clear hk); (try clear hi); (try clear ho0); obtain ⟨Ao20, co20, eo20⟩ := Kd.R_slice HO429.out; subst eo20) | ((with_reducible refine gate_callee (f := 25) rfl ?_); refine gL (some 23) Try.func25 #[.agg #[.int .i64 t424, .int .i64 t425, .int .i64 t426, .slice Ao20 t427.length co20], .int .i64 a1, .int .i64 a2, .int .i64 a3] ?_; (with_reducible refine (spec_IsHolding.calls k t424 t425 t426 _ _ t427 a1 a2 a3 t430 _ ?side1 ?side2 A11.out).mono ?_); (case side1 => repeat (first | exact (Kd.R_reads' HO429.out).2.2 | (with_reducible refine Kd.C_alloc ?_ _) | (with_reducible refine Kd.C_drewN ?_ _) | (with_reducible refine Kd.C_drew ?_))); (case side2 => exact (Kd.R_reads' HO429.out).2.1); rintro e w21 ⟨rfl, hb⟩; refine ⟨_, rfl, ?_⟩; replace HO429 := Aside0.mk (Kd.R_below (sr HO429) hb); replace BK422 := bb BK422 hb; replace HB := bsw hb; (try clear hb); (try clear hb2); (try clear hk); (try clear hi); obtain ⟨hcz22_0, hcz22_1, hcz22_2, hcz22_3, hfz22_0, hfz22_1, hfz22_2, hfz22_3⟩ := cc4 BK422) | ((with_reducible refine gate_callee (f := 16) rfl ?_); refine gL (some 25) Try.func16 #[.agg #[.int .i64 a0_0, .int .i64 a0_1, .int .i64 a0_2, .slice A0_3 l0_3.length c0_3]] ?_; (with_reducible refine (laws_toProgram.calls k a0_0 a0_1 a0_2 _ _ l0_3 t431 t432 t433 t434 _ ?side1 ?side2 A12.out).mono ?_); (case side1 => exact cb HR0_3); (case side2 => exact HC0_3.out); rintro e w23 ⟨v435, rfl, ho0, hb⟩; refine ⟨_, rfl, ?_⟩; have HO436 := Aside0.mk (Kd.R_lower (Kd.R_new' ho0 (Kd.R_lt (sr HO429))) (below_size (sbw))); replace HO429 := Aside0.mk (Kd.R_elder' (sr HO429) (Kd.R_base ho0) hb); replace BK422 := bb BK422 hb; replace HB := bsw hb; (try clear hb); (try clear hb2); (try clear hk); (try clear hi); (try clear ho0)) | ((with_reducible refine gate_dst (N := 11) rfl ?_); refine bx 11 #[.int .i64 0, .int .i64 0, .int .i64 0, .slice none 0 0] 29 ?_; intro gb437 hg w24 hbox hb; replace HO429 := Aside0.mk (Kd.R_below (sr HO429) hb); replace HO436 := Aside0.mk (Kd.R_below (sr HO436) hb); have BK437 := Aside0.mk hbox; have GW437 := bzw w hg; have GE437 := bzw w hg; replace HB := bsw hb; have NB422_437 := nl BK422 hg; have NB437_422 := ng BK422 hg; replace BK422 := bb BK422 hb; clear hb hbox hg; have hnb25 := NB437_422.out; have hnc25 := NB422_437.out; obtain ⟨hcz26_0, hcz26_1, hcz26_2, hcz26_3, hfz26_0, hfz26_1, hfz26_2, hfz26_3⟩ := cc4 BK437; obtain ⟨Ao27, co27, eo27⟩ := Kd.R_slice HO436.out; subst eo27) | ((with_reducible refine gate_callee (f := 26) rfl ?_); refine gL (some 30) Try.func26 #[.agg #[.int .i64 t431, .int .i64 t432, .int .i64 t433, .slice Ao27 t434.length co27], .int .i64 a1, .int .i64 a2, .int .i64 a3] ?_; (with_reducible refine (impl_IsHolding.calls k t431 t432 t433 _ _ t434 a1 a2 a3 t438 _ ?side1 ?side2 A13.out).mono ?_); (case side1 => refine (Kd.R_reads' (e := 106) (base := w.heap.size) (ok := fun k_ => (True ∧ some k_ ≠ (.slice Ao20 t427.length co20 : Value).ownBlock)) (n := t434.length) (c := co27) ?_).2.2; exact (by (with_reducible repeat (first | apply Kd.R_alloc | apply Kd.R_drewN | apply Kd.R_drew)); exact (Kd.R_mono (Kd.R_far (p := ⟨gb437, 3, none⟩) (Kd.R_far (p := ⟨gb437, 2, none⟩) (Kd.R_far (p := ⟨gb437, 1, none⟩) (Kd.R_far (p := ⟨gb437, 0, none⟩) (Kd.R_types HO436.out BK437.out (by decide)) (fun _ hk => hk.2) (.int .i64 t431)) (fun _ hk => hk.2) (.int .i64 t432)) (fun _ hk => hk.2) (.int .i64 t433)) (fun _ hk => hk.2) (.slice Ao27 t434.length co27)) (fun _ h_ => h_.1)))); (case side2 => exact (Kd.R_reads' HO436.out).2.1); rintro e w28 ⟨rfl, hb⟩; refine ⟨_, rfl, ?_⟩; replace HO429 := Aside0.mk (Kd.R_below (by (with_reducible repeat (first | apply Kd.R_alloc | apply Kd.R_drewN | apply Kd.R_drew)); exact (Kd.R_mono (Kd.R_far (p := ⟨gb437, 3, none⟩) (Kd.R_far (p := ⟨gb437, 2, none⟩) (Kd.R_far (p := ⟨gb437, 1, none⟩) (Kd.R_far (p := ⟨gb437, 0, none⟩) (Kd.R_types HO429.out BK437.out (by decide)) (fun _ hk => hk.2) (.int .i64 t431)) (fun _ hk => hk.2) (.int .i64 t432)) (fun _ hk => hk.2) (.int .i64 t433)) (fun _ hk => hk.2) (.slice Ao27 t434.length co27)) (fun _ h_ => h_.1))) hb); replace HO436 := Aside0.mk (Kd.R_below (by (with_reducible repeat (first | apply Kd.R_alloc | apply Kd.R_drewN | apply Kd.R_drew)); exact (Kd.R_mono (Kd.R_far (p := ⟨gb437, 3, none⟩) (Kd.R_far (p := ⟨gb437, 2, none⟩) (Kd.R_far (p := ⟨gb437, 1, none⟩) (Kd.R_far (p := ⟨gb437, 0, none⟩) (Kd.R_types HO436.out BK437.out (by decide)) (fun _ hk => hk.2) (.int .i64 t431)) (fun _ hk => hk.2) (.int .i64 t432)) (fun _ hk => hk.2) (.int .i64 t433)) (fun _ hk => hk.2) (.slice Ao27 t434.length co27)) (fun _ h_ => h_.1))) hb); replace BK422 := Aside0.mk (blk_below (g := gb422) (o := .cells #[.int .i64 a0_0, .int .i64 a0_1, .int .i64 a0_2, .slice A0_3 l0_3.length c0_3] 24 (0, 0)) (sp BK422) hb); replace BK437 := Aside0.mk (blk_below (g := gb437) (o := .cells #[.int .i64 t431, .int .i64 t432, .int .i64 t433, .slice Ao27 t434.length co27] 29 (0, 0)) (sp BK437) hb); replace HB := bsw hb; (try clear hb); (try clear hb2); (try clear hk); (try clear hi)))
   go_ret
   exact ⟨se, sbw⟩
  ·have c14b0 : (t438 != t430) = false := by simpa using c14
   (try (have c14b1 : decide (t438 = t430) = true := by simpa using c14))
   (try (have c14b2 : (t438 == t430) = true := by simpa using c14))
   clear c14
   obtain ⟨⟨t439, t440, t441, t442⟩, A29, H⟩ := bnd H
   replace H : ((laws_eqProgram.f k t431 t432 t433 t434 t439 t440 t441 t442).bind fun t445 => (if t445 = true then (some true) else (some false))) = some r := H
   obtain ⟨t445, A30, H⟩ := bnd H
   obtain rfl | rfl := tt t445
   ·replace H := ip H
    obtain rfl := Option.some.inj H
    go_enter Try.func5, Try.ntmps5
    try go_wp2_with (first | ((with_reducible refine gate_dst (N := 4) rfl ?_); refine bx 4 #[.int .i64 a0_0, .int .i64 a0_1, .int .i64 a0_2, .slice A0_3 l0_3.length c0_3] 24 ?_; intro gb422 hg w32 hbox hb; have BK422 := Aside0.mk hbox; have GW422 := bz w hg; have GE422 := bz w hg; replace HB := bs hb; clear hb hbox hg; obtain ⟨hcz33_0, hcz33_1, hcz33_2, hcz33_3, hfz33_0, hfz33_1, hfz33_2, hfz33_3⟩ := cc4 BK422) | ((with_reducible refine gate_callee (f := 14) rfl ?_); refine gL (some 15) Try.func14 #[.agg #[.int .i64 a0_0, .int .i64 a0_1, .int .i64 a0_2, .slice A0_3 l0_3.length c0_3], .int .i64 1048576] ?_; (with_reducible refine (laws_szProgram.calls k a0_0 a0_1 a0_2 _ _ l0_3 1048576 t423 _ ?side1 ?side2 A5.out).mono ?_); (case side1 => exact cb HR0_3); (case side2 => exact HC0_3.out); rintro e w34 ⟨rfl, hb⟩; refine ⟨_, rfl, ?_⟩; replace BK422 := bb BK422 hb; replace HB := bsw hb; (try clear hb); (try clear hb2); (try clear hk); (try clear hi); obtain ⟨hcz35_0, hcz35_1, hcz35_2, hcz35_3, hfz35_0, hfz35_1, hfz35_2, hfz35_3⟩ := cc4 BK422) | ((with_reducible refine gate_callee (f := 16) rfl ?_); refine gL (some 19) Try.func16 #[.agg #[.int .i64 a0_0, .int .i64 a0_1, .int .i64 a0_2, .slice A0_3 l0_3.length c0_3]] ?_; (with_reducible refine (laws_toProgram.calls k a0_0 a0_1 a0_2 _ _ l0_3 t424 t425 t426 t427 _ ?side1 ?side2 A10.out).mono ?_); (case side1 => exact cb HR0_3); (case side2 => exact HC0_3.out); rintro e w36 ⟨v428, rfl, ho0, hb⟩; refine ⟨_, rfl, ?_⟩; have HO429 := Aside0.mk (Kd.R_lower ho0 (below_size (sbw))); replace BK422 := bb BK422 hb; replace HB := bsw hb; (try clear hb); (try clear hb2); (try clear hk); (try clear hi); (try clear ho0); obtain ⟨Ao37, co37, eo37⟩ := Kd.R_slice HO429.out; subst eo37) | ((with_reducible refine gate_callee (f := 25) rfl ?_); refine gL (some 23) Try.func25 #[.agg #[.int .i64 t424, .int .i64 t425, .int .i64 t426, .slice Ao37 t427.length co37], .int .i64 a1, .int .i64 a2, .int .i64 a3] ?_; (with_reducible refine (spec_IsHolding.calls k t424 t425 t426 _ _ t427 a1 a2 a3 t430 _ ?side1 ?side2 A11.out).mono ?_); (case side1 => repeat (first | exact (Kd.R_reads' HO429.out).2.2 | (with_reducible refine Kd.C_alloc ?_ _) | (with_reducible refine Kd.C_drewN ?_ _) | (with_reducible refine Kd.C_drew ?_))); (case side2 => exact (Kd.R_reads' HO429.out).2.1); rintro e w38 ⟨rfl, hb⟩; refine ⟨_, rfl, ?_⟩; replace HO429 := Aside0.mk (Kd.R_below (sr HO429) hb); replace BK422 := bb BK422 hb; replace HB := bsw hb; (try clear hb); (try clear hb2); (try clear hk); (try clear hi); obtain ⟨hcz39_0, hcz39_1, hcz39_2, hcz39_3, hfz39_0, hfz39_1, hfz39_2, hfz39_3⟩ := cc4 BK422) | ((with_reducible refine gate_callee (f := 16) rfl ?_); refine gL (some 25) Try.func16 #[.agg #[.int .i64 a0_0, .int .i64 a0_1, .int .i64 a0_2, .slice A0_3 l0_3.length c0_3]] ?_; (with_reducible refine (laws_toProgram.calls k a0_0 a0_1 a0_2 _ _ l0_3 t431 t432 t433 t434 _ ?side1 ?side2 A12.out).mono ?_); (case side1 => exact cb HR0_3); (case side2 => exact HC0_3.out); rintro e w40 ⟨v435, rfl, ho0, hb⟩; refine ⟨_, rfl, ?_⟩; have HO436 := Aside0.mk (Kd.R_lower (Kd.R_new' ho0 (Kd.R_lt (sr HO429))) (below_size (sbw))); replace HO429 := Aside0.mk (Kd.R_elder' (sr HO429) (Kd.R_base ho0) hb); replace BK422 := bb BK422 hb; replace HB := bsw hb; (try clear hb); (try clear hb2); (try clear hk); (try clear hi); (try clear ho0)) | ((with_reducible refine gate_dst (N := 11) rfl ?_); refine bx 11 #[.int .i64 0, .int .i64 0, .int .i64 0, .slice none 0 0] 29 ?_; intro gb437 hg w41 hbox hb; replace HO429 := Aside0.mk (Kd.R_below (sr HO429) hb); replace HO436 := Aside0.mk (Kd.R_below (sr HO436) hb); have BK437 := Aside0.mk hbox; have GW437 := bzw w hg; have GE437 := bzw w hg; replace HB := bsw hb; have NB422_437 := nl BK422 hg; have NB437_422 := ng BK422 hg; replace BK422 := bb BK422 hb; clear hb hbox hg; have hnb42 := NB437_422.out; have hnc42 := NB422_437.out; obtain ⟨hcz43_0, hcz43_1, hcz43_2, hcz43_3, hfz43_0, hfz43_1, hfz43_2, hfz43_3⟩ := cc4 BK437; obtain ⟨Ao44, co44, eo44⟩ := Kd.R_slice HO436.out; subst eo44) | ((with_reducible refine gate_callee (f := 26) rfl ?_); refine gL (some 30) Try.func26 #[.agg #[.int .i64 t431, .int .i64 t432, .int .i64 t433, .slice Ao44 t434.length co44], .int .i64 a1, .int .i64 a2, .int .i64 a3] ?_; (with_reducible refine (impl_IsHolding.calls k t431 t432 t433 _ _ t434 a1 a2 a3 t438 _ ?side1 ?side2 A13.out).mono ?_); (case side1 => refine (Kd.R_reads' (e := 106) (base := w.heap.size) (ok := fun k_ => (True ∧ some k_ ≠ (.slice Ao37 t427.length co37 : Value).ownBlock)) (n := t434.length) (c := co44) ?_).2.2; exact (by (with_reducible repeat (first | apply Kd.R_alloc | apply Kd.R_drewN | apply Kd.R_drew)); exact (Kd.R_mono (Kd.R_far (p := ⟨gb437, 3, none⟩) (Kd.R_far (p := ⟨gb437, 2, none⟩) (Kd.R_far (p := ⟨gb437, 1, none⟩) (Kd.R_far (p := ⟨gb437, 0, none⟩) (Kd.R_types HO436.out BK437.out (by decide)) (fun _ hk => hk.2) (.int .i64 t431)) (fun _ hk => hk.2) (.int .i64 t432)) (fun _ hk => hk.2) (.int .i64 t433)) (fun _ hk => hk.2) (.slice Ao44 t434.length co44)) (fun _ h_ => h_.1)))); (case side2 => exact (Kd.R_reads' HO436.out).2.1); rintro e w45 ⟨rfl, hb⟩; refine ⟨_, rfl, ?_⟩; replace HO429 := Aside0.mk (Kd.R_below (by (with_reducible repeat (first | apply Kd.R_alloc | apply Kd.R_drewN | apply Kd.R_drew)); exact (Kd.R_mono (Kd.R_far (p := ⟨gb437, 3, none⟩) (Kd.R_far (p := ⟨gb437, 2, none⟩) (Kd.R_far (p := ⟨gb437, 1, none⟩) (Kd.R_far (p := ⟨gb437, 0, none⟩) (Kd.R_types HO429.out BK437.out (by decide)) (fun _ hk => hk.2) (.int .i64 t431)) (fun _ hk => hk.2) (.int .i64 t432)) (fun _ hk => hk.2) (.int .i64 t433)) (fun _ hk => hk.2) (.slice Ao44 t434.length co44)) (fun _ h_ => h_.1))) hb); replace HO436 := Aside0.mk (Kd.R_below (by (with_reducible repeat (first | apply Kd.R_alloc | apply Kd.R_drewN | apply Kd.R_drew)); exact (Kd.R_mono (Kd.R_far (p := ⟨gb437, 3, none⟩) (Kd.R_far (p := ⟨gb437, 2, none⟩) (Kd.R_far (p := ⟨gb437, 1, none⟩) (Kd.R_far (p := ⟨gb437, 0, none⟩) (Kd.R_types HO436.out BK437.out (by decide)) (fun _ hk => hk.2) (.int .i64 t431)) (fun _ hk => hk.2) (.int .i64 t432)) (fun _ hk => hk.2) (.int .i64 t433)) (fun _ hk => hk.2) (.slice Ao44 t434.length co44)) (fun _ h_ => h_.1))) hb); replace BK422 := Aside0.mk (blk_below (g := gb422) (o := .cells #[.int .i64 a0_0, .int .i64 a0_1, .int .i64 a0_2, .slice A0_3 l0_3.length c0_3] 24 (0, 0)) (sp BK422) hb); replace BK437 := Aside0.mk (blk_below (g := gb437) (o := .cells #[.int .i64 t431, .int .i64 t432, .int .i64 t433, .slice Ao44 t434.length co44] 29 (0, 0)) (sp BK437) hb); replace HB := bsw hb; (try clear hb); (try clear hb2); (try clear hk); (try clear hi)))
    replace HO429 := Aside0.mk (Kd.R_drew HO429.out)
    replace HO436 := Aside0.mk (Kd.R_drew HO436.out)
    replace BK422 := Aside0.mk (blk_drew BK422.out)
    replace BK437 := Aside0.mk (blk_drew BK437.out)
    replace HB := Aside0.mk (below_drew1 HB.out)
    refine start_ (n := 5) (S := fun w' => w'.cell? ⟨gb437, 0, none⟩ = some (.int .i64 t431) ∧ w'.cell? ⟨gb437, 1, none⟩ = some (.int .i64 t432) ∧ w'.cell? ⟨gb437, 2, none⟩ = some (.int .i64 t433) ∧ w'.cell? ⟨gb437, 3, none⟩ = some (.slice Ao44 t434.length co44) ∧ w'.cell? ⟨gb422, 0, none⟩ = some (.int .i64 a0_0) ∧ w'.cell? ⟨gb422, 1, none⟩ = some (.int .i64 a0_1) ∧ w'.cell? ⟨gb422, 2, none⟩ = some (.int .i64 a0_2) ∧ w'.cell? ⟨gb422, 3, none⟩ = some (.slice A0_3 l0_3.length c0_3)) (ds := []) #[false, false, false, false, false] (by kernel_rfl) rfl rfl ⟨bc0 BK437, bc1 BK437, bc2 BK437, bc3 BK437, bc0 BK422, bc1 BK422, bc2 BK422, bc3 BK422⟩ (fun hHeld => ?_)
    generalize w45.drew = w46 at HO429 HO436 BK422 BK437 HB hHeld ⊢
    refine ta8 0 34 #[true, false, false, false, false] hHeld ?_
    refine ta8 1 35 #[true, true, false, false, false] hHeld ?_
    refine one_ (i := 2) (N := some 36) #[true, true, true, false, false] rfl rfl (by kernel_rfl) (by decide) (fun K hK => ?_)
    refine goes_ Try.func16 (by kernel_rfl) rfl #[.agg #[.int .i64 a0_0, .int .i64 a0_1, .int .i64 a0_2, .slice A0_3 l0_3.length c0_3]] (by rfl) rfl rfl sl ?_
    with_reducible refine (laws_toProgram.calls k a0_0 a0_1 a0_2 _ _ l0_3 t439 t440 t441 t442 _ ?side1 ?side2 A29.out).mono ?_
    (case side1 => exact cb HR0_3)
    (case side2 => exact HC0_3.out)
    rintro e w47 ⟨v443, rfl, ho0, hb⟩
    refine ⟨_, rfl, ?_⟩
    have HO444 := Aside0.mk (Kd.R_lower (Kd.R_new' (Kd.R_new' ho0 (Kd.R_lt (sr HO429))) (Kd.R_lt (sr HO436))) (below_size (sbw)))
    replace HO429 := Aside0.mk (Kd.R_elder' (sr HO429) (Kd.R_base ho0) hb)
    replace HO436 := Aside0.mk (Kd.R_elder' (sr HO436) (Kd.R_base ho0) hb)
    replace BK422 := bb BK422 hb
    replace BK437 := bb BK437 hb
    replace HB := bsw hb
    (try clear hb)
    (try clear hb2)
    (try clear hk)
    (try clear hi)
    (try clear ho0)
    obtain ⟨Ao48, co48, eo48⟩ := Kd.R_slice HO444.out
    (first | subst eo48 | (injection eo48 with f1_ f2_ f3_; have f4_ := f1_.symm; have f5_ := f3_.symm; clear f1_ f2_ f3_; subst f4_; subst f5_))
    refine hK.out _ _ ⟨bc0 BK437, bc1 BK437, bc2 BK437, bc3 BK437, bc0 BK422, bc1 BK422, bc2 BK422, bc3 BK422⟩ (fun hHeld => ?_)
    clear hK K
    refine norm_ (a' := ?_) ?_ ?_
    rotate_left
    ·show Act.put _ (some 36) _ = _
     simp only [Act.put, List.setIfInBounds_toArray, List.set_cons_zero, List.set_cons_succ, i64_w, i32_w]
     rfl
    refine one_ (i := 3) (N := some 37) #[true, true, true, true, false] rfl rfl (by kernel_rfl) (by decide) (fun K hK => ?_)
    refine goes_ Try.func18 (by kernel_rfl) rfl #[.agg #[.int .i64 t431, .int .i64 t432, .int .i64 t433, .slice Ao44 t434.length co44], .agg #[.int .i64 t439, .int .i64 t440, .int .i64 t441, .slice Ao48 t442.length co48]] (by rfl) rfl rfl sl ?_
    with_reducible refine (laws_eqProgram.calls k t431 t432 t433 _ _ t434 t439 t440 t441 _ _ t442 true _ ?side1 ?side2 ?side3 ?side4 A30.out).mono ?_
    (case side1 => repeat (first | exact (Kd.R_reads' HO436.out).2.2 | (with_reducible refine Kd.C_alloc ?_ _) | (with_reducible refine Kd.C_drewN ?_ _) | (with_reducible refine Kd.C_drew ?_)))
    (case side2 => exact (Kd.R_reads' HO436.out).2.1)
    (case side3 => repeat (first | exact (Kd.R_reads' HO444.out).2.2 | (with_reducible refine Kd.C_alloc ?_ _) | (with_reducible refine Kd.C_drewN ?_ _) | (with_reducible refine Kd.C_drew ?_)))
    (case side4 => exact (Kd.R_reads' HO444.out).2.1)
    rintro e w49 ⟨rfl, hb⟩
    refine ⟨_, rfl, ?_⟩
    replace HO429 := Aside0.mk (Kd.R_below (sr HO429) hb)
    replace HO436 := Aside0.mk (Kd.R_below (sr HO436) hb)
    replace HO444 := Aside0.mk (Kd.R_below (sr HO444) hb)
    replace BK422 := bb BK422 hb
    replace BK437 := bb BK437 hb
    replace HB := bsw hb
    (try clear hb)
    (try clear hb2)
    (try clear hk)
    (try clear hi)
    refine hK.out _ _ ⟨bc0 BK437, bc1 BK437, bc2 BK437, bc3 BK437, bc0 BK422, bc1 BK422, bc2 BK422, bc3 BK422⟩ (fun hHeld => ?_)
    clear hK K
    refine norm_ (a' := ?_) ?_ ?_
    rotate_left
    ·show Act.put _ (some 37) _ = _
     simp only [Act.put, List.setIfInBounds_toArray, List.set_cons_zero, List.set_cons_succ, i64_w, i32_w]
     rfl
    refine pu 4 38 #[true, true, true, true, true] ?_
    refine done_ (by kernel_rfl) ?_
    try go_wp2
    go_ret
    exact ⟨se, sbw⟩
   ·replace H := im H
    obtain rfl := Option.some.inj H
    go_enter Try.func5, Try.ntmps5
    try go_wp2_with (first | ((with_reducible refine gate_dst (N := 4) rfl ?_); refine bx 4 #[.int .i64 a0_0, .int .i64 a0_1, .int .i64 a0_2, .slice A0_3 l0_3.length c0_3] 24 ?_; intro gb422 hg w50 hbox hb; have BK422 := Aside0.mk hbox; have GW422 := bz w hg; have GE422 := bz w hg; replace HB := bs hb; clear hb hbox hg; obtain ⟨hcz51_0, hcz51_1, hcz51_2, hcz51_3, hfz51_0, hfz51_1, hfz51_2, hfz51_3⟩ := cc4 BK422) | ((with_reducible refine gate_callee (f := 14) rfl ?_); refine gL (some 15) Try.func14 #[.agg #[.int .i64 a0_0, .int .i64 a0_1, .int .i64 a0_2, .slice A0_3 l0_3.length c0_3], .int .i64 1048576] ?_; (with_reducible refine (laws_szProgram.calls k a0_0 a0_1 a0_2 _ _ l0_3 1048576 t423 _ ?side1 ?side2 A5.out).mono ?_); (case side1 => exact cb HR0_3); (case side2 => exact HC0_3.out); rintro e w52 ⟨rfl, hb⟩; refine ⟨_, rfl, ?_⟩; replace BK422 := bb BK422 hb; replace HB := bsw hb; (try clear hb); (try clear hb2); (try clear hk); (try clear hi); obtain ⟨hcz53_0, hcz53_1, hcz53_2, hcz53_3, hfz53_0, hfz53_1, hfz53_2, hfz53_3⟩ := cc4 BK422) | ((with_reducible refine gate_callee (f := 16) rfl ?_); refine gL (some 19) Try.func16 #[.agg #[.int .i64 a0_0, .int .i64 a0_1, .int .i64 a0_2, .slice A0_3 l0_3.length c0_3]] ?_; (with_reducible refine (laws_toProgram.calls k a0_0 a0_1 a0_2 _ _ l0_3 t424 t425 t426 t427 _ ?side1 ?side2 A10.out).mono ?_); (case side1 => exact cb HR0_3); (case side2 => exact HC0_3.out); rintro e w54 ⟨v428, rfl, ho0, hb⟩; refine ⟨_, rfl, ?_⟩; have HO429 := Aside0.mk (Kd.R_lower ho0 (below_size (sbw))); replace BK422 := bb BK422 hb; replace HB := bsw hb; (try clear hb); (try clear hb2); (try clear hk); (try clear hi); (try clear ho0); obtain ⟨Ao55, co55, eo55⟩ := Kd.R_slice HO429.out; subst eo55) | ((with_reducible refine gate_callee (f := 25) rfl ?_); refine gL (some 23) Try.func25 #[.agg #[.int .i64 t424, .int .i64 t425, .int .i64 t426, .slice Ao55 t427.length co55], .int .i64 a1, .int .i64 a2, .int .i64 a3] ?_; (with_reducible refine (spec_IsHolding.calls k t424 t425 t426 _ _ t427 a1 a2 a3 t430 _ ?side1 ?side2 A11.out).mono ?_); (case side1 => repeat (first | exact (Kd.R_reads' HO429.out).2.2 | (with_reducible refine Kd.C_alloc ?_ _) | (with_reducible refine Kd.C_drewN ?_ _) | (with_reducible refine Kd.C_drew ?_))); (case side2 => exact (Kd.R_reads' HO429.out).2.1); rintro e w56 ⟨rfl, hb⟩; refine ⟨_, rfl, ?_⟩; replace HO429 := Aside0.mk (Kd.R_below (sr HO429) hb); replace BK422 := bb BK422 hb; replace HB := bsw hb; (try clear hb); (try clear hb2); (try clear hk); (try clear hi); obtain ⟨hcz57_0, hcz57_1, hcz57_2, hcz57_3, hfz57_0, hfz57_1, hfz57_2, hfz57_3⟩ := cc4 BK422) | ((with_reducible refine gate_callee (f := 16) rfl ?_); refine gL (some 25) Try.func16 #[.agg #[.int .i64 a0_0, .int .i64 a0_1, .int .i64 a0_2, .slice A0_3 l0_3.length c0_3]] ?_; (with_reducible refine (laws_toProgram.calls k a0_0 a0_1 a0_2 _ _ l0_3 t431 t432 t433 t434 _ ?side1 ?side2 A12.out).mono ?_); (case side1 => exact cb HR0_3); (case side2 => exact HC0_3.out); rintro e w58 ⟨v435, rfl, ho0, hb⟩; refine ⟨_, rfl, ?_⟩; have HO436 := Aside0.mk (Kd.R_lower (Kd.R_new' ho0 (Kd.R_lt (sr HO429))) (below_size (sbw))); replace HO429 := Aside0.mk (Kd.R_elder' (sr HO429) (Kd.R_base ho0) hb); replace BK422 := bb BK422 hb; replace HB := bsw hb; (try clear hb); (try clear hb2); (try clear hk); (try clear hi); (try clear ho0)) | ((with_reducible refine gate_dst (N := 11) rfl ?_); refine bx 11 #[.int .i64 0, .int .i64 0, .int .i64 0, .slice none 0 0] 29 ?_; intro gb437 hg w59 hbox hb; replace HO429 := Aside0.mk (Kd.R_below (sr HO429) hb); replace HO436 := Aside0.mk (Kd.R_below (sr HO436) hb); have BK437 := Aside0.mk hbox; have GW437 := bzw w hg; have GE437 := bzw w hg; replace HB := bsw hb; have NB422_437 := nl BK422 hg; have NB437_422 := ng BK422 hg; replace BK422 := bb BK422 hb; clear hb hbox hg; have hnb60 := NB437_422.out; have hnc60 := NB422_437.out; obtain ⟨hcz61_0, hcz61_1, hcz61_2, hcz61_3, hfz61_0, hfz61_1, hfz61_2, hfz61_3⟩ := cc4 BK437; obtain ⟨Ao62, co62, eo62⟩ := Kd.R_slice HO436.out; subst eo62) | ((with_reducible refine gate_callee (f := 26) rfl ?_); refine gL (some 30) Try.func26 #[.agg #[.int .i64 t431, .int .i64 t432, .int .i64 t433, .slice Ao62 t434.length co62], .int .i64 a1, .int .i64 a2, .int .i64 a3] ?_; (with_reducible refine (impl_IsHolding.calls k t431 t432 t433 _ _ t434 a1 a2 a3 t438 _ ?side1 ?side2 A13.out).mono ?_); (case side1 => refine (Kd.R_reads' (e := 106) (base := w.heap.size) (ok := fun k_ => (True ∧ some k_ ≠ (.slice Ao55 t427.length co55 : Value).ownBlock)) (n := t434.length) (c := co62) ?_).2.2; exact (by (with_reducible repeat (first | apply Kd.R_alloc | apply Kd.R_drewN | apply Kd.R_drew)); exact (Kd.R_mono (Kd.R_far (p := ⟨gb437, 3, none⟩) (Kd.R_far (p := ⟨gb437, 2, none⟩) (Kd.R_far (p := ⟨gb437, 1, none⟩) (Kd.R_far (p := ⟨gb437, 0, none⟩) (Kd.R_types HO436.out BK437.out (by decide)) (fun _ hk => hk.2) (.int .i64 t431)) (fun _ hk => hk.2) (.int .i64 t432)) (fun _ hk => hk.2) (.int .i64 t433)) (fun _ hk => hk.2) (.slice Ao62 t434.length co62)) (fun _ h_ => h_.1)))); (case side2 => exact (Kd.R_reads' HO436.out).2.1); rintro e w63 ⟨rfl, hb⟩; refine ⟨_, rfl, ?_⟩; replace HO429 := Aside0.mk (Kd.R_below (by (with_reducible repeat (first | apply Kd.R_alloc | apply Kd.R_drewN | apply Kd.R_drew)); exact (Kd.R_mono (Kd.R_far (p := ⟨gb437, 3, none⟩) (Kd.R_far (p := ⟨gb437, 2, none⟩) (Kd.R_far (p := ⟨gb437, 1, none⟩) (Kd.R_far (p := ⟨gb437, 0, none⟩) (Kd.R_types HO429.out BK437.out (by decide)) (fun _ hk => hk.2) (.int .i64 t431)) (fun _ hk => hk.2) (.int .i64 t432)) (fun _ hk => hk.2) (.int .i64 t433)) (fun _ hk => hk.2) (.slice Ao62 t434.length co62)) (fun _ h_ => h_.1))) hb); replace HO436 := Aside0.mk (Kd.R_below (by (with_reducible repeat (first | apply Kd.R_alloc | apply Kd.R_drewN | apply Kd.R_drew)); exact (Kd.R_mono (Kd.R_far (p := ⟨gb437, 3, none⟩) (Kd.R_far (p := ⟨gb437, 2, none⟩) (Kd.R_far (p := ⟨gb437, 1, none⟩) (Kd.R_far (p := ⟨gb437, 0, none⟩) (Kd.R_types HO436.out BK437.out (by decide)) (fun _ hk => hk.2) (.int .i64 t431)) (fun _ hk => hk.2) (.int .i64 t432)) (fun _ hk => hk.2) (.int .i64 t433)) (fun _ hk => hk.2) (.slice Ao62 t434.length co62)) (fun _ h_ => h_.1))) hb); replace BK422 := Aside0.mk (blk_below (g := gb422) (o := .cells #[.int .i64 a0_0, .int .i64 a0_1, .int .i64 a0_2, .slice A0_3 l0_3.length c0_3] 24 (0, 0)) (sp BK422) hb); replace BK437 := Aside0.mk (blk_below (g := gb437) (o := .cells #[.int .i64 t431, .int .i64 t432, .int .i64 t433, .slice Ao62 t434.length co62] 29 (0, 0)) (sp BK437) hb); replace HB := bsw hb; (try clear hb); (try clear hb2); (try clear hk); (try clear hi)))
    replace HO429 := Aside0.mk (Kd.R_drew HO429.out)
    replace HO436 := Aside0.mk (Kd.R_drew HO436.out)
    replace BK422 := Aside0.mk (blk_drew BK422.out)
    replace BK437 := Aside0.mk (blk_drew BK437.out)
    replace HB := Aside0.mk (below_drew1 HB.out)
    refine start_ (n := 5) (S := fun w' => w'.cell? ⟨gb437, 0, none⟩ = some (.int .i64 t431) ∧ w'.cell? ⟨gb437, 1, none⟩ = some (.int .i64 t432) ∧ w'.cell? ⟨gb437, 2, none⟩ = some (.int .i64 t433) ∧ w'.cell? ⟨gb437, 3, none⟩ = some (.slice Ao62 t434.length co62) ∧ w'.cell? ⟨gb422, 0, none⟩ = some (.int .i64 a0_0) ∧ w'.cell? ⟨gb422, 1, none⟩ = some (.int .i64 a0_1) ∧ w'.cell? ⟨gb422, 2, none⟩ = some (.int .i64 a0_2) ∧ w'.cell? ⟨gb422, 3, none⟩ = some (.slice A0_3 l0_3.length c0_3)) (ds := []) #[false, false, false, false, false] (by kernel_rfl) rfl rfl ⟨bc0 BK437, bc1 BK437, bc2 BK437, bc3 BK437, bc0 BK422, bc1 BK422, bc2 BK422, bc3 BK422⟩ (fun hHeld => ?_)
    generalize w63.drew = w64 at HO429 HO436 BK422 BK437 HB hHeld ⊢
    refine ta8 0 34 #[true, false, false, false, false] hHeld ?_
    refine ta8 1 35 #[true, true, false, false, false] hHeld ?_
    refine one_ (i := 2) (N := some 36) #[true, true, true, false, false] rfl rfl (by kernel_rfl) (by decide) (fun K hK => ?_)
    refine goes_ Try.func16 (by kernel_rfl) rfl #[.agg #[.int .i64 a0_0, .int .i64 a0_1, .int .i64 a0_2, .slice A0_3 l0_3.length c0_3]] (by rfl) rfl rfl sl ?_
    with_reducible refine (laws_toProgram.calls k a0_0 a0_1 a0_2 _ _ l0_3 t439 t440 t441 t442 _ ?side1 ?side2 A29.out).mono ?_
    (case side1 => exact cb HR0_3)
    (case side2 => exact HC0_3.out)
    rintro e w65 ⟨v443, rfl, ho0, hb⟩
    refine ⟨_, rfl, ?_⟩
    have HO444 := Aside0.mk (Kd.R_lower (Kd.R_new' (Kd.R_new' ho0 (Kd.R_lt (sr HO429))) (Kd.R_lt (sr HO436))) (below_size (sbw)))
    replace HO429 := Aside0.mk (Kd.R_elder' (sr HO429) (Kd.R_base ho0) hb)
    replace HO436 := Aside0.mk (Kd.R_elder' (sr HO436) (Kd.R_base ho0) hb)
    replace BK422 := bb BK422 hb
    replace BK437 := bb BK437 hb
    replace HB := bsw hb
    (try clear hb)
    (try clear hb2)
    (try clear hk)
    (try clear hi)
    (try clear ho0)
    obtain ⟨Ao66, co66, eo66⟩ := Kd.R_slice HO444.out
    (first | subst eo66 | (injection eo66 with f1_ f2_ f3_; have f4_ := f1_.symm; have f5_ := f3_.symm; clear f1_ f2_ f3_; subst f4_; subst f5_))
    refine hK.out _ _ ⟨bc0 BK437, bc1 BK437, bc2 BK437, bc3 BK437, bc0 BK422, bc1 BK422, bc2 BK422, bc3 BK422⟩ (fun hHeld => ?_)
    clear hK K
    refine norm_ (a' := ?_) ?_ ?_
    rotate_left
    ·show Act.put _ (some 36) _ = _
     simp only [Act.put, List.setIfInBounds_toArray, List.set_cons_zero, List.set_cons_succ, i64_w, i32_w]
     rfl
    refine one_ (i := 3) (N := some 37) #[true, true, true, true, false] rfl rfl (by kernel_rfl) (by decide) (fun K hK => ?_)
    refine goes_ Try.func18 (by kernel_rfl) rfl #[.agg #[.int .i64 t431, .int .i64 t432, .int .i64 t433, .slice Ao62 t434.length co62], .agg #[.int .i64 t439, .int .i64 t440, .int .i64 t441, .slice Ao66 t442.length co66]] (by rfl) rfl rfl sl ?_
    with_reducible refine (laws_eqProgram.calls k t431 t432 t433 _ _ t434 t439 t440 t441 _ _ t442 false _ ?side1 ?side2 ?side3 ?side4 A30.out).mono ?_
    (case side1 => repeat (first | exact (Kd.R_reads' HO436.out).2.2 | (with_reducible refine Kd.C_alloc ?_ _) | (with_reducible refine Kd.C_drewN ?_ _) | (with_reducible refine Kd.C_drew ?_)))
    (case side2 => exact (Kd.R_reads' HO436.out).2.1)
    (case side3 => repeat (first | exact (Kd.R_reads' HO444.out).2.2 | (with_reducible refine Kd.C_alloc ?_ _) | (with_reducible refine Kd.C_drewN ?_ _) | (with_reducible refine Kd.C_drew ?_)))
    (case side4 => exact (Kd.R_reads' HO444.out).2.1)
    rintro e w67 ⟨rfl, hb⟩
    refine ⟨_, rfl, ?_⟩
    replace HO429 := Aside0.mk (Kd.R_below (sr HO429) hb)
    replace HO436 := Aside0.mk (Kd.R_below (sr HO436) hb)
    replace HO444 := Aside0.mk (Kd.R_below (sr HO444) hb)
    replace BK422 := bb BK422 hb
    replace BK437 := bb BK437 hb
    replace HB := bsw hb
    (try clear hb)
    (try clear hb2)
    (try clear hk)
    (try clear hi)
    refine hK.out _ _ ⟨bc0 BK437, bc1 BK437, bc2 BK437, bc3 BK437, bc0 BK422, bc1 BK422, bc2 BK422, bc3 BK422⟩ (fun hHeld => ?_)
    clear hK K
    refine norm_ (a' := ?_) ?_ ?_
    rotate_left
    ·show Act.put _ (some 37) _ = _
     simp only [Act.put, List.setIfInBounds_toArray, List.set_cons_zero, List.set_cons_succ, i64_w, i32_w]
     rfl
    refine pu 4 38 #[true, true, true, true, true] ?_
    refine done_ (by kernel_rfl) ?_
    try go_wp2
    go_ret
    exact ⟨se, sbw⟩

end Go.Proofs.Ytlakjlolahjphaa.QFnExactIsHolding
