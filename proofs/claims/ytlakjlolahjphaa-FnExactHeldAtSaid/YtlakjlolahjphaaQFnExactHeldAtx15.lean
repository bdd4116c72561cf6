/- What the Go functions of the law FnExactHeldAt come to, as Lean functions, and that they do: by a program of the session, out of the kit's printer. Conditions: none. (squeezed). -/
import Derived.Test.YtlakjlolahjphaaSq
import Derived.Test.YtlakjlolahjphaaQFnExactHeldAtx0
import Derived.Test.YtlakjlolahjphaaQFnExactHeldAtx11
import Derived.Test.YtlakjlolahjphaaQFnExactHeldAtx12
import Derived.Test.YtlakjlolahjphaaQFnExactHeldAtx14
namespace Go.Proofs.Ytlakjlolahjphaa.QFnExactHeldAt
open Go.RowKit Go.Proofs.YtlakjlolahjphaaW.PrintWords Go.Proofs.YtlakjlolahjphaaW.PrintLast Go.Proofs.YtlakjlolahjphaaW.PrintMore Go.Proofs.Ytlakjlolahjphaa.Open Go.Proofs.Ytlakjlolahjphaa.Sq
attribute [local go_sem] max2_int min2_int max_two min_two max_three min_three max_four min_four   -- for this text's walks alone
attribute [local go_sem] isSome_set
set_option linter.unusedVariables false
set_option linter.unusedSimpArgs false

/-! ### impl_HopAt: function 17 -/
def impl_HopAt.f (k : Nat) (a0_0 : Int) (a0_1 : Int) (a0_2 : Int) (l0_3 : List (S106)) (a1 : Int) (a2 : Int) (a3 : Int) : Option (Int) := (impl_PieceAt.f a0_0 a0_1 a0_2 l0_3 a3).bind fun t421 => ((impl_nextIn.f a0_0 a0_1 a0_2 l0_3 t421 a2 a1).bind fun bt422 => (if bt422.2 = true then ((impl_isSkewed.f a0_0 a0_1 a0_2 l0_3 a3).bind fun t424 => (if t424 = true then ((impl_IsSafeMix.f k a0_0 a0_1 a0_2 l0_3 a2 (wrap64 (a3 - (wrap64 (2 * a0_2)))) (wrap64 (a3 + (wrap64 (2 * a0_2))))).bind fun t425 => (if t425 = true then (some bt422.1) else (some (-1)))) else (some (-1)))) else (some (-1))))
theorem impl_HopAt.mono : ∀ a0 a1 a2 a3 a4 a5 a6 k, LeO (impl_HopAt.f k a0 a1 a2 a3 a4 a5 a6) (impl_HopAt.f (k + 1) a0 a1 a2 a3 a4 a5 a6) := by
  intro a0 a1 a2 a3 a4 a5 a6 k
  unfold impl_HopAt.f
  have m0 := @impl_IsSafeMix.mono
  exact mo
def impl_HopAt.T1 : Bool × List (List Nat × List Nat) := (true, [([], []), ([], []), ([], []), ([1, 2], [1, 2]), ([], []), ([], []), ([0, 3, 4, 5, 3], [0, 3, 4, 5]), ([6], [6]), ([7], [7]), ([7], [7]), ([8, 6, 0, 1, 2, 3, 4, 5, 6, 7, 8], [8]), ([9, 10, 0, 1, 2, 3, 4, 5, 6, 7, 8, 9, 10], [9])])
def impl_HopAt.B1 : List Nat := [0, 0, 0, 6, 0, 0, 63, 127, 255, 255, 511, 2047]
theorem impl_HopAt.tab1 : rtab .any (opsOf Try.f17 1) = impl_HopAt.T1 := by kernel_rfl
theorem impl_HopAt.bits1 : waitsOk impl_HopAt.T1.2 impl_HopAt.B1 = true := by kernel_rfl
set_option maxHeartbeats 8000000 in
set_option maxRecDepth 100000 in
theorem impl_HopAt.calls (k : Nat) (a0_0 : Int) (a0_1 : Int) (a0_2 : Int) (A0_3 : Option Addr) (c0_3 : Nat) (l0_3 : List (S106)) (a1 : Int) (a2 : Int) (a3 : Int) (r : Int) (w : World) (hr0_3 : Kd.C k106 w A0_3 l0_3.length l0_3) (hc0_3 : l0_3.length ≤ c0_3) (h : impl_HopAt.f k a0_0 a0_1 a0_2 l0_3 a1 a2 a3 = some r) :
    Calls Try.prog 17 #[.agg #[.int .i64 a0_0, .int .i64 a0_1, .int .i64 a0_2, .slice A0_3 l0_3.length c0_3], .int .i64 a1, .int .i64 a2, .int .i64 a3] w fun e w' => e = .returned (.int .i64 r) ∧ Below w.heap.size w w' := by
 have hu29 := Try.underlying29
 have HR0_3 := Aside0.mk hr0_3
 have HC0_3 := Aside0.mk hc0_3
 clear hr0_3 hc0_3
 have HB := Aside0.mk (Below.refl w.heap.size w)
 have H : ((impl_PieceAt.f a0_0 a0_1 a0_2 l0_3 a3).bind fun t421 => ((impl_nextIn.f a0_0 a0_1 a0_2 l0_3 t421 a2 a1).bind fun bt422 => (if bt422.2 = true then ((impl_isSkewed.f a0_0 a0_1 a0_2 l0_3 a3).bind fun t424 => (if t424 = true then ((impl_IsSafeMix.f k a0_0 a0_1 a0_2 l0_3 a2 (wrap64 (a3 - (wrap64 (2 * a0_2)))) (wrap64 (a3 + (wrap64 (2 * a0_2))))).bind fun t425 => (if t425 = true then (some bt422.1) else (some (-1)))) else (some (-1)))) else (some (-1))))) = some r := h
 clear h
 obtain ⟨t421, A5, H⟩ := bnd H
 obtain ⟨⟨t422, t423⟩, A6, H⟩ := bnd H
 replace H : (if t423 = true then ((impl_isSkewed.f a0_0 a0_1 a0_2 l0_3 a3).bind fun t424 => (if t424 = true then ((impl_IsSafeMix.f k a0_0 a0_1 a0_2 l0_3 a2 (wrap64 (a3 - (wrap64 (2 * a0_2)))) (wrap64 (a3 + (wrap64 (2 * a0_2))))).bind fun t425 => (if t425 = true then (some t422) else (some (-1)))) else (some (-1)))) else (some (-1))) = some r := H
 obtain rfl | rfl := tt t423
 ·replace H := ip H
  obtain ⟨t424, A8, H⟩ := bnd H
  obtain rfl | rfl := tt t424
  ·replace H := ip H
   obtain ⟨t425, A10, H⟩ := bnd H
   obtain rfl | rfl := tt t425
   ·replace H := ip H
    obtain rfl := Option.some.inj H
    go_enter Try.func17, Try.ntmps17
    try go_wp2_with (first | ((with_reducible refine gate_dst (N := 4) rfl ?_); refine bx 4 #[.int .i64 a0_0, .int .i64 a0_1, .int .i64 a0_2, .slice A0_3 l0_3.length c0_3] 29 ?_; intro gb420 hg w12 hbox hb; have BK420 := Aside0.mk hbox; have GW420 := bz w hg; have GE420 := bz w hg; replace HB := bs hb; clear hb hbox hg))
    replace BK420 := Aside0.mk (blk_drew BK420.out)
    replace HB := Aside0.mk (below_drew1 HB.out)
    refine start_ (n := 12) (S := fun w' => w'.cell? ⟨gb420, 0, none⟩ = some (.int .i64 a0_0) ∧ w'.cell? ⟨gb420, 1, none⟩ = some (.int .i64 a0_1) ∧ w'.cell? ⟨gb420, 2, none⟩ = some (.int .i64 a0_2) ∧ w'.cell? ⟨gb420, 3, none⟩ = some (.slice A0_3 l0_3.length c0_3)) (ds := []) #[false, false, false, false, false, false, false, false, false, false, false, false] (by kernel_rfl) rfl rfl ⟨bc0 BK420, bc1 BK420, bc2 BK420, bc3 BK420⟩ (fun hHeld => ?_); refine with_tabW impl_HopAt.tab1 impl_HopAt.bits1 (fun HT_ HW_ => ?_)
    generalize w12.drew = w13 at BK420 HB hHeld ⊢
    refine put 2 14 #[false, false, true, false, false, false, false, false, false, false, false, false] HT_ ?_
    refine put 4 16 #[false, false, true, false, true, false, false, false, false, false, false, false] HT_ ?_
    refine put 5 17 #[false, false, true, false, true, true, false, false, false, false, false, false] HT_ ?_
    refine tat4 0 12 #[true, false, true, false, true, true, false, false, false, false, false, false] HT_ HW_ hHeld ?_
    refine tat4 1 13 #[true, true, true, false, true, true, false, false, false, false, false, false] HT_ HW_ hHeld ?_
    refine one_ (i := 3) (N := some 15) #[true, true, true, true, true, true, false, false, false, false, false, false] rfl rfl (one_of HT_.out (by kernel_rfl)) (by decide) (fun K hK => ?_)
    refine goes_ Try.func52 (by kernel_rfl) rfl #[.agg #[.int .i64 a0_0, .int .i64 a0_1, .int .i64 a0_2, .slice A0_3 l0_3.length c0_3], .int .i64 a3] (by rfl) rfl rfl sl ?_
    with_reducible refine (impl_PieceAt.calls a0_0 a0_1 a0_2 _ _ l0_3 a3 t421 _ ?side1 ?side2 A5.out).mono ?_
    (case side1 => exact cb HR0_3)
    (case side2 => exact HC0_3.out)
    rintro e w14 ⟨rfl, hb⟩
    refine ⟨_, rfl, ?_⟩
    replace BK420 := bb BK420 hb
    replace HB := bsw hb
    (try clear hb)
    (try clear hb2)
    (try clear hk)
    (try clear hi)
    refine hK.out _ _ ⟨bc0 BK420, bc1 BK420, bc2 BK420, bc3 BK420⟩ (fun hHeld => ?_)
    clear hK K
    refine norm_ (a' := ?_) ?_ ?_
    rotate_left
    ·show Act.put _ (some 15) _ = _
     simp only [Act.put, List.setIfInBounds_toArray, List.set_cons_zero, List.set_cons_succ, i64_w, i32_w]
     rfl
    refine one_ (i := 6) (N := some 18) #[true, true, true, true, true, true, true, false, false, false, false, false] rfl rfl (one_of HT_.out (by kernel_rfl)) (by decide) (fun K hK => ?_)
    refine goes_ Try.func67 (by kernel_rfl) rfl #[.agg #[.int .i64 a0_0, .int .i64 a0_1, .int .i64 a0_2, .slice A0_3 l0_3.length c0_3], .int .i64 t421, .int .i64 a2, .int .i64 a1] (by rfl) rfl rfl sl ?_
    with_reducible refine (impl_nextIn.calls a0_0 a0_1 a0_2 _ _ l0_3 t421 a2 a1 t422 true _ ?side1 ?side2 A6.out).mono ?_
    (case side1 => exact cb HR0_3)
    (case side2 => exact HC0_3.out)
    rintro e w15 ⟨rfl, hb⟩
    refine ⟨_, rfl, ?_⟩
    replace BK420 := bb BK420 hb
    replace HB := bsw hb
    (try clear hb)
    (try clear hb2)
    (try clear hk)
    (try clear hi)
    refine hK.out _ _ ⟨bc0 BK420, bc1 BK420, bc2 BK420, bc3 BK420⟩ (fun hHeld => ?_)
    clear hK K
    refine norm_ (a' := ?_) ?_ ?_
    rotate_left
    ·show Act.put _ (some 18) _ = _
     simp only [Act.put, List.setIfInBounds_toArray, List.set_cons_zero, List.set_cons_succ, i64_w, i32_w]
     rfl
    refine put 7 11 #[true, true, true, true, true, true, true, true, false, false, false, false] HT_ ?_
    refine put 8 19 #[true, true, true, true, true, true, true, true, true, false, false, false] HT_ ?_
    refine put 9 20 #[true, true, true, true, true, true, true, true, true, true, false, false] HT_ ?_
    refine put 10 9 #[true, true, true, true, true, true, true, true, true, true, true, false] HT_ ?_
    refine put 11 10 #[true, true, true, true, true, true, true, true, true, true, true, true] HT_ ?_
    refine done_ (done_of HT_.out (by kernel_rfl)) ?_
    obtain ⟨hcz16_0, hcz16_1, hcz16_2, hcz16_3, hfz16_0, hfz16_1, hfz16_2, hfz16_3⟩ := cc4 BK420
    try go_wp2_with (first | (go_at_call 68; (with_reducible refine (impl_isSkewed.calls a0_0 a0_1 a0_2 _ _ l0_3 a3 true _ ?side1 ?side2 A8.out).mono ?_); (case side1 => exact cb HR0_3); (case side2 => exact HC0_3.out); rintro e w17 ⟨rfl, hb⟩; replace BK420 := bb BK420 hb; replace HB := bsw hb; (try clear hb); (try clear hb2); (try clear hk); (try clear hi); obtain ⟨hcz18_0, hcz18_1, hcz18_2, hcz18_3, hfz18_0, hfz18_1, hfz18_2, hfz18_3⟩ := cc4 BK420) | (go_at_call 69; (try simp only [i64_w, i32_w]); (with_reducible refine (impl_IsSafeMix.calls k a0_0 a0_1 a0_2 _ _ l0_3 a2 (wrap64 (a3 - (wrap64 (2 * a0_2)))) (wrap64 (a3 + (wrap64 (2 * a0_2)))) true _ ?side1 ?side2 A10.out).mono ?_); (case side1 => exact cb HR0_3); (case side2 => exact HC0_3.out); rintro e w19 ⟨rfl, hb⟩; replace BK420 := bb BK420 hb; replace HB := bsw hb; (try clear hb); (try clear hb2); (try clear hk); (try clear hi)))
    go_ret
    exact ⟨se, sbw⟩
   ·replace H := im H
    obtain rfl := Option.some.inj H
    go_enter Try.func17, Try.ntmps17
    try go_wp2_with (first | ((with_reducible refine gate_dst (N := 4) rfl ?_); refine bx 4 #[.int .i64 a0_0, .int .i64 a0_1, .int .i64 a0_2, .slice A0_3 l0_3.length c0_3] 29 ?_; intro gb420 hg w20 hbox hb; have BK420 := Aside0.mk hbox; have GW420 := bz w hg; have GE420 := bz w hg; replace HB := bs hb; clear hb hbox hg))
    replace BK420 := Aside0.mk (blk_drew BK420.out)
    replace HB := Aside0.mk (below_drew1 HB.out)
    refine start_ (n := 12) (S := fun w' => w'.cell? ⟨gb420, 0, none⟩ = some (.int .i64 a0_0) ∧ w'.cell? ⟨gb420, 1, none⟩ = some (.int .i64 a0_1) ∧ w'.cell? ⟨gb420, 2, none⟩ = some (.int .i64 a0_2) ∧ w'.cell? ⟨gb420, 3, none⟩ = some (.slice A0_3 l0_3.length c0_3)) (ds := []) #[false, false, false, false, false, false, false, false, false, false, false, false] (by kernel_rfl) rfl rfl ⟨bc0 BK420, bc1 BK420, bc2 BK420, bc3 BK420⟩ (fun hHeld => ?_); refine with_tabW impl_HopAt.tab1 impl_HopAt.bits1 (fun HT_ HW_ => ?_)
    generalize w20.drew = w21 at BK420 HB hHeld ⊢
    refine put 2 14 #[false, false, true, false, false, false, false, false, false, false, false, false] HT_ ?_
    refine put 4 16 #[false, false, true, false, true, false, false, false, false, false, false, false] HT_ ?_
    refine put 5 17 #[false, false, true, false, true, true, false, false, false, false, false, false] HT_ ?_
    refine tat4 0 12 #[true, false, true, false, true, true, false, false, false, false, false, false] HT_ HW_ hHeld ?_
    refine tat4 1 13 #[true, true, true, false, true, true, false, false, false, false, false, false] HT_ HW_ hHeld ?_
    refine one_ (i := 3) (N := some 15) #[true, true, true, true, true, true, false, false, false, false, false, false] rfl rfl (one_of HT_.out (by kernel_rfl)) (by decide) (fun K hK => ?_)
    refine goes_ Try.func52 (by kernel_rfl) rfl #[.agg #[.int .i64 a0_0, .int .i64 a0_1, .int .i64 a0_2, .slice A0_3 l0_3.length c0_3], .int .i64 a3] (by rfl) rfl rfl sl ?_
    with_reducible refine (impl_PieceAt.calls a0_0 a0_1 a0_2 _ _ l0_3 a3 t421 _ ?side1 ?side2 A5.out).mono ?_
    (case side1 => exact cb HR0_3)
    (case side2 => exact HC0_3.out)
    rintro e w22 ⟨rfl, hb⟩
    refine ⟨_, rfl, ?_⟩
    replace BK420 := bb BK420 hb
    replace HB := bsw hb
    (try clear hb)
    (try clear hb2)
    (try clear hk)
    (try clear hi)
    refine hK.out _ _ ⟨bc0 BK420, bc1 BK420, bc2 BK420, bc3 BK420⟩ (fun hHeld => ?_)
    clear hK K
    refine norm_ (a' := ?_) ?_ ?_
    rotate_left
    ·show Act.put _ (some 15) _ = _
     simp only [Act.put, List.setIfInBounds_toArray, List.set_cons_zero, List.set_cons_succ, i64_w, i32_w]
     rfl
    refine one_ (i := 6) (N := some 18) #[true, true, true, true, true, true, true, false, false, false, false, false] rfl rfl (one_of HT_.out (by kernel_rfl)) (by decide) (fun K hK => ?_)
    refine goes_ Try.func67 (by kernel_rfl) rfl #[.agg #[.int .i64 a0_0, .int .i64 a0_1, .int .i64 a0_2, .slice A0_3 l0_3.length c0_3], .int .i64 t421, .int .i64 a2, .int .i64 a1] (by rfl) rfl rfl sl ?_
    with_reducible refine (impl_nextIn.calls a0_0 a0_1 a0_2 _ _ l0_3 t421 a2 a1 t422 true _ ?side1 ?side2 A6.out).mono ?_
    (case side1 => exact cb HR0_3)
    (case side2 => exact HC0_3.out)
    rintro e w23 ⟨rfl, hb⟩
    refine ⟨_, rfl, ?_⟩
    replace BK420 := bb BK420 hb
    replace HB := bsw hb
    (try clear hb)
    (try clear hb2)
    (try clear hk)
    (try clear hi)
    refine hK.out _ _ ⟨bc0 BK420, bc1 BK420, bc2 BK420, bc3 BK420⟩ (fun hHeld => ?_)
    clear hK K
    refine norm_ (a' := ?_) ?_ ?_
    rotate_left
    ·show Act.put _ (some 18) _ = _
     simp only [Act.put, List.setIfInBounds_toArray, List.set_cons_zero, List.set_cons_succ, i64_w, i32_w]
     rfl
    refine put 7 11 #[true, true, true, true, true, true, true, true, false, false, false, false] HT_ ?_
    refine put 8 19 #[true, true, true, true, true, true, true, true, true, false, false, false] HT_ ?_
    refine put 9 20 #[true, true, true, true, true, true, true, true, true, true, false, false] HT_ ?_
    refine put 10 9 #[true, true, true, true, true, true, true, true, true, true, true, false] HT_ ?_
    refine put 11 10 #[true, true, true, true, true, true, true, true, true, true, true, true] HT_ ?_
    refine done_ (done_of HT_.out (by kernel_rfl)) ?_
    obtain ⟨hcz24_0, hcz24_1, hcz24_2, hcz24_3, hfz24_0, hfz24_1, hfz24_2, hfz24_3⟩ := cc4 BK420
    try go_wp2_with (first | (go_at_call 68; (with_reducible refine (impl_isSkewed.calls a0_0 a0_1 a0_2 _ _ l0_3 a3 true _ ?side1 ?side2 A8.out).mono ?_); (case side1 => exact cb HR0_3); (case side2 => exact HC0_3.out); rintro e w25 ⟨rfl, hb⟩; replace BK420 := bb BK420 hb; replace HB := bsw hb; (try clear hb); (try clear hb2); (try clear hk); (try clear hi); obtain ⟨hcz26_0, hcz26_1, hcz26_2, hcz26_3, hfz26_0, hfz26_1, hfz26_2, hfz26_3⟩ := cc4 BK420) | (go_at_call 69; (try simp only [i64_w, i32_w]); (with_reducible refine (impl_IsSafeMix.calls k a0_0 a0_1 a0_2 _ _ l0_3 a2 (wrap64 (a3 - (wrap64 (2 * a0_2)))) (wrap64 (a3 + (wrap64 (2 * a0_2)))) false _ ?side1 ?side2 A10.out).mono ?_); (case side1 => exact cb HR0_3); (case side2 => exact HC0_3.out); rintro e w27 ⟨rfl, hb⟩; replace BK420 := bb BK420 hb; replace HB := bsw hb; (try clear hb); (try clear hb2); (try clear hk); (try clear hi)))
    go_ret
    exact ⟨se, sbw⟩
  ·replace H := im H
   obtain rfl := Option.some.inj H
   go_enter Try.func17, Try.ntmps17
   try go_wp2_with (first | ((with_reducible refine gate_dst (N := 4) rfl ?_); refine bx 4 #[.int .i64 a0_0, .int .i64 a0_1, .int .i64 a0_2, .slice A0_3 l0_3.length c0_3] 29 ?_; intro gb420 hg w28 hbox hb; have BK420 := Aside0.mk hbox; have GW420 := bz w hg; have GE420 := bz w hg; replace HB := bs hb; clear hb hbox hg))
   replace BK420 := Aside0.mk (blk_drew BK420.out)
   replace HB := Aside0.mk (below_drew1 HB.out)
   refine start_ (n := 12) (S := fun w' => w'.cell? ⟨gb420, 0, none⟩ = some (.int .i64 a0_0) ∧ w'.cell? ⟨gb420, 1, none⟩ = some (.int .i64 a0_1) ∧ w'.cell? ⟨gb420, 2, none⟩ = some (.int .i64 a0_2) ∧ w'.cell? ⟨gb420, 3, none⟩ = some (.slice A0_3 l0_3.length c0_3)) (ds := []) #[false, false, false, false, false, false, false, false, false, false, false, false] (by kernel_rfl) rfl rfl ⟨bc0 BK420, bc1 BK420, bc2 BK420, bc3 BK420⟩ (fun hHeld => ?_); refine with_tabW impl_HopAt.tab1 impl_HopAt.bits1 (fun HT_ HW_ => ?_)
   generalize w28.drew = w29 at BK420 HB hHeld ⊢
   refine put 2 14 #[false, false, true, false, false, false, false, false, false, false, false, false] HT_ ?_
   refine put 4 16 #[false, false, true, false, true, false, false, false, false, false, false, false] HT_ ?_
   refine put 5 17 #[false, false, true, false, true, true, false, false, false, false, false, false] HT_ ?_
   refine tat4 0 12 #[true, false, true, false, true, true, false, false, false, false, false, false] HT_ HW_ hHeld ?_
   refine tat4 1 13 #[true, true, true, false, true, true, false, false, false, false, false, false] HT_ HW_ hHeld ?_
   refine one_ (i := 3) (N := some 15) #[true, true, true, true, true, true, false, false, false, false, false, false] rfl rfl (one_of HT_.out (by kernel_rfl)) (by decide) (fun K hK => ?_)
   refine goes_ Try.func52 (by kernel_rfl) rfl #[.agg #[.int .i64 a0_0, .int .i64 a0_1, .int .i64 a0_2, .slice A0_3 l0_3.length c0_3], .int .i64 a3] (by rfl) rfl rfl sl ?_
   with_reducible refine (impl_PieceAt.calls a0_0 a0_1 a0_2 _ _ l0_3 a3 t421 _ ?side1 ?side2 A5.out).mono ?_
   (case side1 => exact cb HR0_3)
   (case side2 => exact HC0_3.out)
   rintro e w30 ⟨rfl, hb⟩
   refine ⟨_, rfl, ?_⟩
   replace BK420 := bb BK420 hb
   replace HB := bsw hb
   (try clear hb)
   (try clear hb2)
   (try clear hk)
   (try clear hi)
   refine hK.out _ _ ⟨bc0 BK420, bc1 BK420, bc2 BK420, bc3 BK420⟩ (fun hHeld => ?_)
   clear hK K
   refine norm_ (a' := ?_) ?_ ?_
   rotate_left
   ·show Act.put _ (some 15) _ = _
    simp only [Act.put, List.setIfInBounds_toArray, List.set_cons_zero, List.set_cons_succ, i64_w, i32_w]
    rfl
   refine one_ (i := 6) (N := some 18) #[true, true, true, true, true, true, true, false, false, false, false, false] rfl rfl (one_of HT_.out (by kernel_rfl)) (by decide) (fun K hK => ?_)
   refine goes_ Try.func67 (by kernel_rfl) rfl #[.agg #[.int .i64 a0_0, .int .i64 a0_1, .int .i64 a0_2, .slice A0_3 l0_3.length c0_3], .int .i64 t421, .int .i64 a2, .int .i64 a1] (by rfl) rfl rfl sl ?_
   with_reducible refine (impl_nextIn.calls a0_0 a0_1 a0_2 _ _ l0_3 t421 a2 a1 t422 true _ ?side1 ?side2 A6.out).mono ?_
   (case side1 => exact cb HR0_3)
   (case side2 => exact HC0_3.out)
   rintro e w31 ⟨rfl, hb⟩
   refine ⟨_, rfl, ?_⟩
   replace BK420 := bb BK420 hb
   replace HB := bsw hb
   (try clear hb)
   (try clear hb2)
   (try clear hk)
   (try clear hi)
   refine hK.out _ _ ⟨bc0 BK420, bc1 BK420, bc2 BK420, bc3 BK420⟩ (fun hHeld => ?_)
   clear hK K
   refine norm_ (a' := ?_) ?_ ?_
   rotate_left
   ·show Act.put _ (some 18) _ = _
    simp only [Act.put, List.setIfInBounds_toArray, List.set_cons_zero, List.set_cons_succ, i64_w, i32_w]
    rfl
   refine put 7 11 #[true, true, true, true, true, true, true, true, false, false, false, false] HT_ ?_
   refine put 8 19 #[true, true, true, true, true, true, true, true, true, false, false, false] HT_ ?_
   refine put 9 20 #[true, true, true, true, true, true, true, true, true, true, false, false] HT_ ?_
   refine put 10 9 #[true, true, true, true, true, true, true, true, true, true, true, false] HT_ ?_
   refine put 11 10 #[true, true, true, true, true, true, true, true, true, true, true, true] HT_ ?_
   refine done_ (done_of HT_.out (by kernel_rfl)) ?_
   obtain ⟨hcz32_0, hcz32_1, hcz32_2, hcz32_3, hfz32_0, hfz32_1, hfz32_2, hfz32_3⟩ := cc4 BK420
   try go_wp2_with (first | (go_at_call 68; (with_reducible refine (impl_isSkewed.calls a0_0 a0_1 a0_2 _ _ l0_3 a3 false _ ?side1 ?side2 A8.out).mono ?_); (case side1 => exact cb HR0_3); (case side2 => exact HC0_3.out); rintro e w33 ⟨rfl, hb⟩; replace BK420 := bb BK420 hb; replace HB := bsw hb; (try clear hb); (try clear hb2); (try clear hk); (try clear hi)))
   go_ret
   exact ⟨se, sbw⟩
 ·replace H := im H
  obtain rfl := Option.some.inj H
  go_enter Try.func17, Try.ntmps17
  try go_wp2_with (first | ((with_reducible refine gate_dst (N := 4) rfl ?_); refine bx 4 #[.int .i64 a0_0, .int .i64 a0_1, .int .i64 a0_2, .slice A0_3 l0_3.length c0_3] 29 ?_; intro gb420 hg w34 hbox hb; have BK420 := Aside0.mk hbox; have GW420 := bz w hg; have GE420 := bz w hg; replace HB := bs hb; clear hb hbox hg))
  replace BK420 := Aside0.mk (blk_drew BK420.out)
  replace HB := Aside0.mk (below_drew1 HB.out)
  refine start_ (n := 12) (S := fun w' => w'.cell? ⟨gb420, 0, none⟩ = some (.int .i64 a0_0) ∧ w'.cell? ⟨gb420, 1, none⟩ = some (.int .i64 a0_1) ∧ w'.cell? ⟨gb420, 2, none⟩ = some (.int .i64 a0_2) ∧ w'.cell? ⟨gb420, 3, none⟩ = some (.slice A0_3 l0_3.length c0_3)) (ds := []) #[false, false, false, false, false, false, false, false, false, false, false, false] (by kernel_rfl) rfl rfl ⟨bc0 BK420, bc1 BK420, bc2 BK420, bc3 BK420⟩ (fun hHeld => ?_); refine with_tabW impl_HopAt.tab1 impl_HopAt.bits1 (fun HT_ HW_ => ?_)
  generalize w34.drew = w35 at BK420 HB hHeld ⊢
  refine put 2 14 #[false, false, true, false, false, false, false, false, false, false, false, false] HT_ ?_
  refine put 4 16 #[false, false, true, false, true, false, false, false, false, false, false, false] HT_ ?_
  refine put 5 17 #[false, false, true, false, true, true, false, false, false, false, false, false] HT_ ?_
  refine tat4 0 12 #[true, false, true, false, true, true, false, false, false, false, false, false] HT_ HW_ hHeld ?_
  refine tat4 1 13 #[true, true, true, false, true, true, false, false, false, false, false, false] HT_ HW_ hHeld ?_
  refine one_ (i := 3) (N := some 15) #[true, true, true, true, true, true, false, false, false, false, false, false] rfl rfl (one_of HT_.out (by kernel_rfl)) (by decide) (fun K hK => ?_)
  refine goes_ Try.func52 (by kernel_rfl) rfl #[.agg #[.int .i64 a0_0, .int .i64 a0_1, .int .i64 a0_2, .slice A0_3 l0_3.length c0_3], .int .i64 a3] (by rfl) rfl rfl sl ?_
  with_reducible refine (impl_PieceAt.calls a0_0 a0_1 a0_2 _ _ l0_3 a3 t421 _ ?side1 ?side2 A5.out).mono ?_
  (case side1 => exact cb HR0_3)
  (case side2 => exact HC0_3.out)
  rintro e w36 ⟨rfl, hb⟩
  refine ⟨_, rfl, ?_⟩
  replace BK420 := bb BK420 hb
  replace HB := bsw hb
  (try clear hb)
  (try clear hb2)
  (try clear hk)
  (try clear hi)
  refine hK.out _ _ ⟨bc0 BK420, bc1 BK420, bc2 BK420, bc3 BK420⟩ (fun hHeld => ?_)
  clear hK K
  refine norm_ (a' := ?_) ?_ ?_
  rotate_left
  ·show Act.put _ (some 15) _ = _
   simp only [Act.put, List.setIfInBounds_toArray, List.set_cons_zero, List.set_cons_succ, i64_w, i32_w]
   rfl
  refine one_ (i := 6) (N := some 18) #[true, true, true, true, true, true, true, false, false, false, false, false] rfl rfl (one_of HT_.out (by kernel_rfl)) (by decide) (fun K hK => ?_)
  refine goes_ Try.func67 (by kernel_rfl) rfl #[.agg #[.int .i64 a0_0, .int .i64 a0_1, .int .i64 a0_2, .slice A0_3 l0_3.length c0_3], .int .i64 t421, .int .i64 a2, .int .i64 a1] (by rfl) rfl rfl sl ?_
  with_reducible refine (impl_nextIn.calls a0_0 a0_1 a0_2 _ _ l0_3 t421 a2 a1 t422 false _ ?side1 ?side2 A6.out).mono ?_
  (case side1 => exact cb HR0_3)
  (case side2 => exact HC0_3.out)
  rintro e w37 ⟨rfl, hb⟩
  refine ⟨_, rfl, ?_⟩
  replace BK420 := bb BK420 hb
  replace HB := bsw hb
  (try clear hb)
  (try clear hb2)
  (try clear hk)
  (try clear hi)
  refine hK.out _ _ ⟨bc0 BK420, bc1 BK420, bc2 BK420, bc3 BK420⟩ (fun hHeld => ?_)
  clear hK K
  refine norm_ (a' := ?_) ?_ ?_
  rotate_left
  ·show Act.put _ (some 18) _ = _
   simp only [Act.put, List.setIfInBounds_toArray, List.set_cons_zero, List.set_cons_succ, i64_w, i32_w]
   rfl
  refine put 7 11 #[true, true, true, true, true, true, true, true, false, false, false, false] HT_ ?_
  refine put 8 19 #[true, true, true, true, true, true, true, true, true, false, false, false] HT_ ?_
  refine put 9 20 #[true, true, true, true, true, true, true, true, true, true, false, false] HT_ ?_
  refine put 10 9 #[true, true, true, true, true, true, true, true, true, true, true, false] HT_ ?_
  refine put 11 10 #[true, true, true, true, true, true, true, true, true, true, true, true] HT_ ?_
  refine done_ (done_of HT_.out (by kernel_rfl)) ?_
  try go_wp2
  go_ret
  exact ⟨se, sbw⟩

end Go.Proofs.Ytlakjlolahjphaa.QFnExactHeldAt
