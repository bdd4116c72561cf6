/- What the Go functions of the law FnExactNextsAt come to, as Lean functions, and that they do: by a program of the session, out of the kit's printer. Conditions: none. (squeezed). -/
import Derived.Test.YtlakjlolahjphaaVFnExactNextsAtSq
import Derived.Test.YtlakjlolahjphaaVFnExactNextsAtQFnExactNextsAtx0
import Derived.Test.YtlakjlolahjphaaVFnExactNextsAtQFnExactNextsAtx12
import Derived.Test.YtlakjlolahjphaaVFnExactNextsAtQFnExactNextsAtx14
namespace Go.Proofs.Ytlakjlolahjphaa.QFnExactNextsAt
open Go.RowKit Go.Proofs.YtlakjlolahjphaaW.PrintWords Go.Proofs.YtlakjlolahjphaaW.PrintLast Go.Proofs.YtlakjlolahjphaaW.PrintMore Go.Proofs.Ytlakjlolahjphaa.Open Go.Proofs.Ytlakjlolahjphaa.Sq
attribute [local go_sem] max2_int min2_int max_two min_two max_three min_three max_four min_four   -- for this text's walks alone
attribute [local go_sem] isSome_set
set_option linter.unusedVariables false
set_option linter.unusedSimpArgs false

/-! ### impl_HopAt: function 17 -/
def impl_HopAt.f (k : Nat) (a0_0 : Int) (a0_1 : Int) (a0_2 : Int) (l0_3 : List (S106)) (a1 : Int) (a2 : Int) (a3 : Int) : Option (Int) := (impl_PieceAt.f a0_0 a0_1 a0_2 l0_3 a3).bind fun t428 => ((impl_nextIn.f a0_0 a0_1 a0_2 l0_3 t428 a2 a1).bind fun bt429 => (if bt429.2 = true then ((impl_isSkewed.f a0_0 a0_1 a0_2 l0_3 a3).bind fun t431 => (if t431 = true then ((impl_IsSafeMix.f k a0_0 a0_1 a0_2 l0_3 a2 (wrap64 (a3 - (wrap64 (2 * a0_2)))) (wrap64 (a3 + (wrap64 (2 * a0_2))))).bind fun t432 => (if t432 = true then (some bt429.1) else (some (-1)))) else (some (-1)))) else (some (-1))))
theorem impl_HopAt.mono : ∀ a0 a1 a2 a3 a4 a5 a6 k, LeO (impl_HopAt.f k a0 a1 a2 a3 a4 a5 a6) (impl_HopAt.f (k + 1) a0 a1 a2 a3 a4 a5 a6) := by
  intro a0 a1 a2 a3 a4 a5 a6 k
  unfold impl_HopAt.f
  have m0 := @impl_IsSafeMix.mono
  exact mo
def impl_HopAt.T1 : Bool × List (List Nat × List Nat) := (true, [([], []), ([], []), ([], []), ([1, 2], [1, 2]), ([], []), ([], []), ([0, 3, 4, 5, 3], [0, 3, 4, 5]), ([6], [6]), ([7], [7]), ([7], [7]), ([8, 6, 0, 1, 2, 3, 4, 5, 6, 7, 8], [8]), ([9, 10, 0, 1, 2, 3, 4, 5, 6, 7, 8, 9, 10], [9])])
def impl_HopAt.B1 : List Nat := [0, 0, 0, 6, 0, 0, 63, 127, 255, 255, 511, 2047]
theorem impl_HopAt.tab1 : rtab .any (opsOf Try.f17 1) = impl_HopAt.T1 := by kernel_rfl
theorem impl_HopAt.bits1 : waitsOk impl_HopAt.T1.2 impl_HopAt.B1 = true := by kernel_rfl
set_option maxHeartbeats 8000000 in
set_option maxRecDepth 100000 in
theorem impl_HopAt.calls (k : Nat) (a0_0 : Int) (a0_1 : Int) (a0_2 : Int) (A0_3 : Option Addr) (c0_3 : Nat) (l0_3 : List (S106)) (a1 : Int) (a2 : Int) (a3 : Int) (r : Int) (w : World) (hr0_3 : Kd.C k106 w A0_3 l0_3.length l0_3) (hc0_3 : l0_3.length ≤ c0_3) (h : impl_HopAt.f k a0_0 a0_1 a0_2 l0_3 a1 a2 a3 = some r) :
    Calls Try.prog 17 #[.agg #[.int .i64 a0_0, .int .i64 a0_1, .int .i64 a0_2, .slice A0_3 l0_3.length c0_3], .int .i64 a1, .int .i64 a2, .int .i64 a3] w fun e w' => e = .returned (.int .i64 r) ∧ Below w.heap.size w w' := by
 have hu29 := Try.underlying29
 have HR0_3 := Aside0.mk hr0_3
 have HC0_3 := Aside0.mk hc0_3
 clear hr0_3 hc0_3
 have HB := Aside0.mk (Below.refl w.heap.size w)
 have H : ((impl_PieceAt.f a0_0 a0_1 a0_2 l0_3 a3).bind fun t428 => ((impl_nextIn.f a0_0 a0_1 a0_2 l0_3 t428 a2 a1).bind fun bt429 => (if bt429.2 = true then ((impl_isSkewed.f a0_0 a0_1 a0_2 l0_3 a3).bind fun t431 => (if t431 = true then ((impl_IsSafeMix.f k a0_0 a0_1 a0_2 l0_3 a2 (wrap64 (a3 - (wrap64 (2 * a0_2)))) (wrap64 (a3 + (wrap64 (2 * a0_2))))).bind fun t432 => (if t432 = true then (some bt429.1) else (some (-1)))) else (some (-1)))) else (some (-1))))) = some r := h
 clear h
 obtain ⟨t428, A5, H⟩ := bnd H
 obtain ⟨⟨t429, t430⟩, A6, H⟩ := bnd H
 replace H : (if t430 = true then ((impl_isSkewed.f a0_0 a0_1 a0_2 l0_3 a3).bind fun t431 => (if t431 = true then ((impl_IsSafeMix.f k a0_0 a0_1 a0_2 l0_3 a2 (wrap64 (a3 - (wrap64 (2 * a0_2)))) (wrap64 (a3 + (wrap64 (2 * a0_2))))).bind fun t432 => (if t432 = true then (some t429) else (some (-1)))) else (some (-1)))) else (some (-1))) = some r := H
 obtain rfl | rfl := tt t430
 ·replace H := ip H
  obtain ⟨t431, A8, H⟩ := bnd H
  obtain rfl | rfl := tt t431
  ·replace H := ip H
   obtain ⟨t432, A10, H⟩ := bnd H
   obtain rfl | rfl := tt t432
   ·replace H := ip H
    obtain rfl := Option.some.inj H
    go_enter Try.func17, Try.ntmps17
    try go_wp2_with (first | ((with_reducible refine gate_dst (N := 4) rfl ?_); refine bx 4 #[.int .i64 a0_0, .int .i64 a0_1, .int .i64 a0_2, .slice A0_3 l0_3.length c0_3] 29 ?_; intro gb427 hg w12 hbox hb; have BK427 := Aside0.mk hbox; have GW427 := bz w hg; have GE427 := bz w hg; replace HB := bs hb; clear hb hbox hg))
    replace BK427 := Aside0.mk (blk_drew BK427.out)
    replace HB := Aside0.mk (below_drew1 HB.out)
    refine start_ (n := 12) (S := fun w' => w'.cell? ⟨gb427, 0, none⟩ = some (.int .i64 a0_0) ∧ w'.cell? ⟨gb427, 1, none⟩ = some (.int .i64 a0_1) ∧ w'.cell? ⟨gb427, 2, none⟩ = some (.int .i64 a0_2) ∧ w'.cell? ⟨gb427, 3, none⟩ = some (.slice A0_3 l0_3.length c0_3)) (ds := []) #[false, false, false, false, false, false, false, false, false, false, false, false] (by kernel_rfl) rfl rfl ⟨bc0 BK427, bc1 BK427, bc2 BK427, bc3 BK427⟩ (fun hHeld => ?_); refine with_tabW impl_HopAt.tab1 impl_HopAt.bits1 (fun HT_ HW_ => ?_)
    generalize w12.drew = w13 at BK427 HB hHeld ⊢
    refine put 2 14 #[false, false, true, false, false, false, false, false, false, false, false, false] HT_ ?_
    refine put 4 16 #[false, false, true, false, true, false, false, false, false, false, false, false] HT_ ?_
    refine put 5 17 #[false, false, true, false, true, true, false, false, false, false, false, false] HT_ ?_
    refine tat4 0 12 #[true, false, true, false, true, true, false, false, false, false, false, false] HT_ HW_ hHeld ?_
    refine tat4 1 13 #[true, true, true, false, true, true, false, false, false, false, false, false] HT_ HW_ hHeld ?_
    refine one_ (i := 3) (N := some 15) #[true, true, true, true, true, true, false, false, false, false, false, false] rfl rfl (one_of HT_.out (by kernel_rfl)) (by decide) (fun K hK => ?_)
    refine goes_ Try.func52 (by kernel_rfl) rfl #[.agg #[.int .i64 a0_0, .int .i64 a0_1, .int .i64 a0_2, .slice A0_3 l0_3.length c0_3], .int .i64 a3] (by rfl) rfl rfl sl ?_
    with_reducible refine (impl_PieceAt.calls a0_0 a0_1 a0_2 _ _ l0_3 a3 t428 _ ?side1 ?side2 A5.out).mono ?_
    (case side1 => exact cb HR0_3)
    (case side2 => exact HC0_3.out)
    rintro e w14 ⟨rfl, hb⟩
    refine ⟨_, rfl, ?_⟩
    replace BK427 := bb BK427 hb
    replace HB := bsw hb
    (try clear hb)
    (try clear hb2)
    (try clear hk)
    (try clear hi)
    refine hK.out _ _ ⟨bc0 BK427, bc1 BK427, bc2 BK427, bc3 BK427⟩ (fun hHeld => ?_)
    clear hK K
    refine norm_ (a' := ?_) ?_ ?_
    rotate_left
    ·show Act.put _ (some 15) _ = _
     simp only [Act.put, List.setIfInBounds_toArray, List.set_cons_zero, List.set_cons_succ, i64_w, i32_w]
     rfl
    refine one_ (i := 6) (N := some 18) #[true, true, true, true, true, true, true, false, false, false, false, false] rfl rfl (one_of HT_.out (by kernel_rfl)) (by decide) (fun K hK => ?_)
    refine goes_ Try.func67 (by kernel_rfl) rfl #[.agg #[.int .i64 a0_0, .int .i64 a0_1, .int .i64 a0_2, .slice A0_3 l0_3.length c0_3], .int .i64 t428, .int .i64 a2, .int .i64 a1] (by rfl) rfl rfl sl ?_
    with_reducible refine (impl_nextIn.calls a0_0 a0_1 a0_2 _ _ l0_3 t428 a2 a1 t429 true _ ?side1 ?side2 A6.out).mono ?_
    (case side1 => exact cb HR0_3)
    (case side2 => exact HC0_3.out)
    rintro e w15 ⟨rfl, hb⟩
    refine ⟨_, rfl, ?_⟩
    replace BK427 := bb BK427 hb
    replace HB := bsw hb
    (try clear hb)
    (try clear hb2)
    (try clear hk)
    (try clear hi)
    refine hK.out _ _ ⟨bc0 BK427, bc1 BK427, bc2 BK427, bc3 BK427⟩ (fun hHeld => ?_)
    clear hK K
    refine norm_ (a' := ?_) ?_ ?_
    rotate_left
    ·show Act.put _ (some 18) _ = _
     simp only [Act.put, List.setIfInBounds_toArray, List.set_cons_zero, List.set_cons_succ, i64_w, i32_w]
     rfl
    refine put 7 11 #[true, true, true, true, true, true, true, true, false, false, false, false] HT_ ?_
    refine put 8 19 #[true, true, true, true, true, true, true, true, true, false, false, false] HT_ ?_
    refine put 9 20 #[true, true, true, true, true, true, true, true, true, true, false, false] HT_ ?_
    refine put 10 9 #[true, true, true, true, true, true, true, true, true, true, true, false] HT_ ?_
    refine put 11 10 #[true, true, true, true, true, true, true, true, true, true, true, true] HT_ ?_
    refine done_ (done_of HT_.out (by kernel_rfl)) ?_
    obtain ⟨hcz16_0, hcz16_1, hcz16_2, hcz16_3, hfz16_0, hfz16_1, hfz16_2, hfz16_3⟩ := cc4 BK427
    try go_wp2_with (first | (go_at_call 68; (with_reducible refine (impl_isSkewed.calls a0_0 a0_1 a0_2 _ _ l0_3 a3 true _ ?side1 ?side2 A8.out).mono ?_); (case side1 => exact cb HR0_3); (case side2 => exact HC0_3.out); rintro e w17 ⟨rfl, hb⟩; replace BK427 := bb BK427 hb; replace HB := bsw hb; (try clear hb); (try clear hb2); (try clear hk); (try clear hi); obtain ⟨hcz18_0, hcz18_1, hcz18_2, hcz18_3, hfz18_0, hfz18_1, hfz18_2, hfz18_3⟩ := cc4 BK427) | (go_at_call 69; (try simp only [i64_w, i32_w]); (with_reducible refine (impl_IsSafeMix.calls k a0_0 a0_1 a0_2 _ _ l0_3 a2 (wrap64 (a3 - (wrap64 (2 * a0_2)))) (wrap64 (a3 + (wrap64 (2 * a0_2)))) true _ ?side1 ?side2 A10.out).mono ?_); (case side1 => exact cb HR0_3); (case side2 => exact HC0_3.out); rintro e w19 ⟨rfl, hb⟩; replace BK427 := bb BK427 hb; replace HB := bsw hb; (try clear hb); (try clear hb2); (try clear hk); (try clear hi)))
    go_ret
    exact ⟨se, sbw⟩
   ·replace H := im H
    obtain rfl := Option.some.inj H
    go_enter Try.func17, Try.ntmps17
    try go_wp2_with (first | ((with_reducible refine gate_dst (N := 4) rfl ?_); refine bx 4 #[.int .i64 a0_0, .int .i64 a0_1, .int .i64 a0_2, .slice A0_3 l0_3.length c0_3] 29 ?_; intro gb427 hg w20 hbox hb; have BK427 := Aside0.mk hbox; have GW427 := bz w hg; have GE427 := bz w hg; replace HB := bs hb; clear hb hbox hg))
    replace BK427 := Aside0.mk (blk_drew BK427.out)
    replace HB := Aside0.mk (below_drew1 HB.out)
    refine start_ (n := 12) (S := fun w' => w'.cell? ⟨gb427, 0, none⟩ = some (.int .i64 a0_0) ∧ w'.cell? ⟨gb427, 1, none⟩ = some (.int .i64 a0_1) ∧ w'.cell? ⟨gb427, 2, none⟩ = some (.int .i64 a0_2) ∧ w'.cell? ⟨gb427, 3, none⟩ = some (.slice A0_3 l0_3.length c0_3)) (ds := []) #[false, false, false, false, false, false, false, false, false, false, false, false] (by kernel_rfl) rfl rfl ⟨bc0 BK427, bc1 BK427, bc2 BK427, bc3 BK427⟩ (fun hHeld => ?_); refine with_tabW impl_HopAt.tab1 impl_HopAt.bits1 (fun HT_ HW_ => ?_)
    generalize w20.drew = w21 at BK427 HB hHeld ⊢
    refine put 2 14 #[false, false, true, false, false, false, false, false, false, false, false, false] HT_ ?_
    refine put 4 16 #[false, false, true, false, true, false, false, false, false, false, false, false] HT_ ?_
    refine put 5 17 #[false, false, true, false, true, true, false, false, false, false, false, false] HT_ ?_
    refine tat4 0 12 #[true, false, true, false, true, true, false, false, false, false, false, false] HT_ HW_ hHeld ?_
    refine tat4 1 13 #[true, true, true, false, true, true, false, false, false, false, false, false] HT_ HW_ hHeld ?_
    refine one_ (i := 3) (N := some 15) #[true, true, true, true, true, true, false, false, false, false, false, false] rfl rfl (one_of HT_.out (by kernel_rfl)) (by decide) (fun K hK => ?_)
    refine goes_ Try.func52 (by kernel_rfl) rfl #[.agg #[.int .i64 a0_0, .int .i64 a0_1, .int .i64 a0_2, .slice A0_3 l0_3.length c0_3], .int .i64 a3] (by rfl) rfl rfl sl ?_
    with_reducible refine (impl_PieceAt.calls a0_0 a0_1 a0_2 _ _ l0_3 a3 t428 _ ?side1 ?side2 A5.out).mono ?_
    (case side1 => exact cb HR0_3)
    (case side2 => exact HC0_3.out)
    rintro e w22 ⟨rfl, hb⟩
    refine ⟨_, rfl, ?_⟩
    replace BK427 := bb BK427 hb
    replace HB := bsw hb
    (try clear hb)
    (try clear hb2)
    (try clear hk)
    (try clear hi)
    refine hK.out _ _ ⟨bc0 BK427, bc1 BK427, bc2 BK427, bc3 BK427⟩ (fun hHeld => ?_)
    clear hK K
    refine norm_ (a' := ?_) ?_ ?_
    rotate_left
    ·show Act.put _ (some 15) _ = _
     simp only [Act.put, List.setIfInBounds_toArray, List.set_cons_zero, List.set_cons_succ, i64_w, i32_w]
     rfl
    refine one_ (i := 6) (N := some 18) #[true, true, true, true, true, true, true, false, false, false, false, false] rfl rfl (one_of HT_.out (by kernel_rfl)) (by decide) (fun K hK => ?_)
    refine goes_ Try.func67 (by kernel_rfl) rfl #[.agg #[.int .i64 a0_0, .int .i64 a0_1, .int .i64 a0_2, .slice A0_3 l0_3.length c0_3], .int .i64 t428, .int .i64 a2, .int .i64 a1] (by rfl) rfl rfl sl ?_
    with_reducible refine (impl_nextIn.calls a0_0 a0_1 a0_2 _ _ l0_3 t428 a2 a1 t429 true _ ?side1 ?side2 A6.out).mono ?_
    (case side1 => exact cb HR0_3)
    (case side2 => exact HC0_3.out)
    rintro e w23 ⟨rfl, hb⟩
    refine ⟨_, rfl, ?_⟩
    replace BK427 := bb BK427 hb
    replace HB := bsw hb
    (try clear hb)
    (try clear hb2)
    (try clear hk)
    (try clear hi)
    refine hK.out _ _ ⟨bc0 BK427, bc1 BK427, bc2 BK427, bc3 BK427⟩ (fun hHeld => ?_)
    clear hK K
    refine norm_ (a' := ?_) ?_ ?_
    rotate_left
    ·show Act.put _ (some 18) _ = _
     simp only [Act.put, List.setIfInBounds_toArray, List.set_cons_zero, List.set_cons_succ, i64_w, i32_w]
     rfl
    refine put 7 11 #[true, true, true, true, true, true, true, true, false, false, false, false] HT_ ?_
    refine put 8 19 #[true, true, true, true, true, true, true, true, true, false, false, false] HT_ ?_
    refine put 9 20 #[true, true, true, true, true, true, true, true, true, true, false, false] HT_ ?_
    refine put 10 9 #[true, true, true, true, true, true, true, true, true, true, true, false] HT_ ?_
    refine put 11 10 #[true, true, true, true, true, true, true, true, true, true, true, true] HT_ ?_
    refine done_ (done_of HT_.out (by kernel_rfl)) ?_
    obtain ⟨hcz24_0, hcz24_1, hcz24_2, hcz24_3, hfz24_0, hfz24_1, hfz24_2, hfz24_3⟩ := cc4 BK427
    try go_wp2_with (first | (go_at_call 68; (with_reducible refine (impl_isSkewed.calls a0_0 a0_1 a0_2 _ _ l0_3 a3 true _ ?side1 ?side2 A8.out).mono ?_); (case side1 => exact cb HR0_3); (case side2 => exact HC0_3.out); rintro e w25 ⟨rfl, hb⟩; replace BK427 := bb BK427 hb; replace HB := bsw hb; (try clear hb); (try clear hb2); (try clear hk); (try clear hi); obtain ⟨hcz26_0, hcz26_1, hcz26_2, hcz26_3, hfz26_0, hfz26_1, hfz26_2, hfz26_3⟩ := cc4 BK427) | (go_at_call 69; (try simp only [i64_w, i32_w]); (with_reducible refine (impl_IsSafeMix.calls k a0_0 a0_1 a0_2 _ _ l0_3 a2 (wrap64 (a3 - (wrap64 (2 * a0_2)))) (wrap64 (a3 + (wrap64 (2 * a0_2)))) false _ ?side1 ?side2 A10.out).mono ?_); (case side1 => exact cb HR0_3); (case side2 => exact HC0_3.out); rintro e w27 ⟨rfl, hb⟩; replace BK427 := bb BK427 hb; replace HB := bsw hb; (try clear hb); (try clear hb2); (try clear hk); (try clear hi)))
    go_ret
    exact ⟨se, sbw⟩
  ·replace H := im H
   obtain rfl := Option.some.inj H
   go_enter Try.func17, Try.ntmps17
   try go_wp2_with (first | ((with_reducible refine gate_dst (N := 4) rfl ?_); refine bx 4 #[.int .i64 a0_0, .int .i64 a0_1, .int .i64 a0_2, .slice A0_3 l0_3.length c0_3] 29 ?_; intro gb427 hg w28 hbox hb; have BK427 := Aside0.mk hbox; have GW427 := bz w hg; have GE427 := bz w hg; replace HB := bs hb; clear hb hbox hg))
   replace BK427 := Aside0.mk (blk_drew BK427.out)
   replace HB := Aside0.mk (below_drew1 HB.out)
   refine start_ (n := 12) (S := fun w' => w'.cell? ⟨gb427, 0, none⟩ = some (.int .i64 a0_0) ∧ w'.cell? ⟨gb427, 1, none⟩ = some (.int .i64 a0_1) ∧ w'.cell? ⟨gb427, 2, none⟩ = some (.int .i64 a0_2) ∧ w'.cell? ⟨gb427, 3, none⟩ = some (.slice A0_3 l0_3.length c0_3)) (ds := []) #[false, false, false, false, false, false, false, false, false, false, false, false] (by kernel_rfl) rfl rfl ⟨bc0 BK427, bc1 BK427, bc2 BK427, bc3 BK427⟩ (fun hHeld => ?_); refine with_tabW impl_HopAt.tab1 impl_HopAt.bits1 (fun HT_ HW_ => ?_)
   generalize w28.drew = w29 at BK427 HB hHeld ⊢
   refine put 2 14 #[false, false, true, false, false, false, false, false, false, false, false, false] HT_ ?_
   refine put 4 16 #[false, false, true, false, true, false, false, false, false, false, false, false] HT_ ?_
   refine put 5 17 #[false, false, true, false, true, true, false, false, false, false, false, false] HT_ ?_
   refine tat4 0 12 #[true, false, true, false, true, true, false, false, false, false, false, false] HT_ HW_ hHeld ?_
   refine tat4 1 13 #[true, true, true, false, true, true, false, false, false, false, false, false] HT_ HW_ hHeld ?_
   refine one_ (i := 3) (N := some 15) #[true, true, true, true, true, true, false, false, false, false, false, false] rfl rfl (one_of HT_.out (by kernel_rfl)) (by decide) (fun K hK => ?_)
   refine goes_ Try.func52 (by kernel_rfl) rfl #[.agg #[.int .i64 a0_0, .int .i64 a0_1, .int .i64 a0_2, .slice A0_3 l0_3.length c0_3], .int .i64 a3] (by rfl) rfl rfl sl ?_
   with_reducible refine (impl_PieceAt.calls a0_0 a0_1 a0_2 _ _ l0_3 a3 t428 _ ?side1 ?side2 A5.out).mono ?_
   (case side1 => exact cb HR0_3)
   (case side2 => exact HC0_3.out)
   rintro e w30 ⟨rfl, hb⟩
   refine ⟨_, rfl, ?_⟩
   replace BK427 := bb BK427 hb
   replace HB := bsw hb
   (try clear hb)
   (try clear hb2)
   (try clear hk)
   (try clear hi)
   refine hK.out _ _ ⟨bc0 BK427, bc1 BK427, bc2 BK427, bc3 BK427⟩ (fun hHeld => ?_)
   clear hK K
   refine norm_ (a' := ?_) ?_ ?_
   rotate_left
   ·show Act.put _ (some 15) _ = _
    simp only [Act.put, List.setIfInBounds_toArray, List.set_cons_zero, List.set_cons_succ, i64_w, i32_w]
    rfl
   refine one_ (i := 6) (N := some 18) #[true, true, true, true, true, true, true, false, false, false, false, false] rfl rfl (one_of HT_.out (by kernel_rfl)) (by decide) (fun K hK => ?_)
   refine goes_ Try.func67 (by kernel_rfl) rfl #[.agg #[.int .i64 a0_0, .int .i64 a0_1, .int .i64 a0_2, .slice A0_3 l0_3.length c0_3], .int .i64 t428, .int .i64 a2, .int .i64 a1] (by rfl) rfl rfl sl ?_
   with_reducible refine (impl_nextIn.calls a0_0 a0_1 a0_2 _ _ l0_3 t428 a2 a1 t429 true _ ?side1 ?side2 A6.out).mono ?_
   (case side1 => exact cb HR0_3)
   (case side2 => exact HC0_3.out)
   rintro e w31 ⟨rfl, hb⟩
   refine ⟨_, rfl, ?_⟩
   replace BK427 := bb BK427 hb
   replace HB := bsw hb
   (try clear hb)
   (try clear hb2)
   (try clear hk)
   (try clear hi)
   refine hK.out _ _ ⟨bc0 BK427, bc1 BK427, bc2 BK427, bc3 BK427⟩ (fun hHeld => ?_)
   clear hK K
   refine norm_ (a' := ?_) ?_ ?_
   rotate_left
   ·show Act.put _ (some 18) _ = _
    simp only [Act.put, List.setIfInBounds_toArray, List.set_cons_zero, List.set_cons_succ, i64_w, i32_w]
    rfl
   refine put 7 11 #[true, true, true, true, true, true, true, true, false, false, false, false] HT_ ?_
   refine put 8 19 #[true, true, true, true, true, true, true, true, true, false, false, false] HT_ ?_
   refine put 9 20 #[true, true, true, true, true, true, true, true, true, true, false, false] HT_ ?_
   refine put 10 9 #[true, true, true, true, true, true, true, true, true, true, true, false] HT_ ?_
   refine put 11 10 #[true, true, true, true, true, true, true, true, true, true, true, true] HT_ ?_
   refine done_ (done_of HT_.out (by kernel_rfl)) ?_
   obtain ⟨hcz32_0, hcz32_1, hcz32_2, hcz32_3, hfz32_0, hfz32_1, hfz32_2, hfz32_3⟩ := cc4 BK427
   try go_wp2_with (first | (go_at_call 68; (with_reducible refine (impl_isSkewed.calls a0_0 a0_1 a0_2 _ _ l0_3 a3 false _ ?side1 ?side2 A8.out).mono ?_); (case side1 => exact cb HR0_3); (case side2 => exact HC0_3.out); rintro e w33 ⟨rfl, hb⟩; replace BK427 := bb BK427 hb; replace HB := bsw hb; (try clear hb); (try clear hb2); (try clear hk); (try clear hi)))
   go_ret
   exact ⟨se, sbw⟩
 ·replace H := im H
  obtain rfl := Option.some.inj H
  go_enter Try.func17, Try.ntmps17
  try go_wp2_with (first | ((with_reducible refine gate_dst (N := 4) rfl ?_); refine bx 4 #[.int .i64 a0_0, .int .i64 a0_1, .int .i64 a0_2, .slice A0_3 l0_3.length c0_3] 29 ?_; intro gb427 hg w34 hbox hb; have BK427 := Aside0.mk hbox; have GW427 := bz w hg; have GE427 := bz w hg; replace HB := bs hb; clear hb hbox hg))
  replace BK427 := Aside0.mk (blk_drew BK427.out)
  replace HB := Aside0.mk (below_drew1 HB.out)
  refine start_ (n := 12) (S := fun w' => w'.cell? ⟨gb427, 0, none⟩ = some (.int .i64 a0_0) ∧ w'.cell? ⟨gb427, 1, none⟩ = some (.int .i64 a0_1) ∧ w'.cell? ⟨gb427, 2, none⟩ = some (.int .i64 a0_2) ∧ w'.cell? ⟨gb427, 3, none⟩ = some (.slice A0_3 l0_3.length c0_3)) (ds := []) #[false, false, false, false, false, false, false, false, false, false, false, false] (by kernel_rfl) rfl rfl ⟨bc0 BK427, bc1 BK427, bc2 BK427, bc3 BK427⟩ (fun hHeld => ?_); refine with_tabW impl_HopAt.tab1 impl_HopAt.bits1 (fun HT_ HW_ => ?_)
  generalize w34.drew = w35 at BK427 HB hHeld ⊢
  refine put 2 14 #[false, false, true, false, false, false, false, false, false, false, false, false] HT_ ?_
  refine put 4 16 #[false, false, true, false, true, false, false, false, false, false, false, false] HT_ ?_
  refine put 5 17 #[false, false, true, false, true, true, false, false, false, false, false, false] HT_ ?_
  refine tat4 0 12 #[true, false, true, false, true, true, false, false, false, false, false, false] HT_ HW_ hHeld ?_
  refine tat4 1 13 #[true, true, true, false, true, true, false, false, false, false, false, false] HT_ HW_ hHeld ?_
  refine one_ (i := 3) (N := some 15) #[true, true, true, true, true, true, false, false, false, false, false, false] rfl rfl (one_of HT_.out (by kernel_rfl)) (by decide) (fun K hK => ?_)
  refine goes_ Try.func52 (by kernel_rfl) rfl #[.agg #[.int .i64 a0_0, .int .i64 a0_1, .int .i64 a0_2, .slice A0_3 l0_3.length c0_3], .int .i64 a3] (by rfl) rfl rfl sl ?_
  with_reducible refine (impl_PieceAt.calls a0_0 a0_1 a0_2 _ _ l0_3 a3 t428 _ ?side1 ?side2 A5.out).mono ?_
  (case side1 => exact cb HR0_3)
  (case side2 => exact HC0_3.out)
  rintro e w36 ⟨rfl, hb⟩
  refine ⟨_, rfl, ?_⟩
  replace BK427 := bb BK427 hb
  replace HB := bsw hb
  (try clear hb)
  (try clear hb2)
  (try clear hk)
  (try clear hi)
  refine hK.out _ _ ⟨bc0 BK427, bc1 BK427, bc2 BK427, bc3 BK427⟩ (fun hHeld => ?_)
  clear hK K
  refine norm_ (a' := ?_) ?_ ?_
  rotate_left
  ·show Act.put _ (some 15) _ = _
   simp only [Act.put, List.setIfInBounds_toArray, List.set_cons_zero, List.set_cons_succ, i64_w, i32_w]
   rfl
  refine one_ (i := 6) (N := some 18) #[true, true, true, true, true, true, true, false, false, false, false, false] rfl rfl (one_of HT_.out (by kernel_rfl)) (by decide) (fun K hK => ?_)
  refine goes_ Try.func67 (by kernel_rfl) rfl #[.agg #[.int .i64 a0_0, .int .i64 a0_1, .int .i64 a0_2, .slice A0_3 l0_3.length c0_3], .int .i64 t428, .int .i64 a2, .int .i64 a1] (by rfl) rfl rfl sl ?_
  with_reducible refine (impl_nextIn.calls a0_0 a0_1 a0_2 _ _ l0_3 t428 a2 a1 t429 false _ ?side1 ?side2 A6.out).mono ?_
  (case side1 => exact cb HR0_3)
  (case side2 => exact HC0_3.out)
  rintro e w37 ⟨rfl, hb⟩
  refine ⟨_, rfl, ?_⟩
  replace BK427 := bb BK427 hb
  replace HB := bsw hb
  (try clear hb)
  (try clear hb2)
  (try clear hk)
  (try clear hi)
  refine hK.out _ _ ⟨bc0 BK427, bc1 BK427, bc2 BK427, bc3 BK427⟩ (fun hHeld => ?_)
  clear hK K
  refine norm_ (a' := ?_) ?_ ?_
  rotate_left
  ·show Act.put _ (some 18) _ = _
   simp only [Act.put, List.setIfInBounds_toArray, List.set_cons_zero, List.set_cons_succ, i64_w, i32_w]
   rfl
  refine put 7 11 #[true, true, true, true, true, true, true, true, false, false, false, false] HT_ ?_
  refine put 8 19 #[true, true, true, true, true, true, true, true, true, false, false, false] HT_ ?_
  refine put 9 20 #[true, true, true, true, true, true, true, true, true, true, false, false] HT_ ?_
  refine put 10 9 #[true, true, true, true, true, true, true, true, true, true, true, false] HT_ ?_
  refine put 11 10 #[true, true, true, true, true, true, true, true, true, true, true, true] HT_ ?_
  refine done_ (done_of HT_.out (by kernel_rfl)) ?_
  try go_wp2
  go_ret
  exact ⟨se, sbw⟩

/-! ### impl_AreOffsets: function 136 -/
def impl_AreOffsets.l0 : Nat → List Int → Int → Int → Int → Int → Int → List (S106) → Option (Bool)
  | 0, _, _, _, _, _, _, _ => none
  | k + 1, x12, x13, x14, x434000, x434001, x434002, x434003 => if x14 < x13 then (if 0 ≤ x14 then (if x14 < (x12.length : Int) then ((impl_InRange.f x434002 0 5).bind fun t435 => (if t435 = true then ((impl_InRange.f (rd x12 x14) (wrap64 (-x434002)) x434002).bind fun t436 => (if t436 = true then (impl_AreOffsets.l0 k x12 x13 (wrap64 (x14 + 1)) x434000 x434001 x434002 x434003) else (some false))) else (some false))) else (none)) else (none)) else (some true)
def impl_AreOffsets.f (k : Nat) (a0_0 : Int) (a0_1 : Int) (a0_2 : Int) (l0_3 : List (S106)) (l1 : List Int) : Option (Bool) := if (l1.length : Int) = a0_0 then (impl_AreOffsets.l0 k l1 (l1.length : Int) 0 a0_0 a0_1 a0_2 l0_3) else (some false)
theorem impl_AreOffsets.mono_l : ∀ k, (∀ y0 y1 y2 y3 y4 y5 y6, LeO (impl_AreOffsets.l0 k y0 y1 y2 y3 y4 y5 y6) (impl_AreOffsets.l0 (k + 1) y0 y1 y2 y3 y4 y5 y6))
  | 0 => fun _ _ _ _ _ _ _ r h => by simp [impl_AreOffsets.l0] at h
  | k + 1 => by
    have ih0 := impl_AreOffsets.mono_l k
    · intro y0 y1 y2 y3 y4 y5 y6
      unfold impl_AreOffsets.l0
      exact mo
theorem impl_AreOffsets.mono : ∀ a0 a1 a2 a3 a4 k, LeO (impl_AreOffsets.f k a0 a1 a2 a3 a4) (impl_AreOffsets.f (k + 1) a0 a1 a2 a3 a4) := by
  intro a0 a1 a2 a3 a4 k
  have ih0 := impl_AreOffsets.mono_l k
  unfold impl_AreOffsets.f
  exact mo
set_option maxHeartbeats 8000000 in
set_option maxRecDepth 100000 in
theorem impl_AreOffsets.calls (k : Nat) (a0_0 : Int) (a0_1 : Int) (a0_2 : Int) (A0_3 : Option Addr) (c0_3 : Nat) (l0_3 : List (S106)) (A1 : Option Addr) (c1 : Nat) (l1 : List Int) (r : Bool) (w : World) (hr0_3 : Kd.C k106 w A0_3 l0_3.length l0_3) (hc0_3 : l0_3.length ≤ c0_3) (hr1 : Kd.C (Kd.int .i64) w A1 l1.length l1) (hc1 : l1.length ≤ c1) (h : impl_AreOffsets.f k a0_0 a0_1 a0_2 l0_3 l1 = some r) :
    Calls Try.prog 136 #[.agg #[.int .i64 a0_0, .int .i64 a0_1, .int .i64 a0_2, .slice A0_3 l0_3.length c0_3], .slice A1 l1.length c1] w fun e w' => e = .returned (.bool r) ∧ Below w.heap.size w w' := by
 have hu29 := Try.underlying29
 have HR0_3 := Aside0.mk hr0_3
 have HC0_3 := Aside0.mk hc0_3
 clear hr0_3 hc0_3
 have HR1 := Aside0.mk hr1
 have HC1 := Aside0.mk hc1
 clear hr1 hc1
 have HB := Aside0.mk (Below.refl w.heap.size w)
 have H : (if (l1.length : Int) = a0_0 then (impl_AreOffsets.l0 k l1 (l1.length : Int) 0 a0_0 a0_1 a0_2 l0_3) else (some false)) = some r := h
 clear h
 obtain ⟨c3, H⟩ | ⟨c3, H⟩ := ie_ H
 ·have c3b0 : ((l1.length : Int) == a0_0) = true := beq_iff_eq.mpr c3
  have c3b1 : ((l1.length : Int) != a0_0) = false := bne_eq_false_iff_eq.mpr c3
  clear c3
  have H' := Aside0.mk H
  clear H
  go_enter Try.func136, Try.ntmps136
  go_wp2_with (first | ((with_reducible refine gate_dst (N := 2) rfl ?_); refine bx 2 #[.int .i64 a0_0, .int .i64 a0_1, .int .i64 a0_2, .slice A0_3 l0_3.length c0_3] 29 ?_; intro gb433 hg w4 hbox hb; have BK433 := Aside0.mk hbox; have GW433 := bz w hg; have GE433 := bz w hg; replace HB := bs hb; clear hb hbox hg; obtain ⟨hcz5_0, hcz5_1, hcz5_2, hcz5_3, hfz5_0, hfz5_1, hfz5_2, hfz5_3⟩ := cc4 BK433))
  go_loopg [14] k (fun kq v14 w' => ∃ (x14_1 : Int), v14 = .int .i64 x14_1 ∧ Aside0 (impl_AreOffsets.l0 kq l1 (l1.length : Int) x14_1 a0_0 a0_1 a0_2 l0_3 = some r) ∧ Aside0 (kq ≤ k) ∧ Aside0 (w'.heap[gb433]? = some (.cells #[.int .i64 a0_0, .int .i64 a0_1, .int .i64 a0_2, (.slice A0_3 l0_3.length c0_3)] 29 (0, 0))) ∧ Aside0 (Below w.heap.size w w'))
  case atStart => exact ⟨(0), sc, H', kk0, ⟨sk BK433⟩, ⟨sbw⟩⟩
  case round =>
   clear H'
   try clear c3
   try clear c3b0
   try clear c3b1
   try clear hcz5_0
   try clear hcz5_1
   try clear hcz5_2
   try clear hcz5_3
   try clear hfz5_0
   try clear hfz5_1
   try clear hfz5_2
   try clear hfz5_3
   obtain ⟨x14_1, rfl, HA, HK1, BK433, HB⟩ := hrel
   cases gk with
   | zero => exact absurd HA.out (by simp [impl_AreOffsets.l0])
   | succ k1 =>
    have H := HA.out
    clear HA
    simp only [impl_AreOffsets.l0] at H
    obtain ⟨c6, H⟩ | ⟨c6, H⟩ := ie_ H
    ·have c6b0 := decide_eq_true c6
     clear c6
     obtain ⟨c7b0, H⟩ := id_ H
     obtain ⟨c8b0, H⟩ := id_ H
     obtain ⟨t435, A9, H⟩ := bnd H
     obtain rfl | rfl := tt t435
     ·replace H := ip H
      obtain ⟨t436, A11, H⟩ := bnd H
      obtain rfl | rfl := tt t436
      ·replace H := ip H
       have H' := Aside0.mk H
       clear H
       obtain ⟨p434, q434, ad434, e434, _, hx434_0⟩ := at_i HR1 HB x14_1
       cases e434
       obtain ⟨hcz13_0, hcz13_1, hcz13_2, hcz13_3, hfz13_0, hfz13_1, hfz13_2, hfz13_3⟩ := cc4 BK433
       go_wp2_with (first | ((with_reducible refine gate_callee (f := 89) rfl ?_); refine gL (some 20) Try.func89 #[.int .i64 a0_2, .int .i64 0, .int .i64 5] ?_; (with_reducible refine (impl_InRange.calls a0_2 0 5 true _ A9.out).mono ?_); rintro e w' ⟨rfl, ⟨nd, rfl⟩⟩; refine ⟨_, rfl, ?_⟩) | (go_at_call 89; (try simp only [i64_w, i32_w]); (with_reducible refine (impl_InRange.calls (rd l1 x14_1) (wrap64 (-a0_2)) a0_2 true _ A11.out).mono ?_); rintro e w' ⟨rfl, ⟨nd, rfl⟩⟩))
       go_roundg k1
       case measure => have := HK1.out; omega
       case rel => exact ⟨(wrap64 (x14_1 + 1)), sc, H', kk1, ⟨sk BK433⟩, ⟨sbw⟩⟩
      ·replace H := im H
       obtain rfl := Option.some.inj H
       obtain ⟨p434, q434, ad434, e434, _, hx434_0⟩ := at_i HR1 HB x14_1
       cases e434
       obtain ⟨hcz14_0, hcz14_1, hcz14_2, hcz14_3, hfz14_0, hfz14_1, hfz14_2, hfz14_3⟩ := cc4 BK433
       go_wp2_with (first | ((with_reducible refine gate_callee (f := 89) rfl ?_); refine gL (some 20) Try.func89 #[.int .i64 a0_2, .int .i64 0, .int .i64 5] ?_; (with_reducible refine (impl_InRange.calls a0_2 0 5 true _ A9.out).mono ?_); rintro e w' ⟨rfl, ⟨nd, rfl⟩⟩; refine ⟨_, rfl, ?_⟩) | (go_at_call 89; (try simp only [i64_w, i32_w]); (with_reducible refine (impl_InRange.calls (rd l1 x14_1) (wrap64 (-a0_2)) a0_2 false _ A11.out).mono ?_); rintro e w' ⟨rfl, ⟨nd, rfl⟩⟩))
       go_ret
       exact ⟨se, sbw⟩
     ·replace H := im H
      obtain rfl := Option.some.inj H
      obtain ⟨p434, q434, ad434, e434, _, hx434_0⟩ := at_i HR1 HB x14_1
      cases e434
      obtain ⟨hcz15_0, hcz15_1, hcz15_2, hcz15_3, hfz15_0, hfz15_1, hfz15_2, hfz15_3⟩ := cc4 BK433
      go_wp2_with (first | ((with_reducible refine gate_callee (f := 89) rfl ?_); refine gL (some 20) Try.func89 #[.int .i64 a0_2, .int .i64 0, .int .i64 5] ?_; (with_reducible refine (impl_InRange.calls a0_2 0 5 false _ A9.out).mono ?_); rintro e w' ⟨rfl, ⟨nd, rfl⟩⟩; refine ⟨_, rfl, ?_⟩))
      go_ret
      exact ⟨se, sbw⟩
    ·have c6b0 := decide_eq_false c6
     clear c6
     obtain rfl := Option.some.inj H
     go_wp2
     go_ret
     exact ⟨se, sbw⟩
 ·have c3b0 : ((l1.length : Int) == a0_0) = false := beq_eq_false_iff_ne.mpr c3
  have c3b1 : ((l1.length : Int) != a0_0) = true := bne_iff_ne.mpr c3
  obtain rfl := Option.some.inj H
  go_enter Try.func136, Try.ntmps136
  go_wp2_with (first | ((with_reducible refine gate_dst (N := 2) rfl ?_); refine bx 2 #[.int .i64 a0_0, .int .i64 a0_1, .int .i64 a0_2, .slice A0_3 l0_3.length c0_3] 29 ?_; intro gb433 hg w16 hbox hb; have BK433 := Aside0.mk hbox; have GW433 := bz w hg; have GE433 := bz w hg; replace HB := bs hb; clear hb hbox hg; obtain ⟨hcz17_0, hcz17_1, hcz17_2, hcz17_3, hfz17_0, hfz17_1, hfz17_2, hfz17_3⟩ := cc4 BK433))
  go_ret
  exact ⟨se, sbw⟩

end Go.Proofs.Ytlakjlolahjphaa.QFnExactNextsAt
