/- What the Go functions of the law FnForecasts come to, as Lean functions, and that they do: by a program of the session, out of the kit's printer. Conditions: none. (squeezed). -/
import Derived.Test.YtaciciobhfoglaaSq
import Derived.Test.YtaciciobhfoglaaQFnForecastsx0
import Derived.Test.YtaciciobhfoglaaQFnForecastsx1
import Derived.Test.YtaciciobhfoglaaQFnForecastsx2
import Derived.Test.YtaciciobhfoglaaQFnForecastsx3
namespace Go.Proofs.Ytaciciobhfoglaa.QFnForecasts
open Go.RowKit Go.Proofs.YtaciciobhfoglaaW.PrintWords Go.Proofs.YtaciciobhfoglaaW.PrintLast Go.Proofs.YtaciciobhfoglaaW.PrintMore Go.Proofs.Ytaciciobhfoglaa.Open Go.Proofs.Ytaciciobhfoglaa.Sq
attribute [local go_sem] max2_int min2_int max_two min_two max_three min_three max_four min_four   -- for this text's walks alone
attribute [local go_sem] isSome_set
set_option linter.unusedVariables false
set_option linter.unusedSimpArgs false

/-! ### spec_DrawSafeSends: function 56 -/
def spec_DrawSafeSends.f (k : Nat) (l0 : List Int) : Option (Int × Int × Int × Int × Int × Int × (List (S100)) × Int × Int × Int) := (spec_DrawNeedAt.f k l0).bind fun bt303 => ((spec_l1New.f k l0).bind fun bt315 => ((spec_l1Int.f bt315.1 bt315.2.1 bt315.2.2 (([0, 1, 3, 100, 101] : List Int))).bind fun bt322 => (some (bt303.1, bt303.2.1, bt303.2.2.1, bt303.2.2.2.1, bt303.2.2.2.2.1, bt303.2.2.2.2.2.1, bt303.2.2.2.2.2.2.1, bt303.2.2.2.2.2.2.2.1, bt303.2.2.2.2.2.2.2.2, bt322.1))))
theorem spec_DrawSafeSends.mono : ∀ a0 k, LeO (spec_DrawSafeSends.f k a0) (spec_DrawSafeSends.f (k + 1) a0) := by
  intro a0 k
  unfold spec_DrawSafeSends.f
  have m0 := @spec_DrawNeedAt.mono
  have m1 := @spec_l1New.mono
  exact mo
def spec_DrawSafeSends.T3 : Bool × List (List Nat × List Nat) := (true, [([], []), ([], []), ([], []), ([], []), ([], []), ([], []), ([4, 5], [4, 5]), ([0, 6, 0], [0]), ([1, 7, 0, 1, 7], [1]), ([2, 8, 0, 1, 2, 7, 8], [2]), ([3, 9, 0, 1, 2, 3, 7, 8, 9], [3]), ([6, 10, 0, 1, 2, 3, 4, 5, 6, 7, 8, 9, 10], [6])])
def spec_DrawSafeSends.B3 : List Nat := [0, 0, 0, 0, 0, 0, 48, 113, 243, 503, 1023, 2047]
theorem spec_DrawSafeSends.tab3 : rtab .any (opsOf Try.f56 3) = spec_DrawSafeSends.T3 := by kernel_rfl
theorem spec_DrawSafeSends.bits3 : waitsOk spec_DrawSafeSends.T3.2 spec_DrawSafeSends.B3 = true := by kernel_rfl
set_option maxHeartbeats 8000000 in
set_option maxRecDepth 100000 in
theorem spec_DrawSafeSends.calls (k : Nat) (A0 : Option Addr) (c0 : Nat) (l0 : List Int) (r1 : Int) (r2 : Int) (r3 : Int) (r4 : Int) (r5 : Int) (r6 : Int) (r7 : List (S100)) (r8 : Int) (r9 : Int) (r10 : Int) (w : World) (hr0 : Kd.C (Kd.int .u8) w A0 l0.length l0) (hc0 : l0.length ≤ c0) (h : spec_DrawSafeSends.f k l0 = some (r1, r2, r3, r4, r5, r6, r7, r8, r9, r10)) :
    Calls Try.prog 56 #[.slice A0 l0.length c0] w fun e w' => ∃ v6_ : Value, e = .returned (.tuple #[.agg #[.int .i64 r1, .int .i64 r2, .int .i64 r3, .int .i64 r4, .int .i64 r5, .int .i64 r6], v6_, .int .i64 r8, .int .i64 r9, .int .i64 r10]) ∧ Kd.R k100 100 w' w.heap.size (fun _ => True) v6_ r7 ∧ Below w.heap.size w w' := by
 have hu27 := Try.underlying27
 have HR0 := Aside0.mk hr0
 have HC0 := Aside0.mk hc0
 clear hr0 hc0
 have HB := Aside0.mk (Below.refl w.heap.size w)
 have H : ((spec_DrawNeedAt.f k l0).bind fun bt303 => ((spec_l1New.f k l0).bind fun bt315 => ((spec_l1Int.f bt315.1 bt315.2.1 bt315.2.2 (([0, 1, 3, 100, 101] : List Int))).bind fun bt322 => (some (bt303.1, bt303.2.1, bt303.2.2.1, bt303.2.2.2.1, bt303.2.2.2.2.1, bt303.2.2.2.2.2.1, bt303.2.2.2.2.2.2.1, bt303.2.2.2.2.2.2.2.1, bt303.2.2.2.2.2.2.2.2, bt322.1))))) = some (r1, r2, r3, r4, r5, r6, r7, r8, r9, r10) := h
 clear h
 obtain ⟨⟨t303, t304, t305, t306, t307, t308, t309, t312, t313⟩, A2, H⟩ := bnd H
 replace H : ((spec_l1New.f k l0).bind fun bt315 => ((spec_l1Int.f bt315.1 bt315.2.1 bt315.2.2 (([0, 1, 3, 100, 101] : List Int))).bind fun bt322 => (some (t303, t304, t305, t306, t307, t308, t309, t312, t313, bt322.1)))) = some (r1, r2, r3, r4, r5, r6, r7, r8, r9, r10) := H
 obtain ⟨⟨t315, t316, t317⟩, A3, H⟩ := bnd H
 replace H : ((spec_l1Int.f t315 t316 t317 (([0, 1, 3, 100, 101] : List Int))).bind fun bt322 => (some (t303, t304, t305, t306, t307, t308, t309, t312, t313, bt322.1))) = some (r1, r2, r3, r4, r5, r6, r7, r8, r9, r10) := H
 obtain ⟨y319, hy319⟩ : ∃ y_ : List Int, y_ = (([0, 1, 3, 100, 101] : List Int)) := ⟨_, rfl⟩
 replace H : ((spec_l1Int.f t315 t316 t317 y319).bind fun bt322 => (some (t303, t304, t305, t306, t307, t308, t309, t312, t313, bt322.1))) = some (r1, r2, r3, r4, r5, r6, r7, r8, r9, r10) := by first | (rw [hy319]; with_reducible exact H) | (have H2_ := (Option.bind_some _ _).symm.trans H; rw [hy319]; with_reducible exact H2_) | (have H2_ := (Option.bind_some _ _).symm.trans H; with_reducible exact H2_) | with_reducible exact H | (rw [hy319]; exact H) | exact H
 have Ny319 := Aside0.mk hy319
 clear hy319
 obtain ⟨⟨t322, t323, t324⟩, A4, H⟩ := bnd H
 replace H : (some (t303, t304, t305, t306, t307, t308, t309, t312, t313, t322)) = some (r1, r2, r3, r4, r5, r6, r7, r8, r9, r10) := H
 simp only [Option.some.injEq, Prod.mk.injEq] at H
 obtain ⟨rfl, rfl, rfl, rfl, rfl, rfl, rfl, rfl, rfl, rfl⟩ := H
 go_enter Try.func56, Try.ntmps56
 try go_wp2_with (first | ((with_reducible refine gate_dst (N := 2) rfl ?_); refine bx 2 #[.int .i64 0, .int .i64 0, .int .i64 0, .int .i64 0, .int .i64 0, .int .i64 0] 27 ?_; intro gb302 hg w5 hbox hb; have GW302 := bz w hg; have GE302 := bz w hg; replace HB := bs hb; have BK302 := Aside0.mk hbox; clear hb hbox hg) | ((with_reducible refine gate_callee (f := 95) rfl ?_); refine gL (some 14) Try.func95 #[.slice A0 l0.length c0] ?_; (with_reducible refine (spec_DrawNeedAt.calls k _ _ l0 t303 t304 t305 t306 t307 t308 t309 t312 t313 _ ?side1 ?side2 A2.out).mono ?_); (case side1 => exact cb HR0); (case side2 => exact HC0.out); rintro e w6 ⟨v310, rfl, ho0, hb⟩; refine ⟨_, rfl, ?_⟩; have HO311 := Aside0.mk (Kd.R_lower ho0 (below_size (sbw))); replace BK302 := bb BK302 hb; replace HB := bsw hb; (try clear hb); (try clear hb2); (try clear hk); (try clear hi); (try clear ho0)) | ((with_reducible refine gate_dst (N := 7) rfl ?_); refine bx 7 #[.int .i64 0, .int .i64 0, .int .i64 0, .int .i64 0, .int .i64 0, .int .i64 0] 27 ?_; intro gb314 hg w7 hbox hb; replace HO311 := Aside0.mk (Kd.R_below (sr HO311) hb); have GW314 := bzw w hg; have GE314 := bzw w hg; replace HB := bsw hb; have BK314 := Aside0.mk hbox; have NB302_314 := nl BK302 hg; have NB314_302 := ng BK302 hg; replace BK302 := bb BK302 hb; clear hb hbox hg; have hnb8 := NB314_302.out; have hnc8 := NB302_314.out; obtain ⟨hcz9_0, hcz9_1, hcz9_2, hcz9_3, hcz9_4, hcz9_5, hfz9_0, hfz9_1, hfz9_2, hfz9_3, hfz9_4, hfz9_5⟩ := cc6 BK314) | ((with_reducible refine gate_callee (f := 84) rfl ?_); refine gL (some 20) Try.func84 #[.slice A0 l0.length c0] ?_; (with_reducible refine (spec_l1New.calls k _ _ l0 t315 t316 t317 w _ ?side1 ?side2 ?side3 A3.out).mono ?_); (case side1 => repeat (first | (with_reducible first | exact HB.out | apply below_alloc | apply pw_below_drewN | apply below_drew1 | refine below_set ?_ GE302.out | refine below_set ?_ GE314.out) | exact HB.out)); (case side2 => exact HR0.out); (case side3 => exact HC0.out); rintro e w10 ⟨g318, rfl, hi, hb, hb2⟩; refine ⟨_, rfl, ?_⟩; replace HO311 := Aside0.mk (Kd.R_below (by (with_reducible repeat (first | apply Kd.R_alloc | apply Kd.R_drewN | apply Kd.R_drew)); exact (Kd.R_mono (Kd.R_far (p := ⟨gb314, 5, none⟩) (Kd.R_far (p := ⟨gb314, 4, none⟩) (Kd.R_far (p := ⟨gb314, 3, none⟩) (Kd.R_far (p := ⟨gb314, 2, none⟩) (Kd.R_far (p := ⟨gb314, 1, none⟩) (Kd.R_far (p := ⟨gb314, 0, none⟩) (Kd.R_types HO311.out BK314.out (by decide)) (fun _ hk => hk.2) (.int .i64 t303)) (fun _ hk => hk.2) (.int .i64 t304)) (fun _ hk => hk.2) (.int .i64 t305)) (fun _ hk => hk.2) (.int .i64 t306)) (fun _ hk => hk.2) (.int .i64 t307)) (fun _ hk => hk.2) (.int .i64 t308)) (fun _ h_ => h_.1))) hb2); replace HB := Aside0.mk hb; have HI318 := Aside0.mk hi; have NB318_302 := Aside0.mk (IsS143.ne_blk hi (blk_below (g := gb302) (o := .cells #[.int .i64 0, .int .i64 0, .int .i64 0, .int .i64 0, .int .i64 0, .int .i64 0] 27 (0, 0)) (sp BK302) hb2) (by decide)); have NB302_318 := Aside0.mk (Ne.symm (IsS143.ne_blk hi (blk_below (g := gb302) (o := .cells #[.int .i64 0, .int .i64 0, .int .i64 0, .int .i64 0, .int .i64 0, .int .i64 0] 27 (0, 0)) (sp BK302) hb2) (by decide))); replace BK302 := Aside0.mk (blk_below (g := gb302) (o := .cells #[.int .i64 0, .int .i64 0, .int .i64 0, .int .i64 0, .int .i64 0, .int .i64 0] 27 (0, 0)) (sp BK302) hb2); have NB318_314 := Aside0.mk (IsS143.ne_blk hi (blk_below (g := gb314) (o := .cells #[.int .i64 t303, .int .i64 t304, .int .i64 t305, .int .i64 t306, .int .i64 t307, .int .i64 t308] 27 (0, 0)) (sp BK314) hb2) (by decide)); have NB314_318 := Aside0.mk (Ne.symm (IsS143.ne_blk hi (blk_below (g := gb314) (o := .cells #[.int .i64 t303, .int .i64 t304, .int .i64 t305, .int .i64 t306, .int .i64 t307, .int .i64 t308] 27 (0, 0)) (sp BK314) hb2) (by decide))); replace BK314 := Aside0.mk (blk_below (g := gb314) (o := .cells #[.int .i64 t303, .int .i64 t304, .int .i64 t305, .int .i64 t306, .int .i64 t307, .int .i64 t308] 27 (0, 0)) (sp BK314) hb2); (try clear hb); (try clear hb2); (try clear hk); (try clear hi)))
 replace HO311 := Aside0.mk (Kd.R_drew HO311.out)
 replace BK302 := Aside0.mk (blk_drew BK302.out)
 replace BK314 := Aside0.mk (blk_drew BK314.out)
 replace HI318 := Aside0.mk (IsS143.drew HI318.out)
 replace HB := Aside0.mk (below_drew1 HB.out)
 refine start_ (n := 12) (S := fun w' => w'.cell? ⟨gb314, 0, none⟩ = some (.int .i64 t303) ∧ w'.cell? ⟨gb314, 1, none⟩ = some (.int .i64 t304) ∧ w'.cell? ⟨gb314, 2, none⟩ = some (.int .i64 t305) ∧ w'.cell? ⟨gb314, 3, none⟩ = some (.int .i64 t306) ∧ w'.cell? ⟨gb314, 4, none⟩ = some (.int .i64 t307) ∧ w'.cell? ⟨gb314, 5, none⟩ = some (.int .i64 t308)) (ds := []) #[false, false, false, false, false, false, false, false, false, false, false, false] (by kernel_rfl) rfl rfl ⟨bc0 BK314, bc1 BK314, bc2 BK314, bc3 BK314, bc4 BK314, bc5 BK314⟩ (fun hHeld => ?_); refine with_tabW spec_DrawSafeSends.tab3 spec_DrawSafeSends.bits3 (fun HT_ HW_ => ?_)
 generalize w10.drew = w11 at HO311 BK302 BK314 HI318 HB hHeld ⊢
 refine put 1 22 #[false, true, false, false, false, false, false, false, false, false, false, false] HT_ ?_
 refine put 2 23 #[false, true, true, false, false, false, false, false, false, false, false, false] HT_ ?_
 refine put 3 24 #[false, true, true, true, false, false, false, false, false, false, false, false] HT_ ?_
 refine put 4 25 #[false, true, true, true, true, false, false, false, false, false, false, false] HT_ ?_
 refine tat6 0 21 #[true, true, true, true, true, false, false, false, false, false, false, false] HT_ HW_ hHeld ?_
 refine one_ (i := 5) (N := some 26) #[true, true, true, true, true, true, false, false, false, false, false, false] rfl rfl (one_of HT_.out (by kernel_rfl)) (by decide) (fun K hK => ?_)
 refine Kd.R_lit_step (Kd.int .i64) _ 3 ?hg (N := 26) ?hd (xs := ([0, 1, 3, 100, 101] : List Int)) (inner := [.int .i64 0, .int .i64 1, .int .i64 3, .int .i64 100, .int .i64 101]) (ok := fun _ => True) (okp := fun _ => True) ?hr ?hp (fun _ hk => hk) trivial (Below.refl _ _) (Nat.le_refl _) (by simp) ?_; (case hd => rfl); (case hg => rfl); (case hr => first | (go_simp; done) | (go_simp; rfl)); (case hp => exact (Reps.one (show Kd.M (Kd.int .i64) _ _ _ 0 [.int .i64 0] from rfl) (Reps.one (show Kd.M (Kd.int .i64) _ _ _ 1 [.int .i64 1] from rfl) (Reps.one (show Kd.M (Kd.int .i64) _ _ _ 3 [.int .i64 3] from rfl) (Reps.one (show Kd.M (Kd.int .i64) _ _ _ 100 [.int .i64 100] from rfl) (Reps.one (show Kd.M (Kd.int .i64) _ _ _ 101 [.int .i64 101] from rfl) (Reps.none _ _)))))))
 intro v320 w12 ho13 hb hg_ hnew_
 clear hg_ hnew_
 (first | rw [← Ny319.out] at ho13 | (simp only [Int.reduceToNat] at ho13; rw [← Ny319.out] at ho13))
 replace HO311 := Aside0.mk (Kd.R_below (sr HO311) hb)
 have HO321 := Aside0.mk (Kd.R_lower ho13 (below_size (by repeat (first | (with_reducible first | exact HB.out | apply below_alloc | apply pw_below_drewN | apply below_drew1 | refine below_set ?_ (IsS143.ge HI318.out) | refine below_set ?_ GE302.out | refine below_set ?_ GE314.out) | exact HB.out))))
 replace BK302 := bb BK302 hb
 replace BK314 := bb BK314 hb
 replace HB := Aside0.mk (below_step (by repeat (first | (with_reducible first | exact HB.out | apply below_alloc | apply pw_below_drewN | apply below_drew1 | refine below_set ?_ (IsS143.ge HI318.out) | refine below_set ?_ GE302.out | refine below_set ?_ GE314.out) | exact HB.out)) hb)
 replace HI318 := Aside0.mk (IsS143.below (by repeat (first | (with_reducible first | exact HI318.out | apply IsS143.alloc | apply IsS143.drewN | apply IsS143.drew | apply IsS143.set_1 | apply IsS143.set_2 | refine IsS143.far ?_ NB318_302.out _ | refine IsS143.far ?_ NB318_314.out _) | exact HI318.out)) hb)
 clear hb ho13
 obtain ⟨Ao14, co14, eo14⟩ := Kd.R_slice HO321.out
 (first | subst eo14 | (injection eo14 with f1_ f2_ f3_; have f4_ := f1_.symm; have f5_ := f3_.symm; clear f1_ f2_ f3_; subst f4_; subst f5_))
 refine hK.out _ _ ⟨bc0 BK314, bc1 BK314, bc2 BK314, bc3 BK314, bc4 BK314, bc5 BK314⟩ (fun hHeld => ?_)
 clear hK K
 refine norm_ (a' := ?_) ?_ ?_
 rotate_left
 ·show Act.put _ (some 26) _ = _
  simp only [Act.put, List.setIfInBounds_toArray, List.set_cons_zero, List.set_cons_succ, i64_w, i32_w]
  rfl
 refine one_ (i := 6) (N := some 27) #[true, true, true, true, true, true, true, false, false, false, false, false] rfl rfl (one_of HT_.out (by kernel_rfl)) (by decide) (fun K hK => ?_)
 refine goes_ Try.func98 (by kernel_rfl) rfl #[.pointer (some ⟨g318, 0, none⟩), .slice Ao14 y319.length co14] (by rfl) rfl rfl sl ?_
 with_reducible refine (spec_l1Int.calls g318 t315 t316 t317 _ _ y319 t322 t323 t324 w _ ?side1 ?side2 ?side3 ?side4 ?side5 A4.out).mono ?_
 (case side1 => repeat (first | (with_reducible first | exact HI318.out | apply IsS143.alloc | apply IsS143.drewN | apply IsS143.drew | apply IsS143.set_1 | apply IsS143.set_2 | refine IsS143.far ?_ NB318_302.out _ | refine IsS143.far ?_ NB318_314.out _) | exact HI318.out))
 (case side2 => repeat (first | (with_reducible first | exact HB.out | apply below_alloc | apply pw_below_drewN | apply below_drew1 | refine below_set ?_ (IsS143.ge HI318.out) | refine below_set ?_ GE302.out | refine below_set ?_ GE314.out) | exact HB.out))
 (case side3 => repeat (first | exact (Kd.R_reads' HO321.out).2.2 | (with_reducible refine Kd.C_alloc ?_ _) | (with_reducible refine Kd.C_drewN ?_ _) | (with_reducible refine Kd.C_drew ?_)))
 (case side4 => exact (Kd.R_reads' HO321.out).2.1)
 (case side5 => exact far_slice (IsS143.own_ne HI318.out HO321.out (by decide)))
 rintro e w15 ⟨rfl, hi, hb, hk⟩
 refine ⟨_, rfl, ?_⟩
 replace BK302 := Aside0.mk (KeepBut.blk hk (g' := gb302) (o := .cells #[.int .i64 0, .int .i64 0, .int .i64 0, .int .i64 0, .int .i64 0, .int .i64 0] 27 (0, 0)) (sk BK302) NB302_318.out (by simp))
 replace HO311 := Aside0.mk (Kd.R_mono (Kd.R_keep (IsS143.apart (show IsS143 w _ g318 t315 t316 t317 from by repeat (first | (with_reducible first | exact HI318.out | apply IsS143.alloc | apply IsS143.drewN | apply IsS143.drew | apply IsS143.set_1 | apply IsS143.set_2 | refine IsS143.far ?_ NB318_302.out _ | refine IsS143.far ?_ NB318_314.out _) | exact HI318.out)) (sr HO311) (by decide)) hk (fun _ h => h.2)) (fun _ h => h.1))
 replace BK314 := Aside0.mk (KeepBut.blk hk (g' := gb314) (o := .cells #[.int .i64 t303, .int .i64 t304, .int .i64 t305, .int .i64 t306, .int .i64 t307, .int .i64 t308] 27 (0, 0)) (sk BK314) NB314_318.out (by simp))
 replace HO321 := Aside0.mk (Kd.R_mono (Kd.R_keep (IsS143.apart (show IsS143 w _ g318 t315 t316 t317 from by repeat (first | (with_reducible first | exact HI318.out | apply IsS143.alloc | apply IsS143.drewN | apply IsS143.drew | apply IsS143.set_1 | apply IsS143.set_2 | refine IsS143.far ?_ NB318_302.out _ | refine IsS143.far ?_ NB318_314.out _) | exact HI318.out)) (sr HO321) (by decide)) hk (fun _ h => h.2)) (fun _ h => h.1))
 replace HB := Aside0.mk hb
 replace HI318 := Aside0.mk hi
 (try clear hb)
 (try clear hb2)
 (try clear hk)
 (try clear hi)
 refine hK.out _ _ ⟨bc0 BK314, bc1 BK314, bc2 BK314, bc3 BK314, bc4 BK314, bc5 BK314⟩ (fun hHeld => ?_)
 clear hK K
 refine norm_ (a' := ?_) ?_ ?_
 rotate_left
 ·show Act.put _ (some 27) _ = _
  simp only [Act.put, List.setIfInBounds_toArray, List.set_cons_zero, List.set_cons_succ, i64_w, i32_w]
  rfl
 refine one_ (i := 7) (N := none) #[true, true, true, true, true, true, true, true, false, false, false, false] rfl rfl (one_of HT_.out (by kernel_rfl)) (by decide) (fun K hK => ?_)
 obtain ⟨hs16, hfs16⟩ := cc1 BK302
 have hns16_1 := NB314_302.out
 have hms16_1 := NB302_314.out
 have hs17 := bc1 BK302
 have hfs17 := bf BK302 1
 have hns17_1 := NB314_302.out
 have hms17_1 := NB302_314.out
 have hs18 := bc2 BK302
 have hfs18 := bf BK302 2
 have hns18_1 := NB314_302.out
 have hms18_1 := NB302_314.out
 have hs19 := bc3 BK302
 have hfs19 := bf BK302 3
 have hns19_1 := NB314_302.out
 have hms19_1 := NB302_314.out
 have hs20 := bc4 BK302
 have hfs20 := bf BK302 4
 have hns20_1 := NB314_302.out
 have hms20_1 := NB302_314.out
 have hs21 := bc5 BK302
 have hfs21 := bf BK302 5
 have hns21_1 := NB314_302.out
 have hms21_1 := NB302_314.out
 refine skip_ (w1 := ?_) (by rfl) rfl ?_ ?_
 rotate_left
 ·go_simp
  rfl
 refine hK.out _ _ ⟨((cell_far (p := ⟨gb302, _, none⟩) NB314_302.out _).trans (((cell_far (p := ⟨gb302, _, none⟩) NB314_302.out _).trans (((cell_far (p := ⟨gb302, _, none⟩) NB314_302.out _).trans (((cell_far (p := ⟨gb302, _, none⟩) NB314_302.out _).trans (((cell_far (p := ⟨gb302, _, none⟩) NB314_302.out _).trans (((cell_far (p := ⟨gb302, _, none⟩) NB314_302.out _).trans (hHeld.1)))))))))))), ((cell_far (p := ⟨gb302, _, none⟩) NB314_302.out _).trans (((cell_far (p := ⟨gb302, _, none⟩) NB314_302.out _).trans (((cell_far (p := ⟨gb302, _, none⟩) NB314_302.out _).trans (((cell_far (p := ⟨gb302, _, none⟩) NB314_302.out _).trans (((cell_far (p := ⟨gb302, _, none⟩) NB314_302.out _).trans (((cell_far (p := ⟨gb302, _, none⟩) NB314_302.out _).trans (hHeld.2.1)))))))))))), ((cell_far (p := ⟨gb302, _, none⟩) NB314_302.out _).trans (((cell_far (p := ⟨gb302, _, none⟩) NB314_302.out _).trans (((cell_far (p := ⟨gb302, _, none⟩) NB314_302.out _).trans (((cell_far (p := ⟨gb302, _, none⟩) NB314_302.out _).trans (((cell_far (p := ⟨gb302, _, none⟩) NB314_302.out _).trans (((cell_far (p := ⟨gb302, _, none⟩) NB314_302.out _).trans (hHeld.2.2.1)))))))))))), ((cell_far (p := ⟨gb302, _, none⟩) NB314_302.out _).trans (((cell_far (p := ⟨gb302, _, none⟩) NB314_302.out _).trans (((cell_far (p := ⟨gb302, _, none⟩) NB314_302.out _).trans (((cell_far (p := ⟨gb302, _, none⟩) NB314_302.out _).trans (((cell_far (p := ⟨gb302, _, none⟩) NB314_302.out _).trans (((cell_far (p := ⟨gb302, _, none⟩) NB314_302.out _).trans (hHeld.2.2.2.1)))))))))))), ((cell_far (p := ⟨gb302, _, none⟩) NB314_302.out _).trans (((cell_far (p := ⟨gb302, _, none⟩) NB314_302.out _).trans (((cell_far (p := ⟨gb302, _, none⟩) NB314_302.out _).trans (((cell_far (p := ⟨gb302, _, none⟩) NB314_302.out _).trans (((cell_far (p := ⟨gb302, _, none⟩) NB314_302.out _).trans (((cell_far (p := ⟨gb302, _, none⟩) NB314_302.out _).trans (hHeld.2.2.2.2.1)))))))))))), ((cell_far (p := ⟨gb302, _, none⟩) NB314_302.out _).trans (((cell_far (p := ⟨gb302, _, none⟩) NB314_302.out _).trans (((cell_far (p := ⟨gb302, _, none⟩) NB314_302.out _).trans (((cell_far (p := ⟨gb302, _, none⟩) NB314_302.out _).trans (((cell_far (p := ⟨gb302, _, none⟩) NB314_302.out _).trans (((cell_far (p := ⟨gb302, _, none⟩) NB314_302.out _).trans (hHeld.2.2.2.2.2))))))))))))⟩ (fun hHeld => ?_)
 clear hK K
 refine put 8 3 #[true, true, true, true, true, true, true, true, true, false, false, false] HT_ ?_
 refine put 9 4 #[true, true, true, true, true, true, true, true, true, true, false, false] HT_ ?_
 refine put 10 5 #[true, true, true, true, true, true, true, true, true, true, true, false] HT_ ?_
 refine put 11 6 #[true, true, true, true, true, true, true, true, true, true, true, true] HT_ ?_
 refine done_ (done_of HT_.out (by kernel_rfl)) ?_
 try go_wp2
 refine bodyPost_ret (results_list (rs := [.cell 2 27, .tmp 3, .tmp 4, .tmp 5, .tmp 6]) rfl (by simp) (.cell gb302 27 #[.int .i64 t303, .int .i64 t304, .int .i64 t305, .int .i64 t306, .int .i64 t307, .int .i64 t308] (0, 0) _ rfl (sp BK302) Try.underlying27 rfl (by kernel_rfl) (.tmp (.tmp (.tmp (.tmp .nil)))))) rfl ?_
 exact ⟨_, se, by (with_reducible repeat (first | apply Kd.R_alloc | apply Kd.R_drewN | apply Kd.R_drew)); exact Kd.R_mono (Kd.R_far (p := ⟨gb302, 5, none⟩) (Kd.R_far (p := ⟨gb302, 4, none⟩) (Kd.R_far (p := ⟨gb302, 3, none⟩) (Kd.R_far (p := ⟨gb302, 2, none⟩) (Kd.R_far (p := ⟨gb302, 1, none⟩) (Kd.R_far (p := ⟨gb302, 0, none⟩) (Kd.R_types HO311.out BK302.out (by decide)) (fun _ hk => hk.2) (.int .i64 t303)) (fun _ hk => hk.2) (.int .i64 t304)) (fun _ hk => hk.2) (.int .i64 t305)) (fun _ hk => hk.2) (.int .i64 t306)) (fun _ hk => hk.2) (.int .i64 t307)) (fun _ hk => hk.2) (.int .i64 t308)) (fun _ hk => trivial), by repeat (first | (with_reducible first | exact HB.out | apply below_alloc | apply pw_below_drewN | apply below_drew1 | refine below_set ?_ (IsS143.ge HI318.out) | refine below_set ?_ GE302.out | refine below_set ?_ GE314.out) | exact HB.out)⟩

/-! ### impl_ticks: function 112 -/
mutual
def impl_ticks.l0 : Nat → List Bool → List (S100) → Int → Int → Option (List Bool)
  | 0, _, _, _, _ => none
  | k + 1, x3, x8, x9, x10 => if x10 < x9 then (if 0 ≤ x10 then (if x10 < (x8.length : Int) then ((impl_IsSpan.f ((rd_T100 x8 x10).f0) ((rd_T100 x8 x10).f1)).bind fun t330 => (if t330 = true then (impl_ticks.l1 k x3 ((rd_T100 x8 x10).f0) x8 x9 x10 ((rd_T100 x8 x10).f0) ((rd_T100 x8 x10).f1)) else (impl_ticks.l0 k x3 x8 x9 (wrap64 (x10 + 1))))) else (none)) else (none)) else (some x3)
def impl_ticks.l1 : Nat → List Bool → Int → List (S100) → Int → Int → Int → Int → Option (List Bool)
  | 0, _, _, _, _, _, _, _ => none
  | k + 1, x3, x6, x8, x9, x10, x330000, x330001 => if x6 < x330001 then (if 0 ≤ x6 then (if x6 < (x3.length : Int) then (impl_ticks.l1 k (x3.set (x6 : Int).toNat true) (wrap64 (x6 + 1)) x8 x9 x10 x330000 x330001) else (none)) else (none)) else (impl_ticks.l0 k x3 x8 x9 (wrap64 (x10 + 1)))
end
def impl_ticks.f (k : Nat) (l0 : List (S100)) : Option (List Bool) := if 1000 ≤ 281474976710656 then (impl_ticks.l0 k (List.replicate 1000 false) l0 (l0.length : Int) 0) else (none)
theorem impl_ticks.mono_l : ∀ k, (∀ y0 y1 y2 y3, LeO (impl_ticks.l0 k y0 y1 y2 y3) (impl_ticks.l0 (k + 1) y0 y1 y2 y3)) ∧ (∀ y0 y1 y2 y3 y4 y5 y6, LeO (impl_ticks.l1 k y0 y1 y2 y3 y4 y5 y6) (impl_ticks.l1 (k + 1) y0 y1 y2 y3 y4 y5 y6))
  | 0 => ⟨fun _ _ _ _ r h => by simp [impl_ticks.l0] at h, fun _ _ _ _ _ _ _ r h => by simp [impl_ticks.l1] at h⟩
  | k + 1 => by
    obtain ⟨ih0, ih1⟩ := impl_ticks.mono_l k
    refine ⟨?_, ?_⟩
    · intro y0 y1 y2 y3
      unfold impl_ticks.l0
      exact mo
    · intro y0 y1 y2 y3 y4 y5 y6
      unfold impl_ticks.l1
      exact mo
theorem impl_ticks.mono : ∀ a0 k, LeO (impl_ticks.f k a0) (impl_ticks.f (k + 1) a0) := by
  intro a0 k
  obtain ⟨ih0, ih1⟩ := impl_ticks.mono_l k
  unfold impl_ticks.f
  exact mo
set_option maxHeartbeats 8000000 in
set_option maxRecDepth 100000 in
theorem impl_ticks.calls (k : Nat) (A0 : Option Addr) (c0 : Nat) (l0 : List (S100)) (r : List Bool) (w : World) (hr0 : Kd.C k100 w A0 l0.length l0) (hc0 : l0.length ≤ c0) (h : impl_ticks.f k l0 = some r) :
    Calls Try.prog 112 #[.slice A0 l0.length c0] w fun e w' => ∃ v0_ : Value, e = .returned (v0_) ∧ Kd.R Kd.bool 4 w' w.heap.size (fun _ => True) v0_ r ∧ Below w.heap.size w w' := by
 have hu100 := Try.underlying100
 have HR0 := Aside0.mk hr0
 have HC0 := Aside0.mk hc0
 clear hr0 hc0
 have HB := Aside0.mk (Below.refl w.heap.size w)
 have H : (if 1000 ≤ 281474976710656 then (impl_ticks.l0 k (List.replicate 1000 false) l0 (l0.length : Int) 0) else (none)) = some r := h
 clear h
 obtain ⟨c2, H⟩ := ia_ H
 have c2b0 := eq_true c2
 have c2b1 := decide_eq_true c2
 clear c2
 obtain ⟨y325, hy325⟩ : ∃ y_ : List Bool, y_ = (List.replicate 1000 false) := ⟨_, rfl⟩
 replace H : (impl_ticks.l0 k y325 l0 (l0.length : Int) 0) = some r := by first | (rw [hy325]; with_reducible exact H) | (have H2_ := (Option.bind_some _ _).symm.trans H; rw [hy325]; with_reducible exact H2_) | (have H2_ := (Option.bind_some _ _).symm.trans H; with_reducible exact H2_) | with_reducible exact H | (rw [hy325]; exact H) | exact H
 have Ny325 := Aside0.mk hy325
 clear hy325
 have H' := Aside0.mk H
 clear H
 go_enter Try.func112, Try.ntmps112
 go_wp2_with (first | ((with_reducible refine gate_dst (N := 7) rfl ?_); refine Kd.R_make Kd.bool _ 4 rfl (N := 7) rfl 137 _ _ rfl 1000 rfl rfl Try.underlying137 (.bool false) 1 info4 rfl (by decide) (by omega) false (ok := fun _ => True) (okp := fun _ => True) rfl (fun _ hk => hk) trivial (by omega) (by omega) (Below.refl _ _) (Nat.le_refl _) ?_; intro v326 w3 ho4 hb hg_ hnew_; clear hg_ hnew_; (first | rw [← Ny325.out] at ho4 | (simp only [Int.reduceToNat] at ho4; rw [← Ny325.out] at ho4)); have HO327 := Aside0.mk (Kd.R_lower ho4 (below_size (sb))); replace HB := bs hb; clear hb ho4))
 go_loopg [10] k (fun kq v10 w' => ∃ (x3_1 : List Bool) (x10_1 : Int), v10 = .int .i64 x10_1 ∧ Aside0 (impl_ticks.l0 kq x3_1 l0 (l0.length : Int) x10_1 = some r) ∧ Aside0 (kq ≤ k) ∧ Aside0 (Kd.R Kd.bool 4 w' w.heap.size (fun _ => True) v326 x3_1) ∧ Aside0 (Below w.heap.size w w'))
 case atStart => exact ⟨(y325), (0), sc, H', kk0, ⟨sr HO327⟩, ⟨sb⟩⟩
 case round =>
  clear H'
  try clear c2
  try clear c2b0
  try clear c2b1
  obtain ⟨x3_1, x10_1, rfl, HA, HK1, HO_3, HB⟩ := hrel
  cases gk with
  | zero => exact absurd HA.out (by simp [impl_ticks.l0])
  | succ k1 =>
   have H := HA.out
   clear HA
   simp only [impl_ticks.l0] at H
   obtain ⟨c5, H⟩ | ⟨c5, H⟩ := ie_ H
   ·have c5b0 := decide_eq_true c5
    clear c5
    obtain ⟨c6b0, H⟩ := id_ H
    obtain ⟨c7b0, H⟩ := id_ H
    obtain ⟨t330, A8, H⟩ := bnd H
    obtain rfl | rfl := tt t330
    ·replace H := ip H
     have H' := Aside0.mk H
     clear H
     obtain ⟨p328, q328, ad328, e328, _, _, hx328_0, hx328_1⟩ := aT_T100 HR0 HB x10_1
     cases e328
     go_wp2_with (first | ((with_reducible refine gate_dst (N := 5) rfl ?_); refine bx 5 #[.int .i64 0, .int .i64 0] 100 ?_; intro gb329 hg w10 hbox hb; replace HO_3 := Aside0.mk (Kd.R_below (sr HO_3) hb); have GW329 := bz w hg; have GE329 := bz w hg; replace HB := bs hb; have BK329 := Aside0.mk hbox; clear hb hbox hg; obtain ⟨hcz11_0, hcz11_1, hfz11_0, hfz11_1⟩ := cc2 BK329) | ((with_reducible refine gate_callee (f := 118) rfl ?_); refine gL (some 15) Try.func118 #[.agg #[.int .i64 ((rd_T100 l0 x10_1).f0), .int .i64 ((rd_T100 l0 x10_1).f1)]] ?_; (with_reducible refine (impl_IsSpan.calls ((rd_T100 l0 x10_1).f0) ((rd_T100 l0 x10_1).f1) true _ A8.out).mono ?_); rintro e w12 ⟨rfl, hb⟩; refine ⟨_, rfl, ?_⟩; replace HO_3 := Aside0.mk (Kd.R_below (by (with_reducible repeat (first | apply Kd.R_alloc | apply Kd.R_drewN | apply Kd.R_drew)); exact (Kd.R_mono (Kd.R_far (p := ⟨gb329, 1, none⟩) (Kd.R_far (p := ⟨gb329, 0, none⟩) (Kd.R_types HO_3.out BK329.out (by decide)) (fun _ hk => hk.2) (.int .i64 ((rd_T100 l0 x10_1).f0))) (fun _ hk => hk.2) (.int .i64 ((rd_T100 l0 x10_1).f1))) (fun _ h_ => h_.1))) hb); replace BK329 := Aside0.mk (blk_below (g := gb329) (o := .cells #[.int .i64 ((rd_T100 l0 x10_1).f0), .int .i64 ((rd_T100 l0 x10_1).f1)] 100 (0, 0)) (sp BK329) hb); replace HB := bsw hb; (try clear hb); (try clear hb2); (try clear hk); (try clear hi); obtain ⟨hcz13_0, hcz13_1, hfz13_0, hfz13_1⟩ := cc2 BK329))
     go_loopg [6] k1 (fun kq v6 w' => ∃ (x3_2 : List Bool) (x6_2 : Int), v6 = .int .i64 x6_2 ∧ Aside0 (impl_ticks.l1 kq x3_2 x6_2 l0 (l0.length : Int) x10_1 ((rd_T100 l0 x10_1).f0) ((rd_T100 l0 x10_1).f1) = some r) ∧ Aside0 (kq ≤ k1) ∧ Aside0 (Kd.R Kd.bool 4 w' w.heap.size (fun _ => True) v326 x3_2) ∧ Aside0 (w'.heap[gb329]? = some (.cells #[.int .i64 ((rd_T100 l0 x10_1).f0), .int .i64 ((rd_T100 l0 x10_1).f1)] 100 (0, 0))) ∧ Aside0 (Below w.heap.size w w'))
     case atStart => exact ⟨(x3_1), ((rd_T100 l0 x10_1).f0), sc, H', kk0, ⟨sr HO_3⟩, ⟨sk BK329⟩, ⟨sbw⟩⟩
     case round =>
      clear H'
      try clear c2
      try clear c2b0
      try clear c2b1
      try clear c5
      try clear c5b0
      try clear c6b0
      try clear c7b0
      try clear hx328_0
      try clear hx328_1
      try clear p328
      try clear q328
      obtain ⟨x3_2, x6_2, rfl, HA, HK2, HO_3, BK329, HB⟩ := hrel
      cases gk with
      | zero => exact absurd HA.out (by simp [impl_ticks.l1])
      | succ k2 =>
       have H := HA.out
       clear HA
       simp only [impl_ticks.l1] at H
       obtain ⟨c14, H⟩ | ⟨c14, H⟩ := ie_ H
       ·have c14b0 := decide_eq_true c14
        clear c14
        obtain ⟨c15b0, H⟩ := id_ H
        obtain ⟨c16b0, H⟩ := id_ H
        obtain ⟨y331, hy331⟩ : ∃ y_ : List Bool, y_ = (x3_2.set (x6_2 : Int).toNat true) := ⟨_, rfl⟩
        replace H : (impl_ticks.l1 k2 y331 (wrap64 (x6_2 + 1)) l0 (l0.length : Int) x10_1 ((rd_T100 l0 x10_1).f0) ((rd_T100 l0 x10_1).f1)) = some r := by first | (rw [hy331]; with_reducible exact H) | (have H2_ := (Option.bind_some _ _).symm.trans H; rw [hy331]; with_reducible exact H2_) | (have H2_ := (Option.bind_some _ _).symm.trans H; with_reducible exact H2_) | with_reducible exact H | (rw [hy331]; exact H) | exact H
        have Ny331 := Aside0.mk hy331
        clear hy331
        have H' := Aside0.mk H
        clear H
        obtain ⟨hcz18_0, hcz18_1, hfz18_0, hfz18_1⟩ := cc2 BK329
        have p17 : 0 ≤ (x6_2 : Int) := sa
        have q17 : (x6_2 : Int) < ((x3_2.length : Int) : Int) := sa
        obtain ⟨go17, co17, eo17, gb17, gl17, cl17, HG17⟩ := Kd.R_form HO_3.out (by omega)
        (first | cases eo17 | (injection eo17 with ea_ en_ ec_; (first | subst ea_ | (injection ea_ with ea_; subst ea_)); subst ec_; clear en_))
        have GB17 := Aside0.mk gb17
        have GG17 := Aside0.mk HG17
        clear gb17 gl17 HG17
        obtain ⟨hx17_0, hf17_0⟩ := Kd.R_celln false HO_3.out (x6_2 : Int) p17 q17
        replace p17 := eq_true p17
        replace q17 := eq_true q17
        have HP19 := Kd.R_putg HO_3.out (x6_2 : Int) true
        go_wp2_with (first | ((with_reducible refine gate_store (t := 4) (p := 26) rfl ?_); refine store_event (t := 4) (p := 26) (v := ?vo_w20) (w1 := (wr.setCell ⟨go17, (x6_2 : Int).toNat, none⟩ (.bool true))) ?hg ?ho ?hn ?hr ?_; (case ho => rfl); (case hg => rfl); (case hn => rfl); (case hr => first | (go_simp; done) | (go_simp; rfl)); intro w20 hw; have hg : wr.grownBy w20 (some go17) := (by rw [hw]; exact HP19.2); have hp_ : Kd.R Kd.bool 4 w20 w.heap.size (fun _ => True) (.slice (some ⟨go17, 0, none⟩) x3_2.length co17) y331 := (by rw [hw, Ny331.out]; exact HP19.1); clear HP19; replace BK329 := Aside0.mk (blk_grown (g := gb329) (o := .cells #[.int .i64 ((rd_T100 l0 x10_1).f0), .int .i64 ((rd_T100 l0 x10_1).f1)] 100 (0, 0)) (sk BK329) hg (Kd.R_ne HO_3.out BK329.out (by decide))); replace HO_3 := Aside0.mk hp_; replace HB := Aside0.mk ((by rw [hw]; exact below_set (HB.out) GB17.out : Below w.heap.size w w20)); clear hg hw hp_))
        go_roundg k2
        case measure => have := HK1.out; have := HK2.out; omega
        case rel => exact ⟨(y331), (wrap64 (x6_2 + 1)), sc, H', kk2, ⟨sr HO_3⟩, ⟨sk BK329⟩, ⟨sbw⟩⟩
       ·have c14b0 := decide_eq_false c14
        clear c14
        have H' := Aside0.mk H
        clear H
        obtain ⟨hcz21_0, hcz21_1, hfz21_0, hfz21_1⟩ := cc2 BK329
        go_wp2
        go_roundg k2
        case measure => have := HK1.out; have := HK2.out; omega
        case rel => exact ⟨(x3_2), (wrap64 (x10_1 + 1)), sc, H', kk2, ⟨sr HO_3⟩, ⟨sbw⟩⟩
    ·replace H := im H
     have H' := Aside0.mk H
     clear H
     obtain ⟨p328, q328, ad328, e328, _, _, hx328_0, hx328_1⟩ := aT_T100 HR0 HB x10_1
     cases e328
     go_wp2_with (first | ((with_reducible refine gate_dst (N := 5) rfl ?_); refine bx 5 #[.int .i64 0, .int .i64 0] 100 ?_; intro gb329 hg w22 hbox hb; replace HO_3 := Aside0.mk (Kd.R_below (sr HO_3) hb); have GW329 := bz w hg; have GE329 := bz w hg; replace HB := bs hb; have BK329 := Aside0.mk hbox; clear hb hbox hg; obtain ⟨hcz23_0, hcz23_1, hfz23_0, hfz23_1⟩ := cc2 BK329) | ((with_reducible refine gate_callee (f := 118) rfl ?_); refine gL (some 15) Try.func118 #[.agg #[.int .i64 ((rd_T100 l0 x10_1).f0), .int .i64 ((rd_T100 l0 x10_1).f1)]] ?_; (with_reducible refine (impl_IsSpan.calls ((rd_T100 l0 x10_1).f0) ((rd_T100 l0 x10_1).f1) false _ A8.out).mono ?_); rintro e w24 ⟨rfl, hb⟩; refine ⟨_, rfl, ?_⟩; replace HO_3 := Aside0.mk (Kd.R_below (by (with_reducible repeat (first | apply Kd.R_alloc | apply Kd.R_drewN | apply Kd.R_drew)); exact (Kd.R_mono (Kd.R_far (p := ⟨gb329, 1, none⟩) (Kd.R_far (p := ⟨gb329, 0, none⟩) (Kd.R_types HO_3.out BK329.out (by decide)) (fun _ hk => hk.2) (.int .i64 ((rd_T100 l0 x10_1).f0))) (fun _ hk => hk.2) (.int .i64 ((rd_T100 l0 x10_1).f1))) (fun _ h_ => h_.1))) hb); replace BK329 := Aside0.mk (blk_below (g := gb329) (o := .cells #[.int .i64 ((rd_T100 l0 x10_1).f0), .int .i64 ((rd_T100 l0 x10_1).f1)] 100 (0, 0)) (sp BK329) hb); replace HB := bsw hb; (try clear hb); (try clear hb2); (try clear hk); (try clear hi)))
     go_roundg k1
     case measure => have := HK1.out; omega
     case rel => exact ⟨(x3_1), (wrap64 (x10_1 + 1)), sc, H', kk1, ⟨sr HO_3⟩, ⟨sbw⟩⟩
   ·have c5b0 := decide_eq_false c5
    clear c5
    obtain rfl := Option.some.inj H
    go_wp2
    go_ret
    exact ⟨_, se, sr HO_3, sb⟩

end Go.Proofs.Ytaciciobhfoglaa.QFnForecasts
