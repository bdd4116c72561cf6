/- What the Go functions of the law FnForecasts come to, as Lean functions, and that they do: by a program of the session, out of the kit's printer. Conditions: none. (squeezed). -/
import Derived.Test.YtaciciobhfoglaaSq
import Derived.Test.YtaciciobhfoglaaQFnForecastsx0
import Derived.Test.YtaciciobhfoglaaQFnForecastsx2
import Derived.Test.YtaciciobhfoglaaQFnForecastsx3
import Derived.Test.YtaciciobhfoglaaQFnForecastsx7
namespace Go.Proofs.Ytaciciobhfoglaa.QFnForecasts
open Go.RowKit Go.Proofs.YtaciciobhfoglaaW.PrintWords Go.Proofs.YtaciciobhfoglaaW.PrintLast Go.Proofs.YtaciciobhfoglaaW.PrintMore Go.Proofs.Ytaciciobhfoglaa.Open Go.Proofs.Ytaciciobhfoglaa.Sq
attribute [local go_sem] max2_int min2_int max_two min_two max_three min_three max_four min_four   -- for this text's walks alone
attribute [local go_sem] isSome_set
set_option linter.unusedVariables false
set_option linter.unusedSimpArgs false

/-! ### spec_DrawForecastOf: function 58 -/
def spec_DrawForecastOf.f (k : Nat) (l0 : List Int) : Option (Int × Int × Int × Int × Int × Int × (List (S100)) × Int × List Int) := (spec_l1New.f k l0).bind fun bt394 => ((spec_l22Any.f bt394.1 bt394.2.1 bt394.2.2).bind fun bt398 => ((spec_l4List.f k bt394.1 bt398.2.2.2.2.2.2.1 bt398.2.2.2.2.2.2.2).bind fun bt407 => ((spec_l1Below.f bt394.1 bt407.2.1 bt407.2.2 30).bind fun bt412 => ((spec_l23Sends.f k bt394.1 bt412.2.1 bt412.2.2).bind fun bt415 => (some (bt398.1, bt398.2.1, bt398.2.2.1, bt398.2.2.2.1, bt398.2.2.2.2.1, bt398.2.2.2.2.2.1, bt407.1, bt412.1, bt415.1))))))
theorem spec_DrawForecastOf.mono : ∀ a0 k, LeO (spec_DrawForecastOf.f k a0) (spec_DrawForecastOf.f (k + 1) a0) := by
  intro a0 k
  unfold spec_DrawForecastOf.f
  have m0 := @spec_l1New.mono
  have m1 := @spec_l23Sends.mono
  have m2 := @spec_l4List.mono
  exact mo
def spec_DrawForecastOf.T5 : Bool × List (List Nat × List Nat) := (true, [([], []), ([], []), ([], []), ([], []), ([3], [3]), ([0, 4, 0], [0]), ([1, 5, 0, 1, 5], [1]), ([2, 6, 0, 1, 2, 5, 6], [2]), ([4, 7, 0, 1, 2, 3, 4, 5, 6, 7], [4])])
def spec_DrawForecastOf.B5 : List Nat := [0, 0, 0, 0, 8, 25, 59, 127, 255]
theorem spec_DrawForecastOf.tab5 : rtab .any (opsOf Try.f58 5) = spec_DrawForecastOf.T5 := by kernel_rfl
theorem spec_DrawForecastOf.bits5 : waitsOk spec_DrawForecastOf.T5.2 spec_DrawForecastOf.B5 = true := by kernel_rfl
set_option maxHeartbeats 8000000 in
set_option maxRecDepth 100000 in
theorem spec_DrawForecastOf.calls (k : Nat) (A0 : Option Addr) (c0 : Nat) (l0 : List Int) (r1 : Int) (r2 : Int) (r3 : Int) (r4 : Int) (r5 : Int) (r6 : Int) (r7 : List (S100)) (r8 : Int) (r9 : List Int) (w : World) (hr0 : Kd.C (Kd.int .u8) w A0 l0.length l0) (hc0 : l0.length ≤ c0) (h : spec_DrawForecastOf.f k l0 = some (r1, r2, r3, r4, r5, r6, r7, r8, r9)) :
    Calls Try.prog 58 #[.slice A0 l0.length c0] w fun e w' => ∃ v6_ v8_ : Value, e = .returned (.tuple #[.agg #[.int .i64 r1, .int .i64 r2, .int .i64 r3, .int .i64 r4, .int .i64 r5, .int .i64 r6], v6_, .int .i64 r8, v8_]) ∧ Kd.R k100 100 w' w.heap.size (fun _ => True) v6_ r7 ∧ Kd.R (Kd.int .i64) 3 w' w.heap.size (fun _ => True) v8_ r9 ∧ Below w.heap.size w w' := by
 have hu27 := Try.underlying27
 have HR0 := Aside0.mk hr0
 have HC0 := Aside0.mk hc0
 clear hr0 hc0
 have HB := Aside0.mk (Below.refl w.heap.size w)
 have H : ((spec_l1New.f k l0).bind fun bt394 => ((spec_l22Any.f bt394.1 bt394.2.1 bt394.2.2).bind fun bt398 => ((spec_l4List.f k bt394.1 bt398.2.2.2.2.2.2.1 bt398.2.2.2.2.2.2.2).bind fun bt407 => ((spec_l1Below.f bt394.1 bt407.2.1 bt407.2.2 30).bind fun bt412 => ((spec_l23Sends.f k bt394.1 bt412.2.1 bt412.2.2).bind fun bt415 => (some (bt398.1, bt398.2.1, bt398.2.2.1, bt398.2.2.2.1, bt398.2.2.2.2.1, bt398.2.2.2.2.2.1, bt407.1, bt412.1, bt415.1))))))) = some (r1, r2, r3, r4, r5, r6, r7, r8, r9) := h
 clear h
 obtain ⟨⟨t394, t395, t396⟩, A2, H⟩ := bnd H
 replace H : ((spec_l22Any.f t394 t395 t396).bind fun bt398 => ((spec_l4List.f k t394 bt398.2.2.2.2.2.2.1 bt398.2.2.2.2.2.2.2).bind fun bt407 => ((spec_l1Below.f t394 bt407.2.1 bt407.2.2 30).bind fun bt412 => ((spec_l23Sends.f k t394 bt412.2.1 bt412.2.2).bind fun bt415 => (some (bt398.1, bt398.2.1, bt398.2.2.1, bt398.2.2.2.1, bt398.2.2.2.2.1, bt398.2.2.2.2.2.1, bt407.1, bt412.1, bt415.1)))))) = some (r1, r2, r3, r4, r5, r6, r7, r8, r9) := H
 obtain ⟨⟨t398, t399, t400, t401, t402, t403, t404, t405⟩, A3, H⟩ := bnd H
 replace H : ((spec_l4List.f k t394 t404 t405).bind fun bt407 => ((spec_l1Below.f t394 bt407.2.1 bt407.2.2 30).bind fun bt412 => ((spec_l23Sends.f k t394 bt412.2.1 bt412.2.2).bind fun bt415 => (some (t398, t399, t400, t401, t402, t403, bt407.1, bt412.1, bt415.1))))) = some (r1, r2, r3, r4, r5, r6, r7, r8, r9) := H
 obtain ⟨⟨t407, t410, t411⟩, A4, H⟩ := bnd H
 replace H : ((spec_l1Below.f t394 t410 t411 30).bind fun bt412 => ((spec_l23Sends.f k t394 bt412.2.1 bt412.2.2).bind fun bt415 => (some (t398, t399, t400, t401, t402, t403, t407, bt412.1, bt415.1)))) = some (r1, r2, r3, r4, r5, r6, r7, r8, r9) := H
 obtain ⟨⟨t412, t413, t414⟩, A5, H⟩ := bnd H
 replace H : ((spec_l23Sends.f k t394 t413 t414).bind fun bt415 => (some (t398, t399, t400, t401, t402, t403, t407, t412, bt415.1))) = some (r1, r2, r3, r4, r5, r6, r7, r8, r9) := H
 obtain ⟨⟨t415, t418, t419⟩, A6, H⟩ := bnd H
 replace H : (some (t398, t399, t400, t401, t402, t403, t407, t412, t415)) = some (r1, r2, r3, r4, r5, r6, r7, r8, r9) := H
 simp only [Option.some.injEq, Prod.mk.injEq] at H
 obtain ⟨rfl, rfl, rfl, rfl, rfl, rfl, rfl, rfl, rfl⟩ := H
 go_enter Try.func58, Try.ntmps58
 try go_wp2_with (first | ((with_reducible refine gate_dst (N := 2) rfl ?_); refine bx 2 #[.int .i64 0, .int .i64 0, .int .i64 0, .int .i64 0, .int .i64 0, .int .i64 0] 27 ?_; intro gb393 hg w7 hbox hb; have GW393 := bz w hg; have GE393 := bz w hg; replace HB := bs hb; have BK393 := Aside0.mk hbox; clear hb hbox hg) | ((with_reducible refine gate_callee (f := 84) rfl ?_); refine gL (some 11) Try.func84 #[.slice A0 l0.length c0] ?_; (with_reducible refine (spec_l1New.calls k _ _ l0 t394 t395 t396 w _ ?side1 ?side2 ?side3 A2.out).mono ?_); (case side1 => repeat (first | (with_reducible first | exact HB.out | apply below_alloc | apply pw_below_drewN | apply below_drew1 | refine below_set ?_ GE393.out) | exact HB.out)); (case side2 => exact HR0.out); (case side3 => exact HC0.out); rintro e w8 ⟨g397, rfl, hi, hb, hb2⟩; refine ⟨_, rfl, ?_⟩; replace HB := Aside0.mk hb; have HI397 := Aside0.mk hi; have NB397_393 := Aside0.mk (IsS143.ne_blk hi (blk_below (g := gb393) (o := .cells #[.int .i64 0, .int .i64 0, .int .i64 0, .int .i64 0, .int .i64 0, .int .i64 0] 27 (0, 0)) (sk BK393) hb2) (by decide)); have NB393_397 := Aside0.mk (Ne.symm (IsS143.ne_blk hi (blk_below (g := gb393) (o := .cells #[.int .i64 0, .int .i64 0, .int .i64 0, .int .i64 0, .int .i64 0, .int .i64 0] 27 (0, 0)) (sk BK393) hb2) (by decide))); replace BK393 := bb BK393 hb2; (try clear hb); (try clear hb2); (try clear hk); (try clear hi)) | ((with_reducible refine gate_callee (f := 99) rfl ?_); refine gL (some 13) Try.func99 #[.pointer (some ⟨g397, 0, none⟩)] ?_; (with_reducible refine (spec_l22Any.calls g397 t394 t395 t396 t398 t399 t400 t401 t402 t403 t404 t405 w _ ?side1 ?side2 A3.out).mono ?_); (case side1 => repeat (first | (with_reducible first | exact HI397.out | apply IsS143.alloc | apply IsS143.drewN | apply IsS143.drew | apply IsS143.set_1 | apply IsS143.set_2 | refine IsS143.far ?_ NB397_393.out _) | exact HI397.out)); (case side2 => repeat (first | (with_reducible first | exact HB.out | apply below_alloc | apply pw_below_drewN | apply below_drew1 | refine below_set ?_ (IsS143.ge HI397.out) | refine below_set ?_ GE393.out) | exact HB.out)); rintro e w9 ⟨rfl, hi, hb, hk⟩; refine ⟨_, rfl, ?_⟩; replace BK393 := Aside0.mk (KeepBut.blk hk (g' := gb393) (o := .cells #[.int .i64 0, .int .i64 0, .int .i64 0, .int .i64 0, .int .i64 0, .int .i64 0] 27 (0, 0)) (sk BK393) NB393_397.out (by simp)); replace HB := Aside0.mk hb; replace HI397 := Aside0.mk hi; (try clear hb); (try clear hb2); (try clear hk); (try clear hi)) | ((with_reducible refine gate_dst (N := 7) rfl ?_); refine bx 7 #[.int .i64 0, .int .i64 0, .int .i64 0, .int .i64 0, .int .i64 0, .int .i64 0] 27 ?_; intro gb406 hg w10 hbox hb; have BK406 := Aside0.mk hbox; have GW406 := Aside0.mk ((by rw [hg]; exact (below_size (by repeat (first | (with_reducible first | exact HB.out | apply below_alloc | apply pw_below_drewN | apply below_drew1 | refine below_set ?_ (IsS143.ge HI397.out) | refine below_set ?_ GE393.out) | exact HB.out))) : w.heap.size ≤ gb406)); have GE406 := Aside0.mk ((by rw [hg]; exact (below_size (by repeat (first | (with_reducible first | exact HB.out | apply below_alloc | apply pw_below_drewN | apply below_drew1 | refine below_set ?_ (IsS143.ge HI397.out) | refine below_set ?_ GE393.out) | exact HB.out))) : w.heap.size ≤ gb406)); replace HB := Aside0.mk (below_step (by repeat (first | (with_reducible first | exact HB.out | apply below_alloc | apply pw_below_drewN | apply below_drew1 | refine below_set ?_ (IsS143.ge HI397.out) | refine below_set ?_ GE393.out) | exact HB.out)) hb); have NB393_406 := nl BK393 hg; have NB406_393 := ng BK393 hg; replace BK393 := bb BK393 hb; have NB397_406 := Aside0.mk ((by rw [hg]; exact Nat.ne_of_lt (IsS143.lt (show IsS143 w _ g397 t394 t404 t405 from by repeat (first | (with_reducible first | exact HI397.out | apply IsS143.alloc | apply IsS143.drewN | apply IsS143.drew | apply IsS143.set_1 | apply IsS143.set_2 | refine IsS143.far ?_ NB397_393.out _) | exact HI397.out))) : g397 ≠ gb406)); have NB406_397 := Aside0.mk ((by rw [hg]; exact Nat.ne_of_gt (IsS143.lt (show IsS143 w _ g397 t394 t404 t405 from by repeat (first | (with_reducible first | exact HI397.out | apply IsS143.alloc | apply IsS143.drewN | apply IsS143.drew | apply IsS143.set_1 | apply IsS143.set_2 | refine IsS143.far ?_ NB397_393.out _) | exact HI397.out))) : gb406 ≠ g397)); replace HI397 := Aside0.mk (IsS143.below (by repeat (first | (with_reducible first | exact HI397.out | apply IsS143.alloc | apply IsS143.drewN | apply IsS143.drew | apply IsS143.set_1 | apply IsS143.set_2 | refine IsS143.far ?_ NB397_393.out _) | exact HI397.out)) hb); clear hb hbox hg; have hnb11 := NB406_393.out; have hnc11 := NB393_406.out; have hnb12 := NB406_397.out; have hnc12 := NB397_406.out; obtain ⟨hcz13_0, hcz13_1, hcz13_2, hcz13_3, hcz13_4, hcz13_5, hfz13_0, hfz13_1, hfz13_2, hfz13_3, hfz13_4, hfz13_5⟩ := cc6 BK406) | ((with_reducible refine gate_callee (f := 100) rfl ?_); refine gL (some 15) Try.func100 #[.pointer (some ⟨g397, 0, none⟩)] ?_; (with_reducible refine (spec_l4List.calls k g397 t394 t404 t405 t407 t410 t411 w _ ?side1 ?side2 A4.out).mono ?_); (case side1 => repeat (first | (with_reducible first | exact HI397.out | apply IsS143.alloc | apply IsS143.drewN | apply IsS143.drew | apply IsS143.set_1 | apply IsS143.set_2 | refine IsS143.far ?_ NB397_393.out _ | refine IsS143.far ?_ NB397_406.out _) | exact HI397.out)); (case side2 => repeat (first | (with_reducible first | exact HB.out | apply below_alloc | apply pw_below_drewN | apply below_drew1 | refine below_set ?_ (IsS143.ge HI397.out) | refine below_set ?_ GE393.out | refine below_set ?_ GE406.out) | exact HB.out)); rintro e w14 ⟨v408, rfl, ho0, hi, hb, hk⟩; refine ⟨_, rfl, ?_⟩; replace BK393 := Aside0.mk (KeepBut.blk hk (g' := gb393) (o := .cells #[.int .i64 0, .int .i64 0, .int .i64 0, .int .i64 0, .int .i64 0, .int .i64 0] 27 (0, 0)) (sp BK393) NB393_397.out (by simp)); replace BK406 := Aside0.mk (KeepBut.blk hk (g' := gb406) (o := .cells #[.int .i64 t398, .int .i64 t399, .int .i64 t400, .int .i64 t401, .int .i64 t402, .int .i64 t403] 27 (0, 0)) (sp BK406) NB406_397.out (by simp)); have HO409 := Aside0.mk (Kd.R_lower ho0 (below_size (by repeat (first | (with_reducible first | exact HB.out | apply below_alloc | apply pw_below_drewN | apply below_drew1 | refine below_set ?_ (IsS143.ge HI397.out) | refine below_set ?_ GE393.out | refine below_set ?_ GE406.out) | exact HB.out)))); replace HB := Aside0.mk hb; replace HI397 := Aside0.mk hi; (try clear hb); (try clear hb2); (try clear hk); (try clear hi); (try clear ho0)) | ((with_reducible refine gate_callee (f := 90) rfl ?_); refine gL (some 17) Try.func90 #[.pointer (some ⟨g397, 0, none⟩), .int .i64 30] ?_; (with_reducible refine (spec_l1Below.calls g397 t394 t410 t411 30 t412 t413 t414 w _ ?side1 ?side2 A5.out).mono ?_); (case side1 => repeat (first | (with_reducible first | exact HI397.out | apply IsS143.alloc | apply IsS143.drewN | apply IsS143.drew | apply IsS143.set_1 | apply IsS143.set_2 | refine IsS143.far ?_ NB397_393.out _ | refine IsS143.far ?_ NB397_406.out _) | exact HI397.out)); (case side2 => repeat (first | (with_reducible first | exact HB.out | apply below_alloc | apply pw_below_drewN | apply below_drew1 | refine below_set ?_ (IsS143.ge HI397.out) | refine below_set ?_ GE393.out | refine below_set ?_ GE406.out) | exact HB.out)); rintro e w15 ⟨rfl, hi, hb, hk⟩; refine ⟨_, rfl, ?_⟩; replace BK393 := Aside0.mk (KeepBut.blk hk (g' := gb393) (o := .cells #[.int .i64 0, .int .i64 0, .int .i64 0, .int .i64 0, .int .i64 0, .int .i64 0] 27 (0, 0)) (sk BK393) NB393_397.out (by simp)); replace BK406 := Aside0.mk (KeepBut.blk hk (g' := gb406) (o := .cells #[.int .i64 t398, .int .i64 t399, .int .i64 t400, .int .i64 t401, .int .i64 t402, .int .i64 t403] 27 (0, 0)) (sk BK406) NB406_397.out (by simp)); replace HO409 := Aside0.mk (Kd.R_mono (Kd.R_keep (IsS143.apart (show IsS143 w _ g397 t394 t410 t411 from by repeat (first | (with_reducible first | exact HI397.out | apply IsS143.alloc | apply IsS143.drewN | apply IsS143.drew | apply IsS143.set_1 | apply IsS143.set_2 | refine IsS143.far ?_ NB397_393.out _ | refine IsS143.far ?_ NB397_406.out _) | exact HI397.out)) (sr HO409) (by decide)) hk (fun _ h => h.2)) (fun _ h => h.1)); replace HB := Aside0.mk hb; replace HI397 := Aside0.mk hi; (try clear hb); (try clear hb2); (try clear hk); (try clear hi)))
 replace HO409 := Aside0.mk (Kd.R_drew HO409.out)
 replace BK393 := Aside0.mk (blk_drew BK393.out)
 replace BK406 := Aside0.mk (blk_drew BK406.out)
 replace HI397 := Aside0.mk (IsS143.drew HI397.out)
 replace HB := Aside0.mk (below_drew1 HB.out)
 refine start_ (n := 9) (S := fun w' => w'.cell? ⟨gb406, 0, none⟩ = some (.int .i64 t398) ∧ w'.cell? ⟨gb406, 1, none⟩ = some (.int .i64 t399) ∧ w'.cell? ⟨gb406, 2, none⟩ = some (.int .i64 t400) ∧ w'.cell? ⟨gb406, 3, none⟩ = some (.int .i64 t401) ∧ w'.cell? ⟨gb406, 4, none⟩ = some (.int .i64 t402) ∧ w'.cell? ⟨gb406, 5, none⟩ = some (.int .i64 t403)) (ds := []) #[false, false, false, false, false, false, false, false, false] (by kernel_rfl) rfl rfl ⟨bc0 BK406, bc1 BK406, bc2 BK406, bc3 BK406, bc4 BK406, bc5 BK406⟩ (fun hHeld => ?_); refine with_tabW spec_DrawForecastOf.tab5 spec_DrawForecastOf.bits5 (fun HT_ HW_ => ?_)
 generalize w15.drew = w16 at HO409 BK393 BK406 HI397 HB hHeld ⊢
 refine put 1 19 #[false, true, false, false, false, false, false, false, false] HT_ ?_
 refine put 2 20 #[false, true, true, false, false, false, false, false, false] HT_ ?_
 refine put 3 21 #[false, true, true, true, false, false, false, false, false] HT_ ?_
 refine tat6 0 18 #[true, true, true, true, false, false, false, false, false] HT_ HW_ hHeld ?_
 refine one_ (i := 4) (N := some 22) #[true, true, true, true, true, false, false, false, false] rfl rfl (one_of HT_.out (by kernel_rfl)) (by decide) (fun K hK => ?_)
 refine goes_ Try.func101 (by kernel_rfl) rfl #[.pointer (some ⟨g397, 0, none⟩)] (by rfl) rfl rfl sl ?_
 with_reducible refine (spec_l23Sends.calls k g397 t394 t413 t414 t415 t418 t419 w _ ?side1 ?side2 A6.out).mono ?_
 (case side1 => repeat (first | (with_reducible first | exact HI397.out | apply IsS143.alloc | apply IsS143.drewN | apply IsS143.drew | apply IsS143.set_1 | apply IsS143.set_2 | refine IsS143.far ?_ NB397_393.out _ | refine IsS143.far ?_ NB397_406.out _) | exact HI397.out))
 (case side2 => repeat (first | (with_reducible first | exact HB.out | apply below_alloc | apply pw_below_drewN | apply below_drew1 | refine below_set ?_ (IsS143.ge HI397.out) | refine below_set ?_ GE393.out | refine below_set ?_ GE406.out) | exact HB.out))
 rintro e w17 ⟨v416, rfl, ho0, hi, hb, hk⟩
 refine ⟨_, rfl, ?_⟩
 replace BK393 := Aside0.mk (KeepBut.blk hk (g' := gb393) (o := .cells #[.int .i64 0, .int .i64 0, .int .i64 0, .int .i64 0, .int .i64 0, .int .i64 0] 27 (0, 0)) (sk BK393) NB393_397.out (by simp))
 replace BK406 := Aside0.mk (KeepBut.blk hk (g' := gb406) (o := .cells #[.int .i64 t398, .int .i64 t399, .int .i64 t400, .int .i64 t401, .int .i64 t402, .int .i64 t403] 27 (0, 0)) (sk BK406) NB406_397.out (by simp))
 replace HO409 := Aside0.mk (Kd.R_mono (Kd.R_keep (IsS143.apart (show IsS143 w _ g397 t394 t413 t414 from by repeat (first | (with_reducible first | exact HI397.out | apply IsS143.alloc | apply IsS143.drewN | apply IsS143.drew | apply IsS143.set_1 | apply IsS143.set_2 | refine IsS143.far ?_ NB397_393.out _ | refine IsS143.far ?_ NB397_406.out _) | exact HI397.out)) (sr HO409) (by decide)) hk (fun _ h => h.2)) (fun _ h => h.1))
 have HO417 := Aside0.mk (Kd.R_lower ho0 (below_size (by repeat (first | (with_reducible first | exact HB.out | apply below_alloc | apply pw_below_drewN | apply below_drew1 | refine below_set ?_ (IsS143.ge HI397.out) | refine below_set ?_ GE393.out | refine below_set ?_ GE406.out) | exact HB.out))))
 replace HB := Aside0.mk hb
 replace HI397 := Aside0.mk hi
 (try clear hb)
 (try clear hb2)
 (try clear hk)
 (try clear hi)
 (try clear ho0)
 refine hK.out _ _ ⟨bc0 BK406, bc1 BK406, bc2 BK406, bc3 BK406, bc4 BK406, bc5 BK406⟩ (fun hHeld => ?_)
 clear hK K
 refine norm_ (a' := ?_) ?_ ?_
 rotate_left
 ·show Act.put _ (some 22) _ = _
  simp only [Act.put, List.setIfInBounds_toArray, List.set_cons_zero, List.set_cons_succ, i64_w, i32_w]
  rfl
 refine one_ (i := 5) (N := none) #[true, true, true, true, true, true, false, false, false] rfl rfl (one_of HT_.out (by kernel_rfl)) (by decide) (fun K hK => ?_)
 obtain ⟨hs18, hfs18⟩ := cc1 BK393
 have hns18_1 := NB406_393.out
 have hms18_1 := NB393_406.out
 have hs19 := bc1 BK393
 have hfs19 := bf BK393 1
 have hns19_1 := NB406_393.out
 have hms19_1 := NB393_406.out
 have hs20 := bc2 BK393
 have hfs20 := bf BK393 2
 have hns20_1 := NB406_393.out
 have hms20_1 := NB393_406.out
 have hs21 := bc3 BK393
 have hfs21 := bf BK393 3
 have hns21_1 := NB406_393.out
 have hms21_1 := NB393_406.out
 have hs22 := bc4 BK393
 have hfs22 := bf BK393 4
 have hns22_1 := NB406_393.out
 have hms22_1 := NB393_406.out
 have hs23 := bc5 BK393
 have hfs23 := bf BK393 5
 have hns23_1 := NB406_393.out
 have hms23_1 := NB393_406.out
 refine skip_ (w1 := ?_) (by rfl) rfl ?_ ?_
 rotate_left
 ·go_simp
  rfl
 refine hK.out _ _ ⟨((cell_far (p := ⟨gb393, _, none⟩) NB406_393.out _).trans (((cell_far (p := ⟨gb393, _, none⟩) NB406_393.out _).trans (((cell_far (p := ⟨gb393, _, none⟩) NB406_393.out _).trans (((cell_far (p := ⟨gb393, _, none⟩) NB406_393.out _).trans (((cell_far (p := ⟨gb393, _, none⟩) NB406_393.out _).trans (((cell_far (p := ⟨gb393, _, none⟩) NB406_393.out _).trans (hHeld.1)))))))))))), ((cell_far (p := ⟨gb393, _, none⟩) NB406_393.out _).trans (((cell_far (p := ⟨gb393, _, none⟩) NB406_393.out _).trans (((cell_far (p := ⟨gb393, _, none⟩) NB406_393.out _).trans (((cell_far (p := ⟨gb393, _, none⟩) NB406_393.out _).trans (((cell_far (p := ⟨gb393, _, none⟩) NB406_393.out _).trans (((cell_far (p := ⟨gb393, _, none⟩) NB406_393.out _).trans (hHeld.2.1)))))))))))), ((cell_far (p := ⟨gb393, _, none⟩) NB406_393.out _).trans (((cell_far (p := ⟨gb393, _, none⟩) NB406_393.out _).trans (((cell_far (p := ⟨gb393, _, none⟩) NB406_393.out _).trans (((cell_far (p := ⟨gb393, _, none⟩) NB406_393.out _).trans (((cell_far (p := ⟨gb393, _, none⟩) NB406_393.out _).trans (((cell_far (p := ⟨gb393, _, none⟩) NB406_393.out _).trans (hHeld.2.2.1)))))))))))), ((cell_far (p := ⟨gb393, _, none⟩) NB406_393.out _).trans (((cell_far (p := ⟨gb393, _, none⟩) NB406_393.out _).trans (((cell_far (p := ⟨gb393, _, none⟩) NB406_393.out _).trans (((cell_far (p := ⟨gb393, _, none⟩) NB406_393.out _).trans (((cell_far (p := ⟨gb393, _, none⟩) NB406_393.out _).trans (((cell_far (p := ⟨gb393, _, none⟩) NB406_393.out _).trans (hHeld.2.2.2.1)))))))))))), ((cell_far (p := ⟨gb393, _, none⟩) NB406_393.out _).trans (((cell_far (p := ⟨gb393, _, none⟩) NB406_393.out _).trans (((cell_far (p := ⟨gb393, _, none⟩) NB406_393.out _).trans (((cell_far (p := ⟨gb393, _, none⟩) NB406_393.out _).trans (((cell_far (p := ⟨gb393, _, none⟩) NB406_393.out _).trans (((cell_far (p := ⟨gb393, _, none⟩) NB406_393.out _).trans (hHeld.2.2.2.2.1)))))))))))), ((cell_far (p := ⟨gb393, _, none⟩) NB406_393.out _).trans (((cell_far (p := ⟨gb393, _, none⟩) NB406_393.out _).trans (((cell_far (p := ⟨gb393, _, none⟩) NB406_393.out _).trans (((cell_far (p := ⟨gb393, _, none⟩) NB406_393.out _).trans (((cell_far (p := ⟨gb393, _, none⟩) NB406_393.out _).trans (((cell_far (p := ⟨gb393, _, none⟩) NB406_393.out _).trans (hHeld.2.2.2.2.2))))))))))))⟩ (fun hHeld => ?_)
 clear hK K
 refine put 6 3 #[true, true, true, true, true, true, true, false, false] HT_ ?_
 refine put 7 4 #[true, true, true, true, true, true, true, true, false] HT_ ?_
 refine put 8 5 #[true, true, true, true, true, true, true, true, true] HT_ ?_
 refine done_ (done_of HT_.out (by kernel_rfl)) ?_
 try go_wp2
 refine bodyPost_ret (results_list (rs := [.cell 2 27, .tmp 3, .tmp 4, .tmp 5]) rfl (by simp) (.cell gb393 27 #[.int .i64 t398, .int .i64 t399, .int .i64 t400, .int .i64 t401, .int .i64 t402, .int .i64 t403] (0, 0) _ rfl (sp BK393) Try.underlying27 rfl (by kernel_rfl) (.tmp (.tmp (.tmp .nil))))) rfl ?_
 exact ⟨_, _, se, by (with_reducible repeat (first | apply Kd.R_alloc | apply Kd.R_drewN | apply Kd.R_drew)); exact Kd.R_mono (Kd.R_far (p := ⟨gb393, 5, none⟩) (Kd.R_far (p := ⟨gb393, 4, none⟩) (Kd.R_far (p := ⟨gb393, 3, none⟩) (Kd.R_far (p := ⟨gb393, 2, none⟩) (Kd.R_far (p := ⟨gb393, 1, none⟩) (Kd.R_far (p := ⟨gb393, 0, none⟩) (Kd.R_types HO409.out BK393.out (by decide)) (fun _ hk => hk.2) (.int .i64 t398)) (fun _ hk => hk.2) (.int .i64 t399)) (fun _ hk => hk.2) (.int .i64 t400)) (fun _ hk => hk.2) (.int .i64 t401)) (fun _ hk => hk.2) (.int .i64 t402)) (fun _ hk => hk.2) (.int .i64 t403)) (fun _ hk => trivial), by (with_reducible repeat (first | apply Kd.R_alloc | apply Kd.R_drewN | apply Kd.R_drew)); exact Kd.R_mono (Kd.R_far (p := ⟨gb393, 5, none⟩) (Kd.R_far (p := ⟨gb393, 4, none⟩) (Kd.R_far (p := ⟨gb393, 3, none⟩) (Kd.R_far (p := ⟨gb393, 2, none⟩) (Kd.R_far (p := ⟨gb393, 1, none⟩) (Kd.R_far (p := ⟨gb393, 0, none⟩) (Kd.R_types HO417.out BK393.out (by decide)) (fun _ hk => hk.2) (.int .i64 t398)) (fun _ hk => hk.2) (.int .i64 t399)) (fun _ hk => hk.2) (.int .i64 t400)) (fun _ hk => hk.2) (.int .i64 t401)) (fun _ hk => hk.2) (.int .i64 t402)) (fun _ hk => hk.2) (.int .i64 t403)) (fun _ hk => trivial), by repeat (first | (with_reducible first | exact HB.out | apply below_alloc | apply pw_below_drewN | apply below_drew1 | refine below_set ?_ (IsS143.ge HI397.out) | refine below_set ?_ GE393.out | refine below_set ?_ GE406.out) | exact HB.out)⟩

/-! ### spec_DrawMaySend: function 102 -/
def spec_DrawMaySend.f (k : Nat) (l0 : List Int) : Option (Int × Int × Int × Int × Int × Int × Int) := (spec_l1New.f k l0).bind fun bt421 => ((spec_l22Any.f bt421.1 bt421.2.1 bt421.2.2).bind fun bt425 => ((spec_l1Int.f bt421.1 bt425.2.2.2.2.2.2.1 bt425.2.2.2.2.2.2.2 (([0, 5, 20, 40, (-1), 10001] : List Int))).bind fun bt437 => (some (bt425.1, bt425.2.1, bt425.2.2.1, bt425.2.2.2.1, bt425.2.2.2.2.1, bt425.2.2.2.2.2.1, bt437.1))))
theorem spec_DrawMaySend.mono : ∀ a0 k, LeO (spec_DrawMaySend.f k a0) (spec_DrawMaySend.f (k + 1) a0) := by
  intro a0 k
  unfold spec_DrawMaySend.f
  have m0 := @spec_l1New.mono
  exact mo
set_option maxHeartbeats 8000000 in
set_option maxRecDepth 100000 in
theorem spec_DrawMaySend.calls (k : Nat) (A0 : Option Addr) (c0 : Nat) (l0 : List Int) (r1 : Int) (r2 : Int) (r3 : Int) (r4 : Int) (r5 : Int) (r6 : Int) (r7 : Int) (w : World) (hr0 : Kd.C (Kd.int .u8) w A0 l0.length l0) (hc0 : l0.length ≤ c0) (h : spec_DrawMaySend.f k l0 = some (r1, r2, r3, r4, r5, r6, r7)) :
    Calls Try.prog 102 #[.slice A0 l0.length c0] w fun e w' => e = .returned (.tuple #[.agg #[.int .i64 r1, .int .i64 r2, .int .i64 r3, .int .i64 r4, .int .i64 r5, .int .i64 r6], .int .i64 r7]) ∧ Below w.heap.size w w' := by
 have hu27 := Try.underlying27
 have HR0 := Aside0.mk hr0
 have HC0 := Aside0.mk hc0
 clear hr0 hc0
 have HB := Aside0.mk (Below.refl w.heap.size w)
 have H : ((spec_l1New.f k l0).bind fun bt421 => ((spec_l22Any.f bt421.1 bt421.2.1 bt421.2.2).bind fun bt425 => ((spec_l1Int.f bt421.1 bt425.2.2.2.2.2.2.1 bt425.2.2.2.2.2.2.2 (([0, 5, 20, 40, (-1), 10001] : List Int))).bind fun bt437 => (some (bt425.1, bt425.2.1, bt425.2.2.1, bt425.2.2.2.1, bt425.2.2.2.2.1, bt425.2.2.2.2.2.1, bt437.1))))) = some (r1, r2, r3, r4, r5, r6, r7) := h
 clear h
 obtain ⟨⟨t421, t422, t423⟩, A2, H⟩ := bnd H
 replace H : ((spec_l22Any.f t421 t422 t423).bind fun bt425 => ((spec_l1Int.f t421 bt425.2.2.2.2.2.2.1 bt425.2.2.2.2.2.2.2 (([0, 5, 20, 40, (-1), 10001] : List Int))).bind fun bt437 => (some (bt425.1, bt425.2.1, bt425.2.2.1, bt425.2.2.2.1, bt425.2.2.2.2.1, bt425.2.2.2.2.2.1, bt437.1)))) = some (r1, r2, r3, r4, r5, r6, r7) := H
 obtain ⟨⟨t425, t426, t427, t428, t429, t430, t431, t432⟩, A3, H⟩ := bnd H
 replace H : ((spec_l1Int.f t421 t431 t432 (([0, 5, 20, 40, (-1), 10001] : List Int))).bind fun bt437 => (some (t425, t426, t427, t428, t429, t430, bt437.1))) = some (r1, r2, r3, r4, r5, r6, r7) := H
 obtain ⟨y434, hy434⟩ : ∃ y_ : List Int, y_ = (([0, 5, 20, 40, (-1), 10001] : List Int)) := ⟨_, rfl⟩
 replace H : ((spec_l1Int.f t421 t431 t432 y434).bind fun bt437 => (some (t425, t426, t427, t428, t429, t430, bt437.1))) = some (r1, r2, r3, r4, r5, r6, r7) := by first | (rw [hy434]; with_reducible exact H) | (have H2_ := (Option.bind_some _ _).symm.trans H; rw [hy434]; with_reducible exact H2_) | (have H2_ := (Option.bind_some _ _).symm.trans H; with_reducible exact H2_) | with_reducible exact H | (rw [hy434]; exact H) | exact H
 have Ny434 := Aside0.mk hy434
 clear hy434
 obtain ⟨⟨t437, t438, t439⟩, A4, H⟩ := bnd H
 replace H : (some (t425, t426, t427, t428, t429, t430, t437)) = some (r1, r2, r3, r4, r5, r6, r7) := H
 simp only [Option.some.injEq, Prod.mk.injEq] at H
 obtain ⟨rfl, rfl, rfl, rfl, rfl, rfl, rfl⟩ := H
 go_enter Try.func102, Try.ntmps102
 try go_wp2_with (first | ((with_reducible refine gate_dst (N := 2) rfl ?_); refine bx 2 #[.int .i64 0, .int .i64 0, .int .i64 0, .int .i64 0, .int .i64 0, .int .i64 0] 27 ?_; intro gb420 hg w5 hbox hb; have GW420 := bz w hg; have GE420 := bz w hg; replace HB := bs hb; have BK420 := Aside0.mk hbox; clear hb hbox hg) | ((with_reducible refine gate_callee (f := 84) rfl ?_); refine gL (some 7) Try.func84 #[.slice A0 l0.length c0] ?_; (with_reducible refine (spec_l1New.calls k _ _ l0 t421 t422 t423 w _ ?side1 ?side2 ?side3 A2.out).mono ?_); (case side1 => repeat (first | (with_reducible first | exact HB.out | apply below_alloc | apply pw_below_drewN | apply below_drew1 | refine below_set ?_ GE420.out) | exact HB.out)); (case side2 => exact HR0.out); (case side3 => exact HC0.out); rintro e w6 ⟨g424, rfl, hi, hb, hb2⟩; refine ⟨_, rfl, ?_⟩; replace HB := Aside0.mk hb; have HI424 := Aside0.mk hi; have NB424_420 := Aside0.mk (IsS143.ne_blk hi (blk_below (g := gb420) (o := .cells #[.int .i64 0, .int .i64 0, .int .i64 0, .int .i64 0, .int .i64 0, .int .i64 0] 27 (0, 0)) (sk BK420) hb2) (by decide)); have NB420_424 := Aside0.mk (Ne.symm (IsS143.ne_blk hi (blk_below (g := gb420) (o := .cells #[.int .i64 0, .int .i64 0, .int .i64 0, .int .i64 0, .int .i64 0, .int .i64 0] 27 (0, 0)) (sk BK420) hb2) (by decide))); replace BK420 := bb BK420 hb2; (try clear hb); (try clear hb2); (try clear hk); (try clear hi)) | ((with_reducible refine gate_callee (f := 99) rfl ?_); refine gL (some 9) Try.func99 #[.pointer (some ⟨g424, 0, none⟩)] ?_; (with_reducible refine (spec_l22Any.calls g424 t421 t422 t423 t425 t426 t427 t428 t429 t430 t431 t432 w _ ?side1 ?side2 A3.out).mono ?_); (case side1 => repeat (first | (with_reducible first | exact HI424.out | apply IsS143.alloc | apply IsS143.drewN | apply IsS143.drew | apply IsS143.set_1 | apply IsS143.set_2 | refine IsS143.far ?_ NB424_420.out _) | exact HI424.out)); (case side2 => repeat (first | (with_reducible first | exact HB.out | apply below_alloc | apply pw_below_drewN | apply below_drew1 | refine below_set ?_ (IsS143.ge HI424.out) | refine below_set ?_ GE420.out) | exact HB.out)); rintro e w7 ⟨rfl, hi, hb, hk⟩; refine ⟨_, rfl, ?_⟩; replace BK420 := Aside0.mk (KeepBut.blk hk (g' := gb420) (o := .cells #[.int .i64 0, .int .i64 0, .int .i64 0, .int .i64 0, .int .i64 0, .int .i64 0] 27 (0, 0)) (sk BK420) NB420_424.out (by simp)); replace HB := Aside0.mk hb; replace HI424 := Aside0.mk hi; (try clear hb); (try clear hb2); (try clear hk); (try clear hi)) | ((with_reducible refine gate_dst (N := 5) rfl ?_); refine bx 5 #[.int .i64 0, .int .i64 0, .int .i64 0, .int .i64 0, .int .i64 0, .int .i64 0] 27 ?_; intro gb433 hg w8 hbox hb; have BK433 := Aside0.mk hbox; have GW433 := Aside0.mk ((by rw [hg]; exact (below_size (by repeat (first | (with_reducible first | exact HB.out | apply below_alloc | apply pw_below_drewN | apply below_drew1 | refine below_set ?_ (IsS143.ge HI424.out) | refine below_set ?_ GE420.out) | exact HB.out))) : w.heap.size ≤ gb433)); have GE433 := Aside0.mk ((by rw [hg]; exact (below_size (by repeat (first | (with_reducible first | exact HB.out | apply below_alloc | apply pw_below_drewN | apply below_drew1 | refine below_set ?_ (IsS143.ge HI424.out) | refine below_set ?_ GE420.out) | exact HB.out))) : w.heap.size ≤ gb433)); replace HB := Aside0.mk (below_step (by repeat (first | (with_reducible first | exact HB.out | apply below_alloc | apply pw_below_drewN | apply below_drew1 | refine below_set ?_ (IsS143.ge HI424.out) | refine below_set ?_ GE420.out) | exact HB.out)) hb); have NB420_433 := nl BK420 hg; have NB433_420 := ng BK420 hg; replace BK420 := bb BK420 hb; have NB424_433 := Aside0.mk ((by rw [hg]; exact Nat.ne_of_lt (IsS143.lt (show IsS143 w _ g424 t421 t431 t432 from by repeat (first | (with_reducible first | exact HI424.out | apply IsS143.alloc | apply IsS143.drewN | apply IsS143.drew | apply IsS143.set_1 | apply IsS143.set_2 | refine IsS143.far ?_ NB424_420.out _) | exact HI424.out))) : g424 ≠ gb433)); have NB433_424 := Aside0.mk ((by rw [hg]; exact Nat.ne_of_gt (IsS143.lt (show IsS143 w _ g424 t421 t431 t432 from by repeat (first | (with_reducible first | exact HI424.out | apply IsS143.alloc | apply IsS143.drewN | apply IsS143.drew | apply IsS143.set_1 | apply IsS143.set_2 | refine IsS143.far ?_ NB424_420.out _) | exact HI424.out))) : gb433 ≠ g424)); replace HI424 := Aside0.mk (IsS143.below (by repeat (first | (with_reducible first | exact HI424.out | apply IsS143.alloc | apply IsS143.drewN | apply IsS143.drew | apply IsS143.set_1 | apply IsS143.set_2 | refine IsS143.far ?_ NB424_420.out _) | exact HI424.out)) hb); clear hb hbox hg; have hnb9 := NB433_420.out; have hnc9 := NB420_433.out; have hnb10 := NB433_424.out; have hnc10 := NB424_433.out; obtain ⟨hcz11_0, hcz11_1, hcz11_2, hcz11_3, hcz11_4, hcz11_5, hfz11_0, hfz11_1, hfz11_2, hfz11_3, hfz11_4, hfz11_5⟩ := cc6 BK433))
 have n0_ : Aside0 (((((((w8.setCell ⟨gb433, 0, none⟩ (.int .i64 t425)).setCell ⟨gb433, 1, none⟩ (.int .i64 t426)).setCell ⟨gb433, 2, none⟩ (.int .i64 t427)).setCell ⟨gb433, 3, none⟩ (.int .i64 t428)).setCell ⟨gb433, 4, none⟩ (.int .i64 t429)).setCell ⟨gb433, 5, none⟩ (.int .i64 t430)).heap[gb420]? = some (.cells #[.int .i64 0, .int .i64 0, .int .i64 0, .int .i64 0, .int .i64 0, .int .i64 0] 27 (0, 0))) := ⟨sp BK420⟩
 have n1_ : Aside0 (((((((w8.setCell ⟨gb433, 0, none⟩ (.int .i64 t425)).setCell ⟨gb433, 1, none⟩ (.int .i64 t426)).setCell ⟨gb433, 2, none⟩ (.int .i64 t427)).setCell ⟨gb433, 3, none⟩ (.int .i64 t428)).setCell ⟨gb433, 4, none⟩ (.int .i64 t429)).setCell ⟨gb433, 5, none⟩ (.int .i64 t430)).heap[gb433]? = some (.cells #[.int .i64 t425, .int .i64 t426, .int .i64 t427, .int .i64 t428, .int .i64 t429, .int .i64 t430] 27 (0, 0))) := ⟨sp BK433⟩
 have n2_ : Aside0 (IsS143 w ((((((w8.setCell ⟨gb433, 0, none⟩ (.int .i64 t425)).setCell ⟨gb433, 1, none⟩ (.int .i64 t426)).setCell ⟨gb433, 2, none⟩ (.int .i64 t427)).setCell ⟨gb433, 3, none⟩ (.int .i64 t428)).setCell ⟨gb433, 4, none⟩ (.int .i64 t429)).setCell ⟨gb433, 5, none⟩ (.int .i64 t430)) g424 t421 t431 t432) := ⟨by repeat (first | (with_reducible first | exact HI424.out | apply IsS143.alloc | apply IsS143.drewN | apply IsS143.drew | apply IsS143.set_1 | apply IsS143.set_2 | refine IsS143.far ?_ NB424_420.out _ | refine IsS143.far ?_ NB424_433.out _) | exact HI424.out)⟩
 have n3_ : Aside0 (Below w.heap.size w ((((((w8.setCell ⟨gb433, 0, none⟩ (.int .i64 t425)).setCell ⟨gb433, 1, none⟩ (.int .i64 t426)).setCell ⟨gb433, 2, none⟩ (.int .i64 t427)).setCell ⟨gb433, 3, none⟩ (.int .i64 t428)).setCell ⟨gb433, 4, none⟩ (.int .i64 t429)).setCell ⟨gb433, 5, none⟩ (.int .i64 t430))) := ⟨by repeat (first | (with_reducible first | exact HB.out | apply below_alloc | apply pw_below_drewN | apply below_drew1 | refine below_set ?_ (IsS143.ge HI424.out) | refine below_set ?_ GE420.out | refine below_set ?_ GE433.out) | exact HB.out)⟩
 (try clear BK420)
 (try clear BK433)
 (try clear HI424)
 (try clear HB)
 generalize ((((((w8.setCell ⟨gb433, 0, none⟩ (.int .i64 t425)).setCell ⟨gb433, 1, none⟩ (.int .i64 t426)).setCell ⟨gb433, 2, none⟩ (.int .i64 t427)).setCell ⟨gb433, 3, none⟩ (.int .i64 t428)).setCell ⟨gb433, 4, none⟩ (.int .i64 t429)).setCell ⟨gb433, 5, none⟩ (.int .i64 t430)) = w12 at n0_ n1_ n2_ n3_ ⊢
 have BK420 := n0_
 have BK433 := n1_
 have HI424 := n2_
 have HB := n3_
 clear n0_ n1_ n2_ n3_
 replace BK420 := Aside0.mk (blk_drew BK420.out)
 replace BK433 := Aside0.mk (blk_drew BK433.out)
 replace HI424 := Aside0.mk (IsS143.drew HI424.out)
 replace HB := Aside0.mk (below_drew1 HB.out)
 refine start_ (n := 6) (S := fun w' => w'.cell? ⟨gb433, 0, none⟩ = some (.int .i64 t425) ∧ w'.cell? ⟨gb433, 1, none⟩ = some (.int .i64 t426) ∧ w'.cell? ⟨gb433, 2, none⟩ = some (.int .i64 t427) ∧ w'.cell? ⟨gb433, 3, none⟩ = some (.int .i64 t428) ∧ w'.cell? ⟨gb433, 4, none⟩ = some (.int .i64 t429) ∧ w'.cell? ⟨gb433, 5, none⟩ = some (.int .i64 t430)) (ds := []) #[false, false, false, false, false, false] (by kernel_rfl) rfl rfl ⟨bc0 BK433, bc1 BK433, bc2 BK433, bc3 BK433, bc4 BK433, bc5 BK433⟩ (fun hHeld => ?_)
 generalize w12.drew = w13 at BK420 BK433 HI424 HB hHeld ⊢
 refine pu 1 11 #[false, true, false, false, false, false] ?_
 refine ta6 0 10 #[true, true, false, false, false, false] hHeld ?_
 refine one_ (i := 2) (N := some 12) #[true, true, true, false, false, false] rfl rfl (by kernel_rfl) (by decide) (fun K hK => ?_)
 refine Kd.R_lit_step (Kd.int .i64) _ 3 ?hg (N := 12) ?hd (xs := ([0, 5, 20, 40, (-1), 10001] : List Int)) (inner := [.int .i64 0, .int .i64 5, .int .i64 20, .int .i64 40, .int .i64 (-1), .int .i64 10001]) (ok := fun _ => True) (okp := fun _ => True) ?hr ?hp (fun _ hk => hk) trivial (Below.refl _ _) (Nat.le_refl _) (by simp) ?_; (case hd => rfl); (case hg => rfl); (case hr => first | (go_simp; done) | (go_simp; rfl)); (case hp => exact (Reps.one (show Kd.M (Kd.int .i64) _ _ _ 0 [.int .i64 0] from rfl) (Reps.one (show Kd.M (Kd.int .i64) _ _ _ 5 [.int .i64 5] from rfl) (Reps.one (show Kd.M (Kd.int .i64) _ _ _ 20 [.int .i64 20] from rfl) (Reps.one (show Kd.M (Kd.int .i64) _ _ _ 40 [.int .i64 40] from rfl) (Reps.one (show Kd.M (Kd.int .i64) _ _ _ (-1) [.int .i64 (-1)] from rfl) (Reps.one (show Kd.M (Kd.int .i64) _ _ _ 10001 [.int .i64 10001] from rfl) (Reps.none _ _))))))))
 intro v435 w14 ho15 hb hg_ hnew_
 clear hg_ hnew_
 (first | rw [← Ny434.out] at ho15 | (simp only [Int.reduceToNat] at ho15; rw [← Ny434.out] at ho15))
 have HO436 := Aside0.mk (Kd.R_lower ho15 (below_size (by repeat (first | (with_reducible first | exact HB.out | apply below_alloc | apply pw_below_drewN | apply below_drew1 | refine below_set ?_ (IsS143.ge HI424.out) | refine below_set ?_ GE420.out | refine below_set ?_ GE433.out) | exact HB.out))))
 replace BK420 := bb BK420 hb
 replace BK433 := bb BK433 hb
 replace HB := Aside0.mk (below_step (by repeat (first | (with_reducible first | exact HB.out | apply below_alloc | apply pw_below_drewN | apply below_drew1 | refine below_set ?_ (IsS143.ge HI424.out) | refine below_set ?_ GE420.out | refine below_set ?_ GE433.out) | exact HB.out)) hb)
 replace HI424 := Aside0.mk (IsS143.below (by repeat (first | (with_reducible first | exact HI424.out | apply IsS143.alloc | apply IsS143.drewN | apply IsS143.drew | apply IsS143.set_1 | apply IsS143.set_2 | refine IsS143.far ?_ NB424_420.out _ | refine IsS143.far ?_ NB424_433.out _) | exact HI424.out)) hb)
 clear hb ho15
 obtain ⟨Ao16, co16, eo16⟩ := Kd.R_slice HO436.out
 (first | subst eo16 | (injection eo16 with f1_ f2_ f3_; have f4_ := f1_.symm; have f5_ := f3_.symm; clear f1_ f2_ f3_; subst f4_; subst f5_))
 refine hK.out _ _ ⟨bc0 BK433, bc1 BK433, bc2 BK433, bc3 BK433, bc4 BK433, bc5 BK433⟩ (fun hHeld => ?_)
 clear hK K
 refine norm_ (a' := ?_) ?_ ?_
 rotate_left
 ·show Act.put _ (some 12) _ = _
  simp only [Act.put, List.setIfInBounds_toArray, List.set_cons_zero, List.set_cons_succ, i64_w, i32_w]
  rfl
 refine one_ (i := 3) (N := some 13) #[true, true, true, true, false, false] rfl rfl (by kernel_rfl) (by decide) (fun K hK => ?_)
 refine goes_ Try.func98 (by kernel_rfl) rfl #[.pointer (some ⟨g424, 0, none⟩), .slice Ao16 y434.length co16] (by rfl) rfl rfl sl ?_
 with_reducible refine (spec_l1Int.calls g424 t421 t431 t432 _ _ y434 t437 t438 t439 w _ ?side1 ?side2 ?side3 ?side4 ?side5 A4.out).mono ?_
 (case side1 => repeat (first | (with_reducible first | exact HI424.out | apply IsS143.alloc | apply IsS143.drewN | apply IsS143.drew | apply IsS143.set_1 | apply IsS143.set_2 | refine IsS143.far ?_ NB424_420.out _ | refine IsS143.far ?_ NB424_433.out _) | exact HI424.out))
 (case side2 => repeat (first | (with_reducible first | exact HB.out | apply below_alloc | apply pw_below_drewN | apply below_drew1 | refine below_set ?_ (IsS143.ge HI424.out) | refine below_set ?_ GE420.out | refine below_set ?_ GE433.out) | exact HB.out))
 (case side3 => repeat (first | exact (Kd.R_reads' HO436.out).2.2 | (with_reducible refine Kd.C_alloc ?_ _) | (with_reducible refine Kd.C_drewN ?_ _) | (with_reducible refine Kd.C_drew ?_)))
 (case side4 => exact (Kd.R_reads' HO436.out).2.1)
 (case side5 => exact far_slice (IsS143.own_ne HI424.out HO436.out (by decide)))
 rintro e w17 ⟨rfl, hi, hb, hk⟩
 refine ⟨_, rfl, ?_⟩
 replace BK420 := Aside0.mk (KeepBut.blk hk (g' := gb420) (o := .cells #[.int .i64 0, .int .i64 0, .int .i64 0, .int .i64 0, .int .i64 0, .int .i64 0] 27 (0, 0)) (sk BK420) NB420_424.out (by simp))
 replace BK433 := Aside0.mk (KeepBut.blk hk (g' := gb433) (o := .cells #[.int .i64 t425, .int .i64 t426, .int .i64 t427, .int .i64 t428, .int .i64 t429, .int .i64 t430] 27 (0, 0)) (sk BK433) NB433_424.out (by simp))
 replace HO436 := Aside0.mk (Kd.R_mono (Kd.R_keep (IsS143.apart (show IsS143 w _ g424 t421 t431 t432 from by repeat (first | (with_reducible first | exact HI424.out | apply IsS143.alloc | apply IsS143.drewN | apply IsS143.drew | apply IsS143.set_1 | apply IsS143.set_2 | refine IsS143.far ?_ NB424_420.out _ | refine IsS143.far ?_ NB424_433.out _) | exact HI424.out)) (sr HO436) (by decide)) hk (fun _ h => h.2)) (fun _ h => h.1))
 replace HB := Aside0.mk hb
 replace HI424 := Aside0.mk hi
 (try clear hb)
 (try clear hb2)
 (try clear hk)
 (try clear hi)
 refine hK.out _ _ ⟨bc0 BK433, bc1 BK433, bc2 BK433, bc3 BK433, bc4 BK433, bc5 BK433⟩ (fun hHeld => ?_)
 clear hK K
 refine norm_ (a' := ?_) ?_ ?_
 rotate_left
 ·show Act.put _ (some 13) _ = _
  simp only [Act.put, List.setIfInBounds_toArray, List.set_cons_zero, List.set_cons_succ, i64_w, i32_w]
  rfl
 refine one_ (i := 4) (N := none) #[true, true, true, true, true, false] rfl rfl (by kernel_rfl) (by decide) (fun K hK => ?_)
 obtain ⟨hs18, hfs18⟩ := cc1 BK420
 have hns18_1 := NB433_420.out
 have hms18_1 := NB420_433.out
 have hs19 := bc1 BK420
 have hfs19 := bf BK420 1
 have hns19_1 := NB433_420.out
 have hms19_1 := NB420_433.out
 have hs20 := bc2 BK420
 have hfs20 := bf BK420 2
 have hns20_1 := NB433_420.out
 have hms20_1 := NB420_433.out
 have hs21 := bc3 BK420
 have hfs21 := bf BK420 3
 have hns21_1 := NB433_420.out
 have hms21_1 := NB420_433.out
 have hs22 := bc4 BK420
 have hfs22 := bf BK420 4
 have hns22_1 := NB433_420.out
 have hms22_1 := NB420_433.out
 have hs23 := bc5 BK420
 have hfs23 := bf BK420 5
 have hns23_1 := NB433_420.out
 have hms23_1 := NB420_433.out
 refine skip_ (w1 := ?_) (by rfl) rfl ?_ ?_
 rotate_left
 ·go_simp
  rfl
 refine hK.out _ _ ⟨((cell_far (p := ⟨gb420, _, none⟩) NB433_420.out _).trans (((cell_far (p := ⟨gb420, _, none⟩) NB433_420.out _).trans (((cell_far (p := ⟨gb420, _, none⟩) NB433_420.out _).trans (((cell_far (p := ⟨gb420, _, none⟩) NB433_420.out _).trans (((cell_far (p := ⟨gb420, _, none⟩) NB433_420.out _).trans (((cell_far (p := ⟨gb420, _, none⟩) NB433_420.out _).trans (hHeld.1)))))))))))), ((cell_far (p := ⟨gb420, _, none⟩) NB433_420.out _).trans (((cell_far (p := ⟨gb420, _, none⟩) NB433_420.out _).trans (((cell_far (p := ⟨gb420, _, none⟩) NB433_420.out _).trans (((cell_far (p := ⟨gb420, _, none⟩) NB433_420.out _).trans (((cell_far (p := ⟨gb420, _, none⟩) NB433_420.out _).trans (((cell_far (p := ⟨gb420, _, none⟩) NB433_420.out _).trans (hHeld.2.1)))))))))))), ((cell_far (p := ⟨gb420, _, none⟩) NB433_420.out _).trans (((cell_far (p := ⟨gb420, _, none⟩) NB433_420.out _).trans (((cell_far (p := ⟨gb420, _, none⟩) NB433_420.out _).trans (((cell_far (p := ⟨gb420, _, none⟩) NB433_420.out _).trans (((cell_far (p := ⟨gb420, _, none⟩) NB433_420.out _).trans (((cell_far (p := ⟨gb420, _, none⟩) NB433_420.out _).trans (hHeld.2.2.1)))))))))))), ((cell_far (p := ⟨gb420, _, none⟩) NB433_420.out _).trans (((cell_far (p := ⟨gb420, _, none⟩) NB433_420.out _).trans (((cell_far (p := ⟨gb420, _, none⟩) NB433_420.out _).trans (((cell_far (p := ⟨gb420, _, none⟩) NB433_420.out _).trans (((cell_far (p := ⟨gb420, _, none⟩) NB433_420.out _).trans (((cell_far (p := ⟨gb420, _, none⟩) NB433_420.out _).trans (hHeld.2.2.2.1)))))))))))), ((cell_far (p := ⟨gb420, _, none⟩) NB433_420.out _).trans (((cell_far (p := ⟨gb420, _, none⟩) NB433_420.out _).trans (((cell_far (p := ⟨gb420, _, none⟩) NB433_420.out _).trans (((cell_far (p := ⟨gb420, _, none⟩) NB433_420.out _).trans (((cell_far (p := ⟨gb420, _, none⟩) NB433_420.out _).trans (((cell_far (p := ⟨gb420, _, none⟩) NB433_420.out _).trans (hHeld.2.2.2.2.1)))))))))))), ((cell_far (p := ⟨gb420, _, none⟩) NB433_420.out _).trans (((cell_far (p := ⟨gb420, _, none⟩) NB433_420.out _).trans (((cell_far (p := ⟨gb420, _, none⟩) NB433_420.out _).trans (((cell_far (p := ⟨gb420, _, none⟩) NB433_420.out _).trans (((cell_far (p := ⟨gb420, _, none⟩) NB433_420.out _).trans (((cell_far (p := ⟨gb420, _, none⟩) NB433_420.out _).trans (hHeld.2.2.2.2.2))))))))))))⟩ (fun hHeld => ?_)
 clear hK K
 refine pu 5 3 #[true, true, true, true, true, true] ?_
 refine done_ (by kernel_rfl) ?_
 try go_wp2
 refine bodyPost_ret (results_ct rfl _ _ gb420 27 #[.int .i64 t425, .int .i64 t426, .int .i64 t427, .int .i64 t428, .int .i64 t429, .int .i64 t430] (0, 0) _ rfl (sp BK420) Try.underlying27 rfl (by kernel_rfl)) rfl ?_
 exact ⟨se, by repeat (first | (with_reducible first | exact HB.out | apply below_alloc | apply pw_below_drewN | apply below_drew1 | refine below_set ?_ (IsS143.ge HI424.out) | refine below_set ?_ GE420.out | refine below_set ?_ GE433.out) | exact HB.out)⟩

/-! ### spec_DrawSendsLeft: function 59 -/
def spec_DrawSendsLeft.f (k : Nat) (l0 : List Int) : Option (Int × Int × Int × Int × Int × Int × Int) := (spec_DrawMaySend.f k l0).bind fun bt441 => (some (bt441.1, bt441.2.1, bt441.2.2.1, bt441.2.2.2.1, bt441.2.2.2.2.1, bt441.2.2.2.2.2.1, bt441.2.2.2.2.2.2))
theorem spec_DrawSendsLeft.mono : ∀ a0 k, LeO (spec_DrawSendsLeft.f k a0) (spec_DrawSendsLeft.f (k + 1) a0) := by
  intro a0 k
  unfold spec_DrawSendsLeft.f
  have m0 := @spec_DrawMaySend.mono
  exact mo
set_option maxHeartbeats 8000000 in
set_option maxRecDepth 100000 in
theorem spec_DrawSendsLeft.calls (k : Nat) (A0 : Option Addr) (c0 : Nat) (l0 : List Int) (r1 : Int) (r2 : Int) (r3 : Int) (r4 : Int) (r5 : Int) (r6 : Int) (r7 : Int) (w : World) (hr0 : Kd.C (Kd.int .u8) w A0 l0.length l0) (hc0 : l0.length ≤ c0) (h : spec_DrawSendsLeft.f k l0 = some (r1, r2, r3, r4, r5, r6, r7)) :
    Calls Try.prog 59 #[.slice A0 l0.length c0] w fun e w' => e = .returned (.tuple #[.agg #[.int .i64 r1, .int .i64 r2, .int .i64 r3, .int .i64 r4, .int .i64 r5, .int .i64 r6], .int .i64 r7]) ∧ Below w.heap.size w w' := by
 have hu27 := Try.underlying27
 have HR0 := Aside0.mk hr0
 have HC0 := Aside0.mk hc0
 clear hr0 hc0
 have HB := Aside0.mk (Below.refl w.heap.size w)
 have H : ((spec_DrawMaySend.f k l0).bind fun bt441 => (some (bt441.1, bt441.2.1, bt441.2.2.1, bt441.2.2.2.1, bt441.2.2.2.2.1, bt441.2.2.2.2.2.1, bt441.2.2.2.2.2.2))) = some (r1, r2, r3, r4, r5, r6, r7) := h
 clear h
 obtain ⟨⟨t441, t442, t443, t444, t445, t446, t447⟩, A2, H⟩ := bnd H
 replace H : (some (t441, t442, t443, t444, t445, t446, t447)) = some (r1, r2, r3, r4, r5, r6, r7) := H
 simp only [Option.some.injEq, Prod.mk.injEq] at H
 obtain ⟨rfl, rfl, rfl, rfl, rfl, rfl, rfl⟩ := H
 go_enter Try.func59, Try.ntmps59
 go_wp2_with (first | ((with_reducible refine gate_dst (N := 2) rfl ?_); refine bx 2 #[.int .i64 0, .int .i64 0, .int .i64 0, .int .i64 0, .int .i64 0, .int .i64 0] 27 ?_; intro gb440 hg w3 hbox hb; have GW440 := bz w hg; have GE440 := bz w hg; replace HB := bs hb; have BK440 := Aside0.mk hbox; clear hb hbox hg) | ((with_reducible refine gate_callee (f := 102) rfl ?_); refine gL (some 5) Try.func102 #[.slice A0 l0.length c0] ?_; (with_reducible refine (spec_DrawMaySend.calls k _ _ l0 t441 t442 t443 t444 t445 t446 t447 _ ?side1 ?side2 A2.out).mono ?_); (case side1 => exact cb HR0); (case side2 => exact HC0.out); rintro e w4 ⟨rfl, hb⟩; refine ⟨_, rfl, ?_⟩; replace BK440 := bb BK440 hb; replace HB := bsw hb; (try clear hb); (try clear hb2); (try clear hk); (try clear hi); obtain ⟨hcz5_0, hcz5_1, hcz5_2, hcz5_3, hcz5_4, hcz5_5, hfz5_0, hfz5_1, hfz5_2, hfz5_3, hfz5_4, hfz5_5⟩ := cc6 BK440))
 refine bodyPost_ret (results_ct rfl _ _ gb440 27 #[.int .i64 t441, .int .i64 t442, .int .i64 t443, .int .i64 t444, .int .i64 t445, .int .i64 t446] (0, 0) _ rfl (sp BK440) Try.underlying27 rfl (by kernel_rfl)) rfl ?_
 exact ⟨se, sbw⟩

end Go.Proofs.Ytaciciobhfoglaa.QFnForecasts
