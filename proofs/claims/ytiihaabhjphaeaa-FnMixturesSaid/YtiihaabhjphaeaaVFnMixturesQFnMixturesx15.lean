/- What the Go functions of the law FnMixtures come to, as Lean functions, and that they do: by a program of the session, out of the kit's printer. Conditions: none. (squeezed). -/
import Derived.Test.YtiihaabhjphaeaaVFnMixturesSq
import Derived.Test.YtiihaabhjphaeaaVFnMixturesQFnMixturesx0
import Derived.Test.YtiihaabhjphaeaaVFnMixturesQFnMixturesx2
import Derived.Test.YtiihaabhjphaeaaVFnMixturesQFnMixturesx4
import Derived.Test.YtiihaabhjphaeaaVFnMixturesQFnMixturesx14
namespace Go.Proofs.Ytiihaabhjphaeaa.QFnMixtures
open Go.RowKit Go.Proofs.YtiihaabhjphaeaaW.PrintWords Go.Proofs.YtiihaabhjphaeaaW.PrintLast Go.Proofs.YtiihaabhjphaeaaW.PrintMore Go.Proofs.Ytiihaabhjphaeaa.Open Go.Proofs.Ytiihaabhjphaeaa.Sq
attribute [local go_sem] max2_int min2_int max_two min_two max_three min_three max_four min_four   -- for this text's walks alone
attribute [local go_sem] isSome_set
set_option linter.unusedVariables false
set_option linter.unusedSimpArgs false

/-! ### spec_DrawIsSafeMix: function 16 -/
def spec_DrawIsSafeMix.f (k : Nat) (l0 : List Int) : Option (Int × Int × Int × (List (S105)) × Int × Int × Int) := (spec_l1New.f k l0).bind fun bt494 => ((spec_l17Any.f k bt494.1 bt494.2.1 bt494.2.2).bind fun bt498 => ((spec_l1Below.f bt494.1 bt498.2.2.2.2.1 bt498.2.2.2.2.2 7).bind fun bt507 => ((spec_l1Below.f bt494.1 bt507.2.1 bt507.2.2 26).bind fun bt510 => ((spec_l1Below.f bt494.1 bt510.2.1 bt510.2.2 5).bind fun bt513 => ((spec_l1Below.f bt494.1 bt513.2.1 bt513.2.2 5).bind fun bt516 => (some (bt498.1, bt498.2.1, bt498.2.2.1, bt498.2.2.2.1, wrap64 (bt507.1 - 1), wrap64 ((wrap64 (bt510.1 - 1)) - bt513.1), wrap64 ((wrap64 (bt510.1 - 1)) + bt516.1))))))))
theorem spec_DrawIsSafeMix.mono : ∀ a0 k, LeO (spec_DrawIsSafeMix.f k a0) (spec_DrawIsSafeMix.f (k + 1) a0) := by
  intro a0 k
  unfold spec_DrawIsSafeMix.f
  have m0 := @spec_l17Any.mono
  have m1 := @spec_l1New.mono
  exact mo
def spec_DrawIsSafeMix.T5 : Bool × List (List Nat × List Nat) := (true, [([], []), ([], []), ([], []), ([], []), ([3], [3]), ([2, 4], [2, 4]), ([], []), ([], []), ([7, 4], [7]), ([6, 8], [6, 8]), ([0, 8, 0], [0]), ([1, 10, 0, 1, 10], [1]), ([5, 11, 0, 1, 2, 3, 4, 5, 10, 11], [5]), ([9, 12, 0, 1, 2, 3, 4, 5, 6, 7, 8, 9, 10, 11, 12], [9])])
def spec_DrawIsSafeMix.B5 : List Nat := [0, 0, 0, 0, 8, 28, 0, 0, 152, 472, 409, 1435, 3519, 8191]
theorem spec_DrawIsSafeMix.tab5 : rtab .any (opsOf Try.f16 5) = spec_DrawIsSafeMix.T5 := by kernel_rfl
theorem spec_DrawIsSafeMix.bits5 : waitsOk spec_DrawIsSafeMix.T5.2 spec_DrawIsSafeMix.B5 = true := by kernel_rfl
set_option maxHeartbeats 8000000 in
set_option maxRecDepth 100000 in
theorem spec_DrawIsSafeMix.calls (k : Nat) (A0 : Option Addr) (c0 : Nat) (l0 : List Int) (r1 : Int) (r2 : Int) (r3 : Int) (r4 : List (S105)) (r5 : Int) (r6 : Int) (r7 : Int) (w : World) (hr0 : Kd.C (Kd.int .u8) w A0 l0.length l0) (hc0 : l0.length ≤ c0) (h : spec_DrawIsSafeMix.f k l0 = some (r1, r2, r3, r4, r5, r6, r7)) :
    Calls Try.prog 16 #[.slice A0 l0.length c0] w fun e w' => ∃ v3_ : Value, e = .returned (.tuple #[.agg #[.int .i64 r1, .int .i64 r2, .int .i64 r3, v3_], .int .i64 r5, .int .i64 r6, .int .i64 r7]) ∧ Kd.S k105 105 w' w.heap.size (fun _ => True) v3_ r4 ∧ Below w.heap.size w w' := by
 have hu31 := Try.underlying31
 have HR0 := Aside0.mk hr0
 have HC0 := Aside0.mk hc0
 clear hr0 hc0
 have HB := Aside0.mk (Below.refl w.heap.size w)
 have H : ((spec_l1New.f k l0).bind fun bt494 => ((spec_l17Any.f k bt494.1 bt494.2.1 bt494.2.2).bind fun bt498 => ((spec_l1Below.f bt494.1 bt498.2.2.2.2.1 bt498.2.2.2.2.2 7).bind fun bt507 => ((spec_l1Below.f bt494.1 bt507.2.1 bt507.2.2 26).bind fun bt510 => ((spec_l1Below.f bt494.1 bt510.2.1 bt510.2.2 5).bind fun bt513 => ((spec_l1Below.f bt494.1 bt513.2.1 bt513.2.2 5).bind fun bt516 => (some (bt498.1, bt498.2.1, bt498.2.2.1, bt498.2.2.2.1, wrap64 (bt507.1 - 1), wrap64 ((wrap64 (bt510.1 - 1)) - bt513.1), wrap64 ((wrap64 (bt510.1 - 1)) + bt516.1))))))))) = some (r1, r2, r3, r4, r5, r6, r7) := h
 clear h
 obtain ⟨⟨t494, t495, t496⟩, A2, H⟩ := bnd H
 replace H : ((spec_l17Any.f k t494 t495 t496).bind fun bt498 => ((spec_l1Below.f t494 bt498.2.2.2.2.1 bt498.2.2.2.2.2 7).bind fun bt507 => ((spec_l1Below.f t494 bt507.2.1 bt507.2.2 26).bind fun bt510 => ((spec_l1Below.f t494 bt510.2.1 bt510.2.2 5).bind fun bt513 => ((spec_l1Below.f t494 bt513.2.1 bt513.2.2 5).bind fun bt516 => (some (bt498.1, bt498.2.1, bt498.2.2.1, bt498.2.2.2.1, wrap64 (bt507.1 - 1), wrap64 ((wrap64 (bt510.1 - 1)) - bt513.1), wrap64 ((wrap64 (bt510.1 - 1)) + bt516.1)))))))) = some (r1, r2, r3, r4, r5, r6, r7) := H
 obtain ⟨⟨t498, t499, t500, t501, t504, t505⟩, A3, H⟩ := bnd H
 replace H : ((spec_l1Below.f t494 t504 t505 7).bind fun bt507 => ((spec_l1Below.f t494 bt507.2.1 bt507.2.2 26).bind fun bt510 => ((spec_l1Below.f t494 bt510.2.1 bt510.2.2 5).bind fun bt513 => ((spec_l1Below.f t494 bt513.2.1 bt513.2.2 5).bind fun bt516 => (some (t498, t499, t500, t501, wrap64 (bt507.1 - 1), wrap64 ((wrap64 (bt510.1 - 1)) - bt513.1), wrap64 ((wrap64 (bt510.1 - 1)) + bt516.1))))))) = some (r1, r2, r3, r4, r5, r6, r7) := H
 obtain ⟨⟨t507, t508, t509⟩, A4, H⟩ := bnd H
 replace H : ((spec_l1Below.f t494 t508 t509 26).bind fun bt510 => ((spec_l1Below.f t494 bt510.2.1 bt510.2.2 5).bind fun bt513 => ((spec_l1Below.f t494 bt513.2.1 bt513.2.2 5).bind fun bt516 => (some (t498, t499, t500, t501, wrap64 (t507 - 1), wrap64 ((wrap64 (bt510.1 - 1)) - bt513.1), wrap64 ((wrap64 (bt510.1 - 1)) + bt516.1)))))) = some (r1, r2, r3, r4, r5, r6, r7) := H
 obtain ⟨⟨t510, t511, t512⟩, A5, H⟩ := bnd H
 replace H : ((spec_l1Below.f t494 t511 t512 5).bind fun bt513 => ((spec_l1Below.f t494 bt513.2.1 bt513.2.2 5).bind fun bt516 => (some (t498, t499, t500, t501, wrap64 (t507 - 1), wrap64 ((wrap64 (t510 - 1)) - bt513.1), wrap64 ((wrap64 (t510 - 1)) + bt516.1))))) = some (r1, r2, r3, r4, r5, r6, r7) := H
 obtain ⟨⟨t513, t514, t515⟩, A6, H⟩ := bnd H
 replace H : ((spec_l1Below.f t494 t514 t515 5).bind fun bt516 => (some (t498, t499, t500, t501, wrap64 (t507 - 1), wrap64 ((wrap64 (t510 - 1)) - t513), wrap64 ((wrap64 (t510 - 1)) + bt516.1)))) = some (r1, r2, r3, r4, r5, r6, r7) := H
 obtain ⟨⟨t516, t517, t518⟩, A7, H⟩ := bnd H
 replace H : (some (t498, t499, t500, t501, wrap64 (t507 - 1), wrap64 ((wrap64 (t510 - 1)) - t513), wrap64 ((wrap64 (t510 - 1)) + t516))) = some (r1, r2, r3, r4, r5, r6, r7) := H
 simp only [Option.some.injEq, Prod.mk.injEq] at H
 obtain ⟨rfl, rfl, rfl, rfl, rfl, rfl, rfl⟩ := H
 go_enter Try.func16, Try.ntmps16
 try go_wp2_with (first | ((with_reducible refine gate_dst (N := 2) rfl ?_); refine bx 2 #[.int .i64 0, .int .i64 0, .int .i64 0, .slice none 0 0] 31 ?_; intro gb493 hg w8 hbox hb; have GW493 := bz w hg; have GE493 := bz w hg; replace HB := bs hb; have BK493 := Aside0.mk hbox; clear hb hbox hg) | ((with_reducible refine gate_callee (f := 75) rfl ?_); refine gL (some 11) Try.func75 #[.slice A0 l0.length c0] ?_; (with_reducible refine (spec_l1New.calls k _ _ l0 t494 t495 t496 w _ ?side1 ?side2 ?side3 A2.out).mono ?_); (case side1 => repeat (first | (with_reducible first | exact HB.out | apply below_alloc | apply pw_below_drewN | apply below_drew1 | refine below_set ?_ GE493.out) | exact HB.out)); (case side2 => exact HR0.out); (case side3 => exact HC0.out); rintro e w9 ⟨g497, rfl, hi, hb, hb2⟩; refine ⟨_, rfl, ?_⟩; replace HB := Aside0.mk hb; have HI497 := Aside0.mk hi; have NB497_493 := Aside0.mk (IsS152.ne_blk hi (blk_below (g := gb493) (o := .cells #[.int .i64 0, .int .i64 0, .int .i64 0, .slice none 0 0] 31 (0, 0)) (sk BK493) hb2) (by decide)); have NB493_497 := Aside0.mk (Ne.symm (IsS152.ne_blk hi (blk_below (g := gb493) (o := .cells #[.int .i64 0, .int .i64 0, .int .i64 0, .slice none 0 0] 31 (0, 0)) (sk BK493) hb2) (by decide))); replace BK493 := bb BK493 hb2; (try clear hb); (try clear hb2); (try clear hk); (try clear hi)) | ((with_reducible refine gate_callee (f := 78) rfl ?_); refine gL (some 13) Try.func78 #[.pointer (some ⟨g497, 0, none⟩)] ?_; (with_reducible refine (spec_l17Any.calls k g497 t494 t495 t496 t498 t499 t500 t501 t504 t505 w _ ?side1 ?side2 A3.out).mono ?_); (case side1 => repeat (first | (with_reducible first | exact HI497.out | apply IsS152.alloc | apply IsS152.drewN | apply IsS152.drew | apply IsS152.set_1 | apply IsS152.set_2 | refine IsS152.far ?_ NB497_493.out _) | exact HI497.out)); (case side2 => repeat (first | (with_reducible first | exact HB.out | apply below_alloc | apply pw_below_drewN | apply below_drew1 | refine below_set ?_ (IsS152.ge HI497.out) | refine below_set ?_ GE493.out) | exact HB.out)); rintro e w10 ⟨v502, rfl, ho0, hi, hb, hk⟩; refine ⟨_, rfl, ?_⟩; replace BK493 := Aside0.mk (KeepBut.blk hk (g' := gb493) (o := .cells #[.int .i64 0, .int .i64 0, .int .i64 0, .slice none 0 0] 31 (0, 0)) (sk BK493) NB493_497.out (by simp)); have HO503 := Aside0.mk (Kd.S_lower ho0 (below_size (by repeat (first | (with_reducible first | exact HB.out | apply below_alloc | apply pw_below_drewN | apply below_drew1 | refine below_set ?_ (IsS152.ge HI497.out) | refine below_set ?_ GE493.out) | exact HB.out)))); replace HB := Aside0.mk hb; replace HI497 := Aside0.mk hi; (try clear hb); (try clear hb2); (try clear hk); (try clear hi); (try clear ho0)) | ((with_reducible refine gate_dst (N := 7) rfl ?_); refine bx 7 #[.int .i64 0, .int .i64 0, .int .i64 0, .slice none 0 0] 31 ?_; intro gb506 hg w11 hbox hb; replace HO503 := Aside0.mk (Kd.S_below (ss HO503) hb); have BK506 := Aside0.mk hbox; have GW506 := Aside0.mk ((by rw [hg]; exact (below_size (by repeat (first | (with_reducible first | exact HB.out | apply below_alloc | apply pw_below_drewN | apply below_drew1 | refine below_set ?_ (IsS152.ge HI497.out) | refine below_set ?_ GE493.out) | exact HB.out))) : w.heap.size ≤ gb506)); have GE506 := Aside0.mk ((by rw [hg]; exact (below_size (by repeat (first | (with_reducible first | exact HB.out | apply below_alloc | apply pw_below_drewN | apply below_drew1 | refine below_set ?_ (IsS152.ge HI497.out) | refine below_set ?_ GE493.out) | exact HB.out))) : w.heap.size ≤ gb506)); replace HB := Aside0.mk (below_step (by repeat (first | (with_reducible first | exact HB.out | apply below_alloc | apply pw_below_drewN | apply below_drew1 | refine below_set ?_ (IsS152.ge HI497.out) | refine below_set ?_ GE493.out) | exact HB.out)) hb); have NB493_506 := nl BK493 hg; have NB506_493 := ng BK493 hg; replace BK493 := bb BK493 hb; have NB497_506 := Aside0.mk ((by rw [hg]; exact Nat.ne_of_lt (IsS152.lt (show IsS152 w _ g497 t494 t504 t505 from by repeat (first | (with_reducible first | exact HI497.out | apply IsS152.alloc | apply IsS152.drewN | apply IsS152.drew | apply IsS152.set_1 | apply IsS152.set_2 | refine IsS152.far ?_ NB497_493.out _) | exact HI497.out))) : g497 ≠ gb506)); have NB506_497 := Aside0.mk ((by rw [hg]; exact Nat.ne_of_gt (IsS152.lt (show IsS152 w _ g497 t494 t504 t505 from by repeat (first | (with_reducible first | exact HI497.out | apply IsS152.alloc | apply IsS152.drewN | apply IsS152.drew | apply IsS152.set_1 | apply IsS152.set_2 | refine IsS152.far ?_ NB497_493.out _) | exact HI497.out))) : gb506 ≠ g497)); replace HI497 := Aside0.mk (IsS152.below (by repeat (first | (with_reducible first | exact HI497.out | apply IsS152.alloc | apply IsS152.drewN | apply IsS152.drew | apply IsS152.set_1 | apply IsS152.set_2 | refine IsS152.far ?_ NB497_493.out _) | exact HI497.out)) hb); clear hb hbox hg; have hnb12 := NB506_493.out; have hnc12 := NB493_506.out; have hnb13 := NB506_497.out; have hnc13 := NB497_506.out; obtain ⟨hcz14_0, hcz14_1, hcz14_2, hcz14_3, hfz14_0, hfz14_1, hfz14_2, hfz14_3⟩ := cc4 BK506; obtain ⟨Ao15, co15, eo15⟩ := Kd.S_slice HO503.out; subst eo15) | ((with_reducible refine gate_callee (f := 76) rfl ?_); refine gL (some 15) Try.func76 #[.pointer (some ⟨g497, 0, none⟩), .int .i64 7] ?_; (with_reducible refine (spec_l1Below.calls g497 t494 t504 t505 7 t507 t508 t509 w _ ?side1 ?side2 A4.out).mono ?_); (case side1 => repeat (first | (with_reducible first | exact HI497.out | apply IsS152.alloc | apply IsS152.drewN | apply IsS152.drew | apply IsS152.set_1 | apply IsS152.set_2 | refine IsS152.far ?_ NB497_493.out _ | refine IsS152.far ?_ NB497_506.out _) | exact HI497.out)); (case side2 => repeat (first | (with_reducible first | exact HB.out | apply below_alloc | apply pw_below_drewN | apply below_drew1 | refine below_set ?_ (IsS152.ge HI497.out) | refine below_set ?_ GE493.out | refine below_set ?_ GE506.out) | exact HB.out)); rintro e w16 ⟨rfl, hi, hb, hk⟩; refine ⟨_, rfl, ?_⟩; replace BK493 := Aside0.mk (KeepBut.blk hk (g' := gb493) (o := .cells #[.int .i64 0, .int .i64 0, .int .i64 0, .slice none 0 0] 31 (0, 0)) (sp BK493) NB493_497.out (by simp)); replace HO503 := Aside0.mk (Kd.S_mono (Kd.S_keep (IsS152.apartS (show IsS152 w _ g497 t494 t504 t505 from by repeat (first | (with_reducible first | exact HI497.out | apply IsS152.alloc | apply IsS152.drewN | apply IsS152.drew | apply IsS152.set_1 | apply IsS152.set_2 | refine IsS152.far ?_ NB497_493.out _ | refine IsS152.far ?_ NB497_506.out _) | exact HI497.out)) (by (with_reducible repeat (first | apply Kd.S_alloc | apply Kd.S_drewN | apply Kd.S_drew)); exact (Kd.S_mono (Kd.S_far (p := ⟨gb506, 3, none⟩) (Kd.S_far (p := ⟨gb506, 2, none⟩) (Kd.S_far (p := ⟨gb506, 1, none⟩) (Kd.S_far (p := ⟨gb506, 0, none⟩) (Kd.S_types HO503.out BK506.out (by decide)) (fun _ hk => hk.2) (.int .i64 t498)) (fun _ hk => hk.2) (.int .i64 t499)) (fun _ hk => hk.2) (.int .i64 t500)) (fun _ hk => hk.2) (.slice Ao15 t501.length co15)) (fun _ h_ => h_.1))) (by decide)) hk (fun _ h => h.2)) (fun _ h => h.1)); replace BK506 := Aside0.mk (KeepBut.blk hk (g' := gb506) (o := .cells #[.int .i64 t498, .int .i64 t499, .int .i64 t500, .slice Ao15 t501.length co15] 31 (0, 0)) (sp BK506) NB506_497.out (by simp)); replace HB := Aside0.mk hb; replace HI497 := Aside0.mk hi; (try clear hb); (try clear hb2); (try clear hk); (try clear hi)) | ((with_reducible refine gate_callee (f := 76) rfl ?_); refine gL (some 18) Try.func76 #[.pointer (some ⟨g497, 0, none⟩), .int .i64 26] ?_; (with_reducible refine (spec_l1Below.calls g497 t494 t508 t509 26 t510 t511 t512 w _ ?side1 ?side2 A5.out).mono ?_); (case side1 => repeat (first | (with_reducible first | exact HI497.out | apply IsS152.alloc | apply IsS152.drewN | apply IsS152.drew | apply IsS152.set_1 | apply IsS152.set_2 | refine IsS152.far ?_ NB497_493.out _ | refine IsS152.far ?_ NB497_506.out _) | exact HI497.out)); (case side2 => repeat (first | (with_reducible first | exact HB.out | apply below_alloc | apply pw_below_drewN | apply below_drew1 | refine below_set ?_ (IsS152.ge HI497.out) | refine below_set ?_ GE493.out | refine below_set ?_ GE506.out) | exact HB.out)); rintro e w17 ⟨rfl, hi, hb, hk⟩; refine ⟨_, rfl, ?_⟩; replace BK493 := Aside0.mk (KeepBut.blk hk (g' := gb493) (o := .cells #[.int .i64 0, .int .i64 0, .int .i64 0, .slice none 0 0] 31 (0, 0)) (sk BK493) NB493_497.out (by simp)); replace HO503 := Aside0.mk (Kd.S_mono (Kd.S_keep (IsS152.apartS (show IsS152 w _ g497 t494 t508 t509 from by repeat (first | (with_reducible first | exact HI497.out | apply IsS152.alloc | apply IsS152.drewN | apply IsS152.drew | apply IsS152.set_1 | apply IsS152.set_2 | refine IsS152.far ?_ NB497_493.out _ | refine IsS152.far ?_ NB497_506.out _) | exact HI497.out)) (ss HO503) (by decide)) hk (fun _ h => h.2)) (fun _ h => h.1)); replace BK506 := Aside0.mk (KeepBut.blk hk (g' := gb506) (o := .cells #[.int .i64 t498, .int .i64 t499, .int .i64 t500, .slice Ao15 t501.length co15] 31 (0, 0)) (sk BK506) NB506_497.out (by simp)); replace HB := Aside0.mk hb; replace HI497 := Aside0.mk hi; (try clear hb); (try clear hb2); (try clear hk); (try clear hi)))
 replace HO503 := Aside0.mk (Kd.S_drew HO503.out)
 replace BK493 := Aside0.mk (blk_drew BK493.out)
 replace BK506 := Aside0.mk (blk_drew BK506.out)
 replace HI497 := Aside0.mk (IsS152.drew HI497.out)
 replace HB := Aside0.mk (below_drew1 HB.out)
 refine start_ (n := 14) (S := fun w' => w'.cell? ⟨gb506, 0, none⟩ = some (.int .i64 t498) ∧ w'.cell? ⟨gb506, 1, none⟩ = some (.int .i64 t499) ∧ w'.cell? ⟨gb506, 2, none⟩ = some (.int .i64 t500) ∧ w'.cell? ⟨gb506, 3, none⟩ = some (.slice Ao15 t501.length co15)) (ds := []) #[false, false, false, false, false, false, false, false, false, false, false, false, false, false] (by kernel_rfl) rfl rfl ⟨bc0 BK506, bc1 BK506, bc2 BK506, bc3 BK506⟩ (fun hHeld => ?_); refine with_tabW spec_DrawIsSafeMix.tab5 spec_DrawIsSafeMix.bits5 (fun HT_ HW_ => ?_)
 generalize w17.drew = w18 at HO503 BK493 BK506 HI497 HB hHeld ⊢
 refine put 1 21 #[false, true, false, false, false, false, false, false, false, false, false, false, false, false] HT_ ?_
 refine put 2 22 #[false, true, true, false, false, false, false, false, false, false, false, false, false, false] HT_ ?_
 refine put 3 23 #[false, true, true, true, false, false, false, false, false, false, false, false, false, false] HT_ ?_
 refine put 6 26 #[false, true, true, true, false, false, true, false, false, false, false, false, false, false] HT_ ?_
 refine put 7 27 #[false, true, true, true, false, false, true, true, false, false, false, false, false, false] HT_ ?_
 refine tat4 0 20 #[true, true, true, true, false, false, true, true, false, false, false, false, false, false] HT_ HW_ hHeld ?_
 refine one_ (i := 4) (N := some 24) #[true, true, true, true, true, false, true, true, false, false, false, false, false, false] rfl rfl (one_of HT_.out (by kernel_rfl)) (by decide) (fun K hK => ?_)
 refine goes_ Try.func76 (by kernel_rfl) rfl #[.pointer (some ⟨g497, 0, none⟩), .int .i64 5] (by rfl) rfl rfl sl ?_
 with_reducible refine (spec_l1Below.calls g497 t494 t511 t512 5 t513 t514 t515 w _ ?side1 ?side2 A6.out).mono ?_
 (case side1 => repeat (first | (with_reducible first | exact HI497.out | apply IsS152.alloc | apply IsS152.drewN | apply IsS152.drew | apply IsS152.set_1 | apply IsS152.set_2 | refine IsS152.far ?_ NB497_493.out _ | refine IsS152.far ?_ NB497_506.out _) | exact HI497.out))
 (case side2 => repeat (first | (with_reducible first | exact HB.out | apply below_alloc | apply pw_below_drewN | apply below_drew1 | refine below_set ?_ (IsS152.ge HI497.out) | refine below_set ?_ GE493.out | refine below_set ?_ GE506.out) | exact HB.out))
 rintro e w19 ⟨rfl, hi, hb, hk⟩
 refine ⟨_, rfl, ?_⟩
 replace BK493 := Aside0.mk (KeepBut.blk hk (g' := gb493) (o := .cells #[.int .i64 0, .int .i64 0, .int .i64 0, .slice none 0 0] 31 (0, 0)) (sk BK493) NB493_497.out (by simp))
 replace HO503 := Aside0.mk (Kd.S_mono (Kd.S_keep (IsS152.apartS (show IsS152 w _ g497 t494 t511 t512 from by repeat (first | (with_reducible first | exact HI497.out | apply IsS152.alloc | apply IsS152.drewN | apply IsS152.drew | apply IsS152.set_1 | apply IsS152.set_2 | refine IsS152.far ?_ NB497_493.out _ | refine IsS152.far ?_ NB497_506.out _) | exact HI497.out)) (ss HO503) (by decide)) hk (fun _ h => h.2)) (fun _ h => h.1))
 replace BK506 := Aside0.mk (KeepBut.blk hk (g' := gb506) (o := .cells #[.int .i64 t498, .int .i64 t499, .int .i64 t500, .slice Ao15 t501.length co15] 31 (0, 0)) (sk BK506) NB506_497.out (by simp))
 replace HB := Aside0.mk hb
 replace HI497 := Aside0.mk hi
 (try clear hb)
 (try clear hb2)
 (try clear hk)
 (try clear hi)
 refine hK.out _ _ ⟨bc0 BK506, bc1 BK506, bc2 BK506, bc3 BK506⟩ (fun hHeld => ?_)
 clear hK K
 refine norm_ (a' := ?_) ?_ ?_
 rotate_left
 ·show Act.put _ (some 24) _ = _
  simp only [Act.put, List.setIfInBounds_toArray, List.set_cons_zero, List.set_cons_succ, i64_w, i32_w]
  rfl
 refine put 5 25 #[true, true, true, true, true, true, true, true, false, false, false, false, false, false] HT_ ?_
 refine one_ (i := 8) (N := some 28) #[true, true, true, true, true, true, true, true, true, false, false, false, false, false] rfl rfl (one_of HT_.out (by kernel_rfl)) (by decide) (fun K hK => ?_)
 refine goes_ Try.func76 (by kernel_rfl) rfl #[.pointer (some ⟨g497, 0, none⟩), .int .i64 5] (by rfl) rfl rfl sl ?_
 with_reducible refine (spec_l1Below.calls g497 t494 t514 t515 5 t516 t517 t518 w _ ?side1 ?side2 A7.out).mono ?_
 (case side1 => repeat (first | (with_reducible first | exact HI497.out | apply IsS152.alloc | apply IsS152.drewN | apply IsS152.drew | apply IsS152.set_1 | apply IsS152.set_2 | refine IsS152.far ?_ NB497_493.out _ | refine IsS152.far ?_ NB497_506.out _) | exact HI497.out))
 (case side2 => repeat (first | (with_reducible first | exact HB.out | apply below_alloc | apply pw_below_drewN | apply below_drew1 | refine below_set ?_ (IsS152.ge HI497.out) | refine below_set ?_ GE493.out | refine below_set ?_ GE506.out) | exact HB.out))
 rintro e w20 ⟨rfl, hi, hb, hk⟩
 refine ⟨_, rfl, ?_⟩
 replace BK493 := Aside0.mk (KeepBut.blk hk (g' := gb493) (o := .cells #[.int .i64 0, .int .i64 0, .int .i64 0, .slice none 0 0] 31 (0, 0)) (sk BK493) NB493_497.out (by simp))
 replace HO503 := Aside0.mk (Kd.S_mono (Kd.S_keep (IsS152.apartS (show IsS152 w _ g497 t494 t514 t515 from by repeat (first | (with_reducible first | exact HI497.out | apply IsS152.alloc | apply IsS152.drewN | apply IsS152.drew | apply IsS152.set_1 | apply IsS152.set_2 | refine IsS152.far ?_ NB497_493.out _ | refine IsS152.far ?_ NB497_506.out _) | exact HI497.out)) (ss HO503) (by decide)) hk (fun _ h => h.2)) (fun _ h => h.1))
 replace BK506 := Aside0.mk (KeepBut.blk hk (g' := gb506) (o := .cells #[.int .i64 t498, .int .i64 t499, .int .i64 t500, .slice Ao15 t501.length co15] 31 (0, 0)) (sk BK506) NB506_497.out (by simp))
 replace HB := Aside0.mk hb
 replace HI497 := Aside0.mk hi
 (try clear hb)
 (try clear hb2)
 (try clear hk)
 (try clear hi)
 refine hK.out _ _ ⟨bc0 BK506, bc1 BK506, bc2 BK506, bc3 BK506⟩ (fun hHeld => ?_)
 clear hK K
 refine norm_ (a' := ?_) ?_ ?_
 rotate_left
 ·show Act.put _ (some 28) _ = _
  simp only [Act.put, List.setIfInBounds_toArray, List.set_cons_zero, List.set_cons_succ, i64_w, i32_w]
  rfl
 refine put 9 29 #[true, true, true, true, true, true, true, true, true, true, false, false, false, false] HT_ ?_
 refine one_ (i := 10) (N := none) #[true, true, true, true, true, true, true, true, true, true, true, false, false, false] rfl rfl (one_of HT_.out (by kernel_rfl)) (by decide) (fun K hK => ?_)
 obtain ⟨hs21, hfs21⟩ := cc1 BK493
 have hns21_1 := NB506_493.out
 have hms21_1 := NB493_506.out
 have hs22 := bc1 BK493
 have hfs22 := bf BK493 1
 have hns22_1 := NB506_493.out
 have hms22_1 := NB493_506.out
 have hs23 := bc2 BK493
 have hfs23 := bf BK493 2
 have hns23_1 := NB506_493.out
 have hms23_1 := NB493_506.out
 have hs24 := bc3 BK493
 have hfs24 := bf BK493 3
 have hns24_1 := NB506_493.out
 have hms24_1 := NB493_506.out
 refine skip_ (w1 := ?_) (by rfl) rfl ?_ ?_
 rotate_left
 ·go_simp
  rfl
 refine hK.out _ _ ⟨((cell_far (p := ⟨gb493, _, none⟩) NB506_493.out _).trans (((cell_far (p := ⟨gb493, _, none⟩) NB506_493.out _).trans (((cell_far (p := ⟨gb493, _, none⟩) NB506_493.out _).trans (((cell_far (p := ⟨gb493, _, none⟩) NB506_493.out _).trans (hHeld.1)))))))), ((cell_far (p := ⟨gb493, _, none⟩) NB506_493.out _).trans (((cell_far (p := ⟨gb493, _, none⟩) NB506_493.out _).trans (((cell_far (p := ⟨gb493, _, none⟩) NB506_493.out _).trans (((cell_far (p := ⟨gb493, _, none⟩) NB506_493.out _).trans (hHeld.2.1)))))))), ((cell_far (p := ⟨gb493, _, none⟩) NB506_493.out _).trans (((cell_far (p := ⟨gb493, _, none⟩) NB506_493.out _).trans (((cell_far (p := ⟨gb493, _, none⟩) NB506_493.out _).trans (((cell_far (p := ⟨gb493, _, none⟩) NB506_493.out _).trans (hHeld.2.2.1)))))))), ((cell_far (p := ⟨gb493, _, none⟩) NB506_493.out _).trans (((cell_far (p := ⟨gb493, _, none⟩) NB506_493.out _).trans (((cell_far (p := ⟨gb493, _, none⟩) NB506_493.out _).trans (((cell_far (p := ⟨gb493, _, none⟩) NB506_493.out _).trans (hHeld.2.2.2))))))))⟩ (fun hHeld => ?_)
 clear hK K
 refine put 11 3 #[true, true, true, true, true, true, true, true, true, true, true, true, false, false] HT_ ?_
 refine put 12 4 #[true, true, true, true, true, true, true, true, true, true, true, true, true, false] HT_ ?_
 refine put 13 5 #[true, true, true, true, true, true, true, true, true, true, true, true, true, true] HT_ ?_
 refine done_ (done_of HT_.out (by kernel_rfl)) ?_
 try go_wp2
 refine bodyPost_ret (results_list (rs := [.cell 2 31, .tmp 3, .tmp 4, .tmp 5]) rfl (by simp) (.cell gb493 31 #[.int .i64 t498, .int .i64 t499, .int .i64 t500, .slice Ao15 t501.length co15] (0, 0) _ rfl (sp BK493) Try.underlying31 rfl (by kernel_rfl) (.tmp (.tmp (.tmp .nil))))) rfl ?_
 exact ⟨_, se, by (with_reducible repeat (first | apply Kd.S_alloc | apply Kd.S_drewN | apply Kd.S_drew)); exact Kd.S_mono (Kd.S_far (p := ⟨gb493, 3, none⟩) (Kd.S_far (p := ⟨gb493, 2, none⟩) (Kd.S_far (p := ⟨gb493, 1, none⟩) (Kd.S_far (p := ⟨gb493, 0, none⟩) (Kd.S_types HO503.out BK493.out (by decide)) (fun _ hk => hk.2) (.int .i64 t498)) (fun _ hk => hk.2) (.int .i64 t499)) (fun _ hk => hk.2) (.int .i64 t500)) (fun _ hk => hk.2) (.slice Ao15 t501.length co15)) (fun _ hk => trivial), by repeat (first | (with_reducible first | exact HB.out | apply below_alloc | apply pw_below_drewN | apply below_drew1 | refine below_set ?_ (IsS152.ge HI497.out) | refine below_set ?_ GE493.out | refine below_set ?_ GE506.out) | exact HB.out)⟩

/-! ### impl_IsSpan: function 79 -/
def impl_IsSpan.f (a0_0 : Int) (a0_1 : Int) : Option (Bool) := if a0_0 ≥ 0 then (if a0_1 ≤ 1000 then (some (decide (a0_0 < a0_1))) else (some false)) else (some false)
set_option maxHeartbeats 8000000 in
set_option maxRecDepth 100000 in
theorem impl_IsSpan.calls (a0_0 : Int) (a0_1 : Int) (r : Bool) (w : World) (h : impl_IsSpan.f a0_0 a0_1 = some r) :
    Calls Try.prog 79 #[.agg #[.int .i64 a0_0, .int .i64 a0_1]] w fun e w' => e = .returned (.bool r) ∧ Below w.heap.size w w' := by
 have hu102 := Try.underlying102
 have HB := Aside0.mk (Below.refl w.heap.size w)
 have H : (if a0_0 ≥ 0 then (if a0_1 ≤ 1000 then (some (decide (a0_0 < a0_1))) else (some false)) else (some false)) = some r := h
 clear h
 obtain ⟨c2, H⟩ | ⟨c2, H⟩ := ie_ H
 ·have c2b0 := decide_eq_true c2
  clear c2
  obtain ⟨c3, H⟩ | ⟨c3, H⟩ := ie_ H
  ·have c3b0 := decide_eq_true c3
   clear c3
   obtain rfl := Option.some.inj H
   go_enter Try.func79, Try.ntmps79
   go_wp2_with (first | ((with_reducible refine gate_dst (N := 1) rfl ?_); refine bx 1 #[.int .i64 a0_0, .int .i64 a0_1] 102 ?_; intro gb519 hg w4 hbox hb; have GW519 := bz w hg; have GE519 := bz w hg; replace HB := bs hb; have BK519 := Aside0.mk hbox; clear hb hbox hg; obtain ⟨hcz5_0, hcz5_1, hfz5_0, hfz5_1⟩ := cc2 BK519))
   go_ret
   exact ⟨se, sbw⟩
  ·have c3b0 := decide_eq_false c3
   clear c3
   obtain rfl := Option.some.inj H
   go_enter Try.func79, Try.ntmps79
   go_wp2_with (first | ((with_reducible refine gate_dst (N := 1) rfl ?_); refine bx 1 #[.int .i64 a0_0, .int .i64 a0_1] 102 ?_; intro gb519 hg w6 hbox hb; have GW519 := bz w hg; have GE519 := bz w hg; replace HB := bs hb; have BK519 := Aside0.mk hbox; clear hb hbox hg; obtain ⟨hcz7_0, hcz7_1, hfz7_0, hfz7_1⟩ := cc2 BK519))
   go_ret
   exact ⟨se, sbw⟩
 ·have c2b0 := decide_eq_false c2
  clear c2
  obtain rfl := Option.some.inj H
  go_enter Try.func79, Try.ntmps79
  go_wp2_with (first | ((with_reducible refine gate_dst (N := 1) rfl ?_); refine bx 1 #[.int .i64 a0_0, .int .i64 a0_1] 102 ?_; intro gb519 hg w8 hbox hb; have GW519 := bz w hg; have GE519 := bz w hg; replace HB := bs hb; have BK519 := Aside0.mk hbox; clear hb hbox hg; obtain ⟨hcz9_0, hcz9_1, hfz9_0, hfz9_1⟩ := cc2 BK519))
  go_ret
  exact ⟨se, sbw⟩

/-! ### impl_PiecesIn: function 17 -/
def impl_PiecesIn.l0 : Nat → Int → Int → List Int → List (S105) → Int → Int → Option (List Int)
  | 0, _, _, _, _, _, _ => none
  | k + 1, x1, x2, x7, x12, x13, x14 => if x14 < x13 then (if 0 ≤ x14 then (if x14 < (x12.length : Int) then ((impl_IsSpan.f ((rd_T105 x12 x14).f0.f0) ((rd_T105 x12 x14).f0.f1)).bind fun t526 => (if t526 = true then (if x1 ≤ x2 then (if ((rd_T105 x12 x14).f0.f0) ≤ x2 then (if ((rd_T105 x12 x14).f0.f1) > x1 then (if x7.length < 17592186044416 then (impl_PiecesIn.l0 k x1 x2 (x7 ++ [x14]) x12 x13 (wrap64 (x14 + 1))) else (none)) else (impl_PiecesIn.l0 k x1 x2 x7 x12 x13 (wrap64 (x14 + 1)))) else (impl_PiecesIn.l0 k x1 x2 x7 x12 x13 (wrap64 (x14 + 1)))) else (impl_PiecesIn.l0 k x1 x2 x7 x12 x13 (wrap64 (x14 + 1)))) else (impl_PiecesIn.l0 k x1 x2 x7 x12 x13 (wrap64 (x14 + 1))))) else (none)) else (none)) else (some x7)
def impl_PiecesIn.f (k : Nat) (a0_0 : Int) (a0_1 : Int) (a0_2 : Int) (l0_3 : List (S105)) (a1 : Int) (a2 : Int) : Option (List Int) := impl_PiecesIn.l0 k a1 a2 (([] : List Int)) l0_3 (l0_3.length : Int) 0
theorem impl_PiecesIn.mono_l : ∀ k, (∀ y0 y1 y2 y3 y4 y5, LeO (impl_PiecesIn.l0 k y0 y1 y2 y3 y4 y5) (impl_PiecesIn.l0 (k + 1) y0 y1 y2 y3 y4 y5))
  | 0 => fun _ _ _ _ _ _ r h => by simp [impl_PiecesIn.l0] at h
  | k + 1 => by
    have ih0 := impl_PiecesIn.mono_l k
    · intro y0 y1 y2 y3 y4 y5
      unfold impl_PiecesIn.l0
      exact mo
theorem impl_PiecesIn.mono : ∀ a0 a1 a2 a3 a4 a5 k, LeO (impl_PiecesIn.f k a0 a1 a2 a3 a4 a5) (impl_PiecesIn.f (k + 1) a0 a1 a2 a3 a4 a5) := by
  intro a0 a1 a2 a3 a4 a5 k
  have ih0 := impl_PiecesIn.mono_l k
  unfold impl_PiecesIn.f
  exact mo
set_option maxHeartbeats 8000000 in
set_option maxRecDepth 100000 in
theorem impl_PiecesIn.calls (k : Nat) (a0_0 : Int) (a0_1 : Int) (a0_2 : Int) (A0_3 : Option Addr) (c0_3 : Nat) (l0_3 : List (S105)) (a1 : Int) (a2 : Int) (r : List Int) (w : World) (hr0_3 : Kd.C k105 w A0_3 l0_3.length l0_3) (hc0_3 : l0_3.length ≤ c0_3) (h : impl_PiecesIn.f k a0_0 a0_1 a0_2 l0_3 a1 a2 = some r) :
    Calls Try.prog 17 #[.agg #[.int .i64 a0_0, .int .i64 a0_1, .int .i64 a0_2, .slice A0_3 l0_3.length c0_3], .int .i64 a1, .int .i64 a2] w fun e w' => ∃ v0_ : Value, e = .returned (v0_) ∧ Kd.R (Kd.int .i64) 3 w' w.heap.size (fun _ => True) v0_ r ∧ Below w.heap.size w w' := by
 have hu31 := Try.underlying31
 have hu105 := Try.underlying105
 have hu102 := Try.underlying102
 have HR0_3 := Aside0.mk hr0_3
 have HC0_3 := Aside0.mk hc0_3
 clear hr0_3 hc0_3
 have HB := Aside0.mk (Below.refl w.heap.size w)
 have H : (impl_PiecesIn.l0 k a1 a2 (([] : List Int)) l0_3 (l0_3.length : Int) 0) = some r := h
 clear h
 obtain ⟨y521, hy521⟩ : ∃ y_ : List Int, y_ = (([] : List Int)) := ⟨_, rfl⟩
 replace H : (impl_PiecesIn.l0 k a1 a2 y521 l0_3 (l0_3.length : Int) 0) = some r := by first | (rw [hy521]; with_reducible exact H) | (have H2_ := (Option.bind_some _ _).symm.trans H; rw [hy521]; with_reducible exact H2_) | (have H2_ := (Option.bind_some _ _).symm.trans H; with_reducible exact H2_) | with_reducible exact H | (rw [hy521]; exact H) | exact H
 have Ny521 := Aside0.mk hy521
 clear hy521
 have H' := Aside0.mk H
 clear H
 go_enter Try.func17, Try.ntmps17
 go_wp2_with (first | ((with_reducible refine gate_dst (N := 3) rfl ?_); refine bx 3 #[.int .i64 a0_0, .int .i64 a0_1, .int .i64 a0_2, .slice A0_3 l0_3.length c0_3] 31 ?_; intro gb520 hg w4 hbox hb; have GW520 := bz w hg; have GE520 := bz w hg; replace HB := bs hb; have BK520 := Aside0.mk hbox; clear hb hbox hg) | ((with_reducible refine gate_dst (N := 10) rfl ?_); refine Kd.R_lit (Kd.int .i64) _ 3 ?hg (N := 10) ?hd (xs := ([] : List Int)) (inner := []) (ok := fun _ => True) (okp := fun _ => True) ?hr ?hp (fun _ hk => hk) trivial (Below.refl _ _) (Nat.le_refl _) (by simp) ?_; (case hd => rfl); (case hg => rfl); (case hr => first | (go_simp; done) | (go_simp; rfl)); (case hp => exact (Reps.none _ _)); intro v522 w5 ho6 hb hg_ hnew_; clear hg_ hnew_; (first | rw [← Ny521.out] at ho6 | (simp only [Int.reduceToNat] at ho6; rw [← Ny521.out] at ho6)); have HO523 := Aside0.mk (Kd.R_lower ho6 (below_size (sbw))); replace BK520 := bb BK520 hb; replace HB := bsw hb; clear hb ho6; obtain ⟨hcz7_0, hcz7_1, hcz7_2, hcz7_3, hfz7_0, hfz7_1, hfz7_2, hfz7_3⟩ := cc4 BK520))
 go_loopg [7, 14] k (fun kq v7 v14 w' => ∃ (x7_1 : List Int) (x14_1 : Int), v14 = .int .i64 x14_1 ∧ Aside0 (impl_PiecesIn.l0 kq a1 a2 x7_1 l0_3 (l0_3.length : Int) x14_1 = some r) ∧ Aside0 (kq ≤ k) ∧ Aside0 (Kd.R (Kd.int .i64) 3 w' w.heap.size (fun _ => True) v7 x7_1) ∧ Aside0 (w'.heap[gb520]? = some (.cells #[.int .i64 a0_0, .int .i64 a0_1, .int .i64 a0_2, (.slice A0_3 l0_3.length c0_3)] 31 (0, 0))) ∧ Aside0 (Below w.heap.size w w'))
 case atStart => exact ⟨(y521), (0), sc, H', kk0, ⟨sr HO523⟩, ⟨sk BK520⟩, ⟨sbw⟩⟩
 case round =>
  clear H'
  try clear hcz7_0
  try clear hcz7_1
  try clear hcz7_2
  try clear hcz7_3
  try clear hfz7_0
  try clear hfz7_1
  try clear hfz7_2
  try clear hfz7_3
  obtain ⟨x7_1, x14_1, rfl, HA, HK1, HO_7, BK520, HB⟩ := hrel
  cases gk with
  | zero => exact absurd HA.out (by simp [impl_PiecesIn.l0])
  | succ k1 =>
   have H := HA.out
   clear HA
   simp only [impl_PiecesIn.l0] at H
   obtain ⟨c8, H⟩ | ⟨c8, H⟩ := ie_ H
   ·have c8b0 := decide_eq_true c8
    clear c8
    obtain ⟨c9b0, H⟩ := id_ H
    obtain ⟨c10b0, H⟩ := id_ H
    obtain ⟨t526, A11, H⟩ := bnd H
    obtain rfl | rfl := tt t526
    ·replace H := ip H
     obtain ⟨c13, H⟩ | ⟨c13, H⟩ := ie_ H
     ·have c13b0 := decide_eq_true c13
      clear c13
      obtain ⟨c14, H⟩ | ⟨c14, H⟩ := ie_ H
      ·have c14b0 := decide_eq_true c14
       clear c14
       obtain ⟨c15, H⟩ | ⟨c15, H⟩ := ie_ H
       ·have c15b0 := decide_eq_true c15
        clear c15
        obtain ⟨LMc16, H⟩ := il_ H
        obtain ⟨y527, hy527⟩ : ∃ y_ : List Int, y_ = (x7_1 ++ [x14_1]) := ⟨_, rfl⟩
        replace H : (impl_PiecesIn.l0 k1 a1 a2 y527 l0_3 (l0_3.length : Int) (wrap64 (x14_1 + 1))) = some r := by first | (rw [hy527]; with_reducible exact H) | (have H2_ := (Option.bind_some _ _).symm.trans H; rw [hy527]; with_reducible exact H2_) | (have H2_ := (Option.bind_some _ _).symm.trans H; with_reducible exact H2_) | with_reducible exact H | (rw [hy527]; exact H) | exact H
        have Ny527 := Aside0.mk hy527
        clear hy527
        have H' := Aside0.mk H
        clear H
        obtain ⟨p524, q524, ad524, A524_2, c524_2, A524_3, c524_3, e524, _, _, _, _, hx524_0, hx524_1, hx524_2, hx524_3, HC524_2, HR524_2, HC524_3, HR524_3⟩ := aT_T105 HR0_3 HB x14_1
        cases e524
        go_wp2_with (first | ((with_reducible refine gate_dst (N := 9) rfl ?_); refine bx 9 #[.int .i64 0, .int .i64 0, .slice none 0 0, .slice none 0 0] 105 ?_; intro gb525 hg w17 hbox hb; replace HO_7 := Aside0.mk (Kd.R_below (sr HO_7) hb); have GW525 := bzw w hg; have GE525 := bzw w hg; replace HB := bsw hb; have BK525 := Aside0.mk hbox; have NB520_525 := nl BK520 hg; have NB525_520 := ng BK520 hg; replace BK520 := bb BK520 hb; clear hb hbox hg; have hnb18 := NB525_520.out; have hnc18 := NB520_525.out; obtain ⟨hcz19_0, hcz19_1, hcz19_2, hcz19_3, hfz19_0, hfz19_1, hfz19_2, hfz19_3⟩ := cc4 BK525) | ((with_reducible refine gate_callee (f := 79) rfl ?_); refine gL (some 21) Try.func79 #[.agg #[.int .i64 ((rd_T105 l0_3 x14_1).f0.f0), .int .i64 ((rd_T105 l0_3 x14_1).f0.f1)]] ?_; (with_reducible refine (impl_IsSpan.calls ((rd_T105 l0_3 x14_1).f0.f0) ((rd_T105 l0_3 x14_1).f0.f1) true _ A11.out).mono ?_); rintro e w20 ⟨rfl, hb⟩; refine ⟨_, rfl, ?_⟩; replace HO_7 := Aside0.mk (Kd.R_below (by (with_reducible repeat (first | apply Kd.R_alloc | apply Kd.R_drewN | apply Kd.R_drew)); exact (Kd.R_mono (Kd.R_far (p := ⟨gb525, 3, none⟩) (Kd.R_far (p := ⟨gb525, 2, none⟩) (Kd.R_far (p := ⟨gb525, 1, none⟩) (Kd.R_far (p := ⟨gb525, 0, none⟩) (Kd.R_types HO_7.out BK525.out (by decide)) (fun _ hk => hk.2) (.int .i64 ((rd_T105 l0_3 x14_1).f0.f0))) (fun _ hk => hk.2) (.int .i64 ((rd_T105 l0_3 x14_1).f0.f1))) (fun _ hk => hk.2) (.slice A524_2 ((rd_T105 l0_3 x14_1).f1).length c524_2)) (fun _ hk => hk.2) (.slice A524_3 ((rd_T105 l0_3 x14_1).f2).length c524_3)) (fun _ h_ => h_.1))) hb); replace BK520 := Aside0.mk (blk_below (g := gb520) (o := .cells #[.int .i64 a0_0, .int .i64 a0_1, .int .i64 a0_2, .slice (some ad524) l0_3.length c0_3] 31 (0, 0)) (sp BK520) hb); replace BK525 := Aside0.mk (blk_below (g := gb525) (o := .cells #[.int .i64 ((rd_T105 l0_3 x14_1).f0.f0), .int .i64 ((rd_T105 l0_3 x14_1).f0.f1), .slice A524_2 ((rd_T105 l0_3 x14_1).f1).length c524_2, .slice A524_3 ((rd_T105 l0_3 x14_1).f2).length c524_3] 105 (0, 0)) (sp BK525) hb); replace HB := bsw hb; (try clear hb); (try clear hb2); (try clear hk); (try clear hi); obtain ⟨hcz21_0, hcz21_1, hcz21_2, hcz21_3, hfz21_0, hfz21_1, hfz21_2, hfz21_3⟩ := cc4 BK525) | ((with_reducible refine gate_builtin (b := .append) (xs := #[.tmp 41, .tmp 43]) rfl ?_); at_builtin; refine Kd.R_append (Kd.int .i64) (w0 := w) w.heap.size rfl (.tmp 41) (.tmp 43) 28 3 (.int .i64 0) 8 rfl Try.underlying28 info3 rfl (by decide) (by omega) u7 x7_1 x14_1 [.int .i64 x14_1] (fun _ => True) (fun _ => False) rfl rfl ?aP (fun _ hk => hk.elim) ?aF ?aO ?aB ?aS ?aL ?_; (case aP => exact rfl); (case aB => exact (sbw)); (case aF => exact (fun _ _ => trivial)); (case aO => exact (sr HO_7)); (case aS => exact (below_size (sbw))); (case aL => have := LMc16.out; omega); intro v528 w22 ho hb hg hat; rw [← Ny527.out] at ho; replace BK520 := Aside0.mk (blk_grown (g := gb520) (o := .cells #[.int .i64 a0_0, .int .i64 a0_1, .int .i64 a0_2, .slice (some ad524) l0_3.length c0_3] 31 (0, 0)) (sk BK520) hg (Kd.R_ne HO_7.out BK520.out (by decide))); replace BK525 := Aside0.mk (blk_grown (g := gb525) (o := .cells #[.int .i64 ((rd_T105 l0_3 x14_1).f0.f0), .int .i64 ((rd_T105 l0_3 x14_1).f0.f1), .slice A524_2 ((rd_T105 l0_3 x14_1).f1).length c524_2, .slice A524_3 ((rd_T105 l0_3 x14_1).f2).length c524_3] 105 (0, 0)) (sk BK525) hg (Kd.R_ne HO_7.out BK525.out (by decide))); replace HB := Aside0.mk hb; have HO529 := Aside0.mk ho; clear HO_7; clear ho hb hg hat))
        go_roundg k1
        case measure => have := HK1.out; omega
        case rel => exact ⟨(y527), (wrap64 (x14_1 + 1)), sc, H', kk1, ⟨sr HO529⟩, ⟨sk BK520⟩, ⟨sbw⟩⟩
       ·have c15b0 := decide_eq_false c15
        clear c15
        have H' := Aside0.mk H
        clear H
        obtain ⟨p524, q524, ad524, A524_2, c524_2, A524_3, c524_3, e524, _, _, _, _, hx524_0, hx524_1, hx524_2, hx524_3, HC524_2, HR524_2, HC524_3, HR524_3⟩ := aT_T105 HR0_3 HB x14_1
        cases e524
        go_wp2_with (first | ((with_reducible refine gate_dst (N := 9) rfl ?_); refine bx 9 #[.int .i64 0, .int .i64 0, .slice none 0 0, .slice none 0 0] 105 ?_; intro gb525 hg w23 hbox hb; replace HO_7 := Aside0.mk (Kd.R_below (sr HO_7) hb); have GW525 := bzw w hg; have GE525 := bzw w hg; replace HB := bsw hb; have BK525 := Aside0.mk hbox; have NB520_525 := nl BK520 hg; have NB525_520 := ng BK520 hg; replace BK520 := bb BK520 hb; clear hb hbox hg; have hnb24 := NB525_520.out; have hnc24 := NB520_525.out; obtain ⟨hcz25_0, hcz25_1, hcz25_2, hcz25_3, hfz25_0, hfz25_1, hfz25_2, hfz25_3⟩ := cc4 BK525) | ((with_reducible refine gate_callee (f := 79) rfl ?_); refine gL (some 21) Try.func79 #[.agg #[.int .i64 ((rd_T105 l0_3 x14_1).f0.f0), .int .i64 ((rd_T105 l0_3 x14_1).f0.f1)]] ?_; (with_reducible refine (impl_IsSpan.calls ((rd_T105 l0_3 x14_1).f0.f0) ((rd_T105 l0_3 x14_1).f0.f1) true _ A11.out).mono ?_); rintro e w26 ⟨rfl, hb⟩; refine ⟨_, rfl, ?_⟩; replace HO_7 := Aside0.mk (Kd.R_below (by (with_reducible repeat (first | apply Kd.R_alloc | apply Kd.R_drewN | apply Kd.R_drew)); exact (Kd.R_mono (Kd.R_far (p := ⟨gb525, 3, none⟩) (Kd.R_far (p := ⟨gb525, 2, none⟩) (Kd.R_far (p := ⟨gb525, 1, none⟩) (Kd.R_far (p := ⟨gb525, 0, none⟩) (Kd.R_types HO_7.out BK525.out (by decide)) (fun _ hk => hk.2) (.int .i64 ((rd_T105 l0_3 x14_1).f0.f0))) (fun _ hk => hk.2) (.int .i64 ((rd_T105 l0_3 x14_1).f0.f1))) (fun _ hk => hk.2) (.slice A524_2 ((rd_T105 l0_3 x14_1).f1).length c524_2)) (fun _ hk => hk.2) (.slice A524_3 ((rd_T105 l0_3 x14_1).f2).length c524_3)) (fun _ h_ => h_.1))) hb); replace BK520 := Aside0.mk (blk_below (g := gb520) (o := .cells #[.int .i64 a0_0, .int .i64 a0_1, .int .i64 a0_2, .slice (some ad524) l0_3.length c0_3] 31 (0, 0)) (sp BK520) hb); replace BK525 := Aside0.mk (blk_below (g := gb525) (o := .cells #[.int .i64 ((rd_T105 l0_3 x14_1).f0.f0), .int .i64 ((rd_T105 l0_3 x14_1).f0.f1), .slice A524_2 ((rd_T105 l0_3 x14_1).f1).length c524_2, .slice A524_3 ((rd_T105 l0_3 x14_1).f2).length c524_3] 105 (0, 0)) (sp BK525) hb); replace HB := bsw hb; (try clear hb); (try clear hb2); (try clear hk); (try clear hi); obtain ⟨hcz27_0, hcz27_1, hcz27_2, hcz27_3, hfz27_0, hfz27_1, hfz27_2, hfz27_3⟩ := cc4 BK525))
        go_roundg k1
        case measure => have := HK1.out; omega
        case rel => exact ⟨(x7_1), (wrap64 (x14_1 + 1)), sc, H', kk1, ⟨sr HO_7⟩, ⟨sk BK520⟩, ⟨sbw⟩⟩
      ·have c14b0 := decide_eq_false c14
       clear c14
       have H' := Aside0.mk H
       clear H
       obtain ⟨p524, q524, ad524, A524_2, c524_2, A524_3, c524_3, e524, _, _, _, _, hx524_0, hx524_1, hx524_2, hx524_3, HC524_2, HR524_2, HC524_3, HR524_3⟩ := aT_T105 HR0_3 HB x14_1
       cases e524
       go_wp2_with (first | ((with_reducible refine gate_dst (N := 9) rfl ?_); refine bx 9 #[.int .i64 0, .int .i64 0, .slice none 0 0, .slice none 0 0] 105 ?_; intro gb525 hg w28 hbox hb; replace HO_7 := Aside0.mk (Kd.R_below (sr HO_7) hb); have GW525 := bzw w hg; have GE525 := bzw w hg; replace HB := bsw hb; have BK525 := Aside0.mk hbox; have NB520_525 := nl BK520 hg; have NB525_520 := ng BK520 hg; replace BK520 := bb BK520 hb; clear hb hbox hg; have hnb29 := NB525_520.out; have hnc29 := NB520_525.out; obtain ⟨hcz30_0, hcz30_1, hcz30_2, hcz30_3, hfz30_0, hfz30_1, hfz30_2, hfz30_3⟩ := cc4 BK525) | ((with_reducible refine gate_callee (f := 79) rfl ?_); refine gL (some 21) Try.func79 #[.agg #[.int .i64 ((rd_T105 l0_3 x14_1).f0.f0), .int .i64 ((rd_T105 l0_3 x14_1).f0.f1)]] ?_; (with_reducible refine (impl_IsSpan.calls ((rd_T105 l0_3 x14_1).f0.f0) ((rd_T105 l0_3 x14_1).f0.f1) true _ A11.out).mono ?_); rintro e w31 ⟨rfl, hb⟩; refine ⟨_, rfl, ?_⟩; replace HO_7 := Aside0.mk (Kd.R_below (by (with_reducible repeat (first | apply Kd.R_alloc | apply Kd.R_drewN | apply Kd.R_drew)); exact (Kd.R_mono (Kd.R_far (p := ⟨gb525, 3, none⟩) (Kd.R_far (p := ⟨gb525, 2, none⟩) (Kd.R_far (p := ⟨gb525, 1, none⟩) (Kd.R_far (p := ⟨gb525, 0, none⟩) (Kd.R_types HO_7.out BK525.out (by decide)) (fun _ hk => hk.2) (.int .i64 ((rd_T105 l0_3 x14_1).f0.f0))) (fun _ hk => hk.2) (.int .i64 ((rd_T105 l0_3 x14_1).f0.f1))) (fun _ hk => hk.2) (.slice A524_2 ((rd_T105 l0_3 x14_1).f1).length c524_2)) (fun _ hk => hk.2) (.slice A524_3 ((rd_T105 l0_3 x14_1).f2).length c524_3)) (fun _ h_ => h_.1))) hb); replace BK520 := Aside0.mk (blk_below (g := gb520) (o := .cells #[.int .i64 a0_0, .int .i64 a0_1, .int .i64 a0_2, .slice (some ad524) l0_3.length c0_3] 31 (0, 0)) (sp BK520) hb); replace BK525 := Aside0.mk (blk_below (g := gb525) (o := .cells #[.int .i64 ((rd_T105 l0_3 x14_1).f0.f0), .int .i64 ((rd_T105 l0_3 x14_1).f0.f1), .slice A524_2 ((rd_T105 l0_3 x14_1).f1).length c524_2, .slice A524_3 ((rd_T105 l0_3 x14_1).f2).length c524_3] 105 (0, 0)) (sp BK525) hb); replace HB := bsw hb; (try clear hb); (try clear hb2); (try clear hk); (try clear hi); obtain ⟨hcz32_0, hcz32_1, hcz32_2, hcz32_3, hfz32_0, hfz32_1, hfz32_2, hfz32_3⟩ := cc4 BK525))
       go_roundg k1
       case measure => have := HK1.out; omega
       case rel => exact ⟨(x7_1), (wrap64 (x14_1 + 1)), sc, H', kk1, ⟨sr HO_7⟩, ⟨sk BK520⟩, ⟨sbw⟩⟩
     ·have c13b0 := decide_eq_false c13
      clear c13
      have H' := Aside0.mk H
      clear H
      obtain ⟨p524, q524, ad524, A524_2, c524_2, A524_3, c524_3, e524, _, _, _, _, hx524_0, hx524_1, hx524_2, hx524_3, HC524_2, HR524_2, HC524_3, HR524_3⟩ := aT_T105 HR0_3 HB x14_1
      cases e524
      go_wp2_with (first | ((with_reducible refine gate_dst (N := 9) rfl ?_); refine bx 9 #[.int .i64 0, .int .i64 0, .slice none 0 0, .slice none 0 0] 105 ?_; intro gb525 hg w33 hbox hb; replace HO_7 := Aside0.mk (Kd.R_below (sr HO_7) hb); have GW525 := bzw w hg; have GE525 := bzw w hg; replace HB := bsw hb; have BK525 := Aside0.mk hbox; have NB520_525 := nl BK520 hg; have NB525_520 := ng BK520 hg; replace BK520 := bb BK520 hb; clear hb hbox hg; have hnb34 := NB525_520.out; have hnc34 := NB520_525.out; obtain ⟨hcz35_0, hcz35_1, hcz35_2, hcz35_3, hfz35_0, hfz35_1, hfz35_2, hfz35_3⟩ := cc4 BK525) | ((with_reducible refine gate_callee (f := 79) rfl ?_); refine gL (some 21) Try.func79 #[.agg #[.int .i64 ((rd_T105 l0_3 x14_1).f0.f0), .int .i64 ((rd_T105 l0_3 x14_1).f0.f1)]] ?_; (with_reducible refine (impl_IsSpan.calls ((rd_T105 l0_3 x14_1).f0.f0) ((rd_T105 l0_3 x14_1).f0.f1) true _ A11.out).mono ?_); rintro e w36 ⟨rfl, hb⟩; refine ⟨_, rfl, ?_⟩; replace HO_7 := Aside0.mk (Kd.R_below (by (with_reducible repeat (first | apply Kd.R_alloc | apply Kd.R_drewN | apply Kd.R_drew)); exact (Kd.R_mono (Kd.R_far (p := ⟨gb525, 3, none⟩) (Kd.R_far (p := ⟨gb525, 2, none⟩) (Kd.R_far (p := ⟨gb525, 1, none⟩) (Kd.R_far (p := ⟨gb525, 0, none⟩) (Kd.R_types HO_7.out BK525.out (by decide)) (fun _ hk => hk.2) (.int .i64 ((rd_T105 l0_3 x14_1).f0.f0))) (fun _ hk => hk.2) (.int .i64 ((rd_T105 l0_3 x14_1).f0.f1))) (fun _ hk => hk.2) (.slice A524_2 ((rd_T105 l0_3 x14_1).f1).length c524_2)) (fun _ hk => hk.2) (.slice A524_3 ((rd_T105 l0_3 x14_1).f2).length c524_3)) (fun _ h_ => h_.1))) hb); replace BK520 := Aside0.mk (blk_below (g := gb520) (o := .cells #[.int .i64 a0_0, .int .i64 a0_1, .int .i64 a0_2, .slice (some ad524) l0_3.length c0_3] 31 (0, 0)) (sp BK520) hb); replace BK525 := Aside0.mk (blk_below (g := gb525) (o := .cells #[.int .i64 ((rd_T105 l0_3 x14_1).f0.f0), .int .i64 ((rd_T105 l0_3 x14_1).f0.f1), .slice A524_2 ((rd_T105 l0_3 x14_1).f1).length c524_2, .slice A524_3 ((rd_T105 l0_3 x14_1).f2).length c524_3] 105 (0, 0)) (sp BK525) hb); replace HB := bsw hb; (try clear hb); (try clear hb2); (try clear hk); (try clear hi)))
      go_roundg k1
      case measure => have := HK1.out; omega
      case rel => exact ⟨(x7_1), (wrap64 (x14_1 + 1)), sc, H', kk1, ⟨sr HO_7⟩, ⟨sk BK520⟩, ⟨sbw⟩⟩
    ·replace H := im H
     have H' := Aside0.mk H
     clear H
     obtain ⟨p524, q524, ad524, A524_2, c524_2, A524_3, c524_3, e524, _, _, _, _, hx524_0, hx524_1, hx524_2, hx524_3, HC524_2, HR524_2, HC524_3, HR524_3⟩ := aT_T105 HR0_3 HB x14_1
     cases e524
     go_wp2_with (first | ((with_reducible refine gate_dst (N := 9) rfl ?_); refine bx 9 #[.int .i64 0, .int .i64 0, .slice none 0 0, .slice none 0 0] 105 ?_; intro gb525 hg w37 hbox hb; replace HO_7 := Aside0.mk (Kd.R_below (sr HO_7) hb); have GW525 := bzw w hg; have GE525 := bzw w hg; replace HB := bsw hb; have BK525 := Aside0.mk hbox; have NB520_525 := nl BK520 hg; have NB525_520 := ng BK520 hg; replace BK520 := bb BK520 hb; clear hb hbox hg; have hnb38 := NB525_520.out; have hnc38 := NB520_525.out; obtain ⟨hcz39_0, hcz39_1, hcz39_2, hcz39_3, hfz39_0, hfz39_1, hfz39_2, hfz39_3⟩ := cc4 BK525) | ((with_reducible refine gate_callee (f := 79) rfl ?_); refine gL (some 21) Try.func79 #[.agg #[.int .i64 ((rd_T105 l0_3 x14_1).f0.f0), .int .i64 ((rd_T105 l0_3 x14_1).f0.f1)]] ?_; (with_reducible refine (impl_IsSpan.calls ((rd_T105 l0_3 x14_1).f0.f0) ((rd_T105 l0_3 x14_1).f0.f1) false _ A11.out).mono ?_); rintro e w40 ⟨rfl, hb⟩; refine ⟨_, rfl, ?_⟩; replace HO_7 := Aside0.mk (Kd.R_below (by (with_reducible repeat (first | apply Kd.R_alloc | apply Kd.R_drewN | apply Kd.R_drew)); exact (Kd.R_mono (Kd.R_far (p := ⟨gb525, 3, none⟩) (Kd.R_far (p := ⟨gb525, 2, none⟩) (Kd.R_far (p := ⟨gb525, 1, none⟩) (Kd.R_far (p := ⟨gb525, 0, none⟩) (Kd.R_types HO_7.out BK525.out (by decide)) (fun _ hk => hk.2) (.int .i64 ((rd_T105 l0_3 x14_1).f0.f0))) (fun _ hk => hk.2) (.int .i64 ((rd_T105 l0_3 x14_1).f0.f1))) (fun _ hk => hk.2) (.slice A524_2 ((rd_T105 l0_3 x14_1).f1).length c524_2)) (fun _ hk => hk.2) (.slice A524_3 ((rd_T105 l0_3 x14_1).f2).length c524_3)) (fun _ h_ => h_.1))) hb); replace BK520 := Aside0.mk (blk_below (g := gb520) (o := .cells #[.int .i64 a0_0, .int .i64 a0_1, .int .i64 a0_2, .slice (some ad524) l0_3.length c0_3] 31 (0, 0)) (sp BK520) hb); replace BK525 := Aside0.mk (blk_below (g := gb525) (o := .cells #[.int .i64 ((rd_T105 l0_3 x14_1).f0.f0), .int .i64 ((rd_T105 l0_3 x14_1).f0.f1), .slice A524_2 ((rd_T105 l0_3 x14_1).f1).length c524_2, .slice A524_3 ((rd_T105 l0_3 x14_1).f2).length c524_3] 105 (0, 0)) (sp BK525) hb); replace HB := bsw hb; (try clear hb); (try clear hb2); (try clear hk); (try clear hi)))
     go_roundg k1
     case measure => have := HK1.out; omega
     case rel => exact ⟨(x7_1), (wrap64 (x14_1 + 1)), sc, H', kk1, ⟨sr HO_7⟩, ⟨sk BK520⟩, ⟨sbw⟩⟩
   ·have c8b0 := decide_eq_false c8
    clear c8
    obtain rfl := Option.some.inj H
    go_wp2
    go_ret
    exact ⟨_, se, sr HO_7, sbw⟩

/-! ### spec_PiecesIn: function 18 -/
def spec_PiecesIn.l0 : Nat → Int → Int → List Int → Int → Int → Int → Int → List (S105) → Option (List Int)
  | 0, _, _, _, _, _, _, _, _ => none
  | k + 1, x1, x2, x7, x8, x531000, x531001, x531002, x531003 => if x8 < (x531003.length : Int) then (if 0 ≤ x8 then ((spec_IsSpan.f ((rd_T105 x531003 x8).f0.f0) ((rd_T105 x531003 x8).f0.f1)).bind fun t536 => (if t536 = true then (if x1 ≤ x2 then (if ((rd_T105 x531003 x8).f0.f0) ≤ x2 then (if x1 < ((rd_T105 x531003 x8).f0.f1) then (if x7.length < 17592186044416 then (spec_PiecesIn.l0 k x1 x2 (x7 ++ [x8]) (wrap64 (x8 + 1)) x531000 x531001 x531002 x531003) else (none)) else (spec_PiecesIn.l0 k x1 x2 x7 (wrap64 (x8 + 1)) x531000 x531001 x531002 x531003)) else (spec_PiecesIn.l0 k x1 x2 x7 (wrap64 (x8 + 1)) x531000 x531001 x531002 x531003)) else (spec_PiecesIn.l0 k x1 x2 x7 (wrap64 (x8 + 1)) x531000 x531001 x531002 x531003)) else (spec_PiecesIn.l0 k x1 x2 x7 (wrap64 (x8 + 1)) x531000 x531001 x531002 x531003))) else (none)) else (some x7)
def spec_PiecesIn.f (k : Nat) (a0_0 : Int) (a0_1 : Int) (a0_2 : Int) (l0_3 : List (S105)) (a1 : Int) (a2 : Int) : Option (List Int) := spec_PiecesIn.l0 k a1 a2 (([] : List Int)) 0 a0_0 a0_1 a0_2 l0_3
theorem spec_PiecesIn.mono_l : ∀ k, (∀ y0 y1 y2 y3 y4 y5 y6 y7, LeO (spec_PiecesIn.l0 k y0 y1 y2 y3 y4 y5 y6 y7) (spec_PiecesIn.l0 (k + 1) y0 y1 y2 y3 y4 y5 y6 y7))
  | 0 => fun _ _ _ _ _ _ _ _ r h => by simp [spec_PiecesIn.l0] at h
  | k + 1 => by
    have ih0 := spec_PiecesIn.mono_l k
    · intro y0 y1 y2 y3 y4 y5 y6 y7
      unfold spec_PiecesIn.l0
      exact mo
theorem spec_PiecesIn.mono : ∀ a0 a1 a2 a3 a4 a5 k, LeO (spec_PiecesIn.f k a0 a1 a2 a3 a4 a5) (spec_PiecesIn.f (k + 1) a0 a1 a2 a3 a4 a5) := by
  intro a0 a1 a2 a3 a4 a5 k
  have ih0 := spec_PiecesIn.mono_l k
  unfold spec_PiecesIn.f
  exact mo
set_option maxHeartbeats 8000000 in
set_option maxRecDepth 100000 in
theorem spec_PiecesIn.calls (k : Nat) (a0_0 : Int) (a0_1 : Int) (a0_2 : Int) (A0_3 : Option Addr) (c0_3 : Nat) (l0_3 : List (S105)) (a1 : Int) (a2 : Int) (r : List Int) (w : World) (hr0_3 : Kd.C k105 w A0_3 l0_3.length l0_3) (hc0_3 : l0_3.length ≤ c0_3) (h : spec_PiecesIn.f k a0_0 a0_1 a0_2 l0_3 a1 a2 = some r) :
    Calls Try.prog 18 #[.agg #[.int .i64 a0_0, .int .i64 a0_1, .int .i64 a0_2, .slice A0_3 l0_3.length c0_3], .int .i64 a1, .int .i64 a2] w fun e w' => ∃ v0_ : Value, e = .returned (v0_) ∧ Kd.R (Kd.int .i64) 3 w' w.heap.size (fun _ => True) v0_ r ∧ Below w.heap.size w w' := by
 have hu31 := Try.underlying31
 have hu102 := Try.underlying102
 have HR0_3 := Aside0.mk hr0_3
 have HC0_3 := Aside0.mk hc0_3
 clear hr0_3 hc0_3
 have HB := Aside0.mk (Below.refl w.heap.size w)
 have H : (spec_PiecesIn.l0 k a1 a2 (([] : List Int)) 0 a0_0 a0_1 a0_2 l0_3) = some r := h
 clear h
 obtain ⟨y531, hy531⟩ : ∃ y_ : List Int, y_ = (([] : List Int)) := ⟨_, rfl⟩
 replace H : (spec_PiecesIn.l0 k a1 a2 y531 0 a0_0 a0_1 a0_2 l0_3) = some r := by first | (rw [hy531]; with_reducible exact H) | (have H2_ := (Option.bind_some _ _).symm.trans H; rw [hy531]; with_reducible exact H2_) | (have H2_ := (Option.bind_some _ _).symm.trans H; with_reducible exact H2_) | with_reducible exact H | (rw [hy531]; exact H) | exact H
 have Ny531 := Aside0.mk hy531
 clear hy531
 have H' := Aside0.mk H
 clear H
 go_enter Try.func18, Try.ntmps18
 go_wp2_with (first | ((with_reducible refine gate_dst (N := 3) rfl ?_); refine bx 3 #[.int .i64 a0_0, .int .i64 a0_1, .int .i64 a0_2, .slice A0_3 l0_3.length c0_3] 31 ?_; intro gb530 hg w4 hbox hb; have GW530 := bz w hg; have GE530 := bz w hg; replace HB := bs hb; have BK530 := Aside0.mk hbox; clear hb hbox hg) | ((with_reducible refine gate_dst (N := 10) rfl ?_); refine Kd.R_lit (Kd.int .i64) _ 3 ?hg (N := 10) ?hd (xs := ([] : List Int)) (inner := []) (ok := fun _ => True) (okp := fun _ => True) ?hr ?hp (fun _ hk => hk) trivial (Below.refl _ _) (Nat.le_refl _) (by simp) ?_; (case hd => rfl); (case hg => rfl); (case hr => first | (go_simp; done) | (go_simp; rfl)); (case hp => exact (Reps.none _ _)); intro v532 w5 ho6 hb hg_ hnew_; clear hg_ hnew_; (first | rw [← Ny531.out] at ho6 | (simp only [Int.reduceToNat] at ho6; rw [← Ny531.out] at ho6)); have HO533 := Aside0.mk (Kd.R_lower ho6 (below_size (sbw))); replace BK530 := bb BK530 hb; replace HB := bsw hb; clear hb ho6))
 go_loopg [7, 8] k (fun kq v7 v8 w' => ∃ (x7_1 : List Int) (x8_1 : Int), v8 = .int .i64 x8_1 ∧ Aside0 (spec_PiecesIn.l0 kq a1 a2 x7_1 x8_1 a0_0 a0_1 a0_2 l0_3 = some r) ∧ Aside0 (kq ≤ k) ∧ Aside0 (Kd.R (Kd.int .i64) 3 w' w.heap.size (fun _ => True) v7 x7_1) ∧ Aside0 (w'.heap[gb530]? = some (.cells #[.int .i64 a0_0, .int .i64 a0_1, .int .i64 a0_2, (.slice A0_3 l0_3.length c0_3)] 31 (0, 0))) ∧ Aside0 (Below w.heap.size w w'))
 case atStart => exact ⟨(y531), (0), sc, H', kk0, ⟨sr HO533⟩, ⟨sk BK530⟩, ⟨sbw⟩⟩
 case round =>
  clear H'
  obtain ⟨x7_1, x8_1, rfl, HA, HK1, HO_7, BK530, HB⟩ := hrel
  cases gk with
  | zero => exact absurd HA.out (by simp [spec_PiecesIn.l0])
  | succ k1 =>
   have H := HA.out
   clear HA
   simp only [spec_PiecesIn.l0] at H
   obtain ⟨c7, H⟩ | ⟨c7, H⟩ := ie_ H
   ·have c7b0 := decide_eq_true c7
    clear c7
    obtain ⟨c8b0, H⟩ := id_ H
    obtain ⟨t536, A9, H⟩ := bnd H
    obtain rfl | rfl := tt t536
    ·replace H := ip H
     obtain ⟨c11, H⟩ | ⟨c11, H⟩ := ie_ H
     ·have c11b0 := decide_eq_true c11
      clear c11
      obtain ⟨c12, H⟩ | ⟨c12, H⟩ := ie_ H
      ·have c12b0 := decide_eq_true c12
       clear c12
       obtain ⟨c13, H⟩ | ⟨c13, H⟩ := ie_ H
       ·have c13b0 := decide_eq_true c13
        clear c13
        obtain ⟨LMc14, H⟩ := il_ H
        obtain ⟨y537, hy537⟩ : ∃ y_ : List Int, y_ = (x7_1 ++ [x8_1]) := ⟨_, rfl⟩
        replace H : (spec_PiecesIn.l0 k1 a1 a2 y537 (wrap64 (x8_1 + 1)) a0_0 a0_1 a0_2 l0_3) = some r := by first | (rw [hy537]; with_reducible exact H) | (have H2_ := (Option.bind_some _ _).symm.trans H; rw [hy537]; with_reducible exact H2_) | (have H2_ := (Option.bind_some _ _).symm.trans H; with_reducible exact H2_) | with_reducible exact H | (rw [hy537]; exact H) | exact H
        have Ny537 := Aside0.mk hy537
        clear hy537
        have H' := Aside0.mk H
        clear H
        obtain ⟨hcz15_0, hcz15_1, hcz15_2, hcz15_3, hfz15_0, hfz15_1, hfz15_2, hfz15_3⟩ := cc4 BK530
        obtain ⟨p534, q534, ad534, A534_2, c534_2, A534_3, c534_3, e534, _, _, _, _, hx534_0, hx534_1, hx534_2, hx534_3, HC534_2, HR534_2, HC534_3, HR534_3⟩ := aT_T105 HR0_3 HB x8_1
        cases e534
        go_wp2_with (first | ((with_reducible refine gate_dst (N := 9) rfl ?_); refine bx 9 #[.int .i64 0, .int .i64 0] 102 ?_; intro gb535 hg w16 hbox hb; replace HO_7 := Aside0.mk (Kd.R_below (sr HO_7) hb); have GW535 := bzw w hg; have GE535 := bzw w hg; replace HB := bsw hb; have BK535 := Aside0.mk hbox; have NB530_535 := nl BK530 hg; have NB535_530 := ng BK530 hg; replace BK530 := bb BK530 hb; clear hb hbox hg; have hnb17 := NB535_530.out; have hnc17 := NB530_535.out; obtain ⟨hcz18_0, hcz18_1, hfz18_0, hfz18_1⟩ := cc2 BK535) | ((with_reducible refine gate_callee (f := 80) rfl ?_); refine gL (some 25) Try.func80 #[.agg #[.int .i64 ((rd_T105 l0_3 x8_1).f0.f0), .int .i64 ((rd_T105 l0_3 x8_1).f0.f1)]] ?_; (with_reducible refine (spec_IsSpan.calls ((rd_T105 l0_3 x8_1).f0.f0) ((rd_T105 l0_3 x8_1).f0.f1) true _ A9.out).mono ?_); rintro e w19 ⟨rfl, hb⟩; refine ⟨_, rfl, ?_⟩; replace HO_7 := Aside0.mk (Kd.R_below (by (with_reducible repeat (first | apply Kd.R_alloc | apply Kd.R_drewN | apply Kd.R_drew)); exact (Kd.R_mono (Kd.R_far (p := ⟨gb535, 1, none⟩) (Kd.R_far (p := ⟨gb535, 0, none⟩) (Kd.R_types HO_7.out BK535.out (by decide)) (fun _ hk => hk.2) (.int .i64 ((rd_T105 l0_3 x8_1).f0.f0))) (fun _ hk => hk.2) (.int .i64 ((rd_T105 l0_3 x8_1).f0.f1))) (fun _ h_ => h_.1))) hb); replace BK530 := Aside0.mk (blk_below (g := gb530) (o := .cells #[.int .i64 a0_0, .int .i64 a0_1, .int .i64 a0_2, .slice (some ad534) l0_3.length c0_3] 31 (0, 0)) (sp BK530) hb); replace BK535 := Aside0.mk (blk_below (g := gb535) (o := .cells #[.int .i64 ((rd_T105 l0_3 x8_1).f0.f0), .int .i64 ((rd_T105 l0_3 x8_1).f0.f1)] 102 (0, 0)) (sp BK535) hb); replace HB := bsw hb; (try clear hb); (try clear hb2); (try clear hk); (try clear hi); obtain ⟨hcz20_0, hcz20_1, hfz20_0, hfz20_1⟩ := cc2 BK535) | ((with_reducible refine gate_builtin (b := .append) (xs := #[.tmp 43, .tmp 45]) rfl ?_); at_builtin; refine Kd.R_append (Kd.int .i64) (w0 := w) w.heap.size rfl (.tmp 43) (.tmp 45) 28 3 (.int .i64 0) 8 rfl Try.underlying28 info3 rfl (by decide) (by omega) u7 x7_1 x8_1 [.int .i64 x8_1] (fun _ => True) (fun _ => False) rfl rfl ?aP (fun _ hk => hk.elim) ?aF ?aO ?aB ?aS ?aL ?_; (case aP => exact rfl); (case aB => exact (sbw)); (case aF => exact (fun _ _ => trivial)); (case aO => exact (sr HO_7)); (case aS => exact (below_size (sbw))); (case aL => have := LMc14.out; omega); intro v538 w21 ho hb hg hat; rw [← Ny537.out] at ho; replace BK530 := Aside0.mk (blk_grown (g := gb530) (o := .cells #[.int .i64 a0_0, .int .i64 a0_1, .int .i64 a0_2, .slice (some ad534) l0_3.length c0_3] 31 (0, 0)) (sk BK530) hg (Kd.R_ne HO_7.out BK530.out (by decide))); replace BK535 := Aside0.mk (blk_grown (g := gb535) (o := .cells #[.int .i64 ((rd_T105 l0_3 x8_1).f0.f0), .int .i64 ((rd_T105 l0_3 x8_1).f0.f1)] 102 (0, 0)) (sk BK535) hg (Kd.R_ne HO_7.out BK535.out (by decide))); replace HB := Aside0.mk hb; have HO539 := Aside0.mk ho; clear HO_7; clear ho hb hg hat))
        go_roundg k1
        case measure => have := HK1.out; omega
        case rel => exact ⟨(y537), (wrap64 (x8_1 + 1)), sc, H', kk1, ⟨sr HO539⟩, ⟨sk BK530⟩, ⟨sbw⟩⟩
       ·have c13b0 := decide_eq_false c13
        clear c13
        have H' := Aside0.mk H
        clear H
        obtain ⟨hcz22_0, hcz22_1, hcz22_2, hcz22_3, hfz22_0, hfz22_1, hfz22_2, hfz22_3⟩ := cc4 BK530
        obtain ⟨p534, q534, ad534, A534_2, c534_2, A534_3, c534_3, e534, _, _, _, _, hx534_0, hx534_1, hx534_2, hx534_3, HC534_2, HR534_2, HC534_3, HR534_3⟩ := aT_T105 HR0_3 HB x8_1
        cases e534
        go_wp2_with (first | ((with_reducible refine gate_dst (N := 9) rfl ?_); refine bx 9 #[.int .i64 0, .int .i64 0] 102 ?_; intro gb535 hg w23 hbox hb; replace HO_7 := Aside0.mk (Kd.R_below (sr HO_7) hb); have GW535 := bzw w hg; have GE535 := bzw w hg; replace HB := bsw hb; have BK535 := Aside0.mk hbox; have NB530_535 := nl BK530 hg; have NB535_530 := ng BK530 hg; replace BK530 := bb BK530 hb; clear hb hbox hg; have hnb24 := NB535_530.out; have hnc24 := NB530_535.out; obtain ⟨hcz25_0, hcz25_1, hfz25_0, hfz25_1⟩ := cc2 BK535) | ((with_reducible refine gate_callee (f := 80) rfl ?_); refine gL (some 25) Try.func80 #[.agg #[.int .i64 ((rd_T105 l0_3 x8_1).f0.f0), .int .i64 ((rd_T105 l0_3 x8_1).f0.f1)]] ?_; (with_reducible refine (spec_IsSpan.calls ((rd_T105 l0_3 x8_1).f0.f0) ((rd_T105 l0_3 x8_1).f0.f1) true _ A9.out).mono ?_); rintro e w26 ⟨rfl, hb⟩; refine ⟨_, rfl, ?_⟩; replace HO_7 := Aside0.mk (Kd.R_below (by (with_reducible repeat (first | apply Kd.R_alloc | apply Kd.R_drewN | apply Kd.R_drew)); exact (Kd.R_mono (Kd.R_far (p := ⟨gb535, 1, none⟩) (Kd.R_far (p := ⟨gb535, 0, none⟩) (Kd.R_types HO_7.out BK535.out (by decide)) (fun _ hk => hk.2) (.int .i64 ((rd_T105 l0_3 x8_1).f0.f0))) (fun _ hk => hk.2) (.int .i64 ((rd_T105 l0_3 x8_1).f0.f1))) (fun _ h_ => h_.1))) hb); replace BK530 := Aside0.mk (blk_below (g := gb530) (o := .cells #[.int .i64 a0_0, .int .i64 a0_1, .int .i64 a0_2, .slice (some ad534) l0_3.length c0_3] 31 (0, 0)) (sp BK530) hb); replace BK535 := Aside0.mk (blk_below (g := gb535) (o := .cells #[.int .i64 ((rd_T105 l0_3 x8_1).f0.f0), .int .i64 ((rd_T105 l0_3 x8_1).f0.f1)] 102 (0, 0)) (sp BK535) hb); replace HB := bsw hb; (try clear hb); (try clear hb2); (try clear hk); (try clear hi); obtain ⟨hcz27_0, hcz27_1, hfz27_0, hfz27_1⟩ := cc2 BK535))
        go_roundg k1
        case measure => have := HK1.out; omega
        case rel => exact ⟨(x7_1), (wrap64 (x8_1 + 1)), sc, H', kk1, ⟨sr HO_7⟩, ⟨sk BK530⟩, ⟨sbw⟩⟩
      ·have c12b0 := decide_eq_false c12
       clear c12
       have H' := Aside0.mk H
       clear H
       obtain ⟨hcz28_0, hcz28_1, hcz28_2, hcz28_3, hfz28_0, hfz28_1, hfz28_2, hfz28_3⟩ := cc4 BK530
       obtain ⟨p534, q534, ad534, A534_2, c534_2, A534_3, c534_3, e534, _, _, _, _, hx534_0, hx534_1, hx534_2, hx534_3, HC534_2, HR534_2, HC534_3, HR534_3⟩ := aT_T105 HR0_3 HB x8_1
       cases e534
       go_wp2_with (first | ((with_reducible refine gate_dst (N := 9) rfl ?_); refine bx 9 #[.int .i64 0, .int .i64 0] 102 ?_; intro gb535 hg w29 hbox hb; replace HO_7 := Aside0.mk (Kd.R_below (sr HO_7) hb); have GW535 := bzw w hg; have GE535 := bzw w hg; replace HB := bsw hb; have BK535 := Aside0.mk hbox; have NB530_535 := nl BK530 hg; have NB535_530 := ng BK530 hg; replace BK530 := bb BK530 hb; clear hb hbox hg; have hnb30 := NB535_530.out; have hnc30 := NB530_535.out; obtain ⟨hcz31_0, hcz31_1, hfz31_0, hfz31_1⟩ := cc2 BK535) | ((with_reducible refine gate_callee (f := 80) rfl ?_); refine gL (some 25) Try.func80 #[.agg #[.int .i64 ((rd_T105 l0_3 x8_1).f0.f0), .int .i64 ((rd_T105 l0_3 x8_1).f0.f1)]] ?_; (with_reducible refine (spec_IsSpan.calls ((rd_T105 l0_3 x8_1).f0.f0) ((rd_T105 l0_3 x8_1).f0.f1) true _ A9.out).mono ?_); rintro e w32 ⟨rfl, hb⟩; refine ⟨_, rfl, ?_⟩; replace HO_7 := Aside0.mk (Kd.R_below (by (with_reducible repeat (first | apply Kd.R_alloc | apply Kd.R_drewN | apply Kd.R_drew)); exact (Kd.R_mono (Kd.R_far (p := ⟨gb535, 1, none⟩) (Kd.R_far (p := ⟨gb535, 0, none⟩) (Kd.R_types HO_7.out BK535.out (by decide)) (fun _ hk => hk.2) (.int .i64 ((rd_T105 l0_3 x8_1).f0.f0))) (fun _ hk => hk.2) (.int .i64 ((rd_T105 l0_3 x8_1).f0.f1))) (fun _ h_ => h_.1))) hb); replace BK530 := Aside0.mk (blk_below (g := gb530) (o := .cells #[.int .i64 a0_0, .int .i64 a0_1, .int .i64 a0_2, .slice (some ad534) l0_3.length c0_3] 31 (0, 0)) (sp BK530) hb); replace BK535 := Aside0.mk (blk_below (g := gb535) (o := .cells #[.int .i64 ((rd_T105 l0_3 x8_1).f0.f0), .int .i64 ((rd_T105 l0_3 x8_1).f0.f1)] 102 (0, 0)) (sp BK535) hb); replace HB := bsw hb; (try clear hb); (try clear hb2); (try clear hk); (try clear hi); obtain ⟨hcz33_0, hcz33_1, hfz33_0, hfz33_1⟩ := cc2 BK535))
       go_roundg k1
       case measure => have := HK1.out; omega
       case rel => exact ⟨(x7_1), (wrap64 (x8_1 + 1)), sc, H', kk1, ⟨sr HO_7⟩, ⟨sk BK530⟩, ⟨sbw⟩⟩
     ·have c11b0 := decide_eq_false c11
      clear c11
      have H' := Aside0.mk H
      clear H
      obtain ⟨hcz34_0, hcz34_1, hcz34_2, hcz34_3, hfz34_0, hfz34_1, hfz34_2, hfz34_3⟩ := cc4 BK530
      obtain ⟨p534, q534, ad534, A534_2, c534_2, A534_3, c534_3, e534, _, _, _, _, hx534_0, hx534_1, hx534_2, hx534_3, HC534_2, HR534_2, HC534_3, HR534_3⟩ := aT_T105 HR0_3 HB x8_1
      cases e534
      go_wp2_with (first | ((with_reducible refine gate_dst (N := 9) rfl ?_); refine bx 9 #[.int .i64 0, .int .i64 0] 102 ?_; intro gb535 hg w35 hbox hb; replace HO_7 := Aside0.mk (Kd.R_below (sr HO_7) hb); have GW535 := bzw w hg; have GE535 := bzw w hg; replace HB := bsw hb; have BK535 := Aside0.mk hbox; have NB530_535 := nl BK530 hg; have NB535_530 := ng BK530 hg; replace BK530 := bb BK530 hb; clear hb hbox hg; have hnb36 := NB535_530.out; have hnc36 := NB530_535.out; obtain ⟨hcz37_0, hcz37_1, hfz37_0, hfz37_1⟩ := cc2 BK535) | ((with_reducible refine gate_callee (f := 80) rfl ?_); refine gL (some 25) Try.func80 #[.agg #[.int .i64 ((rd_T105 l0_3 x8_1).f0.f0), .int .i64 ((rd_T105 l0_3 x8_1).f0.f1)]] ?_; (with_reducible refine (spec_IsSpan.calls ((rd_T105 l0_3 x8_1).f0.f0) ((rd_T105 l0_3 x8_1).f0.f1) true _ A9.out).mono ?_); rintro e w38 ⟨rfl, hb⟩; refine ⟨_, rfl, ?_⟩; replace HO_7 := Aside0.mk (Kd.R_below (by (with_reducible repeat (first | apply Kd.R_alloc | apply Kd.R_drewN | apply Kd.R_drew)); exact (Kd.R_mono (Kd.R_far (p := ⟨gb535, 1, none⟩) (Kd.R_far (p := ⟨gb535, 0, none⟩) (Kd.R_types HO_7.out BK535.out (by decide)) (fun _ hk => hk.2) (.int .i64 ((rd_T105 l0_3 x8_1).f0.f0))) (fun _ hk => hk.2) (.int .i64 ((rd_T105 l0_3 x8_1).f0.f1))) (fun _ h_ => h_.1))) hb); replace BK530 := Aside0.mk (blk_below (g := gb530) (o := .cells #[.int .i64 a0_0, .int .i64 a0_1, .int .i64 a0_2, .slice (some ad534) l0_3.length c0_3] 31 (0, 0)) (sp BK530) hb); replace BK535 := Aside0.mk (blk_below (g := gb535) (o := .cells #[.int .i64 ((rd_T105 l0_3 x8_1).f0.f0), .int .i64 ((rd_T105 l0_3 x8_1).f0.f1)] 102 (0, 0)) (sp BK535) hb); replace HB := bsw hb; (try clear hb); (try clear hb2); (try clear hk); (try clear hi)))
      go_roundg k1
      case measure => have := HK1.out; omega
      case rel => exact ⟨(x7_1), (wrap64 (x8_1 + 1)), sc, H', kk1, ⟨sr HO_7⟩, ⟨sk BK530⟩, ⟨sbw⟩⟩
    ·replace H := im H
     have H' := Aside0.mk H
     clear H
     obtain ⟨hcz39_0, hcz39_1, hcz39_2, hcz39_3, hfz39_0, hfz39_1, hfz39_2, hfz39_3⟩ := cc4 BK530
     obtain ⟨p534, q534, ad534, A534_2, c534_2, A534_3, c534_3, e534, _, _, _, _, hx534_0, hx534_1, hx534_2, hx534_3, HC534_2, HR534_2, HC534_3, HR534_3⟩ := aT_T105 HR0_3 HB x8_1
     cases e534
     go_wp2_with (first | ((with_reducible refine gate_dst (N := 9) rfl ?_); refine bx 9 #[.int .i64 0, .int .i64 0] 102 ?_; intro gb535 hg w40 hbox hb; replace HO_7 := Aside0.mk (Kd.R_below (sr HO_7) hb); have GW535 := bzw w hg; have GE535 := bzw w hg; replace HB := bsw hb; have BK535 := Aside0.mk hbox; have NB530_535 := nl BK530 hg; have NB535_530 := ng BK530 hg; replace BK530 := bb BK530 hb; clear hb hbox hg; have hnb41 := NB535_530.out; have hnc41 := NB530_535.out; obtain ⟨hcz42_0, hcz42_1, hfz42_0, hfz42_1⟩ := cc2 BK535) | ((with_reducible refine gate_callee (f := 80) rfl ?_); refine gL (some 25) Try.func80 #[.agg #[.int .i64 ((rd_T105 l0_3 x8_1).f0.f0), .int .i64 ((rd_T105 l0_3 x8_1).f0.f1)]] ?_; (with_reducible refine (spec_IsSpan.calls ((rd_T105 l0_3 x8_1).f0.f0) ((rd_T105 l0_3 x8_1).f0.f1) false _ A9.out).mono ?_); rintro e w43 ⟨rfl, hb⟩; refine ⟨_, rfl, ?_⟩; replace HO_7 := Aside0.mk (Kd.R_below (by (with_reducible repeat (first | apply Kd.R_alloc | apply Kd.R_drewN | apply Kd.R_drew)); exact (Kd.R_mono (Kd.R_far (p := ⟨gb535, 1, none⟩) (Kd.R_far (p := ⟨gb535, 0, none⟩) (Kd.R_types HO_7.out BK535.out (by decide)) (fun _ hk => hk.2) (.int .i64 ((rd_T105 l0_3 x8_1).f0.f0))) (fun _ hk => hk.2) (.int .i64 ((rd_T105 l0_3 x8_1).f0.f1))) (fun _ h_ => h_.1))) hb); replace BK530 := Aside0.mk (blk_below (g := gb530) (o := .cells #[.int .i64 a0_0, .int .i64 a0_1, .int .i64 a0_2, .slice (some ad534) l0_3.length c0_3] 31 (0, 0)) (sp BK530) hb); replace BK535 := Aside0.mk (blk_below (g := gb535) (o := .cells #[.int .i64 ((rd_T105 l0_3 x8_1).f0.f0), .int .i64 ((rd_T105 l0_3 x8_1).f0.f1)] 102 (0, 0)) (sp BK535) hb); replace HB := bsw hb; (try clear hb); (try clear hb2); (try clear hk); (try clear hi)))
     go_roundg k1
     case measure => have := HK1.out; omega
     case rel => exact ⟨(x7_1), (wrap64 (x8_1 + 1)), sc, H', kk1, ⟨sr HO_7⟩, ⟨sk BK530⟩, ⟨sbw⟩⟩
   ·have c7b0 := decide_eq_false c7
    clear c7
    obtain rfl := Option.some.inj H
    obtain ⟨hcz44_0, hcz44_1, hcz44_2, hcz44_3, hfz44_0, hfz44_1, hfz44_2, hfz44_3⟩ := cc4 BK530
    go_wp2
    go_ret
    exact ⟨_, se, sr HO_7, sbw⟩

/-! ### slices_Clone_int_int: function 150 -/
def slices_Clone_int_int.f (l0 : List Int) : Option (List Int) := if l0.length < 17592186044416 then some l0 else none
set_option maxHeartbeats 8000000 in
set_option maxRecDepth 100000 in
theorem slices_Clone_int_int.calls (A0 : Option Addr) (c0 : Nat) (l0 : List Int) (r : List Int) (w : World) (hr0 : Kd.C (Kd.int .i64) w A0 l0.length l0) (hc0 : l0.length ≤ c0) (h : slices_Clone_int_int.f l0 = some r) :
    Calls Try.prog 150 #[.slice A0 l0.length c0] w fun e w' => ∃ v0_ : Value, e = .returned (v0_) ∧ Kd.R (Kd.int .i64) 3 w' w.heap.size (fun _ => True) v0_ r ∧ Below w.heap.size w w' := by
 have hu := Try.underlying28
 unfold slices_Clone_int_int.f at h
 by_cases hm : l0.length < 17592186044416
 rotate_left
 ·rw [if_neg hm] at h
  cases h
 rw [if_pos hm] at h
 obtain rfl := Option.some.inj h
 cases A0 with
 | none =>
  have hz : l0 = [] := by
   obtain ⟨_, _, h3⟩ := hr0
   refine List.length_eq_zero_iff.mp (Classical.byContradiction fun hne => ?_)
   obtain ⟨ad, e, _⟩ := h3 (by omega)
   cases e
  subst hz
  have he := Go.Lib.run_eql_slice_nil (P := Try.prog) w 28 3 none 0 c0 0 0 hu
  go_enter Try.func150, Try.ntmps150
  go_wp2
  go_ret
  exact ⟨_, rfl, Kd.R_nil _ _ _ _ _, Below.refl _ _⟩
 | some ad =>
  have he := Go.Lib.run_eql_slice_nil (P := Try.prog) w 28 3 (some ad) l0.length c0 0 0 hu
  go_enter Try.func150, Try.ntmps150
  go_wp2_with (first | ((with_reducible refine gate_dst (N := 5) rfl ?_); refine Kd.R_lit (Kd.int .i64) _ 3 ?hg (N := 5) ?hd (xs := ([] : List Int)) (inner := []) (ok := fun _ => True) (okp := fun _ => True) ?hr ?hp (fun _ hk => hk) trivial (Below.refl _ _) (Nat.le_refl _) (by simp) ?_; (case hd => rfl); (case hg => rfl); (case hr => first | (go_simp; done) | (go_simp; rfl)); (case hp => exact (Reps.none _ _)); intro v5 w5 ho5 hb5 hg_ hnew_; clear hg_ hnew_) | ((with_reducible refine gate_dst (N := 7) rfl ?_); refine Kd.R_append_rows (Kd.int .i64) (w0 := w) w.heap.size rfl (.tmp 5) (.tmp 6) 28 3 (.int .i64 0) 8 rfl Try.underlying28 info3 rfl (by decide) (by omega) v5 [] l0 _ _ _ (fun _ => True) (fun _ => False) rfl rfl ?aO ?aR (fun _ _ h => h) (fun _ h => h.elim) ?aF ?aB ?aS ?aL ?_; (case aR => exact Kd.C_below hr0 hb5); (case aB => exact hb5); (case aF => exact (fun _ _ => trivial)); (case aO => exact ho5); (case aS => exact below_size hb5); (case aL => simp only [List.length_nil]; omega); intro v7 w7 ho7 hb7 hg7 hat7))
  go_ret
  rw [List.nil_append] at ho7
  exact ⟨v7, rfl, ho7, hb7⟩

end Go.Proofs.Ytiihaabhjphaeaa.QFnMixtures
