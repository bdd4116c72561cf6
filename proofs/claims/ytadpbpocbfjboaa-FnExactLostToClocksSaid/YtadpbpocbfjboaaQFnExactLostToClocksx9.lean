/- What the Go functions of the law FnExactLostToClocks come to, as Lean functions, and that they do: by a program of the session, out of the kit's printer. Conditions: none. (squeezed). -/
import Derived.Test.YtadpbpocbfjboaaSq
import Derived.Test.YtadpbpocbfjboaaQFnExactLostToClocksx0
import Derived.Test.YtadpbpocbfjboaaQFnExactLostToClocksx2
import Derived.Test.YtadpbpocbfjboaaQFnExactLostToClocksx3
import Derived.Test.YtadpbpocbfjboaaQFnExactLostToClocksx5
import Derived.Test.YtadpbpocbfjboaaQFnExactLostToClocksx7
import Derived.Test.YtadpbpocbfjboaaQFnExactLostToClocksx8
namespace Go.Proofs.Ytadpbpocbfjboaa.QFnExactLostToClocks
open Go.RowKit Go.Proofs.YtadpbpocbfjboaaW.PrintWords Go.Proofs.YtadpbpocbfjboaaW.PrintLast Go.Proofs.YtadpbpocbfjboaaW.PrintMore Go.Proofs.Ytadpbpocbfjboaa.Open Go.Proofs.Ytadpbpocbfjboaa.Sq
attribute [local go_sem] max2_int min2_int max_two min_two max_three min_three max_four min_four   -- for this text's walks alone
attribute [local go_sem] isSome_set
set_option linter.unusedVariables false
set_option linter.unusedSimpArgs false

/-! ### laws_FnExactLostToClocks: function 12 -/
def laws_FnExactLostToClocks.f (k : Nat) (a0_0 : Int) (a0_1 : Int) (a0_2 : Int) (l0_3 : List (S97)) (a1 : Int) (a2 : Int) : Option (Bool) := (laws_szProgram.f k a0_0 a0_1 a0_2 l0_3 1048576).bind fun t273 => (if t273 < 0 then (some true) else ((laws_toProgram.f k a0_0 a0_1 a0_2 l0_3).bind fun bt274 => ((spec_LostToClocks.f k bt274.1 bt274.2.1 bt274.2.2.1 bt274.2.2.2 a1 a2).bind fun t280 => ((laws_toProgram.f k a0_0 a0_1 a0_2 l0_3).bind fun bt281 => ((impl_LostToClocks.f k bt281.1 bt281.2.1 bt281.2.2.1 bt281.2.2.2 a1 a2).bind fun t288 => (if t288 = t280 then ((laws_toProgram.f k a0_0 a0_1 a0_2 l0_3).bind fun bt289 => ((laws_eqProgram.f k bt281.1 bt281.2.1 bt281.2.2.1 bt281.2.2.2 bt289.1 bt289.2.1 bt289.2.2.1 bt289.2.2.2).bind fun t295 => (if t295 = true then (some true) else (some false)))) else (some false)))))))
theorem laws_FnExactLostToClocks.mono : ∀ a0 a1 a2 a3 a4 a5 k, LeO (laws_FnExactLostToClocks.f k a0 a1 a2 a3 a4 a5) (laws_FnExactLostToClocks.f (k + 1) a0 a1 a2 a3 a4 a5) := by
  intro a0 a1 a2 a3 a4 a5 k
  unfold laws_FnExactLostToClocks.f
  have m0 := @impl_LostToClocks.mono
  have m1 := @laws_eqProgram.mono
  have m2 := @laws_szProgram.mono
  have m3 := @laws_toProgram.mono
  have m4 := @spec_LostToClocks.mono
  exact mo
set_option maxHeartbeats 8000000 in
set_option maxRecDepth 100000 in
theorem laws_FnExactLostToClocks.calls (k : Nat) (a0_0 : Int) (a0_1 : Int) (a0_2 : Int) (A0_3 : Option Addr) (c0_3 : Nat) (l0_3 : List (S97)) (a1 : Int) (a2 : Int) (r : Bool) (w : World) (hr0_3 : Kd.C k97 w A0_3 l0_3.length l0_3) (hc0_3 : l0_3.length ≤ c0_3) (h : laws_FnExactLostToClocks.f k a0_0 a0_1 a0_2 l0_3 a1 a2 = some r) :
    Calls Try.prog 12 #[.agg #[.int .i64 a0_0, .int .i64 a0_1, .int .i64 a0_2, .slice A0_3 l0_3.length c0_3], .int .i64 a1, .int .i64 a2] w fun e w' => e = .returned (.bool r) ∧ Below w.heap.size w w' := by
 have hu24 := Try.underlying24
 have hu29 := Try.underlying29
 have HR0_3 := Aside0.mk hr0_3
 have HC0_3 := Aside0.mk hc0_3
 clear hr0_3 hc0_3
 have HB := Aside0.mk (Below.refl w.heap.size w)
 have H : ((laws_szProgram.f k a0_0 a0_1 a0_2 l0_3 1048576).bind fun t273 => (if t273 < 0 then (some true) else ((laws_toProgram.f k a0_0 a0_1 a0_2 l0_3).bind fun bt274 => ((spec_LostToClocks.f k bt274.1 bt274.2.1 bt274.2.2.1 bt274.2.2.2 a1 a2).bind fun t280 => ((laws_toProgram.f k a0_0 a0_1 a0_2 l0_3).bind fun bt281 => ((impl_LostToClocks.f k bt281.1 bt281.2.1 bt281.2.2.1 bt281.2.2.2 a1 a2).bind fun t288 => (if t288 = t280 then ((laws_toProgram.f k a0_0 a0_1 a0_2 l0_3).bind fun bt289 => ((laws_eqProgram.f k bt281.1 bt281.2.1 bt281.2.2.1 bt281.2.2.2 bt289.1 bt289.2.1 bt289.2.2.1 bt289.2.2.2).bind fun t295 => (if t295 = true then (some true) else (some false)))) else (some false)))))))) = some r := h
 clear h
 obtain ⟨t273, A4, H⟩ := bnd H
 obtain ⟨c5, H⟩ | ⟨c5, H⟩ := ie_ H
 ·have c5b0 := decide_eq_true c5
  clear c5
  obtain rfl := Option.some.inj H
  go_enter Try.func12, Try.ntmps12
  go_wp2_with (first | ((with_reducible refine gate_dst (N := 3) rfl ?_); refine bx 3 #[.int .i64 a0_0, .int .i64 a0_1, .int .i64 a0_2, .slice A0_3 l0_3.length c0_3] 24 ?_; intro gb272 hg w6 hbox hb; have BK272 := Aside0.mk hbox; have GW272 := bz w hg; have GE272 := bz w hg; replace HB := bs hb; clear hb hbox hg; obtain ⟨hcz7_0, hcz7_1, hcz7_2, hcz7_3, hfz7_0, hfz7_1, hfz7_2, hfz7_3⟩ := cc4 BK272) | ((with_reducible refine gate_callee (f := 15) rfl ?_); refine gL (some 13) Try.func15 #[.agg #[.int .i64 a0_0, .int .i64 a0_1, .int .i64 a0_2, .slice A0_3 l0_3.length c0_3], .int .i64 1048576] ?_; (with_reducible refine (laws_szProgram.calls k a0_0 a0_1 a0_2 _ _ l0_3 1048576 t273 _ ?side1 ?side2 A4.out).mono ?_); (case side1 => exact cb HR0_3); (case side2 => exact HC0_3.out); rintro e w8 ⟨rfl, hb⟩; refine ⟨_, rfl, ?_⟩; replace BK272 := bb BK272 hb; replace HB := bsw hb; (try clear hb); (try clear hb2); (try clear hk); (try clear hi)))
  go_ret
  exact ⟨se, sbw⟩
 ·have c5b0 := decide_eq_false c5
  clear c5
  obtain ⟨⟨t274, t275, t276, t277⟩, A9, H⟩ := bnd H
  replace H : ((spec_LostToClocks.f k t274 t275 t276 t277 a1 a2).bind fun t280 => ((laws_toProgram.f k a0_0 a0_1 a0_2 l0_3).bind fun bt281 => ((impl_LostToClocks.f k bt281.1 bt281.2.1 bt281.2.2.1 bt281.2.2.2 a1 a2).bind fun t288 => (if t288 = t280 then ((laws_toProgram.f k a0_0 a0_1 a0_2 l0_3).bind fun bt289 => ((laws_eqProgram.f k bt281.1 bt281.2.1 bt281.2.2.1 bt281.2.2.2 bt289.1 bt289.2.1 bt289.2.2.1 bt289.2.2.2).bind fun t295 => (if t295 = true then (some true) else (some false)))) else (some false))))) = some r := H
  obtain ⟨t280, A10, H⟩ := bnd H
  obtain ⟨⟨t281, t282, t283, t284⟩, A11, H⟩ := bnd H
  replace H : ((impl_LostToClocks.f k t281 t282 t283 t284 a1 a2).bind fun t288 => (if t288 = t280 then ((laws_toProgram.f k a0_0 a0_1 a0_2 l0_3).bind fun bt289 => ((laws_eqProgram.f k t281 t282 t283 t284 bt289.1 bt289.2.1 bt289.2.2.1 bt289.2.2.2).bind fun t295 => (if t295 = true then (some true) else (some false)))) else (some false))) = some r := H
  obtain ⟨t288, A12, H⟩ := bnd H
  obtain ⟨c13, H⟩ | ⟨c13, H⟩ := ie_ H
  ·have c13b0 : (t288 == t280) = true := beq_iff_eq.mpr c13
   have c13b1 : (t288 != t280) = false := bne_eq_false_iff_eq.mpr c13
   clear c13
   obtain ⟨⟨t289, t290, t291, t292⟩, A14, H⟩ := bnd H
   replace H : ((laws_eqProgram.f k t281 t282 t283 t284 t289 t290 t291 t292).bind fun t295 => (if t295 = true then (some true) else (some false))) = some r := H
   obtain ⟨t295, A15, H⟩ := bnd H
   obtain rfl | rfl := tt t295
   ·replace H := ip H
    obtain rfl := Option.some.inj H
    go_enter Try.func12, Try.ntmps12
    try go_wp2_with (first | ((with_reducible refine gate_dst (N := 3) rfl ?_); refine bx 3 #[.int .i64 a0_0, .int .i64 a0_1, .int .i64 a0_2, .slice A0_3 l0_3.length c0_3] 24 ?_; intro gb272 hg w17 hbox hb; have BK272 := Aside0.mk hbox; have GW272 := bz w hg; have GE272 := bz w hg; replace HB := bs hb; clear hb hbox hg; obtain ⟨hcz18_0, hcz18_1, hcz18_2, hcz18_3, hfz18_0, hfz18_1, hfz18_2, hfz18_3⟩ := cc4 BK272) | ((with_reducible refine gate_callee (f := 15) rfl ?_); refine gL (some 13) Try.func15 #[.agg #[.int .i64 a0_0, .int .i64 a0_1, .int .i64 a0_2, .slice A0_3 l0_3.length c0_3], .int .i64 1048576] ?_; (with_reducible refine (laws_szProgram.calls k a0_0 a0_1 a0_2 _ _ l0_3 1048576 t273 _ ?side1 ?side2 A4.out).mono ?_); (case side1 => exact cb HR0_3); (case side2 => exact HC0_3.out); rintro e w19 ⟨rfl, hb⟩; refine ⟨_, rfl, ?_⟩; replace BK272 := bb BK272 hb; replace HB := bsw hb; (try clear hb); (try clear hb2); (try clear hk); (try clear hi); obtain ⟨hcz20_0, hcz20_1, hcz20_2, hcz20_3, hfz20_0, hfz20_1, hfz20_2, hfz20_3⟩ := cc4 BK272) | ((with_reducible refine gate_callee (f := 17) rfl ?_); refine gL (some 17) Try.func17 #[.agg #[.int .i64 a0_0, .int .i64 a0_1, .int .i64 a0_2, .slice A0_3 l0_3.length c0_3]] ?_; (with_reducible refine (laws_toProgram.calls k a0_0 a0_1 a0_2 _ _ l0_3 t274 t275 t276 t277 _ ?side1 ?side2 A9.out).mono ?_); (case side1 => exact cb HR0_3); (case side2 => exact HC0_3.out); rintro e w21 ⟨v278, rfl, ho0, hb⟩; refine ⟨_, rfl, ?_⟩; have HO279 := Aside0.mk (Kd.R_lower ho0 (below_size (sbw))); replace BK272 := bb BK272 hb; replace HB := bsw hb; (try clear hb); (try clear hb2); (try clear hk); (try clear hi); (try clear ho0); obtain ⟨Ao22, co22, eo22⟩ := Kd.R_slice HO279.out; subst eo22) | ((with_reducible refine gate_callee (f := 49) rfl ?_); refine gL (some 20) Try.func49 #[.agg #[.int .i64 t274, .int .i64 t275, .int .i64 t276, .slice Ao22 t277.length co22], .int .i64 a1, .int .i64 a2] ?_; (with_reducible refine (spec_LostToClocks.calls k t274 t275 t276 _ _ t277 a1 a2 t280 _ ?side1 ?side2 A10.out).mono ?_); (case side1 => repeat (first | exact (Kd.R_reads' HO279.out).2.2 | (with_reducible refine Kd.C_alloc ?_ _) | (with_reducible refine Kd.C_drewN ?_ _) | (with_reducible refine Kd.C_drew ?_))); (case side2 => exact (Kd.R_reads' HO279.out).2.1); rintro e w23 ⟨rfl, hb⟩; refine ⟨_, rfl, ?_⟩; replace HO279 := Aside0.mk (Kd.R_below (sr HO279) hb); replace BK272 := bb BK272 hb; replace HB := bsw hb; (try clear hb); (try clear hb2); (try clear hk); (try clear hi); obtain ⟨hcz24_0, hcz24_1, hcz24_2, hcz24_3, hfz24_0, hfz24_1, hfz24_2, hfz24_3⟩ := cc4 BK272) | ((with_reducible refine gate_callee (f := 17) rfl ?_); refine gL (some 22) Try.func17 #[.agg #[.int .i64 a0_0, .int .i64 a0_1, .int .i64 a0_2, .slice A0_3 l0_3.length c0_3]] ?_; (with_reducible refine (laws_toProgram.calls k a0_0 a0_1 a0_2 _ _ l0_3 t281 t282 t283 t284 _ ?side1 ?side2 A11.out).mono ?_); (case side1 => exact cb HR0_3); (case side2 => exact HC0_3.out); rintro e w25 ⟨v285, rfl, ho0, hb⟩; refine ⟨_, rfl, ?_⟩; have HO286 := Aside0.mk (Kd.R_lower (Kd.R_new' ho0 (Kd.R_lt (sr HO279))) (below_size (sbw))); replace HO279 := Aside0.mk (Kd.R_elder' (sr HO279) (Kd.R_base ho0) hb); replace BK272 := bb BK272 hb; replace HB := bsw hb; (try clear hb); (try clear hb2); (try clear hk); (try clear hi); (try clear ho0)) | ((with_reducible refine gate_dst (N := 9) rfl ?_); refine bx 9 #[.int .i64 0, .int .i64 0, .int .i64 0, .slice none 0 0] 29 ?_; intro gb287 hg w26 hbox hb; replace HO279 := Aside0.mk (Kd.R_below (sr HO279) hb); replace HO286 := Aside0.mk (Kd.R_below (sr HO286) hb); have BK287 := Aside0.mk hbox; have GW287 := bzw w hg; have GE287 := bzw w hg; replace HB := bsw hb; have NB272_287 := nl BK272 hg; have NB287_272 := ng BK272 hg; replace BK272 := bb BK272 hb; clear hb hbox hg; have hnb27 := NB287_272.out; have hnc27 := NB272_287.out; obtain ⟨hcz28_0, hcz28_1, hcz28_2, hcz28_3, hfz28_0, hfz28_1, hfz28_2, hfz28_3⟩ := cc4 BK287; obtain ⟨Ao29, co29, eo29⟩ := Kd.R_slice HO286.out; subst eo29) | ((with_reducible refine gate_callee (f := 50) rfl ?_); refine gL (some 26) Try.func50 #[.agg #[.int .i64 t281, .int .i64 t282, .int .i64 t283, .slice Ao29 t284.length co29], .int .i64 a1, .int .i64 a2] ?_; (with_reducible refine (impl_LostToClocks.calls k t281 t282 t283 _ _ t284 a1 a2 t288 _ ?side1 ?side2 A12.out).mono ?_); (case side1 => refine (Kd.R_reads' (e := 69) (base := w.heap.size) (ok := fun k_ => (True ∧ some k_ ≠ (.slice Ao22 t277.length co22 : Value).ownBlock)) (n := t284.length) (c := co29) ?_).2.2; exact (by (with_reducible repeat (first | apply Kd.R_alloc | apply Kd.R_drewN | apply Kd.R_drew)); exact (Kd.R_mono (Kd.R_far (p := ⟨gb287, 3, none⟩) (Kd.R_far (p := ⟨gb287, 2, none⟩) (Kd.R_far (p := ⟨gb287, 1, none⟩) (Kd.R_far (p := ⟨gb287, 0, none⟩) (Kd.R_types HO286.out BK287.out (by decide)) (fun _ hk => hk.2) (.int .i64 t281)) (fun _ hk => hk.2) (.int .i64 t282)) (fun _ hk => hk.2) (.int .i64 t283)) (fun _ hk => hk.2) (.slice Ao29 t284.length co29)) (fun _ h_ => h_.1)))); (case side2 => exact (Kd.R_reads' HO286.out).2.1); rintro e w30 ⟨rfl, hb⟩; refine ⟨_, rfl, ?_⟩; replace HO279 := Aside0.mk (Kd.R_below (by (with_reducible repeat (first | apply Kd.R_alloc | apply Kd.R_drewN | apply Kd.R_drew)); exact (Kd.R_mono (Kd.R_far (p := ⟨gb287, 3, none⟩) (Kd.R_far (p := ⟨gb287, 2, none⟩) (Kd.R_far (p := ⟨gb287, 1, none⟩) (Kd.R_far (p := ⟨gb287, 0, none⟩) (Kd.R_types HO279.out BK287.out (by decide)) (fun _ hk => hk.2) (.int .i64 t281)) (fun _ hk => hk.2) (.int .i64 t282)) (fun _ hk => hk.2) (.int .i64 t283)) (fun _ hk => hk.2) (.slice Ao29 t284.length co29)) (fun _ h_ => h_.1))) hb); replace HO286 := Aside0.mk (Kd.R_below (by (with_reducible repeat (first | apply Kd.R_alloc | apply Kd.R_drewN | apply Kd.R_drew)); exact (Kd.R_mono (Kd.R_far (p := ⟨gb287, 3, none⟩) (Kd.R_far (p := ⟨gb287, 2, none⟩) (Kd.R_far (p := ⟨gb287, 1, none⟩) (Kd.R_far (p := ⟨gb287, 0, none⟩) (Kd.R_types HO286.out BK287.out (by decide)) (fun _ hk => hk.2) (.int .i64 t281)) (fun _ hk => hk.2) (.int .i64 t282)) (fun _ hk => hk.2) (.int .i64 t283)) (fun _ hk => hk.2) (.slice Ao29 t284.length co29)) (fun _ h_ => h_.1))) hb); replace BK272 := Aside0.mk (blk_below (g := gb272) (o := .cells #[.int .i64 a0_0, .int .i64 a0_1, .int .i64 a0_2, .slice A0_3 l0_3.length c0_3] 24 (0, 0)) (sp BK272) hb); replace BK287 := Aside0.mk (blk_below (g := gb287) (o := .cells #[.int .i64 t281, .int .i64 t282, .int .i64 t283, .slice Ao29 t284.length co29] 29 (0, 0)) (sp BK287) hb); replace HB := bsw hb; (try clear hb); (try clear hb2); (try clear hk); (try clear hi)))
    replace HO279 := Aside0.mk (Kd.R_drew HO279.out)
    replace HO286 := Aside0.mk (Kd.R_drew HO286.out)
    replace BK272 := Aside0.mk (blk_drew BK272.out)
    replace BK287 := Aside0.mk (blk_drew BK287.out)
    replace HB := Aside0.mk (below_drew1 HB.out)
    refine start_ (n := 5) (S := fun w' => w'.cell? ⟨gb287, 0, none⟩ = some (.int .i64 t281) ∧ w'.cell? ⟨gb287, 1, none⟩ = some (.int .i64 t282) ∧ w'.cell? ⟨gb287, 2, none⟩ = some (.int .i64 t283) ∧ w'.cell? ⟨gb287, 3, none⟩ = some (.slice Ao29 t284.length co29) ∧ w'.cell? ⟨gb272, 0, none⟩ = some (.int .i64 a0_0) ∧ w'.cell? ⟨gb272, 1, none⟩ = some (.int .i64 a0_1) ∧ w'.cell? ⟨gb272, 2, none⟩ = some (.int .i64 a0_2) ∧ w'.cell? ⟨gb272, 3, none⟩ = some (.slice A0_3 l0_3.length c0_3)) (ds := []) #[false, false, false, false, false] (by kernel_rfl) rfl rfl ⟨bc0 BK287, bc1 BK287, bc2 BK287, bc3 BK287, bc0 BK272, bc1 BK272, bc2 BK272, bc3 BK272⟩ (fun hHeld => ?_)
    generalize w30.drew = w31 at HO279 HO286 BK272 BK287 HB hHeld ⊢
    refine ta8 0 30 #[true, false, false, false, false] hHeld ?_
    refine ta8 1 31 #[true, true, false, false, false] hHeld ?_
    refine one_ (i := 2) (N := some 32) #[true, true, true, false, false] rfl rfl (by kernel_rfl) (by decide) (fun K hK => ?_)
    refine goes_ Try.func17 (by kernel_rfl) rfl #[.agg #[.int .i64 a0_0, .int .i64 a0_1, .int .i64 a0_2, .slice A0_3 l0_3.length c0_3]] (by rfl) rfl rfl sl ?_
    with_reducible refine (laws_toProgram.calls k a0_0 a0_1 a0_2 _ _ l0_3 t289 t290 t291 t292 _ ?side1 ?side2 A14.out).mono ?_
    (case side1 => exact cb HR0_3)
    (case side2 => exact HC0_3.out)
    rintro e w32 ⟨v293, rfl, ho0, hb⟩
    refine ⟨_, rfl, ?_⟩
    have HO294 := Aside0.mk (Kd.R_lower (Kd.R_new' (Kd.R_new' ho0 (Kd.R_lt (sr HO279))) (Kd.R_lt (sr HO286))) (below_size (sbw)))
    replace HO279 := Aside0.mk (Kd.R_elder' (sr HO279) (Kd.R_base ho0) hb)
    replace HO286 := Aside0.mk (Kd.R_elder' (sr HO286) (Kd.R_base ho0) hb)
    replace BK272 := bb BK272 hb
    replace BK287 := bb BK287 hb
    replace HB := bsw hb
    (try clear hb)
    (try clear hb2)
    (try clear hk)
    (try clear hi)
    (try clear ho0)
    obtain ⟨Ao33, co33, eo33⟩ := Kd.R_slice HO294.out
    (first | subst eo33 | (injection eo33 with f1_ f2_ f3_; have f4_ := f1_.symm; have f5_ := f3_.symm; clear f1_ f2_ f3_; subst f4_; subst f5_))
    refine hK.out _ _ ⟨bc0 BK287, bc1 BK287, bc2 BK287, bc3 BK287, bc0 BK272, bc1 BK272, bc2 BK272, bc3 BK272⟩ (fun hHeld => ?_)
    clear hK K
    refine norm_ (a' := ?_) ?_ ?_
    rotate_left
    ·show Act.put _ (some 32) _ = _
     simp only [Act.put, List.setIfInBounds_toArray, List.set_cons_zero, List.set_cons_succ, i64_w, i32_w]
     rfl
    refine one_ (i := 3) (N := some 33) #[true, true, true, true, false] rfl rfl (by kernel_rfl) (by decide) (fun K hK => ?_)
    refine goes_ Try.func19 (by kernel_rfl) rfl #[.agg #[.int .i64 t281, .int .i64 t282, .int .i64 t283, .slice Ao29 t284.length co29], .agg #[.int .i64 t289, .int .i64 t290, .int .i64 t291, .slice Ao33 t292.length co33]] (by rfl) rfl rfl sl ?_
    with_reducible refine (laws_eqProgram.calls k t281 t282 t283 _ _ t284 t289 t290 t291 _ _ t292 true _ ?side1 ?side2 ?side3 ?side4 A15.out).mono ?_
    (case side1 => repeat (first | exact (Kd.R_reads' HO286.out).2.2 | (with_reducible refine Kd.C_alloc ?_ _) | (with_reducible refine Kd.C_drewN ?_ _) | (with_reducible refine Kd.C_drew ?_)))
    (case side2 => exact (Kd.R_reads' HO286.out).2.1)
    (case side3 => repeat (first | exact (Kd.R_reads' HO294.out).2.2 | (with_reducible refine Kd.C_alloc ?_ _) | (with_reducible refine Kd.C_drewN ?_ _) | (with_reducible refine Kd.C_drew ?_)))
    (case side4 => exact (Kd.R_reads' HO294.out).2.1)
    rintro e w34 ⟨rfl, hb⟩
    refine ⟨_, rfl, ?_⟩
    replace HO279 := Aside0.mk (Kd.R_below (sr HO279) hb)
    replace HO286 := Aside0.mk (Kd.R_below (sr HO286) hb)
    replace HO294 := Aside0.mk (Kd.R_below (sr HO294) hb)
    replace BK272 := bb BK272 hb
    replace BK287 := bb BK287 hb
    replace HB := bsw hb
    (try clear hb)
    (try clear hb2)
    (try clear hk)
    (try clear hi)
    refine hK.out _ _ ⟨bc0 BK287, bc1 BK287, bc2 BK287, bc3 BK287, bc0 BK272, bc1 BK272, bc2 BK272, bc3 BK272⟩ (fun hHeld => ?_)
    clear hK K
    refine norm_ (a' := ?_) ?_ ?_
    rotate_left
    ·show Act.put _ (some 33) _ = _
     simp only [Act.put, List.setIfInBounds_toArray, List.set_cons_zero, List.set_cons_succ, i64_w, i32_w]
     rfl
    refine pu 4 34 #[true, true, true, true, true] ?_
    refine done_ (by kernel_rfl) ?_
    try go_wp2
    go_ret
    exact ⟨se, sbw⟩
   ·replace H := im H
    obtain rfl := Option.some.inj H
    go_enter Try.func12, Try.ntmps12
    try go_wp2_with (first | ((with_reducible refine gate_dst (N := 3) rfl ?_); refine bx 3 #[.int .i64 a0_0, .int .i64 a0_1, .int .i64 a0_2, .slice A0_3 l0_3.length c0_3] 24 ?_; intro gb272 hg w35 hbox hb; have BK272 := Aside0.mk hbox; have GW272 := bz w hg; have GE272 := bz w hg; replace HB := bs hb; clear hb hbox hg; obtain ⟨hcz36_0, hcz36_1, hcz36_2, hcz36_3, hfz36_0, hfz36_1, hfz36_2, hfz36_3⟩ := cc4 BK272) | ((with_reducible refine gate_callee (f := 15) rfl ?_); refine gL (some 13) Try.func15 #[.agg #[.int .i64 a0_0, .int .i64 a0_1, .int .i64 a0_2, .slice A0_3 l0_3.length c0_3], .int .i64 1048576] ?_; (with_reducible refine (laws_szProgram.calls k a0_0 a0_1 a0_2 _ _ l0_3 1048576 t273 _ ?side1 ?side2 A4.out).mono ?_); (case side1 => exact cb HR0_3); (case side2 => exact HC0_3.out); rintro e w37 ⟨rfl, hb⟩; refine ⟨_, rfl, ?_⟩; replace BK272 := bb BK272 hb; replace HB := bsw hb; (try clear hb); (try clear hb2); (try clear hk); (try clear hi); obtain ⟨hcz38_0, hcz38_1, hcz38_2, hcz38_3, hfz38_0, hfz38_1, hfz38_2, hfz38_3⟩ := cc4 BK272) | ((with_reducible refine gate_callee (f := 17) rfl ?_); refine gL (some 17) Try.func17 #[.agg #[.int .i64 a0_0, .int .i64 a0_1, .int .i64 a0_2, .slice A0_3 l0_3.length c0_3]] ?_; (with_reducible refine (laws_toProgram.calls k a0_0 a0_1 a0_2 _ _ l0_3 t274 t275 t276 t277 _ ?side1 ?side2 A9.out).mono ?_); (case side1 => exact cb HR0_3); (case side2 => exact HC0_3.out); rintro e w39 ⟨v278, rfl, ho0, hb⟩; refine ⟨_, rfl, ?_⟩; have HO279 := Aside0.mk (Kd.R_lower ho0 (below_size (sbw))); replace BK272 := bb BK272 hb; replace HB := bsw hb; (try clear hb); (try clear hb2); (try clear hk); (try clear hi); (try clear ho0); obtain ⟨Ao40, co40, eo40⟩ := Kd.R_slice HO279.out; subst eo40) | ((with_reducible refine gate_callee (f := 49) rfl ?_); refine gL (some 20) Try.func49 #[.agg #[.int .i64 t274, .int .i64 t275, .int .i64 t276, .slice Ao40 t277.length co40], .int .i64 a1, .int .i64 a2] ?_; (with_reducible refine (spec_LostToClocks.calls k t274 t275 t276 _ _ t277 a1 a2 t280 _ ?side1 ?side2 A10.out).mono ?_); (case side1 => repeat (first | exact (Kd.R_reads' HO279.out).2.2 | (with_reducible refine Kd.C_alloc ?_ _) | (with_reducible refine Kd.C_drewN ?_ _) | (with_reducible refine Kd.C_drew ?_))); (case side2 => exact (Kd.R_reads' HO279.out).2.1); rintro e w41 ⟨rfl, hb⟩; refine ⟨_, rfl, ?_⟩; replace HO279 := Aside0.mk (Kd.R_below (sr HO279) hb); replace BK272 := bb BK272 hb; replace HB := bsw hb; (try clear hb); (try clear hb2); (try clear hk); (try clear hi); obtain ⟨hcz42_0, hcz42_1, hcz42_2, hcz42_3, hfz42_0, hfz42_1, hfz42_2, hfz42_3⟩ := cc4 BK272) | ((with_reducible refine gate_callee (f := 17) rfl ?_); refine gL (some 22) Try.func17 #[.agg #[.int .i64 a0_0, .int .i64 a0_1, .int .i64 a0_2, .slice A0_3 l0_3.length c0_3]] ?_; (with_reducible refine (laws_toProgram.calls k a0_0 a0_1 a0_2 _ _ l0_3 t281 t282 t283 t284 _ ?side1 ?side2 A11.out).mono ?_); (case side1 => exact cb HR0_3); (case side2 => exact HC0_3.out); rintro e w43 ⟨v285, rfl, ho0, hb⟩; refine ⟨_, rfl, ?_⟩; have HO286 := Aside0.mk (Kd.R_lower (Kd.R_new' ho0 (Kd.R_lt (sr HO279))) (below_size (sbw))); replace HO279 := Aside0.mk (Kd.R_elder' (sr HO279) (Kd.R_base ho0) hb); replace BK272 := bb BK272 hb; replace HB := bsw hb; (try clear hb); (try clear hb2); (try clear hk); (try clear hi); (try clear ho0)) | ((with_reducible refine gate_dst (N := 9) rfl ?_); refine bx 9 #[.int .i64 0, .int .i64 0, .int .i64 0, .slice none 0 0] 29 ?_; intro gb287 hg w44 hbox hb; replace HO279 := Aside0.mk (Kd.R_below (sr HO279) hb); replace HO286 := Aside0.mk (Kd.R_below (sr HO286) hb); have BK287 := Aside0.mk hbox; have GW287 := bzw w hg; have GE287 := bzw w hg; replace HB := bsw hb; have NB272_287 := nl BK272 hg; have NB287_272 := ng BK272 hg; replace BK272 := bb BK272 hb; clear hb hbox hg; have hnb45 := NB287_272.out; have hnc45 := NB272_287.out; obtain ⟨hcz46_0, hcz46_1, hcz46_2, hcz46_3, hfz46_0, hfz46_1, hfz46_2, hfz46_3⟩ := cc4 BK287; obtain ⟨Ao47, co47, eo47⟩ := Kd.R_slice HO286.out; subst eo47) | ((with_reducible refine gate_callee (f := 50) rfl ?_); refine gL (some 26) Try.func50 #[.agg #[.int .i64 t281, .int .i64 t282, .int .i64 t283, .slice Ao47 t284.length co47], .int .i64 a1, .int .i64 a2] ?_; (with_reducible refine (impl_LostToClocks.calls k t281 t282 t283 _ _ t284 a1 a2 t288 _ ?side1 ?side2 A12.out).mono ?_); (case side1 => refine (Kd.R_reads' (e := 69) (base := w.heap.size) (ok := fun k_ => (True ∧ some k_ ≠ (.slice Ao40 t277.length co40 : Value).ownBlock)) (n := t284.length) (c := co47) ?_).2.2; exact (by (with_reducible repeat (first | apply Kd.R_alloc | apply Kd.R_drewN | apply Kd.R_drew)); exact (Kd.R_mono (Kd.R_far (p := ⟨gb287, 3, none⟩) (Kd.R_far (p := ⟨gb287, 2, none⟩) (Kd.R_far (p := ⟨gb287, 1, none⟩) (Kd.R_far (p := ⟨gb287, 0, none⟩) (Kd.R_types HO286.out BK287.out (by decide)) (fun _ hk => hk.2) (.int .i64 t281)) (fun _ hk => hk.2) (.int .i64 t282)) (fun _ hk => hk.2) (.int .i64 t283)) (fun _ hk => hk.2) (.slice Ao47 t284.length co47)) (fun _ h_ => h_.1)))); (case side2 => exact (Kd.R_reads' HO286.out).2.1); rintro e w48 ⟨rfl, hb⟩; refine ⟨_, rfl, ?_⟩; replace HO279 := Aside0.mk (Kd.R_below (by (with_reducible repeat (first | apply Kd.R_alloc | apply Kd.R_drewN | apply Kd.R_drew)); exact (Kd.R_mono (Kd.R_far (p := ⟨gb287, 3, none⟩) (Kd.R_far (p := ⟨gb287, 2, none⟩) (Kd.R_far (p := ⟨gb287, 1, none⟩) (Kd.R_far (p := ⟨gb287, 0, none⟩) (Kd.R_types HO279.out BK287.out (by decide)) (fun _ hk => hk.2) (.int .i64 t281)) (fun _ hk => hk.2) (.int .i64 t282)) (fun _ hk => hk.2) (.int .i64 t283)) (fun _ hk => hk.2) (.slice Ao47 t284.length co47)) (fun _ h_ => h_.1))) hb); replace HO286 := Aside0.mk (Kd.R_below (by (with_reducible repeat (first | apply Kd.R_alloc | apply Kd.R_drewN | apply Kd.R_drew)); exact (Kd.R_mono (Kd.R_far (p := ⟨gb287, 3, none⟩) (Kd.R_far (p := ⟨gb287, 2, none⟩) (Kd.R_far (p := ⟨gb287, 1, none⟩) (Kd.R_far (p := ⟨gb287, 0, none⟩) (Kd.R_types HO286.out BK287.out (by decide)) (fun _ hk => hk.2) (.int .i64 t281)) (fun _ hk => hk.2) (.int .i64 t282)) (fun _ hk => hk.2) (.int .i64 t283)) (fun _ hk => hk.2) (.slice Ao47 t284.length co47)) (fun _ h_ => h_.1))) hb); replace BK272 := Aside0.mk (blk_below (g := gb272) (o := .cells #[.int .i64 a0_0, .int .i64 a0_1, .int .i64 a0_2, .slice A0_3 l0_3.length c0_3] 24 (0, 0)) (sp BK272) hb); replace BK287 := Aside0.mk (blk_below (g := gb287) (o := .cells #[.int .i64 t281, .int .i64 t282, .int .i64 t283, .slice Ao47 t284.length co47] 29 (0, 0)) (sp BK287) hb); replace HB := bsw hb; (try clear hb); (try clear hb2); (try clear hk); (try clear hi)))
    replace HO279 := Aside0.mk (Kd.R_drew HO279.out)
    replace HO286 := Aside0.mk (Kd.R_drew HO286.out)
    replace BK272 := Aside0.mk (blk_drew BK272.out)
    replace BK287 := Aside0.mk (blk_drew BK287.out)
    replace HB := Aside0.mk (below_drew1 HB.out)
    refine start_ (n := 5) (S := fun w' => w'.cell? ⟨gb287, 0, none⟩ = some (.int .i64 t281) ∧ w'.cell? ⟨gb287, 1, none⟩ = some (.int .i64 t282) ∧ w'.cell? ⟨gb287, 2, none⟩ = some (.int .i64 t283) ∧ w'.cell? ⟨gb287, 3, none⟩ = some (.slice Ao47 t284.length co47) ∧ w'.cell? ⟨gb272, 0, none⟩ = some (.int .i64 a0_0) ∧ w'.cell? ⟨gb272, 1, none⟩ = some (.int .i64 a0_1) ∧ w'.cell? ⟨gb272, 2, none⟩ = some (.int .i64 a0_2) ∧ w'.cell? ⟨gb272, 3, none⟩ = some (.slice A0_3 l0_3.length c0_3)) (ds := []) #[false, false, false, false, false] (by kernel_rfl) rfl rfl ⟨bc0 BK287, bc1 BK287, bc2 BK287, bc3 BK287, bc0 BK272, bc1 BK272, bc2 BK272, bc3 BK272⟩ (fun hHeld => ?_)
    generalize w48.drew = w49 at HO279 HO286 BK272 BK287 HB hHeld ⊢
    refine ta8 0 30 #[true, false, false, false, false] hHeld ?_
    refine ta8 1 31 #[true, true, false, false, false] hHeld ?_
    refine one_ (i := 2) (N := some 32) #[true, true, true, false, false] rfl rfl (by kernel_rfl) (by decide) (fun K hK => ?_)
    refine goes_ Try.func17 (by kernel_rfl) rfl #[.agg #[.int .i64 a0_0, .int .i64 a0_1, .int .i64 a0_2, .slice A0_3 l0_3.length c0_3]] (by rfl) rfl rfl sl ?_
    with_reducible refine (laws_toProgram.calls k a0_0 a0_1 a0_2 _ _ l0_3 t289 t290 t291 t292 _ ?side1 ?side2 A14.out).mono ?_
    (case side1 => exact cb HR0_3)
    (case side2 => exact HC0_3.out)
    rintro e w50 ⟨v293, rfl, ho0, hb⟩
    refine ⟨_, rfl, ?_⟩
    have HO294 := Aside0.mk (Kd.R_lower (Kd.R_new' (Kd.R_new' ho0 (Kd.R_lt (sr HO279))) (Kd.R_lt (sr HO286))) (below_size (sbw)))
    replace HO279 := Aside0.mk (Kd.R_elder' (sr HO279) (Kd.R_base ho0) hb)
    replace HO286 := Aside0.mk (Kd.R_elder' (sr HO286) (Kd.R_base ho0) hb)
    replace BK272 := bb BK272 hb
    replace BK287 := bb BK287 hb
    replace HB := bsw hb
    (try clear hb)
    (try clear hb2)
    (try clear hk)
    (try clear hi)
    (try clear ho0)
    obtain ⟨Ao51, co51, eo51⟩ := Kd.R_slice HO294.out
    (first | subst eo51 | (injection eo51 with f1_ f2_ f3_; have f4_ := f1_.symm; have f5_ := f3_.symm; clear f1_ f2_ f3_; subst f4_; subst f5_))
    refine hK.out _ _ ⟨bc0 BK287, bc1 BK287, bc2 BK287, bc3 BK287, bc0 BK272, bc1 BK272, bc2 BK272, bc3 BK272⟩ (fun hHeld => ?_)
    clear hK K
    refine norm_ (a' := ?_) ?_ ?_
    rotate_left
    ·show Act.put _ (some 32) _ = _
     simp only [Act.put, List.setIfInBounds_toArray, List.set_cons_zero, List.set_cons_succ, i64_w, i32_w]
     rfl
    refine one_ (i := 3) (N := some 33) #[true, true, true, true, false] rfl rfl (by kernel_rfl) (by decide) (fun K hK => ?_)
    refine goes_ Try.func19 (by kernel_rfl) rfl #[.agg #[.int .i64 t281, .int .i64 t282, .int .i64 t283, .slice Ao47 t284.length co47], .agg #[.int .i64 t289, .int .i64 t290, .int .i64 t291, .slice Ao51 t292.length co51]] (by rfl) rfl rfl sl ?_
    with_reducible refine (laws_eqProgram.calls k t281 t282 t283 _ _ t284 t289 t290 t291 _ _ t292 false _ ?side1 ?side2 ?side3 ?side4 A15.out).mono ?_
    (case side1 => repeat (first | exact (Kd.R_reads' HO286.out).2.2 | (with_reducible refine Kd.C_alloc ?_ _) | (with_reducible refine Kd.C_drewN ?_ _) | (with_reducible refine Kd.C_drew ?_)))
    (case side2 => exact (Kd.R_reads' HO286.out).2.1)
    (case side3 => repeat (first | exact (Kd.R_reads' HO294.out).2.2 | (with_reducible refine Kd.C_alloc ?_ _) | (with_reducible refine Kd.C_drewN ?_ _) | (with_reducible refine Kd.C_drew ?_)))
    (case side4 => exact (Kd.R_reads' HO294.out).2.1)
    rintro e w52 ⟨rfl, hb⟩
    refine ⟨_, rfl, ?_⟩
    replace HO279 := Aside0.mk (Kd.R_below (sr HO279) hb)
    replace HO286 := Aside0.mk (Kd.R_below (sr HO286) hb)
    replace HO294 := Aside0.mk (Kd.R_below (sr HO294) hb)
    replace BK272 := bb BK272 hb
    replace BK287 := bb BK287 hb
    replace HB := bsw hb
    (try clear hb)
    (try clear hb2)
    (try clear hk)
    (try clear hi)
    refine hK.out _ _ ⟨bc0 BK287, bc1 BK287, bc2 BK287, bc3 BK287, bc0 BK272, bc1 BK272, bc2 BK272, bc3 BK272⟩ (fun hHeld => ?_)
    clear hK K
    refine norm_ (a' := ?_) ?_ ?_
    rotate_left
    ·show Act.put _ (some 33) _ = _
     simp only [Act.put, List.setIfInBounds_toArray, List.set_cons_zero, List.set_cons_succ, i64_w, i32_w]
     rfl
    refine pu 4 34 #[true, true, true, true, true] ?_
    refine done_ (by kernel_rfl) ?_
    try go_wp2
    go_ret
    exact ⟨se, sbw⟩
  ·have c13b0 : (t288 == t280) = false := beq_eq_false_iff_ne.mpr c13
   have c13b1 : (t288 != t280) = true := bne_iff_ne.mpr c13
   obtain rfl := Option.some.inj H
   go_enter Try.func12, Try.ntmps12
   go_wp2_with (first | ((with_reducible refine gate_dst (N := 3) rfl ?_); refine bx 3 #[.int .i64 a0_0, .int .i64 a0_1, .int .i64 a0_2, .slice A0_3 l0_3.length c0_3] 24 ?_; intro gb272 hg w53 hbox hb; have BK272 := Aside0.mk hbox; have GW272 := bz w hg; have GE272 := bz w hg; replace HB := bs hb; clear hb hbox hg; obtain ⟨hcz54_0, hcz54_1, hcz54_2, hcz54_3, hfz54_0, hfz54_1, hfz54_2, hfz54_3⟩ := cc4 BK272) | ((with_reducible refine gate_callee (f := 15) rfl ?_); refine gL (some 13) Try.func15 #[.agg #[.int .i64 a0_0, .int .i64 a0_1, .int .i64 a0_2, .slice A0_3 l0_3.length c0_3], .int .i64 1048576] ?_; (with_reducible refine (laws_szProgram.calls k a0_0 a0_1 a0_2 _ _ l0_3 1048576 t273 _ ?side1 ?side2 A4.out).mono ?_); (case side1 => exact cb HR0_3); (case side2 => exact HC0_3.out); rintro e w55 ⟨rfl, hb⟩; refine ⟨_, rfl, ?_⟩; replace BK272 := bb BK272 hb; replace HB := bsw hb; (try clear hb); (try clear hb2); (try clear hk); (try clear hi); obtain ⟨hcz56_0, hcz56_1, hcz56_2, hcz56_3, hfz56_0, hfz56_1, hfz56_2, hfz56_3⟩ := cc4 BK272) | ((with_reducible refine gate_callee (f := 17) rfl ?_); refine gL (some 17) Try.func17 #[.agg #[.int .i64 a0_0, .int .i64 a0_1, .int .i64 a0_2, .slice A0_3 l0_3.length c0_3]] ?_; (with_reducible refine (laws_toProgram.calls k a0_0 a0_1 a0_2 _ _ l0_3 t274 t275 t276 t277 _ ?side1 ?side2 A9.out).mono ?_); (case side1 => exact cb HR0_3); (case side2 => exact HC0_3.out); rintro e w57 ⟨v278, rfl, ho0, hb⟩; refine ⟨_, rfl, ?_⟩; have HO279 := Aside0.mk (Kd.R_lower ho0 (below_size (sbw))); replace BK272 := bb BK272 hb; replace HB := bsw hb; (try clear hb); (try clear hb2); (try clear hk); (try clear hi); (try clear ho0); obtain ⟨Ao58, co58, eo58⟩ := Kd.R_slice HO279.out; subst eo58) | ((with_reducible refine gate_callee (f := 49) rfl ?_); refine gL (some 20) Try.func49 #[.agg #[.int .i64 t274, .int .i64 t275, .int .i64 t276, .slice Ao58 t277.length co58], .int .i64 a1, .int .i64 a2] ?_; (with_reducible refine (spec_LostToClocks.calls k t274 t275 t276 _ _ t277 a1 a2 t280 _ ?side1 ?side2 A10.out).mono ?_); (case side1 => repeat (first | exact (Kd.R_reads' HO279.out).2.2 | (with_reducible refine Kd.C_alloc ?_ _) | (with_reducible refine Kd.C_drewN ?_ _) | (with_reducible refine Kd.C_drew ?_))); (case side2 => exact (Kd.R_reads' HO279.out).2.1); rintro e w59 ⟨rfl, hb⟩; refine ⟨_, rfl, ?_⟩; replace HO279 := Aside0.mk (Kd.R_below (sr HO279) hb); replace BK272 := bb BK272 hb; replace HB := bsw hb; (try clear hb); (try clear hb2); (try clear hk); (try clear hi); obtain ⟨hcz60_0, hcz60_1, hcz60_2, hcz60_3, hfz60_0, hfz60_1, hfz60_2, hfz60_3⟩ := cc4 BK272) | ((with_reducible refine gate_callee (f := 17) rfl ?_); refine gL (some 22) Try.func17 #[.agg #[.int .i64 a0_0, .int .i64 a0_1, .int .i64 a0_2, .slice A0_3 l0_3.length c0_3]] ?_; (with_reducible refine (laws_toProgram.calls k a0_0 a0_1 a0_2 _ _ l0_3 t281 t282 t283 t284 _ ?side1 ?side2 A11.out).mono ?_); (case side1 => exact cb HR0_3); (case side2 => exact HC0_3.out); rintro e w61 ⟨v285, rfl, ho0, hb⟩; refine ⟨_, rfl, ?_⟩; have HO286 := Aside0.mk (Kd.R_lower (Kd.R_new' ho0 (Kd.R_lt (sr HO279))) (below_size (sbw))); replace HO279 := Aside0.mk (Kd.R_elder' (sr HO279) (Kd.R_base ho0) hb); replace BK272 := bb BK272 hb; replace HB := bsw hb; (try clear hb); (try clear hb2); (try clear hk); (try clear hi); (try clear ho0)) | ((with_reducible refine gate_dst (N := 9) rfl ?_); refine bx 9 #[.int .i64 0, .int .i64 0, .int .i64 0, .slice none 0 0] 29 ?_; intro gb287 hg w62 hbox hb; replace HO279 := Aside0.mk (Kd.R_below (sr HO279) hb); replace HO286 := Aside0.mk (Kd.R_below (sr HO286) hb); have BK287 := Aside0.mk hbox; have GW287 := bzw w hg; have GE287 := bzw w hg; replace HB := bsw hb; have NB272_287 := nl BK272 hg; have NB287_272 := ng BK272 hg; replace BK272 := bb BK272 hb; clear hb hbox hg; have hnb63 := NB287_272.out; have hnc63 := NB272_287.out; obtain ⟨hcz64_0, hcz64_1, hcz64_2, hcz64_3, hfz64_0, hfz64_1, hfz64_2, hfz64_3⟩ := cc4 BK287; obtain ⟨Ao65, co65, eo65⟩ := Kd.R_slice HO286.out; subst eo65) | ((with_reducible refine gate_callee (f := 50) rfl ?_); refine gL (some 26) Try.func50 #[.agg #[.int .i64 t281, .int .i64 t282, .int .i64 t283, .slice Ao65 t284.length co65], .int .i64 a1, .int .i64 a2] ?_; (with_reducible refine (impl_LostToClocks.calls k t281 t282 t283 _ _ t284 a1 a2 t288 _ ?side1 ?side2 A12.out).mono ?_); (case side1 => refine (Kd.R_reads' (e := 69) (base := w.heap.size) (ok := fun k_ => (True ∧ some k_ ≠ (.slice Ao58 t277.length co58 : Value).ownBlock)) (n := t284.length) (c := co65) ?_).2.2; exact (by (with_reducible repeat (first | apply Kd.R_alloc | apply Kd.R_drewN | apply Kd.R_drew)); exact (Kd.R_mono (Kd.R_far (p := ⟨gb287, 3, none⟩) (Kd.R_far (p := ⟨gb287, 2, none⟩) (Kd.R_far (p := ⟨gb287, 1, none⟩) (Kd.R_far (p := ⟨gb287, 0, none⟩) (Kd.R_types HO286.out BK287.out (by decide)) (fun _ hk => hk.2) (.int .i64 t281)) (fun _ hk => hk.2) (.int .i64 t282)) (fun _ hk => hk.2) (.int .i64 t283)) (fun _ hk => hk.2) (.slice Ao65 t284.length co65)) (fun _ h_ => h_.1)))); (case side2 => exact (Kd.R_reads' HO286.out).2.1); rintro e w66 ⟨rfl, hb⟩; refine ⟨_, rfl, ?_⟩; replace HO279 := Aside0.mk (Kd.R_below (by (with_reducible repeat (first | apply Kd.R_alloc | apply Kd.R_drewN | apply Kd.R_drew)); exact (Kd.R_mono (Kd.R_far (p := ⟨gb287, 3, none⟩) (Kd.R_far (p := ⟨gb287, 2, none⟩) (Kd.R_far (p := ⟨gb287, 1, none⟩) (Kd.R_far (p := ⟨gb287, 0, none⟩) (Kd.R_types HO279.out BK287.out (by decide)) (fun _ hk => hk.2) (.int .i64 t281)) (fun _ hk => hk.2) (.int .i64 t282)) (fun _ hk => hk.2) (.int .i64 t283)) (fun _ hk => hk.2) (.slice Ao65 t284.length co65)) (fun _ h_ => h_.1))) hb); replace HO286 := Aside0.mk (Kd.R_below (by (with_reducible repeat (first | apply Kd.R_alloc | apply Kd.R_drewN | apply Kd.R_drew)); exact (Kd.R_mono (Kd.R_far (p := ⟨gb287, 3, none⟩) (Kd.R_far (p := ⟨gb287, 2, none⟩) (Kd.R_far (p := ⟨gb287, 1, none⟩) (Kd.R_far (p := ⟨gb287, 0, none⟩) (Kd.R_types HO286.out BK287.out (by decide)) (fun _ hk => hk.2) (.int .i64 t281)) (fun _ hk => hk.2) (.int .i64 t282)) (fun _ hk => hk.2) (.int .i64 t283)) (fun _ hk => hk.2) (.slice Ao65 t284.length co65)) (fun _ h_ => h_.1))) hb); replace BK272 := Aside0.mk (blk_below (g := gb272) (o := .cells #[.int .i64 a0_0, .int .i64 a0_1, .int .i64 a0_2, .slice A0_3 l0_3.length c0_3] 24 (0, 0)) (sp BK272) hb); replace BK287 := Aside0.mk (blk_below (g := gb287) (o := .cells #[.int .i64 t281, .int .i64 t282, .int .i64 t283, .slice Ao65 t284.length co65] 29 (0, 0)) (sp BK287) hb); replace HB := bsw hb; (try clear hb); (try clear hb2); (try clear hk); (try clear hi)))
   go_ret
   exact ⟨se, sbw⟩

end Go.Proofs.Ytadpbpocbfjboaa.QFnExactLostToClocks
