/- Printed by a program of the session. Conditions: none. (squeezed). -/
import Derived.Test.YtohbccekdmdmbaaVFnExactRepairHopQFnExactRepairHopx20
namespace Go.Proofs.Ytohbccekdmdmbaa.QFnExactRepairHop
set_option maxHeartbeats 8000000
set_option maxRecDepth 100000
open Go.RowKit Go.Proofs.YtohbccekdmdmbaaW.PrintWords Go.Proofs.YtohbccekdmdmbaaW.PrintLast Go.Proofs.YtohbccekdmdmbaaW.PrintMore Go.Proofs.Ytohbccekdmdmbaa.Open Go.Proofs.Ytohbccekdmdmbaa.Sq
attribute [local go_sem] max2_int min2_int max_two min_two max_three min_three max_four min_four   -- for this text's walks alone
attribute [local go_sem] isSome_set
set_option linter.unusedVariables false
set_option linter.unusedSimpArgs false

theorem a21_3 {P : Prop} (h : P := by (with_reducible repeat (first | apply Kd.R_alloc | apply Kd.R_drewN | apply Kd.R_drew)); exact (Kd.R_mono (Kd.R_far (p := ⟨gb676, 3, none⟩) (h3 HO668 BK676) (fun _ hk => hk.2) (.slice Ao90 t673.length co90)) (fun _ h_ => h_.1))) : P := h
theorem a21_2 {P : Prop} (h : P := by (with_reducible repeat (first | apply Kd.R_alloc | apply Kd.R_drewN | apply Kd.R_drew)); exact (Kd.R_mono (Kd.R_far (p := ⟨gb676, 3, none⟩) (h3 HO668 BK676) (fun _ hk => hk.2) (.slice Ao65 t673.length co65)) (fun _ h_ => h_.1))) : P := h
theorem a21_1 {P : Prop} (h : P := by (with_reducible repeat (first | apply Kd.R_alloc | apply Kd.R_drewN | apply Kd.R_drew)); exact (Kd.R_mono (Kd.R_far (p := ⟨gb676, 3, none⟩) (h3 HO668 BK676) (fun _ hk => hk.2) (.slice Ao40 t673.length co40)) (fun _ h_ => h_.1))) : P := h
theorem a21_0 {P : Prop} (h : P := by (with_reducible repeat (first | apply Kd.R_alloc | apply Kd.R_drewN | apply Kd.R_drew)); exact (Kd.R_mono (Kd.R_far (p := ⟨gb676, 3, none⟩) (h3 HO668 BK676) (fun _ hk => hk.2) (.slice Ao113 t673.length co113)) (fun _ h_ => h_.1))) : P := h
def laws_FnExactRepairHop.f (k : Nat) (a0_0 : Int) (a0_1 : Int) (a0_2 : Int) (l0_3 : List (S85)) (a1 : Int) (a2 : Int) (a3 : Int) (l4 : List Int) : Option (Bool) := if (l4.length : Int) > 1048576 then (some true) else ((laws_szProgram.f k a0_0 a0_1 a0_2 l0_3 1048576).bind fun t659 => (if t659 < 0 then (some true) else ((laws_toProgram.f k a0_0 a0_1 a0_2 l0_3).bind fun bt660 => ((laws_toIntS.f k l4).bind fun t666 => ((spec_RepairHop.f k bt660.1 bt660.2.1 bt660.2.2.1 bt660.2.2.2 a1 a2 a3 t666).bind fun t669 => ((laws_toProgram.f k a0_0 a0_1 a0_2 l0_3).bind fun bt670 => ((laws_toIntS.f k l4).bind fun t677 => ((impl_RepairHop.f k bt670.1 bt670.2.1 bt670.2.2.1 bt670.2.2.2 a1 a2 a3 t677).bind fun t680 => (if t680 = t669 then ((laws_toProgram.f k a0_0 a0_1 a0_2 l0_3).bind fun bt681 => ((laws_eqProgram.f k bt670.1 bt670.2.1 bt670.2.2.1 bt670.2.2.2 bt681.1 bt681.2.1 bt681.2.2.1 bt681.2.2.2).bind fun t687 => (if t687 = true then ((laws_toIntS.f k l4).bind fun t688 => ((laws_eqIntS.f k t677 t688).bind fun t691 => (if t691 = true then (some true) else (some false)))) else (some false)))) else (some false))))))))))
theorem laws_FnExactRepairHop.mono : ∀ a0 a1 a2 a3 a4 a5 a6 a7 k, LeO (laws_FnExactRepairHop.f k a0 a1 a2 a3 a4 a5 a6 a7) (laws_FnExactRepairHop.f (k + 1) a0 a1 a2 a3 a4 a5 a6 a7) := by
  intro a0 a1 a2 a3 a4 a5 a6 a7 k
  unfold laws_FnExactRepairHop.f
  have m0 := @impl_RepairHop.mono
  have m1 := @laws_eqIntS.mono
  have m2 := @laws_eqProgram.mono
  have m3 := @laws_szProgram.mono
  have m4 := @laws_toIntS.mono
  have m5 := @laws_toProgram.mono
  have m6 := @spec_RepairHop.mono
  exact mo
theorem e21_0 {P : Prop} (h : P := by
 obtain rfl := Option.some.inj H
 go_enter Try.func5, Try.ntmps5
 go_wp2_with (first | (have _ := A8; (with_reducible refine gd 5 rfl ?_); refine bx 5 #[.int .i64 a0_0, .int .i64 a0_1, .int .i64 a0_2, .slice A0_3 l0_3.length c0_3] 44 ?_; intro gb658 hg w10 hbox hb; have GW658 := bz w hg; have GE658 := bz w hg; replace HB := bs hb; have BK658 := am hbox; clear hb hbox hg; obtain ⟨hcz11_0, hcz11_1, hcz11_2, hcz11_3, hfz11_0, hfz11_1, hfz11_2, hfz11_3⟩ := cc4 BK658) | ((with_reducible refine gd 5 rfl ?_); refine bx 5 #[.int .i64 a0_0, .int .i64 a0_1, .int .i64 a0_2, .slice A0_3 l0_3.length c0_3] 44 ?_; intro gb658 hg w7 hbox hb; have GW658 := bz w hg; have GE658 := bz w hg; replace HB := bs hb; have BK658 := am hbox; clear hb hbox hg) | (have _ := A13; (with_reducible refine gc 21 rfl ?_); refine gL (some 21) Try.func21 #[.agg #[.int .i64 a0_0, .int .i64 a0_1, .int .i64 a0_2, .slice A0_3 l0_3.length c0_3], .int .i64 1048576] ?_; (with_reducible refine (laws_szProgram.calls k a0_0 a0_1 a0_2 _ _ l0_3 1048576 t659 _ ?side1 ?side2 A8.out).mono ?_); (case side1 => exact cb HR0_3); (case side2 => exact HC0_3.out); rintro e w101 ⟨rfl, hb⟩; refine ⟨_, rfl, ?_⟩; replace BK658 := bb BK658 hb; replace HB := bsw hb; (try clear hb); (try clear hk); obtain ⟨hcz102_0, hcz102_1, hcz102_2, hcz102_3, hfz102_0, hfz102_1, hfz102_2, hfz102_3⟩ := cc4 BK658) | ((with_reducible refine gc 21 rfl ?_); refine gL (some 21) Try.func21 #[.agg #[.int .i64 a0_0, .int .i64 a0_1, .int .i64 a0_2, .slice A0_3 l0_3.length c0_3], .int .i64 1048576] ?_; (with_reducible refine (laws_szProgram.calls k a0_0 a0_1 a0_2 _ _ l0_3 1048576 t659 _ ?side1 ?side2 A8.out).mono ?_); (case side1 => exact cb HR0_3); (case side2 => exact HC0_3.out); rintro e w12 ⟨rfl, hb⟩; refine ⟨_, rfl, ?_⟩; replace BK658 := bb BK658 hb; replace HB := bsw hb; (try clear hb)) | ((with_reducible refine gc 23 rfl ?_); refine gL (some 25) Try.func23 #[.agg #[.int .i64 a0_0, .int .i64 a0_1, .int .i64 a0_2, .slice A0_3 l0_3.length c0_3]] ?_; (with_reducible refine (laws_toProgram.calls k a0_0 a0_1 a0_2 _ _ l0_3 t660 t661 t662 t663 _ ?side1 ?side2 A13.out).mono ?_); (case side1 => exact cb HR0_3); (case side2 => exact HC0_3.out); rintro e w103 ⟨v664, rfl, ho0, hb⟩; refine ⟨_, rfl, ?_⟩; have HO665 := am (Kd.R_lower ho0 (below_size (sbw))); replace BK658 := bb BK658 hb; replace HB := bsw hb; (try clear hb); (try clear hk); (try clear ho0)) | ((with_reducible refine gc 24 rfl ?_); refine gL (some 30) Try.func24 #[.slice A4 l4.length c4] ?_; (with_reducible refine (laws_toIntS.calls k _ _ l4 t666 _ ?side1 ?side2 A14.out).mono ?_); (case side1 => exact cb HR4); (case side2 => exact HC4.out); rintro e w104 ⟨v667, rfl, ho0, hb⟩; refine ⟨_, rfl, ?_⟩; replace HO665 := am (Kd.R_elder' (sr HO665) (Kd.R_base ho0) hb); have HO668 := am (Kd.R_lower ho0 (below_size (sbw))); replace BK658 := bb BK658 hb; replace HB := bsw hb; (try clear hb); (try clear hk); (try clear ho0); obtain ⟨Ao105, co105, eo105⟩ := Kd.R_slice HO665.out; subst eo105; obtain ⟨Ao106, co106, eo106⟩ := Kd.R_slice HO668.out; subst eo106) | ((with_reducible refine gc 22 rfl ?_); refine gL (some 31) Try.func22 #[.agg #[.int .i64 t660, .int .i64 t661, .int .i64 t662, .slice Ao105 t663.length co105], .int .i64 a1, .int .i64 a2, .int .i64 a3, .slice Ao106 t666.length co106] ?_; (with_reducible refine (spec_RepairHop.calls k t660 t661 t662 _ _ t663 a1 a2 a3 _ _ t666 t669 _ ?side1 ?side2 ?side3 ?side4 A15.out).mono ?_); (case side1 => exact cr HO665); (case side2 => exact (Kd.R_reads' HO665.out).2.1); (case side3 => exact cr HO668); (case side4 => exact (Kd.R_reads' HO668.out).2.1); rintro e w107 ⟨rfl, hb⟩; refine ⟨_, rfl, ?_⟩; replace HO665 := rb HO665 hb; replace HO668 := rb HO668 hb; replace BK658 := bb BK658 hb; replace HB := bsw hb; (try clear hb); (try clear hk); obtain ⟨hcz108_0, hcz108_1, hcz108_2, hcz108_3, hfz108_0, hfz108_1, hfz108_2, hfz108_3⟩ := cc4 BK658) | ((with_reducible refine gc 23 rfl ?_); refine gL (some 33) Try.func23 #[.agg #[.int .i64 a0_0, .int .i64 a0_1, .int .i64 a0_2, .slice A0_3 l0_3.length c0_3]] ?_; (with_reducible refine (laws_toProgram.calls k a0_0 a0_1 a0_2 _ _ l0_3 t670 t671 t672 t673 _ ?side1 ?side2 A16.out).mono ?_); (case side1 => exact cb HR0_3); (case side2 => exact HC0_3.out); rintro e w109 ⟨v674, rfl, ho0, hb⟩; refine ⟨_, rfl, ?_⟩; have HO675 := am (Kd.R_lower (Kd.R_new' (Kd.R_new' ho0 (Kd.R_lt (sr HO665))) (Kd.R_lt (sr HO668))) (below_size (sbw))); replace HO665 := am (Kd.R_elder' (sr HO665) (Kd.R_base ho0) hb); replace HO668 := rb HO668 hb; replace BK658 := bb BK658 hb; replace HB := bsw hb; (try clear hb); (try clear hk); (try clear ho0)) | ((with_reducible refine gd 13 rfl ?_); refine bx 13 #[.int .i64 0, .int .i64 0, .int .i64 0, .slice none 0 0] 49 ?_; intro gb676 hg w110 hbox hb; replace HO665 := rb HO665 hb; replace HO668 := rb HO668 hb; replace HO675 := rb HO675 hb; have GW676 := bzw w hg; have GE676 := bzw w hg; replace HB := bsw hb; have BK676 := am hbox; have NB658_676 := nl BK658 hg; have NB676_658 := ng BK658 hg; replace BK658 := bb BK658 hb; clear hb hbox hg; have hnb111 := NB676_658.out; have hnc111 := NB658_676.out; obtain ⟨hcz112_0, hcz112_1, hcz112_2, hcz112_3, hfz112_0, hfz112_1, hfz112_2, hfz112_3⟩ := cc4 BK676; obtain ⟨Ao113, co113, eo113⟩ := Kd.R_slice HO675.out; subst eo113) | ((with_reducible refine gc 24 rfl ?_); refine gL (some 35) Try.func24 #[.slice A4 l4.length c4] ?_; (with_reducible refine (laws_toIntS.calls k _ _ l4 t677 _ ?side1 ?side2 A17.out).mono ?_); (case side1 => exact Kd.C_below HR4.out (sbw)); (case side2 => exact HC4.out); rintro e w114 ⟨v678, rfl, ho0, hb⟩; refine ⟨_, rfl, ?_⟩; replace HO665 := am (Kd.R_elder' (by (with_reducible repeat (first | apply Kd.R_alloc | apply Kd.R_drewN | apply Kd.R_drew)); exact (Kd.R_mono (Kd.R_far (p := ⟨gb676, 3, none⟩) (h3 HO665 BK676) (fun _ hk => hk.2) (.slice Ao113 t673.length co113)) (fun _ h_ => h_.1))) (Kd.R_base ho0) hb); replace HO675 := am (Kd.R_elder' (by (with_reducible repeat (first | apply Kd.R_alloc | apply Kd.R_drewN | apply Kd.R_drew)); exact (Kd.R_mono (Kd.R_far (p := ⟨gb676, 3, none⟩) (h3 HO675 BK676) (fun _ hk => hk.2) (.slice Ao113 t673.length co113)) (fun _ h_ => h_.1))) (Kd.R_base ho0) hb); have HO679 := am (Kd.R_lower (Kd.R_new' ho0 (Kd.R_lt a21_0)) (below_size (sbw))); replace HO668 := am (Kd.R_elder' a21_0 (Kd.R_base ho0) hb); replace BK658 := am (blk_below (g := gb658) (o := .cells #[.int .i64 a0_0, .int .i64 a0_1, .int .i64 a0_2, .slice A0_3 l0_3.length c0_3] 44 (0, 0)) (sp BK658) hb); replace BK676 := am (blk_below (g := gb676) (o := .cells #[.int .i64 t670, .int .i64 t671, .int .i64 t672, .slice Ao113 t673.length co113] 49 (0, 0)) (sp BK676) hb); replace HB := bsw hb; (try clear hb); (try clear hk); (try clear ho0); obtain ⟨hcz115_0, hcz115_1, hcz115_2, hcz115_3, hfz115_0, hfz115_1, hfz115_2, hfz115_3⟩ := cc4 BK676; obtain ⟨Ao116, co116, eo116⟩ := Kd.R_slice HO679.out; subst eo116) | ((with_reducible refine gc 25 rfl ?_); refine gL (some 41) Try.func25 #[.agg #[.int .i64 t670, .int .i64 t671, .int .i64 t672, .slice Ao113 t673.length co113], .int .i64 a1, .int .i64 a2, .int .i64 a3, .slice Ao116 t677.length co116] ?_; (with_reducible refine (impl_RepairHop.calls k t670 t671 t672 _ _ t673 a1 a2 a3 _ _ t677 t680 _ ?side1 ?side2 ?side3 ?side4 A18.out).mono ?_); (case side1 => exact cr HO675); (case side2 => exact (Kd.R_reads' HO675.out).2.1); (case side3 => exact cr HO679); (case side4 => exact (Kd.R_reads' HO679.out).2.1); rintro e w117 ⟨rfl, hb⟩; refine ⟨_, rfl, ?_⟩; replace HO665 := rb HO665 hb; replace HO668 := rb HO668 hb; replace HO675 := rb HO675 hb; replace HO679 := rb HO679 hb; replace BK658 := bb BK658 hb; replace BK676 := bb BK676 hb; replace HB := bsw hb; (try clear hb); (try clear hk)))
 first
 | have _ := A13
   go_ret
   exact ⟨se, sbw⟩
   
 | go_ret
   exact ⟨se, sbw⟩) : P := h
theorem laws_FnExactRepairHop.calls (k : Nat) (a0_0 : Int) (a0_1 : Int) (a0_2 : Int) (A0_3 : Option Addr) (c0_3 : Nat) (l0_3 : List (S85)) (a1 : Int) (a2 : Int) (a3 : Int) (A4 : Option Addr) (c4 : Nat) (l4 : List Int) (r : Bool) (w : World) (hr0_3 : Kd.C k85 w A0_3 l0_3.length l0_3) (hc0_3 : l0_3.length ≤ c0_3) (hr4 : Kd.C (Kd.int .i64) w A4 l4.length l4) (hc4 : l4.length ≤ c4) (h : laws_FnExactRepairHop.f k a0_0 a0_1 a0_2 l0_3 a1 a2 a3 l4 = some r) :
    Calls Try.prog 5 #[.agg #[.int .i64 a0_0, .int .i64 a0_1, .int .i64 a0_2, .slice A0_3 l0_3.length c0_3], .int .i64 a1, .int .i64 a2, .int .i64 a3, .slice A4 l4.length c4] w fun e w' => e = .returned (.bool r) ∧ Below w.heap.size w w' := by
 have hu44 := Try.underlying44
 have hu49 := Try.underlying49
 have HR0_3 := am hr0_3
 have HC0_3 := am hc0_3
 clear hr0_3 hc0_3
 have HR4 := am hr4
 have HC4 := am hc4
 clear hr4 hc4
 have HB := am (Below.refl w.heap.size w)
 have H := h; unfold laws_FnExactRepairHop.f at H
 clear h
 obtain ⟨c6, c6b0, H⟩ | ⟨c6, c6b0, H⟩ := ic_ H
 ·have c6b1 : decide (1048576 < l4.length) = true := decide_eq_true (by omega)
  clear c6
  exact e21_0
 ·have c6b1 : decide (1048576 < l4.length) = false := decide_eq_false (by omega)
  clear c6
  obtain ⟨t659, A8, H⟩ := bnd H
  obtain ⟨-, c9b0, H⟩ | ⟨-, c9b0, H⟩ := ic_ H
  ·exact e21_0
  ·obtain ⟨⟨t660, t661, t662, t663⟩, A13, H⟩ := bnd H
   try dsimp only at H
   obtain ⟨t666, A14, H⟩ := bnd H
   obtain ⟨t669, A15, H⟩ := bnd H
   obtain ⟨⟨t670, t671, t672, t673⟩, A16, H⟩ := bnd H
   try dsimp only at H
   obtain ⟨t677, A17, H⟩ := bnd H
   obtain ⟨t680, A18, H⟩ := bnd H
   obtain ⟨-, c19b0, c19b1, H⟩ | ⟨c19, c19b0, c19b1, H⟩ := ib_ H
   ·obtain ⟨⟨t681, t682, t683, t684⟩, A20, H⟩ := bnd H
    try dsimp only at H
    obtain ⟨t687, A21, H⟩ := bnd H
    obtain rfl | rfl := tt t687
    ·replace H := ip H
     obtain ⟨t688, A23, H⟩ := bnd H
     obtain ⟨t691, A24, H⟩ := bnd H
     obtain rfl | rfl := tt t691
     ·replace H := ip H
      obtain rfl := Option.some.inj H
      go_enter Try.func5, Try.ntmps5
      try go_wp2_with (first | ((with_reducible refine gd 5 rfl ?_); refine bx 5 #[.int .i64 a0_0, .int .i64 a0_1, .int .i64 a0_2, .slice A0_3 l0_3.length c0_3] 44 ?_; intro gb658 hg w26 hbox hb; have GW658 := bz w hg; have GE658 := bz w hg; replace HB := bs hb; have BK658 := am hbox; clear hb hbox hg; obtain ⟨hcz27_0, hcz27_1, hcz27_2, hcz27_3, hfz27_0, hfz27_1, hfz27_2, hfz27_3⟩ := cc4 BK658) | ((with_reducible refine gc 21 rfl ?_); refine gL (some 21) Try.func21 #[.agg #[.int .i64 a0_0, .int .i64 a0_1, .int .i64 a0_2, .slice A0_3 l0_3.length c0_3], .int .i64 1048576] ?_; (with_reducible refine (laws_szProgram.calls k a0_0 a0_1 a0_2 _ _ l0_3 1048576 t659 _ ?side1 ?side2 A8.out).mono ?_); (case side1 => exact cb HR0_3); (case side2 => exact HC0_3.out); rintro e w28 ⟨rfl, hb⟩; refine ⟨_, rfl, ?_⟩; replace BK658 := bb BK658 hb; replace HB := bsw hb; (try clear hb); (try clear hk); obtain ⟨hcz29_0, hcz29_1, hcz29_2, hcz29_3, hfz29_0, hfz29_1, hfz29_2, hfz29_3⟩ := cc4 BK658) | ((with_reducible refine gc 23 rfl ?_); refine gL (some 25) Try.func23 #[.agg #[.int .i64 a0_0, .int .i64 a0_1, .int .i64 a0_2, .slice A0_3 l0_3.length c0_3]] ?_; (with_reducible refine (laws_toProgram.calls k a0_0 a0_1 a0_2 _ _ l0_3 t660 t661 t662 t663 _ ?side1 ?side2 A13.out).mono ?_); (case side1 => exact cb HR0_3); (case side2 => exact HC0_3.out); rintro e w30 ⟨v664, rfl, ho0, hb⟩; refine ⟨_, rfl, ?_⟩; have HO665 := am (Kd.R_lower ho0 (below_size (sbw))); replace BK658 := bb BK658 hb; replace HB := bsw hb; (try clear hb); (try clear hk); (try clear ho0)) | ((with_reducible refine gc 24 rfl ?_); refine gL (some 30) Try.func24 #[.slice A4 l4.length c4] ?_; (with_reducible refine (laws_toIntS.calls k _ _ l4 t666 _ ?side1 ?side2 A14.out).mono ?_); (case side1 => exact cb HR4); (case side2 => exact HC4.out); rintro e w31 ⟨v667, rfl, ho0, hb⟩; refine ⟨_, rfl, ?_⟩; replace HO665 := am (Kd.R_elder' (sr HO665) (Kd.R_base ho0) hb); have HO668 := am (Kd.R_lower ho0 (below_size (sbw))); replace BK658 := bb BK658 hb; replace HB := bsw hb; (try clear hb); (try clear hk); (try clear ho0); obtain ⟨Ao32, co32, eo32⟩ := Kd.R_slice HO665.out; subst eo32; obtain ⟨Ao33, co33, eo33⟩ := Kd.R_slice HO668.out; subst eo33) | ((with_reducible refine gc 22 rfl ?_); refine gL (some 31) Try.func22 #[.agg #[.int .i64 t660, .int .i64 t661, .int .i64 t662, .slice Ao32 t663.length co32], .int .i64 a1, .int .i64 a2, .int .i64 a3, .slice Ao33 t666.length co33] ?_; (with_reducible refine (spec_RepairHop.calls k t660 t661 t662 _ _ t663 a1 a2 a3 _ _ t666 t669 _ ?side1 ?side2 ?side3 ?side4 A15.out).mono ?_); (case side1 => exact cr HO665); (case side2 => exact (Kd.R_reads' HO665.out).2.1); (case side3 => exact cr HO668); (case side4 => exact (Kd.R_reads' HO668.out).2.1); rintro e w34 ⟨rfl, hb⟩; refine ⟨_, rfl, ?_⟩; replace HO665 := rb HO665 hb; replace HO668 := rb HO668 hb; replace BK658 := bb BK658 hb; replace HB := bsw hb; (try clear hb); (try clear hk); obtain ⟨hcz35_0, hcz35_1, hcz35_2, hcz35_3, hfz35_0, hfz35_1, hfz35_2, hfz35_3⟩ := cc4 BK658) | ((with_reducible refine gc 23 rfl ?_); refine gL (some 33) Try.func23 #[.agg #[.int .i64 a0_0, .int .i64 a0_1, .int .i64 a0_2, .slice A0_3 l0_3.length c0_3]] ?_; (with_reducible refine (laws_toProgram.calls k a0_0 a0_1 a0_2 _ _ l0_3 t670 t671 t672 t673 _ ?side1 ?side2 A16.out).mono ?_); (case side1 => exact cb HR0_3); (case side2 => exact HC0_3.out); rintro e w36 ⟨v674, rfl, ho0, hb⟩; refine ⟨_, rfl, ?_⟩; have HO675 := am (Kd.R_lower (Kd.R_new' (Kd.R_new' ho0 (Kd.R_lt (sr HO665))) (Kd.R_lt (sr HO668))) (below_size (sbw))); replace HO665 := am (Kd.R_elder' (sr HO665) (Kd.R_base ho0) hb); replace HO668 := rb HO668 hb; replace BK658 := bb BK658 hb; replace HB := bsw hb; (try clear hb); (try clear hk); (try clear ho0)) | ((with_reducible refine gd 13 rfl ?_); refine bx 13 #[.int .i64 0, .int .i64 0, .int .i64 0, .slice none 0 0] 49 ?_; intro gb676 hg w37 hbox hb; replace HO665 := rb HO665 hb; replace HO668 := rb HO668 hb; replace HO675 := rb HO675 hb; have GW676 := bzw w hg; have GE676 := bzw w hg; replace HB := bsw hb; have BK676 := am hbox; have NB658_676 := nl BK658 hg; have NB676_658 := ng BK658 hg; replace BK658 := bb BK658 hb; clear hb hbox hg; have hnb38 := NB676_658.out; have hnc38 := NB658_676.out; obtain ⟨hcz39_0, hcz39_1, hcz39_2, hcz39_3, hfz39_0, hfz39_1, hfz39_2, hfz39_3⟩ := cc4 BK676; obtain ⟨Ao40, co40, eo40⟩ := Kd.R_slice HO675.out; subst eo40) | ((with_reducible refine gc 24 rfl ?_); refine gL (some 35) Try.func24 #[.slice A4 l4.length c4] ?_; (with_reducible refine (laws_toIntS.calls k _ _ l4 t677 _ ?side1 ?side2 A17.out).mono ?_); (case side1 => exact Kd.C_below HR4.out (sbw)); (case side2 => exact HC4.out); rintro e w41 ⟨v678, rfl, ho0, hb⟩; refine ⟨_, rfl, ?_⟩; replace HO665 := am (Kd.R_elder' (by (with_reducible repeat (first | apply Kd.R_alloc | apply Kd.R_drewN | apply Kd.R_drew)); exact (Kd.R_mono (Kd.R_far (p := ⟨gb676, 3, none⟩) (h3 HO665 BK676) (fun _ hk => hk.2) (.slice Ao40 t673.length co40)) (fun _ h_ => h_.1))) (Kd.R_base ho0) hb); replace HO675 := am (Kd.R_elder' (by (with_reducible repeat (first | apply Kd.R_alloc | apply Kd.R_drewN | apply Kd.R_drew)); exact (Kd.R_mono (Kd.R_far (p := ⟨gb676, 3, none⟩) (h3 HO675 BK676) (fun _ hk => hk.2) (.slice Ao40 t673.length co40)) (fun _ h_ => h_.1))) (Kd.R_base ho0) hb); have HO679 := am (Kd.R_lower (Kd.R_new' ho0 (Kd.R_lt a21_1)) (below_size (sbw))); replace HO668 := am (Kd.R_elder' a21_1 (Kd.R_base ho0) hb); replace BK658 := am (blk_below (g := gb658) (o := .cells #[.int .i64 a0_0, .int .i64 a0_1, .int .i64 a0_2, .slice A0_3 l0_3.length c0_3] 44 (0, 0)) (sp BK658) hb); replace BK676 := am (blk_below (g := gb676) (o := .cells #[.int .i64 t670, .int .i64 t671, .int .i64 t672, .slice Ao40 t673.length co40] 49 (0, 0)) (sp BK676) hb); replace HB := bsw hb; (try clear hb); (try clear hk); (try clear ho0); obtain ⟨hcz42_0, hcz42_1, hcz42_2, hcz42_3, hfz42_0, hfz42_1, hfz42_2, hfz42_3⟩ := cc4 BK676; obtain ⟨Ao43, co43, eo43⟩ := Kd.R_slice HO679.out; subst eo43) | ((with_reducible refine gc 25 rfl ?_); refine gL (some 41) Try.func25 #[.agg #[.int .i64 t670, .int .i64 t671, .int .i64 t672, .slice Ao40 t673.length co40], .int .i64 a1, .int .i64 a2, .int .i64 a3, .slice Ao43 t677.length co43] ?_; (with_reducible refine (impl_RepairHop.calls k t670 t671 t672 _ _ t673 a1 a2 a3 _ _ t677 t680 _ ?side1 ?side2 ?side3 ?side4 A18.out).mono ?_); (case side1 => exact cr HO675); (case side2 => exact (Kd.R_reads' HO675.out).2.1); (case side3 => exact cr HO679); (case side4 => exact (Kd.R_reads' HO679.out).2.1); rintro e w44 ⟨rfl, hb⟩; refine ⟨_, rfl, ?_⟩; replace HO665 := rb HO665 hb; replace HO668 := rb HO668 hb; replace HO675 := rb HO675 hb; replace HO679 := rb HO679 hb; replace BK658 := bb BK658 hb; replace BK676 := bb BK676 hb; replace HB := bsw hb; (try clear hb); (try clear hk)))
      replace HO665 := am (Kd.R_drew HO665.out)
      replace HO668 := am (Kd.R_drew HO668.out)
      replace HO675 := am (Kd.R_drew HO675.out)
      replace HO679 := am (Kd.R_drew HO679.out)
      replace BK658 := am (blk_drew BK658.out)
      replace BK676 := am (blk_drew BK676.out)
      replace HB := am (below_drew1 HB.out)
      refine start_ (n := 5) (S := fun w' => w'.cell? ⟨gb676, 0, none⟩ = some (.int .i64 t670) ∧ w'.cell? ⟨gb676, 1, none⟩ = some (.int .i64 t671) ∧ w'.cell? ⟨gb676, 2, none⟩ = some (.int .i64 t672) ∧ w'.cell? ⟨gb676, 3, none⟩ = some (.slice Ao40 t673.length co40) ∧ w'.cell? ⟨gb658, 0, none⟩ = some (.int .i64 a0_0) ∧ w'.cell? ⟨gb658, 1, none⟩ = some (.int .i64 a0_1) ∧ w'.cell? ⟨gb658, 2, none⟩ = some (.int .i64 a0_2) ∧ w'.cell? ⟨gb658, 3, none⟩ = some (.slice A0_3 l0_3.length c0_3)) (ds := []) #[false, false, false, false, false] (by kernel_rfl) rfl rfl ⟨bc0 BK676, bc1 BK676, bc2 BK676, bc3 BK676, bc0 BK658, bc1 BK658, bc2 BK658, bc3 BK658⟩ (fun hHeld => ?_)
      generalize w44.drew = w45 at HO665 HO668 HO675 HO679 BK658 BK676 HB hHeld ⊢
      refine ta8 0 45 (bt 5 1) hHeld ?_
      refine ta8 1 46 (bt 5 3) hHeld ?_
      refine one_ (i := 2) (N := some 47) (bt 5 7) rfl rfl (by kernel_rfl) (by decide) (fun K hK => ?_)
      refine goes_ Try.func23 (by kernel_rfl) rfl #[.agg #[.int .i64 a0_0, .int .i64 a0_1, .int .i64 a0_2, .slice A0_3 l0_3.length c0_3]] (by rfl) rfl rfl sl ?_
      with_reducible refine (laws_toProgram.calls k a0_0 a0_1 a0_2 _ _ l0_3 t681 t682 t683 t684 _ ?side1 ?side2 A20.out).mono ?_
      (case side1 => exact cb HR0_3)
      (case side2 => exact HC0_3.out)
      rintro e w46 ⟨v685, rfl, ho0, hb⟩
      refine ⟨_, rfl, ?_⟩
      have HO686 := am (Kd.R_lower (Kd.R_new' (Kd.R_new' (Kd.R_new' (Kd.R_new' ho0 (Kd.R_lt (sr HO665))) (Kd.R_lt (sr HO668))) (Kd.R_lt (sr HO675))) (Kd.R_lt (sr HO679))) (below_size (sbw)))
      replace HO665 := am (Kd.R_elder' (sr HO665) (Kd.R_base ho0) hb)
      replace HO668 := rb HO668 hb
      replace HO675 := am (Kd.R_elder' (sr HO675) (Kd.R_base ho0) hb)
      replace HO679 := rb HO679 hb
      replace BK658 := bb BK658 hb
      replace BK676 := bb BK676 hb
      replace HB := bsw hb
      (try clear hb)
      (try clear hb2)
      (try clear hk)
      (try clear hi)
      (try clear ho0)
      obtain ⟨Ao47, co47, eo47⟩ := Kd.R_slice HO686.out
      (first | subst eo47 | (injection eo47 with f1_ f2_ f3_; have f4_ := f1_.symm; have f5_ := f3_.symm; clear f1_ f2_ f3_; subst f4_; subst f5_))
      refine hK.out _ _ ⟨bc0 BK676, bc1 BK676, bc2 BK676, bc3 BK676, bc0 BK658, bc1 BK658, bc2 BK658, bc3 BK658⟩ (fun hHeld => ?_)
      clear hK K
      refine nm 47 ?_
      refine one_ (i := 3) (N := some 48) (bt 5 15) rfl rfl (by kernel_rfl) (by decide) (fun K hK => ?_)
      refine goes_ Try.func26 (by kernel_rfl) rfl #[.agg #[.int .i64 t670, .int .i64 t671, .int .i64 t672, .slice Ao40 t673.length co40], .agg #[.int .i64 t681, .int .i64 t682, .int .i64 t683, .slice Ao47 t684.length co47]] (by rfl) rfl rfl sl ?_
      with_reducible refine (laws_eqProgram.calls k t670 t671 t672 _ _ t673 t681 t682 t683 _ _ t684 true _ ?side1 ?side2 ?side3 ?side4 A21.out).mono ?_
      (case side1 => exact cr HO675)
      (case side2 => exact (Kd.R_reads' HO675.out).2.1)
      (case side3 => exact cr HO686)
      (case side4 => exact (Kd.R_reads' HO686.out).2.1)
      rintro e w48 ⟨rfl, hb⟩
      refine ⟨_, rfl, ?_⟩
      replace HO665 := rb HO665 hb
      replace HO668 := rb HO668 hb
      replace HO675 := rb HO675 hb
      replace HO679 := rb HO679 hb
      replace HO686 := rb HO686 hb
      replace BK658 := bb BK658 hb
      replace BK676 := bb BK676 hb
      replace HB := bsw hb
      (try clear hb)
      (try clear hb2)
      (try clear hk)
      (try clear hi)
      refine hK.out _ _ ⟨bc0 BK676, bc1 BK676, bc2 BK676, bc3 BK676, bc0 BK658, bc1 BK658, bc2 BK658, bc3 BK658⟩ (fun hHeld => ?_)
      clear hK K
      refine nm 48 ?_
      refine pu 4 49 (bt 5 31) ?_
      refine done_ (by kernel_rfl) ?_
      try go_wp2_with (first | ((with_reducible refine gc 24 rfl ?_); refine gL (some 52) Try.func24 #[.slice A4 l4.length c4] ?_; (with_reducible refine (laws_toIntS.calls k _ _ l4 t688 _ ?side1 ?side2 A23.out).mono ?_); (case side1 => exact cb HR4); (case side2 => exact HC4.out); rintro e w49 ⟨v689, rfl, ho0, hb⟩; refine ⟨_, rfl, ?_⟩; replace HO665 := am (Kd.R_elder' (sr HO665) (Kd.R_base ho0) hb); replace HO675 := am (Kd.R_elder' (sr HO675) (Kd.R_base ho0) hb); replace HO686 := am (Kd.R_elder' (sr HO686) (Kd.R_base ho0) hb); have HO690 := am (Kd.R_lower (Kd.R_new' (Kd.R_new' ho0 (Kd.R_lt (sr HO668))) (Kd.R_lt (sr HO679))) (below_size (sbw))); replace HO668 := am (Kd.R_elder' (sr HO668) (Kd.R_base ho0) hb); replace HO679 := am (Kd.R_elder' (sr HO679) (Kd.R_base ho0) hb); replace BK658 := bb BK658 hb; replace BK676 := bb BK676 hb; replace HB := bsw hb; (try clear hb); (try clear ho0); obtain ⟨Ao50, co50, eo50⟩ := Kd.R_slice HO690.out; subst eo50) | ((with_reducible refine gc 16 rfl ?_); refine gL (some 53) Try.func16 #[.slice Ao43 t677.length co43, .slice Ao50 t688.length co50] ?_; (with_reducible refine (laws_eqIntS.calls k _ _ t677 _ _ t688 true _ ?side1 ?side2 ?side3 ?side4 A24.out).mono ?_); (case side1 => exact cr HO679); (case side2 => exact (Kd.R_reads' HO679.out).2.1); (case side3 => exact cr HO690); (case side4 => exact (Kd.R_reads' HO690.out).2.1); rintro e w' ⟨rfl, ⟨nd, rfl⟩⟩; refine ⟨_, rfl, ?_⟩))
      go_ret
      exact ⟨se, sbw⟩
     ·replace H := im H
      obtain rfl := Option.some.inj H
      go_enter Try.func5, Try.ntmps5
      try go_wp2_with (first | ((with_reducible refine gd 5 rfl ?_); refine bx 5 #[.int .i64 a0_0, .int .i64 a0_1, .int .i64 a0_2, .slice A0_3 l0_3.length c0_3] 44 ?_; intro gb658 hg w51 hbox hb; have GW658 := bz w hg; have GE658 := bz w hg; replace HB := bs hb; have BK658 := am hbox; clear hb hbox hg; obtain ⟨hcz52_0, hcz52_1, hcz52_2, hcz52_3, hfz52_0, hfz52_1, hfz52_2, hfz52_3⟩ := cc4 BK658) | ((with_reducible refine gc 21 rfl ?_); refine gL (some 21) Try.func21 #[.agg #[.int .i64 a0_0, .int .i64 a0_1, .int .i64 a0_2, .slice A0_3 l0_3.length c0_3], .int .i64 1048576] ?_; (with_reducible refine (laws_szProgram.calls k a0_0 a0_1 a0_2 _ _ l0_3 1048576 t659 _ ?side1 ?side2 A8.out).mono ?_); (case side1 => exact cb HR0_3); (case side2 => exact HC0_3.out); rintro e w53 ⟨rfl, hb⟩; refine ⟨_, rfl, ?_⟩; replace BK658 := bb BK658 hb; replace HB := bsw hb; (try clear hb); (try clear hk); obtain ⟨hcz54_0, hcz54_1, hcz54_2, hcz54_3, hfz54_0, hfz54_1, hfz54_2, hfz54_3⟩ := cc4 BK658) | ((with_reducible refine gc 23 rfl ?_); refine gL (some 25) Try.func23 #[.agg #[.int .i64 a0_0, .int .i64 a0_1, .int .i64 a0_2, .slice A0_3 l0_3.length c0_3]] ?_; (with_reducible refine (laws_toProgram.calls k a0_0 a0_1 a0_2 _ _ l0_3 t660 t661 t662 t663 _ ?side1 ?side2 A13.out).mono ?_); (case side1 => exact cb HR0_3); (case side2 => exact HC0_3.out); rintro e w55 ⟨v664, rfl, ho0, hb⟩; refine ⟨_, rfl, ?_⟩; have HO665 := am (Kd.R_lower ho0 (below_size (sbw))); replace BK658 := bb BK658 hb; replace HB := bsw hb; (try clear hb); (try clear hk); (try clear ho0)) | ((with_reducible refine gc 24 rfl ?_); refine gL (some 30) Try.func24 #[.slice A4 l4.length c4] ?_; (with_reducible refine (laws_toIntS.calls k _ _ l4 t666 _ ?side1 ?side2 A14.out).mono ?_); (case side1 => exact cb HR4); (case side2 => exact HC4.out); rintro e w56 ⟨v667, rfl, ho0, hb⟩; refine ⟨_, rfl, ?_⟩; replace HO665 := am (Kd.R_elder' (sr HO665) (Kd.R_base ho0) hb); have HO668 := am (Kd.R_lower ho0 (below_size (sbw))); replace BK658 := bb BK658 hb; replace HB := bsw hb; (try clear hb); (try clear hk); (try clear ho0); obtain ⟨Ao57, co57, eo57⟩ := Kd.R_slice HO665.out; subst eo57; obtain ⟨Ao58, co58, eo58⟩ := Kd.R_slice HO668.out; subst eo58) | ((with_reducible refine gc 22 rfl ?_); refine gL (some 31) Try.func22 #[.agg #[.int .i64 t660, .int .i64 t661, .int .i64 t662, .slice Ao57 t663.length co57], .int .i64 a1, .int .i64 a2, .int .i64 a3, .slice Ao58 t666.length co58] ?_; (with_reducible refine (spec_RepairHop.calls k t660 t661 t662 _ _ t663 a1 a2 a3 _ _ t666 t669 _ ?side1 ?side2 ?side3 ?side4 A15.out).mono ?_); (case side1 => exact cr HO665); (case side2 => exact (Kd.R_reads' HO665.out).2.1); (case side3 => exact cr HO668); (case side4 => exact (Kd.R_reads' HO668.out).2.1); rintro e w59 ⟨rfl, hb⟩; refine ⟨_, rfl, ?_⟩; replace HO665 := rb HO665 hb; replace HO668 := rb HO668 hb; replace BK658 := bb BK658 hb; replace HB := bsw hb; (try clear hb); (try clear hk); obtain ⟨hcz60_0, hcz60_1, hcz60_2, hcz60_3, hfz60_0, hfz60_1, hfz60_2, hfz60_3⟩ := cc4 BK658) | ((with_reducible refine gc 23 rfl ?_); refine gL (some 33) Try.func23 #[.agg #[.int .i64 a0_0, .int .i64 a0_1, .int .i64 a0_2, .slice A0_3 l0_3.length c0_3]] ?_; (with_reducible refine (laws_toProgram.calls k a0_0 a0_1 a0_2 _ _ l0_3 t670 t671 t672 t673 _ ?side1 ?side2 A16.out).mono ?_); (case side1 => exact cb HR0_3); (case side2 => exact HC0_3.out); rintro e w61 ⟨v674, rfl, ho0, hb⟩; refine ⟨_, rfl, ?_⟩; have HO675 := am (Kd.R_lower (Kd.R_new' (Kd.R_new' ho0 (Kd.R_lt (sr HO665))) (Kd.R_lt (sr HO668))) (below_size (sbw))); replace HO665 := am (Kd.R_elder' (sr HO665) (Kd.R_base ho0) hb); replace HO668 := rb HO668 hb; replace BK658 := bb BK658 hb; replace HB := bsw hb; (try clear hb); (try clear hk); (try clear ho0)) | ((with_reducible refine gd 13 rfl ?_); refine bx 13 #[.int .i64 0, .int .i64 0, .int .i64 0, .slice none 0 0] 49 ?_; intro gb676 hg w62 hbox hb; replace HO665 := rb HO665 hb; replace HO668 := rb HO668 hb; replace HO675 := rb HO675 hb; have GW676 := bzw w hg; have GE676 := bzw w hg; replace HB := bsw hb; have BK676 := am hbox; have NB658_676 := nl BK658 hg; have NB676_658 := ng BK658 hg; replace BK658 := bb BK658 hb; clear hb hbox hg; have hnb63 := NB676_658.out; have hnc63 := NB658_676.out; obtain ⟨hcz64_0, hcz64_1, hcz64_2, hcz64_3, hfz64_0, hfz64_1, hfz64_2, hfz64_3⟩ := cc4 BK676; obtain ⟨Ao65, co65, eo65⟩ := Kd.R_slice HO675.out; subst eo65) | ((with_reducible refine gc 24 rfl ?_); refine gL (some 35) Try.func24 #[.slice A4 l4.length c4] ?_; (with_reducible refine (laws_toIntS.calls k _ _ l4 t677 _ ?side1 ?side2 A17.out).mono ?_); (case side1 => exact Kd.C_below HR4.out (sbw)); (case side2 => exact HC4.out); rintro e w66 ⟨v678, rfl, ho0, hb⟩; refine ⟨_, rfl, ?_⟩; replace HO665 := am (Kd.R_elder' (by (with_reducible repeat (first | apply Kd.R_alloc | apply Kd.R_drewN | apply Kd.R_drew)); exact (Kd.R_mono (Kd.R_far (p := ⟨gb676, 3, none⟩) (h3 HO665 BK676) (fun _ hk => hk.2) (.slice Ao65 t673.length co65)) (fun _ h_ => h_.1))) (Kd.R_base ho0) hb); replace HO675 := am (Kd.R_elder' (by (with_reducible repeat (first | apply Kd.R_alloc | apply Kd.R_drewN | apply Kd.R_drew)); exact (Kd.R_mono (Kd.R_far (p := ⟨gb676, 3, none⟩) (h3 HO675 BK676) (fun _ hk => hk.2) (.slice Ao65 t673.length co65)) (fun _ h_ => h_.1))) (Kd.R_base ho0) hb); have HO679 := am (Kd.R_lower (Kd.R_new' ho0 (Kd.R_lt a21_2)) (below_size (sbw))); replace HO668 := am (Kd.R_elder' a21_2 (Kd.R_base ho0) hb); replace BK658 := am (blk_below (g := gb658) (o := .cells #[.int .i64 a0_0, .int .i64 a0_1, .int .i64 a0_2, .slice A0_3 l0_3.length c0_3] 44 (0, 0)) (sp BK658) hb); replace BK676 := am (blk_below (g := gb676) (o := .cells #[.int .i64 t670, .int .i64 t671, .int .i64 t672, .slice Ao65 t673.length co65] 49 (0, 0)) (sp BK676) hb); replace HB := bsw hb; (try clear hb); (try clear hk); (try clear ho0); obtain ⟨hcz67_0, hcz67_1, hcz67_2, hcz67_3, hfz67_0, hfz67_1, hfz67_2, hfz67_3⟩ := cc4 BK676; obtain ⟨Ao68, co68, eo68⟩ := Kd.R_slice HO679.out; subst eo68) | ((with_reducible refine gc 25 rfl ?_); refine gL (some 41) Try.func25 #[.agg #[.int .i64 t670, .int .i64 t671, .int .i64 t672, .slice Ao65 t673.length co65], .int .i64 a1, .int .i64 a2, .int .i64 a3, .slice Ao68 t677.length co68] ?_; (with_reducible refine (impl_RepairHop.calls k t670 t671 t672 _ _ t673 a1 a2 a3 _ _ t677 t680 _ ?side1 ?side2 ?side3 ?side4 A18.out).mono ?_); (case side1 => exact cr HO675); (case side2 => exact (Kd.R_reads' HO675.out).2.1); (case side3 => exact cr HO679); (case side4 => exact (Kd.R_reads' HO679.out).2.1); rintro e w69 ⟨rfl, hb⟩; refine ⟨_, rfl, ?_⟩; replace HO665 := rb HO665 hb; replace HO668 := rb HO668 hb; replace HO675 := rb HO675 hb; replace HO679 := rb HO679 hb; replace BK658 := bb BK658 hb; replace BK676 := bb BK676 hb; replace HB := bsw hb; (try clear hb); (try clear hk)))
      replace HO665 := am (Kd.R_drew HO665.out)
      replace HO668 := am (Kd.R_drew HO668.out)
      replace HO675 := am (Kd.R_drew HO675.out)
      replace HO679 := am (Kd.R_drew HO679.out)
      replace BK658 := am (blk_drew BK658.out)
      replace BK676 := am (blk_drew BK676.out)
      replace HB := am (below_drew1 HB.out)
      refine start_ (n := 5) (S := fun w' => w'.cell? ⟨gb676, 0, none⟩ = some (.int .i64 t670) ∧ w'.cell? ⟨gb676, 1, none⟩ = some (.int .i64 t671) ∧ w'.cell? ⟨gb676, 2, none⟩ = some (.int .i64 t672) ∧ w'.cell? ⟨gb676, 3, none⟩ = some (.slice Ao65 t673.length co65) ∧ w'.cell? ⟨gb658, 0, none⟩ = some (.int .i64 a0_0) ∧ w'.cell? ⟨gb658, 1, none⟩ = some (.int .i64 a0_1) ∧ w'.cell? ⟨gb658, 2, none⟩ = some (.int .i64 a0_2) ∧ w'.cell? ⟨gb658, 3, none⟩ = some (.slice A0_3 l0_3.length c0_3)) (ds := []) #[false, false, false, false, false] (by kernel_rfl) rfl rfl ⟨bc0 BK676, bc1 BK676, bc2 BK676, bc3 BK676, bc0 BK658, bc1 BK658, bc2 BK658, bc3 BK658⟩ (fun hHeld => ?_)
      generalize w69.drew = w70 at HO665 HO668 HO675 HO679 BK658 BK676 HB hHeld ⊢
      refine ta8 0 45 (bt 5 1) hHeld ?_
      refine ta8 1 46 (bt 5 3) hHeld ?_
      refine one_ (i := 2) (N := some 47) (bt 5 7) rfl rfl (by kernel_rfl) (by decide) (fun K hK => ?_)
      refine goes_ Try.func23 (by kernel_rfl) rfl #[.agg #[.int .i64 a0_0, .int .i64 a0_1, .int .i64 a0_2, .slice A0_3 l0_3.length c0_3]] (by rfl) rfl rfl sl ?_
      with_reducible refine (laws_toProgram.calls k a0_0 a0_1 a0_2 _ _ l0_3 t681 t682 t683 t684 _ ?side1 ?side2 A20.out).mono ?_
      (case side1 => exact cb HR0_3)
      (case side2 => exact HC0_3.out)
      rintro e w71 ⟨v685, rfl, ho0, hb⟩
      refine ⟨_, rfl, ?_⟩
      have HO686 := am (Kd.R_lower (Kd.R_new' (Kd.R_new' (Kd.R_new' (Kd.R_new' ho0 (Kd.R_lt (sr HO665))) (Kd.R_lt (sr HO668))) (Kd.R_lt (sr HO675))) (Kd.R_lt (sr HO679))) (below_size (sbw)))
      replace HO665 := am (Kd.R_elder' (sr HO665) (Kd.R_base ho0) hb)
      replace HO668 := rb HO668 hb
      replace HO675 := am (Kd.R_elder' (sr HO675) (Kd.R_base ho0) hb)
      replace HO679 := rb HO679 hb
      replace BK658 := bb BK658 hb
      replace BK676 := bb BK676 hb
      replace HB := bsw hb
      (try clear hb)
      (try clear hb2)
      (try clear hk)
      (try clear hi)
      (try clear ho0)
      obtain ⟨Ao72, co72, eo72⟩ := Kd.R_slice HO686.out
      (first | subst eo72 | (injection eo72 with f1_ f2_ f3_; have f4_ := f1_.symm; have f5_ := f3_.symm; clear f1_ f2_ f3_; subst f4_; subst f5_))
      refine hK.out _ _ ⟨bc0 BK676, bc1 BK676, bc2 BK676, bc3 BK676, bc0 BK658, bc1 BK658, bc2 BK658, bc3 BK658⟩ (fun hHeld => ?_)
      clear hK K
      refine nm 47 ?_
      refine one_ (i := 3) (N := some 48) (bt 5 15) rfl rfl (by kernel_rfl) (by decide) (fun K hK => ?_)
      refine goes_ Try.func26 (by kernel_rfl) rfl #[.agg #[.int .i64 t670, .int .i64 t671, .int .i64 t672, .slice Ao65 t673.length co65], .agg #[.int .i64 t681, .int .i64 t682, .int .i64 t683, .slice Ao72 t684.length co72]] (by rfl) rfl rfl sl ?_
      with_reducible refine (laws_eqProgram.calls k t670 t671 t672 _ _ t673 t681 t682 t683 _ _ t684 true _ ?side1 ?side2 ?side3 ?side4 A21.out).mono ?_
      (case side1 => exact cr HO675)
      (case side2 => exact (Kd.R_reads' HO675.out).2.1)
      (case side3 => exact cr HO686)
      (case side4 => exact (Kd.R_reads' HO686.out).2.1)
      rintro e w73 ⟨rfl, hb⟩
      refine ⟨_, rfl, ?_⟩
      replace HO665 := rb HO665 hb
      replace HO668 := rb HO668 hb
      replace HO675 := rb HO675 hb
      replace HO679 := rb HO679 hb
      replace HO686 := rb HO686 hb
      replace BK658 := bb BK658 hb
      replace BK676 := bb BK676 hb
      replace HB := bsw hb
      (try clear hb)
      (try clear hb2)
      (try clear hk)
      (try clear hi)
      refine hK.out _ _ ⟨bc0 BK676, bc1 BK676, bc2 BK676, bc3 BK676, bc0 BK658, bc1 BK658, bc2 BK658, bc3 BK658⟩ (fun hHeld => ?_)
      clear hK K
      refine nm 48 ?_
      refine pu 4 49 (bt 5 31) ?_
      refine done_ (by kernel_rfl) ?_
      try go_wp2_with (first | ((with_reducible refine gc 24 rfl ?_); refine gL (some 52) Try.func24 #[.slice A4 l4.length c4] ?_; (with_reducible refine (laws_toIntS.calls k _ _ l4 t688 _ ?side1 ?side2 A23.out).mono ?_); (case side1 => exact cb HR4); (case side2 => exact HC4.out); rintro e w74 ⟨v689, rfl, ho0, hb⟩; refine ⟨_, rfl, ?_⟩; replace HO665 := am (Kd.R_elder' (sr HO665) (Kd.R_base ho0) hb); replace HO675 := am (Kd.R_elder' (sr HO675) (Kd.R_base ho0) hb); replace HO686 := am (Kd.R_elder' (sr HO686) (Kd.R_base ho0) hb); have HO690 := am (Kd.R_lower (Kd.R_new' (Kd.R_new' ho0 (Kd.R_lt (sr HO668))) (Kd.R_lt (sr HO679))) (below_size (sbw))); replace HO668 := am (Kd.R_elder' (sr HO668) (Kd.R_base ho0) hb); replace HO679 := am (Kd.R_elder' (sr HO679) (Kd.R_base ho0) hb); replace BK658 := bb BK658 hb; replace BK676 := bb BK676 hb; replace HB := bsw hb; (try clear hb); (try clear ho0); obtain ⟨Ao75, co75, eo75⟩ := Kd.R_slice HO690.out; subst eo75) | ((with_reducible refine gc 16 rfl ?_); refine gL (some 53) Try.func16 #[.slice Ao68 t677.length co68, .slice Ao75 t688.length co75] ?_; (with_reducible refine (laws_eqIntS.calls k _ _ t677 _ _ t688 false _ ?side1 ?side2 ?side3 ?side4 A24.out).mono ?_); (case side1 => exact cr HO679); (case side2 => exact (Kd.R_reads' HO679.out).2.1); (case side3 => exact cr HO690); (case side4 => exact (Kd.R_reads' HO690.out).2.1); rintro e w' ⟨rfl, ⟨nd, rfl⟩⟩; refine ⟨_, rfl, ?_⟩))
      go_ret
      exact ⟨se, sbw⟩
    ·replace H := im H
     obtain rfl := Option.some.inj H
     go_enter Try.func5, Try.ntmps5
     try go_wp2_with (first | ((with_reducible refine gd 5 rfl ?_); refine bx 5 #[.int .i64 a0_0, .int .i64 a0_1, .int .i64 a0_2, .slice A0_3 l0_3.length c0_3] 44 ?_; intro gb658 hg w76 hbox hb; have GW658 := bz w hg; have GE658 := bz w hg; replace HB := bs hb; have BK658 := am hbox; clear hb hbox hg; obtain ⟨hcz77_0, hcz77_1, hcz77_2, hcz77_3, hfz77_0, hfz77_1, hfz77_2, hfz77_3⟩ := cc4 BK658) | ((with_reducible refine gc 21 rfl ?_); refine gL (some 21) Try.func21 #[.agg #[.int .i64 a0_0, .int .i64 a0_1, .int .i64 a0_2, .slice A0_3 l0_3.length c0_3], .int .i64 1048576] ?_; (with_reducible refine (laws_szProgram.calls k a0_0 a0_1 a0_2 _ _ l0_3 1048576 t659 _ ?side1 ?side2 A8.out).mono ?_); (case side1 => exact cb HR0_3); (case side2 => exact HC0_3.out); rintro e w78 ⟨rfl, hb⟩; refine ⟨_, rfl, ?_⟩; replace BK658 := bb BK658 hb; replace HB := bsw hb; (try clear hb); (try clear hk); obtain ⟨hcz79_0, hcz79_1, hcz79_2, hcz79_3, hfz79_0, hfz79_1, hfz79_2, hfz79_3⟩ := cc4 BK658) | ((with_reducible refine gc 23 rfl ?_); refine gL (some 25) Try.func23 #[.agg #[.int .i64 a0_0, .int .i64 a0_1, .int .i64 a0_2, .slice A0_3 l0_3.length c0_3]] ?_; (with_reducible refine (laws_toProgram.calls k a0_0 a0_1 a0_2 _ _ l0_3 t660 t661 t662 t663 _ ?side1 ?side2 A13.out).mono ?_); (case side1 => exact cb HR0_3); (case side2 => exact HC0_3.out); rintro e w80 ⟨v664, rfl, ho0, hb⟩; refine ⟨_, rfl, ?_⟩; have HO665 := am (Kd.R_lower ho0 (below_size (sbw))); replace BK658 := bb BK658 hb; replace HB := bsw hb; (try clear hb); (try clear hk); (try clear ho0)) | ((with_reducible refine gc 24 rfl ?_); refine gL (some 30) Try.func24 #[.slice A4 l4.length c4] ?_; (with_reducible refine (laws_toIntS.calls k _ _ l4 t666 _ ?side1 ?side2 A14.out).mono ?_); (case side1 => exact cb HR4); (case side2 => exact HC4.out); rintro e w81 ⟨v667, rfl, ho0, hb⟩; refine ⟨_, rfl, ?_⟩; replace HO665 := am (Kd.R_elder' (sr HO665) (Kd.R_base ho0) hb); have HO668 := am (Kd.R_lower ho0 (below_size (sbw))); replace BK658 := bb BK658 hb; replace HB := bsw hb; (try clear hb); (try clear hk); (try clear ho0); obtain ⟨Ao82, co82, eo82⟩ := Kd.R_slice HO665.out; subst eo82; obtain ⟨Ao83, co83, eo83⟩ := Kd.R_slice HO668.out; subst eo83) | ((with_reducible refine gc 22 rfl ?_); refine gL (some 31) Try.func22 #[.agg #[.int .i64 t660, .int .i64 t661, .int .i64 t662, .slice Ao82 t663.length co82], .int .i64 a1, .int .i64 a2, .int .i64 a3, .slice Ao83 t666.length co83] ?_; (with_reducible refine (spec_RepairHop.calls k t660 t661 t662 _ _ t663 a1 a2 a3 _ _ t666 t669 _ ?side1 ?side2 ?side3 ?side4 A15.out).mono ?_); (case side1 => exact cr HO665); (case side2 => exact (Kd.R_reads' HO665.out).2.1); (case side3 => exact cr HO668); (case side4 => exact (Kd.R_reads' HO668.out).2.1); rintro e w84 ⟨rfl, hb⟩; refine ⟨_, rfl, ?_⟩; replace HO665 := rb HO665 hb; replace HO668 := rb HO668 hb; replace BK658 := bb BK658 hb; replace HB := bsw hb; (try clear hb); (try clear hk); obtain ⟨hcz85_0, hcz85_1, hcz85_2, hcz85_3, hfz85_0, hfz85_1, hfz85_2, hfz85_3⟩ := cc4 BK658) | ((with_reducible refine gc 23 rfl ?_); refine gL (some 33) Try.func23 #[.agg #[.int .i64 a0_0, .int .i64 a0_1, .int .i64 a0_2, .slice A0_3 l0_3.length c0_3]] ?_; (with_reducible refine (laws_toProgram.calls k a0_0 a0_1 a0_2 _ _ l0_3 t670 t671 t672 t673 _ ?side1 ?side2 A16.out).mono ?_); (case side1 => exact cb HR0_3); (case side2 => exact HC0_3.out); rintro e w86 ⟨v674, rfl, ho0, hb⟩; refine ⟨_, rfl, ?_⟩; have HO675 := am (Kd.R_lower (Kd.R_new' (Kd.R_new' ho0 (Kd.R_lt (sr HO665))) (Kd.R_lt (sr HO668))) (below_size (sbw))); replace HO665 := am (Kd.R_elder' (sr HO665) (Kd.R_base ho0) hb); replace HO668 := rb HO668 hb; replace BK658 := bb BK658 hb; replace HB := bsw hb; (try clear hb); (try clear hk); (try clear ho0)) | ((with_reducible refine gd 13 rfl ?_); refine bx 13 #[.int .i64 0, .int .i64 0, .int .i64 0, .slice none 0 0] 49 ?_; intro gb676 hg w87 hbox hb; replace HO665 := rb HO665 hb; replace HO668 := rb HO668 hb; replace HO675 := rb HO675 hb; have GW676 := bzw w hg; have GE676 := bzw w hg; replace HB := bsw hb; have BK676 := am hbox; have NB658_676 := nl BK658 hg; have NB676_658 := ng BK658 hg; replace BK658 := bb BK658 hb; clear hb hbox hg; have hnb88 := NB676_658.out; have hnc88 := NB658_676.out; obtain ⟨hcz89_0, hcz89_1, hcz89_2, hcz89_3, hfz89_0, hfz89_1, hfz89_2, hfz89_3⟩ := cc4 BK676; obtain ⟨Ao90, co90, eo90⟩ := Kd.R_slice HO675.out; subst eo90) | ((with_reducible refine gc 24 rfl ?_); refine gL (some 35) Try.func24 #[.slice A4 l4.length c4] ?_; (with_reducible refine (laws_toIntS.calls k _ _ l4 t677 _ ?side1 ?side2 A17.out).mono ?_); (case side1 => exact Kd.C_below HR4.out (sbw)); (case side2 => exact HC4.out); rintro e w91 ⟨v678, rfl, ho0, hb⟩; refine ⟨_, rfl, ?_⟩; replace HO665 := am (Kd.R_elder' (by (with_reducible repeat (first | apply Kd.R_alloc | apply Kd.R_drewN | apply Kd.R_drew)); exact (Kd.R_mono (Kd.R_far (p := ⟨gb676, 3, none⟩) (h3 HO665 BK676) (fun _ hk => hk.2) (.slice Ao90 t673.length co90)) (fun _ h_ => h_.1))) (Kd.R_base ho0) hb); replace HO675 := am (Kd.R_elder' (by (with_reducible repeat (first | apply Kd.R_alloc | apply Kd.R_drewN | apply Kd.R_drew)); exact (Kd.R_mono (Kd.R_far (p := ⟨gb676, 3, none⟩) (h3 HO675 BK676) (fun _ hk => hk.2) (.slice Ao90 t673.length co90)) (fun _ h_ => h_.1))) (Kd.R_base ho0) hb); have HO679 := am (Kd.R_lower (Kd.R_new' ho0 (Kd.R_lt a21_3)) (below_size (sbw))); replace HO668 := am (Kd.R_elder' a21_3 (Kd.R_base ho0) hb); replace BK658 := am (blk_below (g := gb658) (o := .cells #[.int .i64 a0_0, .int .i64 a0_1, .int .i64 a0_2, .slice A0_3 l0_3.length c0_3] 44 (0, 0)) (sp BK658) hb); replace BK676 := am (blk_below (g := gb676) (o := .cells #[.int .i64 t670, .int .i64 t671, .int .i64 t672, .slice Ao90 t673.length co90] 49 (0, 0)) (sp BK676) hb); replace HB := bsw hb; (try clear hb); (try clear hk); (try clear ho0); obtain ⟨hcz92_0, hcz92_1, hcz92_2, hcz92_3, hfz92_0, hfz92_1, hfz92_2, hfz92_3⟩ := cc4 BK676; obtain ⟨Ao93, co93, eo93⟩ := Kd.R_slice HO679.out; subst eo93) | ((with_reducible refine gc 25 rfl ?_); refine gL (some 41) Try.func25 #[.agg #[.int .i64 t670, .int .i64 t671, .int .i64 t672, .slice Ao90 t673.length co90], .int .i64 a1, .int .i64 a2, .int .i64 a3, .slice Ao93 t677.length co93] ?_; (with_reducible refine (impl_RepairHop.calls k t670 t671 t672 _ _ t673 a1 a2 a3 _ _ t677 t680 _ ?side1 ?side2 ?side3 ?side4 A18.out).mono ?_); (case side1 => exact cr HO675); (case side2 => exact (Kd.R_reads' HO675.out).2.1); (case side3 => exact cr HO679); (case side4 => exact (Kd.R_reads' HO679.out).2.1); rintro e w94 ⟨rfl, hb⟩; refine ⟨_, rfl, ?_⟩; replace HO665 := rb HO665 hb; replace HO668 := rb HO668 hb; replace HO675 := rb HO675 hb; replace HO679 := rb HO679 hb; replace BK658 := bb BK658 hb; replace BK676 := bb BK676 hb; replace HB := bsw hb; (try clear hb); (try clear hk)))
     replace HO665 := am (Kd.R_drew HO665.out)
     replace HO668 := am (Kd.R_drew HO668.out)
     replace HO675 := am (Kd.R_drew HO675.out)
     replace HO679 := am (Kd.R_drew HO679.out)
     replace BK658 := am (blk_drew BK658.out)
     replace BK676 := am (blk_drew BK676.out)
     replace HB := am (below_drew1 HB.out)
     refine start_ (n := 5) (S := fun w' => w'.cell? ⟨gb676, 0, none⟩ = some (.int .i64 t670) ∧ w'.cell? ⟨gb676, 1, none⟩ = some (.int .i64 t671) ∧ w'.cell? ⟨gb676, 2, none⟩ = some (.int .i64 t672) ∧ w'.cell? ⟨gb676, 3, none⟩ = some (.slice Ao90 t673.length co90) ∧ w'.cell? ⟨gb658, 0, none⟩ = some (.int .i64 a0_0) ∧ w'.cell? ⟨gb658, 1, none⟩ = some (.int .i64 a0_1) ∧ w'.cell? ⟨gb658, 2, none⟩ = some (.int .i64 a0_2) ∧ w'.cell? ⟨gb658, 3, none⟩ = some (.slice A0_3 l0_3.length c0_3)) (ds := []) #[false, false, false, false, false] (by kernel_rfl) rfl rfl ⟨bc0 BK676, bc1 BK676, bc2 BK676, bc3 BK676, bc0 BK658, bc1 BK658, bc2 BK658, bc3 BK658⟩ (fun hHeld => ?_)
     generalize w94.drew = w95 at HO665 HO668 HO675 HO679 BK658 BK676 HB hHeld ⊢
     refine ta8 0 45 (bt 5 1) hHeld ?_
     refine ta8 1 46 (bt 5 3) hHeld ?_
     refine one_ (i := 2) (N := some 47) (bt 5 7) rfl rfl (by kernel_rfl) (by decide) (fun K hK => ?_)
     refine goes_ Try.func23 (by kernel_rfl) rfl #[.agg #[.int .i64 a0_0, .int .i64 a0_1, .int .i64 a0_2, .slice A0_3 l0_3.length c0_3]] (by rfl) rfl rfl sl ?_
     with_reducible refine (laws_toProgram.calls k a0_0 a0_1 a0_2 _ _ l0_3 t681 t682 t683 t684 _ ?side1 ?side2 A20.out).mono ?_
     (case side1 => exact cb HR0_3)
     (case side2 => exact HC0_3.out)
     rintro e w96 ⟨v685, rfl, ho0, hb⟩
     refine ⟨_, rfl, ?_⟩
     have HO686 := am (Kd.R_lower (Kd.R_new' (Kd.R_new' (Kd.R_new' (Kd.R_new' ho0 (Kd.R_lt (sr HO665))) (Kd.R_lt (sr HO668))) (Kd.R_lt (sr HO675))) (Kd.R_lt (sr HO679))) (below_size (sbw)))
     replace HO665 := am (Kd.R_elder' (sr HO665) (Kd.R_base ho0) hb)
     replace HO668 := rb HO668 hb
     replace HO675 := am (Kd.R_elder' (sr HO675) (Kd.R_base ho0) hb)
     replace HO679 := rb HO679 hb
     replace BK658 := bb BK658 hb
     replace BK676 := bb BK676 hb
     replace HB := bsw hb
     (try clear hb)
     (try clear hb2)
     (try clear hk)
     (try clear hi)
     (try clear ho0)
     obtain ⟨Ao97, co97, eo97⟩ := Kd.R_slice HO686.out
     (first | subst eo97 | (injection eo97 with f1_ f2_ f3_; have f4_ := f1_.symm; have f5_ := f3_.symm; clear f1_ f2_ f3_; subst f4_; subst f5_))
     refine hK.out _ _ ⟨bc0 BK676, bc1 BK676, bc2 BK676, bc3 BK676, bc0 BK658, bc1 BK658, bc2 BK658, bc3 BK658⟩ (fun hHeld => ?_)
     clear hK K
     refine nm 47 ?_
     refine one_ (i := 3) (N := some 48) (bt 5 15) rfl rfl (by kernel_rfl) (by decide) (fun K hK => ?_)
     refine goes_ Try.func26 (by kernel_rfl) rfl #[.agg #[.int .i64 t670, .int .i64 t671, .int .i64 t672, .slice Ao90 t673.length co90], .agg #[.int .i64 t681, .int .i64 t682, .int .i64 t683, .slice Ao97 t684.length co97]] (by rfl) rfl rfl sl ?_
     with_reducible refine (laws_eqProgram.calls k t670 t671 t672 _ _ t673 t681 t682 t683 _ _ t684 false _ ?side1 ?side2 ?side3 ?side4 A21.out).mono ?_
     (case side1 => exact cr HO675)
     (case side2 => exact (Kd.R_reads' HO675.out).2.1)
     (case side3 => exact cr HO686)
     (case side4 => exact (Kd.R_reads' HO686.out).2.1)
     rintro e w98 ⟨rfl, hb⟩
     refine ⟨_, rfl, ?_⟩
     replace HO665 := rb HO665 hb
     replace HO668 := rb HO668 hb
     replace HO675 := rb HO675 hb
     replace HO679 := rb HO679 hb
     replace HO686 := rb HO686 hb
     replace BK658 := bb BK658 hb
     replace BK676 := bb BK676 hb
     replace HB := bsw hb
     (try clear hb)
     (try clear hb2)
     (try clear hk)
     (try clear hi)
     refine hK.out _ _ ⟨bc0 BK676, bc1 BK676, bc2 BK676, bc3 BK676, bc0 BK658, bc1 BK658, bc2 BK658, bc3 BK658⟩ (fun hHeld => ?_)
     clear hK K
     refine nm 48 ?_
     refine pu 4 49 (bt 5 31) ?_
     refine done_ (by kernel_rfl) ?_
     try go_wp2
     go_ret
     exact ⟨se, sbw⟩
   ·exact e21_0
end Go.Proofs.Ytohbccekdmdmbaa.QFnExactRepairHop
