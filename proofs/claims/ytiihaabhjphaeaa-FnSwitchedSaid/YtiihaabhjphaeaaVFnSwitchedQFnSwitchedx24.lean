/- Printed by a program of the session. Conditions: none. (squeezed). -/
import Derived.Test.YtiihaabhjphaeaaVFnSwitchedQFnSwitchedx8
import Derived.Test.YtiihaabhjphaeaaVFnSwitchedQFnSwitchedx22
import Derived.Test.YtiihaabhjphaeaaVFnSwitchedQFnSwitchedx23
namespace Go.Proofs.Ytiihaabhjphaeaa.QFnSwitched
set_option maxHeartbeats 8000000
set_option maxRecDepth 100000
open Go.RowKit Go.Proofs.YtiihaabhjphaeaaW.PrintWords Go.Proofs.YtiihaabhjphaeaaW.PrintLast Go.Proofs.YtiihaabhjphaeaaW.PrintMore Go.Proofs.Ytiihaabhjphaeaa.Open Go.Proofs.Ytiihaabhjphaeaa.Sq
attribute [local go_sem] max2_int min2_int max_two min_two max_three min_three max_four min_four   -- for this text's walks alone
attribute [local go_sem] isSome_set
set_option linter.unusedVariables false
set_option linter.unusedSimpArgs false

theorem a24_8 {P : Prop} (h : P := by (with_reducible repeat (first | apply Kd.S_alloc | apply Kd.S_drewN | apply Kd.S_drew)); exact (Kd.S_mono (Kd.S_far (p := ⟨gb732, 2, none⟩) (Kd.S_far (p := ⟨gb732, 1, none⟩) (Kd.S_far (p := ⟨gb732, 0, none⟩) (Kd.S_mono HO715.out (fun k_ hk => (⟨hk, hk.2.2⟩ : _ ∧ k_ ≠ gb732))) (fun _ hk => hk.2) (.int .i64 t724)) (fun _ hk => hk.2) (.slice Ao95 t725.length co95)) (fun _ hk => hk.2) (.slice Ao97 t728.length co97)) (fun _ h_ => h_.1))) : P := h
theorem a24_7 {P : Prop} (h : P := by (with_reducible repeat (first | apply Kd.S_alloc | apply Kd.S_drewN | apply Kd.S_drew)); exact (Kd.S_mono (Kd.S_far (p := ⟨gb732, 2, none⟩) (Kd.S_far (p := ⟨gb732, 1, none⟩) (Kd.S_far (p := ⟨gb732, 0, none⟩) (Kd.S_mono HO715.out (fun k_ hk => (⟨hk, hk.2.2⟩ : _ ∧ k_ ≠ gb732))) (fun _ hk => hk.2) (.int .i64 t724)) (fun _ hk => hk.2) (.slice Ao43 t725.length co43)) (fun _ hk => hk.2) (.slice Ao45 t728.length co45)) (fun _ h_ => h_.1))) : P := h
theorem a24_6 {P : Prop} (h : P := by (with_reducible repeat (first | apply Kd.S_alloc | apply Kd.S_drewN | apply Kd.S_drew)); exact (Kd.S_mono (Kd.S_far (p := ⟨gb732, 2, none⟩) (Kd.S_far (p := ⟨gb732, 1, none⟩) (Kd.S_far (p := ⟨gb732, 0, none⟩) (Kd.S_mono HO715.out (fun k_ hk => (⟨hk, hk.2.2⟩ : _ ∧ k_ ≠ gb732))) (fun _ hk => hk.2) (.int .i64 t724)) (fun _ hk => hk.2) (.slice Ao69 t725.length co69)) (fun _ hk => hk.2) (.slice Ao71 t728.length co71)) (fun _ h_ => h_.1))) : P := h
theorem a24_5 {P : Prop} (h : P := by (with_reducible repeat (first | apply Kd.S_alloc | apply Kd.S_drewN | apply Kd.S_drew)); exact (Kd.S_mono (Kd.S_far (p := ⟨gb732, 2, none⟩) (Kd.S_far (p := ⟨gb732, 1, none⟩) (Kd.S_far (p := ⟨gb732, 0, none⟩) (Kd.S_mono HO715.out (fun k_ hk => (⟨hk, hk.2.2⟩ : _ ∧ k_ ≠ gb732))) (fun _ hk => hk.2) (.int .i64 t724)) (fun _ hk => hk.2) (.slice Ao119 t725.length co119)) (fun _ hk => hk.2) (.slice Ao121 t728.length co121)) (fun _ h_ => h_.1))) : P := h
theorem a24_4 {P : Prop} (h : P := by (with_reducible repeat (first | apply Kd.S_alloc | apply Kd.S_drewN | apply Kd.S_drew)); exact (Kd.S_mono (Kd.S_far (p := ⟨gb732, 2, none⟩) (Kd.S_far (p := ⟨gb732, 1, none⟩) (Kd.S_far (p := ⟨gb732, 0, none⟩) (Kd.S_mono HO715.out (fun k_ hk => (⟨hk, hk.2.2⟩ : _ ∧ k_ ≠ gb732))) (fun _ hk => hk.2) (.int .i64 t724)) (fun _ hk => hk.2) (.slice Ao143 t725.length co143)) (fun _ hk => hk.2) (.slice Ao145 t728.length co145)) (fun _ h_ => h_.1))) : P := h
theorem a24_3 {P : Prop} (h : P := by (with_reducible repeat (first | apply Kd.S_alloc | apply Kd.S_drewN | apply Kd.S_drew)); exact (Kd.S_mono (Kd.S_far (p := ⟨gb732, 2, none⟩) (Kd.S_far (p := ⟨gb732, 1, none⟩) (Kd.S_far (p := ⟨gb732, 0, none⟩) (Kd.S_mono HO715.out (fun k_ hk => (⟨hk, hk.2.2⟩ : _ ∧ k_ ≠ gb732))) (fun _ hk => hk.2) (.int .i64 t724)) (fun _ hk => hk.2) (.slice Ao168 t725.length co168)) (fun _ hk => hk.2) (.slice Ao170 t728.length co170)) (fun _ h_ => h_.1))) : P := h
theorem a24_2 {P : Prop} (h : P := by (with_reducible repeat (first | apply Kd.S_alloc | apply Kd.S_drewN | apply Kd.S_drew)); exact Kd.S_mono HO715.out (fun _ hk => ⟨hk.1.1.2, ⟨hk.1.2, hk.2⟩⟩)) : P := h
theorem a24_1 {P : Prop} (h : P := by simp only [putAll, Act.put, List.setIfInBounds_toArray, List.set_cons_zero, List.set_cons_succ]) : P := h
theorem a24_0 {P : Prop} (h : P := by (with_reducible repeat (first | apply Kd.S_alloc | apply Kd.S_drewN | apply Kd.S_drew)); exact Kd.S_mono HO715.out (fun _ hk => ⟨hk.1.2, ⟨hk.2, hk.1.1.2⟩⟩)) : P := h
def laws_FnSwitched.f (k : Nat) (l0 : List Int) : Option (Bool) := (laws_big.f l0).bind fun t709 => (if t709 = true then (some true) else ((spec_DrawHopAt.f k l0).bind fun bt710 => ((impl_IsProgram.f k bt710.1 bt710.2.1 bt710.2.2.1 bt710.2.2.2.1).bind fun t720 => ((spec_IsProgram.f k bt710.1 bt710.2.1 bt710.2.2.1 bt710.2.2.2.1).bind fun t721 => (if (t720 != t721) = true then (some false) else ((impl_IsProgram.f k bt710.1 bt710.2.1 bt710.2.2.1 bt710.2.2.2.1).bind fun t722 => (if t722 = true then ((impl_PieceAt.f bt710.1 bt710.2.1 bt710.2.2.1 bt710.2.2.2.1 bt710.2.2.2.2.2.2).bind fun t723 => ((impl_TableIn.f bt710.1 bt710.2.1 bt710.2.2.1 bt710.2.2.2.1 t723 bt710.2.2.2.2.2.1).bind fun bt724 => ((impl_HopAt.f k bt710.1 bt710.2.1 bt710.2.2.1 bt710.2.2.2.1 bt710.2.2.2.2.1 bt710.2.2.2.2.2.1 bt710.2.2.2.2.2.2).bind fun t733 => (if t733 ≥ 0 then (if bt724.2.2.2 = true then (if 0 ≤ bt710.2.2.2.2.1 then (if bt710.2.2.2.2.1 < (bt724.2.2.1.length : Int) then (if (rd bt724.2.2.1 bt710.2.2.2.2.1) = t733 then (if bt710.2.2.1 > 0 then (some true) else ((impl_IsHolding.f k bt710.1 bt710.2.1 bt710.2.2.1 bt710.2.2.2.1 bt710.2.2.2.2.1 bt710.2.2.2.2.2.1 bt710.2.2.2.2.2.2).bind fun t735 => (some (!t735)))) else (some false)) else (none)) else (none)) else (some false)) else (if bt710.2.2.1 > 0 then (some true) else ((impl_IsHolding.f k bt710.1 bt710.2.1 bt710.2.2.1 bt710.2.2.2.1 bt710.2.2.2.2.1 bt710.2.2.2.2.2.1 bt710.2.2.2.2.2.2).bind fun t736 => (some (!t736)))))))) else (some true))))))))
theorem laws_FnSwitched.mono : ∀ a0 k, LeO (laws_FnSwitched.f k a0) (laws_FnSwitched.f (k + 1) a0) := by
  intro a0 k
  unfold laws_FnSwitched.f
  have m0 := @impl_HopAt.mono
  have m1 := @impl_IsHolding.mono
  have m2 := @impl_IsProgram.mono
  have m3 := @spec_DrawHopAt.mono
  have m4 := @spec_IsProgram.mono
  exact mo
def laws_FnSwitched.T8 : Bool × List (List Nat × List Nat) := (true, [([], []), ([], []), ([], []), ([1, 2], [1, 2]), ([], []), ([0, 3, 4, 3], [0, 3, 4]), ([5], [5]), ([6], [6]), ([6], [6]), ([], []), ([9, 7, 5, 0, 1, 2, 3, 4, 5, 6, 7, 9], [7, 9]), ([8, 10, 0, 1, 2, 3, 4, 5, 6, 7, 8, 9, 10], [8])])
def laws_FnSwitched.B8 : List Nat := [0, 0, 0, 6, 0, 31, 63, 127, 127, 0, 767, 2047]
theorem laws_FnSwitched.tab8 : rtab .any (opsOf Try.f6 8) = laws_FnSwitched.T8 := by kernel_rfl
theorem laws_FnSwitched.bits8 : waitsOk laws_FnSwitched.T8.2 laws_FnSwitched.B8 = true := by kernel_rfl
theorem e24_0 {P : Prop} (h : P := by
 try go_wp2_with (first | (have _ := A151; (with_reducible refine gc 27 rfl ?_); refine gL (some 40) Try.func27 #[.agg #[.int .i64 t710, .int .i64 t711, .int .i64 t712, .slice Ao155 t713.length co155], .int .i64 t716, .int .i64 t717, .int .i64 t718] ?_; (with_reducible refine (impl_HopAt.calls k t710 t711 t712 _ _ t713 t716 t717 t718 t733 _ ?side1 ?side2 A20.out).mono ?_); (case side1 => refine (Kd.S_reads' (e := 105) (base := w.heap.size) (ok := fun k_ => (some k_ ≠ (.slice Ao168 t725.length co168 : Value).ownBlock ∧ (some k_ ≠ (.slice Ao170 t728.length co170 : Value).ownBlock ∧ k_ ≠ gb732))) (n := t713.length) (c := co155) ?_).2.2; exact a24_3); (case side2 => exact (Kd.S_reads' HO715.out).2.1); rintro e w174 ⟨rfl, hb⟩; refine ⟨_, rfl, ?_⟩; replace HO715 := am (Kd.S_below a24_3 hb); replace HO727 := am (Kd.R_below (s3 HO727 BK732) hb); replace HO730 := am (Kd.R_below (s3 HO730 BK732) hb); replace BK719 := am (blk_below (g := gb719) (o := .cells #[.int .i64 t710, .int .i64 t711, .int .i64 t712, .slice Ao155 t713.length co155] 31 (0, 0)) (sp BK719) hb); replace BK732 := am (blk_below (g := gb732) (o := .cells #[.int .i64 t724, .slice Ao168 t725.length co168, .slice Ao170 t728.length co170] 55 (0, 0)) (sp BK732) hb); replace HB := bsw hb; (try clear hb); (try clear hk); obtain ⟨hcz175_0, hcz175_1, hcz175_2, hcz175_3, hfz175_0, hfz175_1, hfz175_2, hfz175_3⟩ := cc4 BK719) | (have _ := A151; go_at_call 43; (with_reducible refine (impl_IsHolding.calls k t710 t711 t712 _ _ t713 t716 t717 t718 t736 _ ?side1 ?side2 A151.out).mono ?_); (case side1 => repeat (first | exact (Kd.S_reads' HO715.out).2.2 | (with_reducible refine Kd.C_alloc ?_ _) | (with_reducible refine Kd.C_drewN ?_ _) | (with_reducible refine Kd.C_drew ?_))); (case side2 => exact (Kd.S_reads' HO715.out).2.1); rintro e w176 ⟨rfl, hb⟩; replace HO715 := am (Kd.S_below (ss HO715) hb); replace HO727 := rb HO727 hb; replace HO730 := rb HO730 hb; replace BK719 := bb BK719 hb; replace BK732 := bb BK732 hb; replace HB := bsw hb; (try clear hb); (try clear hk)) | (have _ := c126b0; (with_reducible refine gc 27 rfl ?_); refine gL (some 40) Try.func27 #[.agg #[.int .i64 t710, .int .i64 t711, .int .i64 t712, .slice Ao130 t713.length co130], .int .i64 t716, .int .i64 t717, .int .i64 t718] ?_; (with_reducible refine (impl_HopAt.calls k t710 t711 t712 _ _ t713 t716 t717 t718 t733 _ ?side1 ?side2 A20.out).mono ?_); (case side1 => refine (Kd.S_reads' (e := 105) (base := w.heap.size) (ok := fun k_ => (some k_ ≠ (.slice Ao143 t725.length co143 : Value).ownBlock ∧ (some k_ ≠ (.slice Ao145 t728.length co145 : Value).ownBlock ∧ k_ ≠ gb732))) (n := t713.length) (c := co130) ?_).2.2; exact a24_4); (case side2 => exact (Kd.S_reads' HO715.out).2.1); rintro e w149 ⟨rfl, hb⟩; refine ⟨_, rfl, ?_⟩; replace HO715 := am (Kd.S_below a24_4 hb); replace HO727 := am (Kd.R_below (s3 HO727 BK732) hb); replace HO730 := am (Kd.R_below (s3 HO730 BK732) hb); replace BK719 := am (blk_below (g := gb719) (o := .cells #[.int .i64 t710, .int .i64 t711, .int .i64 t712, .slice Ao130 t713.length co130] 31 (0, 0)) (sp BK719) hb); replace BK732 := am (blk_below (g := gb732) (o := .cells #[.int .i64 t724, .slice Ao143 t725.length co143, .slice Ao145 t728.length co145] 55 (0, 0)) (sp BK732) hb); replace HB := bsw hb; (try clear hb); (try clear hk); obtain ⟨hcz150_0, hcz150_1, hcz150_2, hcz150_3, hfz150_0, hfz150_1, hfz150_2, hfz150_3⟩ := cc4 BK719) | (have _ := A52; (with_reducible refine gc 27 rfl ?_); refine gL (some 40) Try.func27 #[.agg #[.int .i64 t710, .int .i64 t711, .int .i64 t712, .slice Ao56 t713.length co56], .int .i64 t716, .int .i64 t717, .int .i64 t718] ?_; (with_reducible refine (impl_HopAt.calls k t710 t711 t712 _ _ t713 t716 t717 t718 t733 _ ?side1 ?side2 A20.out).mono ?_); (case side1 => refine (Kd.S_reads' (e := 105) (base := w.heap.size) (ok := fun k_ => (some k_ ≠ (.slice Ao69 t725.length co69 : Value).ownBlock ∧ (some k_ ≠ (.slice Ao71 t728.length co71 : Value).ownBlock ∧ k_ ≠ gb732))) (n := t713.length) (c := co56) ?_).2.2; exact a24_6); (case side2 => exact (Kd.S_reads' HO715.out).2.1); rintro e w75 ⟨rfl, hb⟩; refine ⟨_, rfl, ?_⟩; replace HO715 := am (Kd.S_below a24_6 hb); replace HO727 := am (Kd.R_below (s3 HO727 BK732) hb); replace HO730 := am (Kd.R_below (s3 HO730 BK732) hb); replace BK719 := am (blk_below (g := gb719) (o := .cells #[.int .i64 t710, .int .i64 t711, .int .i64 t712, .slice Ao56 t713.length co56] 31 (0, 0)) (sp BK719) hb); replace BK732 := am (blk_below (g := gb732) (o := .cells #[.int .i64 t724, .slice Ao69 t725.length co69, .slice Ao71 t728.length co71] 55 (0, 0)) (sp BK732) hb); replace HB := bsw hb; (try clear hb); (try clear hk); obtain ⟨hcz76_0, hcz76_1, hcz76_2, hfz76_0, hfz76_1, hfz76_2⟩ := cc3 BK732; have p734 : 0 ≤ (t716 : Int) := sa; have q734 : t716 < (t728.length : Int) := sa; obtain ⟨ad734, e734, hx734_0⟩ := Kd.at_int (Kd.R_reads' HO730.out).2.2 t716 p734 q734; cases e734; replace p734 := eq_true p734; replace q734 := eq_true q734; obtain ⟨hcz77_0, hcz77_1, hcz77_2, hcz77_3, hfz77_0, hfz77_1, hfz77_2, hfz77_3⟩ := cc4 BK719) | (have _ := A52; go_at_call 43; (with_reducible refine (impl_IsHolding.calls k t710 t711 t712 _ _ t713 t716 t717 t718 t735 _ ?side1 ?side2 A52.out).mono ?_); (case side1 => repeat (first | exact (Kd.S_reads' HO715.out).2.2 | (with_reducible refine Kd.C_alloc ?_ _) | (with_reducible refine Kd.C_drewN ?_ _) | (with_reducible refine Kd.C_drew ?_))); (case side2 => exact (Kd.S_reads' HO715.out).2.1); rintro e w78 ⟨rfl, hb⟩; replace HO715 := am (Kd.S_below (ss HO715) hb); replace HO727 := rb HO727 hb; replace HO730 := rb HO730 hb; replace BK719 := bb BK719 hb; replace BK732 := bb BK732 hb; replace HB := bsw hb; (try clear hb); (try clear hk)) | (have _ := c26b0; (with_reducible refine gc 27 rfl ?_); refine gL (some 40) Try.func27 #[.agg #[.int .i64 t710, .int .i64 t711, .int .i64 t712, .slice Ao30 t713.length co30], .int .i64 t716, .int .i64 t717, .int .i64 t718] ?_; (with_reducible refine (impl_HopAt.calls k t710 t711 t712 _ _ t713 t716 t717 t718 t733 _ ?side1 ?side2 A20.out).mono ?_); (case side1 => refine (Kd.S_reads' (e := 105) (base := w.heap.size) (ok := fun k_ => (some k_ ≠ (.slice Ao43 t725.length co43 : Value).ownBlock ∧ (some k_ ≠ (.slice Ao45 t728.length co45 : Value).ownBlock ∧ k_ ≠ gb732))) (n := t713.length) (c := co30) ?_).2.2; exact a24_7); (case side2 => exact (Kd.S_reads' HO715.out).2.1); rintro e w49 ⟨rfl, hb⟩; refine ⟨_, rfl, ?_⟩; replace HO715 := am (Kd.S_below a24_7 hb); replace HO727 := am (Kd.R_below (s3 HO727 BK732) hb); replace HO730 := am (Kd.R_below (s3 HO730 BK732) hb); replace BK719 := am (blk_below (g := gb719) (o := .cells #[.int .i64 t710, .int .i64 t711, .int .i64 t712, .slice Ao30 t713.length co30] 31 (0, 0)) (sp BK719) hb); replace BK732 := am (blk_below (g := gb732) (o := .cells #[.int .i64 t724, .slice Ao43 t725.length co43, .slice Ao45 t728.length co45] 55 (0, 0)) (sp BK732) hb); replace HB := bsw hb; (try clear hb); (try clear hk); obtain ⟨hcz50_0, hcz50_1, hcz50_2, hfz50_0, hfz50_1, hfz50_2⟩ := cc3 BK732; have p734 : 0 ≤ (t716 : Int) := sa; have q734 : t716 < (t728.length : Int) := sa; obtain ⟨ad734, e734, hx734_0⟩ := Kd.at_int (Kd.R_reads' HO730.out).2.2 t716 p734 q734; cases e734; replace p734 := eq_true p734; replace q734 := eq_true q734; obtain ⟨hcz51_0, hcz51_1, hcz51_2, hcz51_3, hfz51_0, hfz51_1, hfz51_2, hfz51_3⟩ := cc4 BK719) | (have _ := c23b0; (with_reducible refine gc 27 rfl ?_); refine gL (some 40) Try.func27 #[.agg #[.int .i64 t710, .int .i64 t711, .int .i64 t712, .slice Ao82 t713.length co82], .int .i64 t716, .int .i64 t717, .int .i64 t718] ?_; (with_reducible refine (impl_HopAt.calls k t710 t711 t712 _ _ t713 t716 t717 t718 t733 _ ?side1 ?side2 A20.out).mono ?_); (case side1 => refine (Kd.S_reads' (e := 105) (base := w.heap.size) (ok := fun k_ => (some k_ ≠ (.slice Ao95 t725.length co95 : Value).ownBlock ∧ (some k_ ≠ (.slice Ao97 t728.length co97 : Value).ownBlock ∧ k_ ≠ gb732))) (n := t713.length) (c := co82) ?_).2.2; exact a24_8); (case side2 => exact (Kd.S_reads' HO715.out).2.1); rintro e w101 ⟨rfl, hb⟩; refine ⟨_, rfl, ?_⟩; replace HO715 := am (Kd.S_below a24_8 hb); replace HO727 := am (Kd.R_below (s3 HO727 BK732) hb); replace HO730 := am (Kd.R_below (s3 HO730 BK732) hb); replace BK719 := am (blk_below (g := gb719) (o := .cells #[.int .i64 t710, .int .i64 t711, .int .i64 t712, .slice Ao82 t713.length co82] 31 (0, 0)) (sp BK719) hb); replace BK732 := am (blk_below (g := gb732) (o := .cells #[.int .i64 t724, .slice Ao95 t725.length co95, .slice Ao97 t728.length co97] 55 (0, 0)) (sp BK732) hb); replace HB := bsw hb; (try clear hb); (try clear hk); obtain ⟨hcz102_0, hcz102_1, hcz102_2, hfz102_0, hfz102_1, hfz102_2⟩ := cc3 BK732; have p734 : 0 ≤ (t716 : Int) := sa; have q734 : t716 < (t728.length : Int) := sa; obtain ⟨ad734, e734, hx734_0⟩ := Kd.at_int (Kd.R_reads' HO730.out).2.2 t716 p734 q734; cases e734; replace p734 := eq_true p734; replace q734 := eq_true q734) | ((with_reducible refine gc 27 rfl ?_); refine gL (some 40) Try.func27 #[.agg #[.int .i64 t710, .int .i64 t711, .int .i64 t712, .slice Ao106 t713.length co106], .int .i64 t716, .int .i64 t717, .int .i64 t718] ?_; (with_reducible refine (impl_HopAt.calls k t710 t711 t712 _ _ t713 t716 t717 t718 t733 _ ?side1 ?side2 A20.out).mono ?_); (case side1 => refine (Kd.S_reads' (e := 105) (base := w.heap.size) (ok := fun k_ => (some k_ ≠ (.slice Ao119 t725.length co119 : Value).ownBlock ∧ (some k_ ≠ (.slice Ao121 t728.length co121 : Value).ownBlock ∧ k_ ≠ gb732))) (n := t713.length) (c := co106) ?_).2.2; exact a24_5); (case side2 => exact (Kd.S_reads' HO715.out).2.1); rintro e w125 ⟨rfl, hb⟩; refine ⟨_, rfl, ?_⟩; replace HO715 := am (Kd.S_below a24_5 hb); replace HO727 := am (Kd.R_below (s3 HO727 BK732) hb); replace HO730 := am (Kd.R_below (s3 HO730 BK732) hb); replace BK719 := am (blk_below (g := gb719) (o := .cells #[.int .i64 t710, .int .i64 t711, .int .i64 t712, .slice Ao106 t713.length co106] 31 (0, 0)) (sp BK719) hb); replace BK732 := am (blk_below (g := gb732) (o := .cells #[.int .i64 t724, .slice Ao119 t725.length co119, .slice Ao121 t728.length co121] 55 (0, 0)) (sp BK732) hb); replace HB := bsw hb; (try clear hb); (try clear hk)))
 go_ret
 exact ⟨se, sbw⟩) : P := h
theorem laws_FnSwitched.calls (k : Nat) (A0 : Option Addr) (c0 : Nat) (l0 : List Int) (r : Bool) (w : World) (hr0 : Kd.C (Kd.int .u8) w A0 l0.length l0) (hc0 : l0.length ≤ c0) (h : laws_FnSwitched.f k l0 = some r) :
    Calls Try.prog 6 #[.slice A0 l0.length c0] w fun e w' => e = .returned (.bool r) ∧ Below w.heap.size w w' := by
 have hu31 := Try.underlying31
 have hu55 := Try.underlying55
 have HR0 := am hr0
 have HC0 := am hc0
 clear hr0 hc0
 have HB := am (Below.refl w.heap.size w)
 have H := h; unfold laws_FnSwitched.f at H
 clear h
 obtain ⟨t709, A2, H⟩ := bnd H
 obtain rfl | rfl := tt t709
 ·replace H := ip H
  obtain rfl := Option.some.inj H
  go_enter Try.func6, Try.ntmps6
  go_wp2_with (first | ((with_reducible refine gc 12 rfl ?_); refine gL (some 11) Try.func12 #[.slice A0 l0.length c0] ?_; (with_reducible refine (laws_big.calls _ _ l0 true _ ?side1 ?side2 A2.out).mono ?_); (case side1 => repeat (first | exact HR0.out | (with_reducible refine Kd.C_alloc ?_ _) | (with_reducible refine Kd.C_drewN ?_ _) | (with_reducible refine Kd.C_drew ?_))); (case side2 => exact HC0.out); rintro e w' ⟨rfl, ⟨nd, rfl⟩⟩; refine ⟨_, rfl, ?_⟩))
  go_ret
  exact ⟨se, sb⟩
 ·replace H := im H
  obtain ⟨⟨t710, t711, t712, t713, t716, t717, t718⟩, A4, H⟩ := bnd H
  try dsimp only at H
  obtain ⟨t720, A5, H⟩ := bnd H
  obtain ⟨t721, A6, H⟩ := bnd H
  obtain ⟨c7, H⟩ | ⟨c7, H⟩ := ie_ H
  ·have c7b0 : (t720 != t721) = true := c7
   (try (have c7b1 : decide (t720 = t721) = false := by simpa using c7))
   (try (have c7b2 : (t720 == t721) = false := by simpa using c7))
   (try (have c7b3 : ¬ (t720 = t721) := by simpa using c7))
   clear c7
   obtain rfl := Option.some.inj H
   go_enter Try.func6, Try.ntmps6
   try go_wp2_with (first | ((with_reducible refine gc 12 rfl ?_); refine gL (some 11) Try.func12 #[.slice A0 l0.length c0] ?_; (with_reducible refine (laws_big.calls _ _ l0 false _ ?side1 ?side2 A2.out).mono ?_); (case side1 => repeat (first | exact HR0.out | (with_reducible refine Kd.C_alloc ?_ _) | (with_reducible refine Kd.C_drewN ?_ _) | (with_reducible refine Kd.C_drew ?_))); (case side2 => exact HC0.out); rintro e w' ⟨rfl, ⟨nd, rfl⟩⟩; refine ⟨_, rfl, ?_⟩) | ((with_reducible refine gc 39 rfl ?_); refine gL (some 14) Try.func39 #[.slice A0 l0.length c0] ?_; (with_reducible refine (spec_DrawHopAt.calls k _ _ l0 t710 t711 t712 t713 t716 t717 t718 _ ?side1 ?side2 A4.out).mono ?_); (case side1 => repeat (first | exact HR0.out | (with_reducible refine Kd.C_alloc ?_ _) | (with_reducible refine Kd.C_drewN ?_ _) | (with_reducible refine Kd.C_drew ?_))); (case side2 => exact HC0.out); rintro e w8 ⟨v714, rfl, ho0, hb⟩; refine ⟨_, rfl, ?_⟩; have HO715 := am (Kd.S_lower ho0 (below_size (sb))); replace HB := bs hb; (try clear hb); (try clear ho0)) | ((with_reducible refine gd 3 rfl ?_); refine bx 3 #[.int .i64 0, .int .i64 0, .int .i64 0, .slice none 0 0] 31 ?_; intro gb719 hg w9 hbox hb; replace HO715 := am (Kd.S_below (ss HO715) hb); have GW719 := bz w hg; have GE719 := bz w hg; replace HB := bs hb; have BK719 := am hbox; clear hb hbox hg; obtain ⟨hcz10_0, hcz10_1, hcz10_2, hcz10_3, hfz10_0, hfz10_1, hfz10_2, hfz10_3⟩ := cc4 BK719; obtain ⟨Ao11, co11, eo11⟩ := Kd.S_slice HO715.out; subst eo11))
   have n0_ : Aside0 (Kd.S k105 105 ((((w9.setCell ⟨gb719, 0, none⟩ (.int .i64 t710)).setCell ⟨gb719, 1, none⟩ (.int .i64 t711)).setCell ⟨gb719, 2, none⟩ (.int .i64 t712)).setCell ⟨gb719, 3, none⟩ (.slice Ao11 t713.length co11)) w.heap.size (fun _ => True) (.slice Ao11 t713.length co11) t713) := ⟨by (with_reducible repeat (first | apply Kd.S_alloc | apply Kd.S_drewN | apply Kd.S_drew)); exact Kd.S_mono (Kd.S_far (p := ⟨gb719, 3, none⟩) (Kd.S_far (p := ⟨gb719, 2, none⟩) (Kd.S_far (p := ⟨gb719, 1, none⟩) (Kd.S_far (p := ⟨gb719, 0, none⟩) (Kd.S_types HO715.out BK719.out (by decide)) (fun _ hk => hk.2) (.int .i64 t710)) (fun _ hk => hk.2) (.int .i64 t711)) (fun _ hk => hk.2) (.int .i64 t712)) (fun _ hk => hk.2) (.slice Ao11 t713.length co11)) (fun _ hk => trivial)⟩
   have n1_ : Aside0 (((((w9.setCell ⟨gb719, 0, none⟩ (.int .i64 t710)).setCell ⟨gb719, 1, none⟩ (.int .i64 t711)).setCell ⟨gb719, 2, none⟩ (.int .i64 t712)).setCell ⟨gb719, 3, none⟩ (.slice Ao11 t713.length co11)).heap[gb719]? = some (.cells #[.int .i64 t710, .int .i64 t711, .int .i64 t712, .slice Ao11 t713.length co11] 31 (0, 0))) := ⟨sp BK719⟩
   have n2_ : Aside0 (Below w.heap.size w ((((w9.setCell ⟨gb719, 0, none⟩ (.int .i64 t710)).setCell ⟨gb719, 1, none⟩ (.int .i64 t711)).setCell ⟨gb719, 2, none⟩ (.int .i64 t712)).setCell ⟨gb719, 3, none⟩ (.slice Ao11 t713.length co11))) := ⟨sbw⟩
   (try clear HO715)
   (try clear BK719)
   (try clear HB)
   generalize ((((w9.setCell ⟨gb719, 0, none⟩ (.int .i64 t710)).setCell ⟨gb719, 1, none⟩ (.int .i64 t711)).setCell ⟨gb719, 2, none⟩ (.int .i64 t712)).setCell ⟨gb719, 3, none⟩ (.slice Ao11 t713.length co11)) = w12 at n0_ n1_ n2_ ⊢
   have HO715 := n0_
   have BK719 := n1_
   have HB := n2_
   clear n0_ n1_ n2_
   replace HO715 := am (Kd.S_drew HO715.out)
   replace BK719 := am (blk_drew BK719.out)
   replace HB := am (below_drew1 HB.out)
   refine start_ (n := 5) (S := fun w' => w'.cell? ⟨gb719, 0, none⟩ = some (.int .i64 t710) ∧ w'.cell? ⟨gb719, 1, none⟩ = some (.int .i64 t711) ∧ w'.cell? ⟨gb719, 2, none⟩ = some (.int .i64 t712) ∧ w'.cell? ⟨gb719, 3, none⟩ = some (.slice Ao11 t713.length co11)) (ds := []) #[false, false, false, false, false] (by kernel_rfl) rfl rfl ⟨bc0 BK719, bc1 BK719, bc2 BK719, bc3 BK719⟩ (fun hHeld => ?_)
   generalize w12.drew = w13 at HO715 BK719 HB hHeld ⊢
   refine ta4 0 19 (bt 5 1) hHeld ?_
   refine ta4 2 21 (bt 5 5) hHeld ?_
   refine one_ (i := 1) (N := some 20) (bt 5 7) rfl rfl (by kernel_rfl) (by decide) (fun K hK => ?_)
   refine goes_ Try.func36 (by kernel_rfl) rfl #[.agg #[.int .i64 t710, .int .i64 t711, .int .i64 t712, .slice Ao11 t713.length co11]] (by rfl) rfl rfl sl ?_
   with_reducible refine (impl_IsProgram.calls k t710 t711 t712 _ _ t713 t720 _ ?side1 ?side2 A5.out).mono ?_
   (case side1 => repeat (first | exact (Kd.S_reads' HO715.out).2.2 | (with_reducible refine Kd.C_alloc ?_ _) | (with_reducible refine Kd.C_drewN ?_ _) | (with_reducible refine Kd.C_drew ?_)))
   (case side2 => exact (Kd.S_reads' HO715.out).2.1)
   rintro e w14 ⟨rfl, hb⟩
   refine ⟨_, rfl, ?_⟩
   replace HO715 := am (Kd.S_below (ss HO715) hb)
   replace BK719 := bb BK719 hb
   replace HB := bsw hb
   (try clear hb)
   (try clear hb2)
   (try clear hk)
   (try clear hi)
   refine hK.out _ _ ⟨bc0 BK719, bc1 BK719, bc2 BK719, bc3 BK719⟩ (fun hHeld => ?_)
   clear hK K
   refine nm 20 ?_
   refine one_ (i := 3) (N := some 22) (bt 5 15) rfl rfl (by kernel_rfl) (by decide) (fun K hK => ?_)
   refine goes_ Try.func40 (by kernel_rfl) rfl #[.agg #[.int .i64 t710, .int .i64 t711, .int .i64 t712, .slice Ao11 t713.length co11]] (by rfl) rfl rfl sl ?_
   with_reducible refine (spec_IsProgram.calls k t710 t711 t712 _ _ t713 t721 _ ?side1 ?side2 A6.out).mono ?_
   (case side1 => repeat (first | exact (Kd.S_reads' HO715.out).2.2 | (with_reducible refine Kd.C_alloc ?_ _) | (with_reducible refine Kd.C_drewN ?_ _) | (with_reducible refine Kd.C_drew ?_)))
   (case side2 => exact (Kd.S_reads' HO715.out).2.1)
   rintro e w15 ⟨rfl, hb⟩
   refine ⟨_, rfl, ?_⟩
   replace HO715 := am (Kd.S_below (ss HO715) hb)
   replace BK719 := bb BK719 hb
   replace HB := bsw hb
   (try clear hb)
   (try clear hb2)
   (try clear hk)
   (try clear hi)
   refine hK.out _ _ ⟨bc0 BK719, bc1 BK719, bc2 BK719, bc3 BK719⟩ (fun hHeld => ?_)
   clear hK K
   refine nm 22 ?_
   refine pu 4 23 (bt 5 31) ?_
   refine done_ (by kernel_rfl) ?_
   try go_wp2
   go_ret
   exact ⟨se, sbw⟩
  ·have c7b0 : (t720 != t721) = false := by simpa using c7
   (try (have c7b1 : decide (t720 = t721) = true := by simpa using c7))
   (try (have c7b2 : (t720 == t721) = true := by simpa using c7))
   clear c7
   obtain ⟨t722, A16, H⟩ := bnd H
   obtain rfl | rfl := tt t722
   ·replace H := ip H
    obtain ⟨t723, A18, H⟩ := bnd H
    obtain ⟨⟨t724, t725, t728, t731⟩, A19, H⟩ := bnd H
    try dsimp only at H
    obtain ⟨t733, A20, H⟩ := bnd H
    obtain ⟨-, c21b0, H⟩ | ⟨-, c21b0, H⟩ := ic_ H
    ·obtain rfl | rfl := tt t731
     ·replace H := ip H
      obtain ⟨c23b0, H⟩ := id_ H
      obtain ⟨c24b0, H⟩ := id_ H
      obtain ⟨-, c25b0, c25b1, H⟩ | ⟨c25, c25b0, c25b1, H⟩ := ib_ H
      ·obtain ⟨-, c26b0, H⟩ | ⟨-, c26b0, H⟩ := ic_ H
       ·obtain rfl := Option.some.inj H
        go_enter Try.func6, Try.ntmps6
        try go_wp2_with (first | ((with_reducible refine gc 12 rfl ?_); refine gL (some 11) Try.func12 #[.slice A0 l0.length c0] ?_; (with_reducible refine (laws_big.calls _ _ l0 false _ ?side1 ?side2 A2.out).mono ?_); (case side1 => repeat (first | exact HR0.out | (with_reducible refine Kd.C_alloc ?_ _) | (with_reducible refine Kd.C_drewN ?_ _) | (with_reducible refine Kd.C_drew ?_))); (case side2 => exact HC0.out); rintro e w' ⟨rfl, ⟨nd, rfl⟩⟩; refine ⟨_, rfl, ?_⟩) | ((with_reducible refine gc 39 rfl ?_); refine gL (some 14) Try.func39 #[.slice A0 l0.length c0] ?_; (with_reducible refine (spec_DrawHopAt.calls k _ _ l0 t710 t711 t712 t713 t716 t717 t718 _ ?side1 ?side2 A4.out).mono ?_); (case side1 => repeat (first | exact HR0.out | (with_reducible refine Kd.C_alloc ?_ _) | (with_reducible refine Kd.C_drewN ?_ _) | (with_reducible refine Kd.C_drew ?_))); (case side2 => exact HC0.out); rintro e w27 ⟨v714, rfl, ho0, hb⟩; refine ⟨_, rfl, ?_⟩; have HO715 := am (Kd.S_lower ho0 (below_size (sb))); replace HB := bs hb; (try clear hb); (try clear ho0)) | ((with_reducible refine gd 3 rfl ?_); refine bx 3 #[.int .i64 0, .int .i64 0, .int .i64 0, .slice none 0 0] 31 ?_; intro gb719 hg w28 hbox hb; replace HO715 := am (Kd.S_below (ss HO715) hb); have GW719 := bz w hg; have GE719 := bz w hg; replace HB := bs hb; have BK719 := am hbox; clear hb hbox hg; obtain ⟨hcz29_0, hcz29_1, hcz29_2, hcz29_3, hfz29_0, hfz29_1, hfz29_2, hfz29_3⟩ := cc4 BK719; obtain ⟨Ao30, co30, eo30⟩ := Kd.S_slice HO715.out; subst eo30))
        have n0_ : Aside0 (Kd.S k105 105 ((((w28.setCell ⟨gb719, 0, none⟩ (.int .i64 t710)).setCell ⟨gb719, 1, none⟩ (.int .i64 t711)).setCell ⟨gb719, 2, none⟩ (.int .i64 t712)).setCell ⟨gb719, 3, none⟩ (.slice Ao30 t713.length co30)) w.heap.size (fun _ => True) (.slice Ao30 t713.length co30) t713) := ⟨by (with_reducible repeat (first | apply Kd.S_alloc | apply Kd.S_drewN | apply Kd.S_drew)); exact Kd.S_mono (Kd.S_far (p := ⟨gb719, 3, none⟩) (Kd.S_far (p := ⟨gb719, 2, none⟩) (Kd.S_far (p := ⟨gb719, 1, none⟩) (Kd.S_far (p := ⟨gb719, 0, none⟩) (Kd.S_types HO715.out BK719.out (by decide)) (fun _ hk => hk.2) (.int .i64 t710)) (fun _ hk => hk.2) (.int .i64 t711)) (fun _ hk => hk.2) (.int .i64 t712)) (fun _ hk => hk.2) (.slice Ao30 t713.length co30)) (fun _ hk => trivial)⟩
        have n1_ : Aside0 (((((w28.setCell ⟨gb719, 0, none⟩ (.int .i64 t710)).setCell ⟨gb719, 1, none⟩ (.int .i64 t711)).setCell ⟨gb719, 2, none⟩ (.int .i64 t712)).setCell ⟨gb719, 3, none⟩ (.slice Ao30 t713.length co30)).heap[gb719]? = some (.cells #[.int .i64 t710, .int .i64 t711, .int .i64 t712, .slice Ao30 t713.length co30] 31 (0, 0))) := ⟨sp BK719⟩
        have n2_ : Aside0 (Below w.heap.size w ((((w28.setCell ⟨gb719, 0, none⟩ (.int .i64 t710)).setCell ⟨gb719, 1, none⟩ (.int .i64 t711)).setCell ⟨gb719, 2, none⟩ (.int .i64 t712)).setCell ⟨gb719, 3, none⟩ (.slice Ao30 t713.length co30))) := ⟨sbw⟩
        (try clear HO715)
        (try clear BK719)
        (try clear HB)
        generalize ((((w28.setCell ⟨gb719, 0, none⟩ (.int .i64 t710)).setCell ⟨gb719, 1, none⟩ (.int .i64 t711)).setCell ⟨gb719, 2, none⟩ (.int .i64 t712)).setCell ⟨gb719, 3, none⟩ (.slice Ao30 t713.length co30)) = w31 at n0_ n1_ n2_ ⊢
        have HO715 := n0_
        have BK719 := n1_
        have HB := n2_
        clear n0_ n1_ n2_
        replace HO715 := am (Kd.S_drew HO715.out)
        replace BK719 := am (blk_drew BK719.out)
        replace HB := am (below_drew1 HB.out)
        refine start_ (n := 5) (S := fun w' => w'.cell? ⟨gb719, 0, none⟩ = some (.int .i64 t710) ∧ w'.cell? ⟨gb719, 1, none⟩ = some (.int .i64 t711) ∧ w'.cell? ⟨gb719, 2, none⟩ = some (.int .i64 t712) ∧ w'.cell? ⟨gb719, 3, none⟩ = some (.slice Ao30 t713.length co30)) (ds := []) #[false, false, false, false, false] (by kernel_rfl) rfl rfl ⟨bc0 BK719, bc1 BK719, bc2 BK719, bc3 BK719⟩ (fun hHeld => ?_)
        generalize w31.drew = w32 at HO715 BK719 HB hHeld ⊢
        refine ta4 0 19 (bt 5 1) hHeld ?_
        refine ta4 2 21 (bt 5 5) hHeld ?_
        refine one_ (i := 1) (N := some 20) (bt 5 7) rfl rfl (by kernel_rfl) (by decide) (fun K hK => ?_)
        refine goes_ Try.func36 (by kernel_rfl) rfl #[.agg #[.int .i64 t710, .int .i64 t711, .int .i64 t712, .slice Ao30 t713.length co30]] (by rfl) rfl rfl sl ?_
        with_reducible refine (impl_IsProgram.calls k t710 t711 t712 _ _ t713 t720 _ ?side1 ?side2 A5.out).mono ?_
        (case side1 => repeat (first | exact (Kd.S_reads' HO715.out).2.2 | (with_reducible refine Kd.C_alloc ?_ _) | (with_reducible refine Kd.C_drewN ?_ _) | (with_reducible refine Kd.C_drew ?_)))
        (case side2 => exact (Kd.S_reads' HO715.out).2.1)
        rintro e w33 ⟨rfl, hb⟩
        refine ⟨_, rfl, ?_⟩
        replace HO715 := am (Kd.S_below (ss HO715) hb)
        replace BK719 := bb BK719 hb
        replace HB := bsw hb
        (try clear hb)
        (try clear hb2)
        (try clear hk)
        (try clear hi)
        refine hK.out _ _ ⟨bc0 BK719, bc1 BK719, bc2 BK719, bc3 BK719⟩ (fun hHeld => ?_)
        clear hK K
        refine nm 20 ?_
        refine one_ (i := 3) (N := some 22) (bt 5 15) rfl rfl (by kernel_rfl) (by decide) (fun K hK => ?_)
        refine goes_ Try.func40 (by kernel_rfl) rfl #[.agg #[.int .i64 t710, .int .i64 t711, .int .i64 t712, .slice Ao30 t713.length co30]] (by rfl) rfl rfl sl ?_
        with_reducible refine (spec_IsProgram.calls k t710 t711 t712 _ _ t713 t721 _ ?side1 ?side2 A6.out).mono ?_
        (case side1 => repeat (first | exact (Kd.S_reads' HO715.out).2.2 | (with_reducible refine Kd.C_alloc ?_ _) | (with_reducible refine Kd.C_drewN ?_ _) | (with_reducible refine Kd.C_drew ?_)))
        (case side2 => exact (Kd.S_reads' HO715.out).2.1)
        rintro e w34 ⟨rfl, hb⟩
        refine ⟨_, rfl, ?_⟩
        replace HO715 := am (Kd.S_below (ss HO715) hb)
        replace BK719 := bb BK719 hb
        replace HB := bsw hb
        (try clear hb)
        (try clear hb2)
        (try clear hk)
        (try clear hi)
        refine hK.out _ _ ⟨bc0 BK719, bc1 BK719, bc2 BK719, bc3 BK719⟩ (fun hHeld => ?_)
        clear hK K
        refine nm 22 ?_
        refine pu 4 23 (bt 5 31) ?_
        refine done_ (by kernel_rfl) ?_
        obtain ⟨hcz35_0, hcz35_1, hcz35_2, hcz35_3, hfz35_0, hfz35_1, hfz35_2, hfz35_3⟩ := cc4 BK719
        try go_wp2_with (first | ((with_reducible refine gc 36 rfl ?_); refine gL (some 25) Try.func36 #[.agg #[.int .i64 t710, .int .i64 t711, .int .i64 t712, .slice Ao30 t713.length co30]] ?_; (with_reducible refine (impl_IsProgram.calls k t710 t711 t712 _ _ t713 true _ ?side1 ?side2 A16.out).mono ?_); (case side1 => repeat (first | exact (Kd.S_reads' HO715.out).2.2 | (with_reducible refine Kd.C_alloc ?_ _) | (with_reducible refine Kd.C_drewN ?_ _) | (with_reducible refine Kd.C_drew ?_))); (case side2 => exact (Kd.S_reads' HO715.out).2.1); rintro e w36 ⟨rfl, hb⟩; refine ⟨_, rfl, ?_⟩; replace HO715 := am (Kd.S_below (ss HO715) hb); replace BK719 := bb BK719 hb; replace HB := bsw hb; (try clear hb)))
        replace HO715 := am (Kd.S_drew HO715.out)
        replace BK719 := am (blk_drew BK719.out)
        replace HB := am (below_drew1 HB.out)
        refine start_ (n := 12) (S := fun w' => w'.cell? ⟨gb719, 0, none⟩ = some (.int .i64 t710) ∧ w'.cell? ⟨gb719, 1, none⟩ = some (.int .i64 t711) ∧ w'.cell? ⟨gb719, 2, none⟩ = some (.int .i64 t712) ∧ w'.cell? ⟨gb719, 3, none⟩ = some (.slice Ao30 t713.length co30)) (ds := []) #[false, false, false, false, false, false, false, false, false, false, false, false] (by kernel_rfl) rfl rfl ⟨bc0 BK719, bc1 BK719, bc2 BK719, bc3 BK719⟩ (fun hHeld => ?_); refine with_tabW laws_FnSwitched.tab8 laws_FnSwitched.bits8 (fun HT_ HW_ => ?_)
        generalize w36.drew = w37 at HO715 BK719 HB hHeld ⊢
        refine put 2 30 (bt 12 4) HT_ ?_
        refine put 4 32 (bt 12 20) HT_ ?_
        refine tat4 0 28 (bt 12 21) HT_ HW_ hHeld ?_
        refine tat4 1 29 (bt 12 23) HT_ HW_ hHeld ?_
        refine join_ (σ := Value × Value × Nat) 2 (bt 12 1023) (fun s_ => [(31, .int .i64 t723), (33, .tuple #[.agg #[.int .i64 t724, s_.1, s_.2.1], .bool true]), (7, .pointer (some ⟨s_.2.2, 0, none⟩)), (27, .tuple #[.agg #[.int .i64 t724, s_.1, s_.2.1], .bool true]), (34, .agg #[.int .i64 t724, s_.1, s_.2.1]), (35, .bool true)]) (fun s_ w' => (w'.cell? ⟨gb719, 0, none⟩ = some (.int .i64 t710) ∧ w'.cell? ⟨gb719, 1, none⟩ = some (.int .i64 t711) ∧ w'.cell? ⟨gb719, 2, none⟩ = some (.int .i64 t712) ∧ w'.cell? ⟨gb719, 3, none⟩ = some (.slice Ao30 t713.length co30)) ∧ (Kd.S k105 105 w' w.heap.size (fun k_ => some k_ ≠ (s_.1 : Value).ownBlock ∧ some k_ ≠ (s_.2.1 : Value).ownBlock ∧ k_ ≠ s_.2.2) (.slice Ao30 t713.length co30) t713) ∧ (Kd.R (Kd.int .i64) 3 w' w.heap.size (fun k_ => some k_ ≠ (s_.2.1 : Value).ownBlock) s_.1 t725) ∧ (Kd.R (Kd.int .i64) 3 w' w.heap.size (fun k_ => some k_ ≠ (s_.1 : Value).ownBlock) s_.2.1 t728) ∧ (w'.heap[gb719]? = some (.cells #[.int .i64 t710, .int .i64 t711, .int .i64 t712, .slice Ao30 t713.length co30] 31 (0, 0))) ∧ (w'.heap[s_.2.2]? = some (.cells #[.int .i64 0, .slice none 0 0, .slice none 0 0] 55 (0, 0))) ∧ (w.heap.size ≤ s_.2.2) ∧ (w.heap.size ≤ s_.2.2) ∧ (gb719 ≠ s_.2.2) ∧ (s_.2.2 ≠ gb719) ∧ (Below w.heap.size w w')) ?_ ?_
        rotate_left
        ·intro hCont
         refine two_ (i := 3) (j := 9) (Ni := some 31) (Nj := some 7) (bt 12 31) (bt 12 535) rfl rfl rfl rfl (two_of HT_.out (by kernel_rfl)) (by decide) (by decide) (fun K hK => ?_) (fun K hK => ?_)
         ·skip
          refine goes_ Try.func42 (by kernel_rfl) rfl #[.agg #[.int .i64 t710, .int .i64 t711, .int .i64 t712, .slice Ao30 t713.length co30], .int .i64 t718] (by rfl) rfl rfl sl ?_
          with_reducible refine (impl_PieceAt.calls t710 t711 t712 _ _ t713 t718 t723 _ ?side1 ?side2 A18.out).mono ?_
          (case side1 => repeat (first | exact (Kd.S_reads' HO715.out).2.2 | (with_reducible refine Kd.C_alloc ?_ _) | (with_reducible refine Kd.C_drewN ?_ _) | (with_reducible refine Kd.C_drew ?_)))
          (case side2 => exact (Kd.S_reads' HO715.out).2.1)
          rintro e w38 ⟨rfl, hb⟩
          refine ⟨_, rfl, ?_⟩
          replace HO715 := am (Kd.S_below (ss HO715) hb)
          replace BK719 := bb BK719 hb
          replace HB := bsw hb
          (try clear hb)
          (try clear hb2)
          (try clear hk)
          (try clear hi)
          refine hK.out _ _ ⟨bc0 BK719, bc1 BK719, bc2 BK719, bc3 BK719⟩ (fun hHeld => ?_)
          clear hK K
          refine nm 31 ?_
          refine two_ (i := 5) (j := 9) (Ni := some 33) (Nj := some 7) (bt 12 63) (bt 12 543) rfl rfl rfl rfl (two_of HT_.out (by kernel_rfl)) (by decide) (by decide) (fun K hK => ?_) (fun K hK => ?_)
          ·skip
           refine goes_ Try.func41 (by kernel_rfl) rfl #[.agg #[.int .i64 t710, .int .i64 t711, .int .i64 t712, .slice Ao30 t713.length co30], .int .i64 t723, .int .i64 t717] (by rfl) rfl rfl sl ?_
           with_reducible refine (impl_TableIn.calls t710 t711 t712 _ _ t713 t723 t717 t724 t725 t728 true _ ?side1 ?side2 A19.out).mono ?_
           (case side1 => repeat (first | exact (Kd.S_reads' HO715.out).2.2 | (with_reducible refine Kd.C_alloc ?_ _) | (with_reducible refine Kd.C_drewN ?_ _) | (with_reducible refine Kd.C_drew ?_)))
           (case side2 => exact (Kd.S_reads' HO715.out).2.1)
           rintro e w39 ⟨v726, v729, rfl, ho0, ho1, hb⟩
           refine ⟨_, rfl, ?_⟩
           replace HO715 := am (Kd.S_mono (Kd.S_told (Kd.S_told (Kd.S_old (ss HO715) hb) (Kd.R_base ho0)) (Kd.R_base ho1)) (fun _ h_ => h_.1))
           have HO727 := am (Kd.R_lower ho0 (below_size (sbw)))
           have HO730 := am (Kd.R_lower ho1 (below_size (sbw)))
           replace BK719 := bb BK719 hb
           replace HB := bsw hb
           (try clear hb)
           (try clear hb2)
           (try clear hk)
           (try clear hi)
           (try clear ho0)
           (try clear ho1)
           refine hK.out _ _ ⟨bc0 BK719, bc1 BK719, bc2 BK719, bc3 BK719⟩ (fun hHeld => ?_)
           clear hK K
           refine nm 33 ?_
           refine put 6 27 (bt 12 127) HT_ ?_
           refine put 7 34 (bt 12 255) HT_ ?_
           refine put 8 35 (bt 12 511) HT_ ?_
           refine on 9 7 (bt 12 1023) HT_ (fun K hK => ?_)
           refine box_step ?hg (N := 7) ?hd (cs := #[.int .i64 0, .slice none 0 0, .slice none 0 0]) (t := 55) ?hr ?_; (case hd => rfl); (case hg => rfl); (case hr => first | (go_simp; done) | (go_simp; rfl))
           intro gb732 hg w40 hbox hb
           replace HO715 := am (Kd.S_below (Kd.S_elderB (ss HO715) gb732 (Nat.le_of_eq hg.symm)) hb)
           replace HO727 := rb HO727 hb
           replace HO730 := rb HO730 hb
           have GW732 := bzw w hg
           have GE732 := bzw w hg
           replace HB := bsw hb
           have BK732 := am hbox
           have NB719_732 := nl BK719 hg
           have NB732_719 := ng BK719 hg
           replace BK719 := bb BK719 hb
           clear hb hbox hg
           refine hK.out _ _ ⟨bc0 BK719, bc1 BK719, bc2 BK719, bc3 BK719⟩ (fun hHeld => ?_)
           clear hK K
           refine nm 7 ?_
           exact norm_ a24_1 (hCont (v726, v729, gb732) _ ⟨hHeld, a24_2, (sr HO727), (sr HO730), (sk BK719), (sk BK732), GW732.out, GE732.out, NB719_732.out, NB732_719.out, (sbw)⟩)
          ·skip
           refine box_step ?hg (N := 7) ?hd (cs := #[.int .i64 0, .slice none 0 0, .slice none 0 0]) (t := 55) ?hr ?_; (case hd => rfl); (case hg => rfl); (case hr => first | (go_simp; done) | (go_simp; rfl))
           intro gb732 hg w39 hbox hb
           replace HO715 := am (Kd.S_below (Kd.S_elderB (ss HO715) gb732 (Nat.le_of_eq hg.symm)) hb)
           have GW732 := bzw w hg
           have GE732 := bzw w hg
           replace HB := bsw hb
           have BK732 := am hbox
           have NB719_732 := nl BK719 hg
           have NB732_719 := ng BK719 hg
           replace BK719 := bb BK719 hb
           clear hb hbox hg
           refine hK.out _ _ ⟨bc0 BK719, bc1 BK719, bc2 BK719, bc3 BK719⟩ (fun hHeld => ?_)
           clear hK K
           refine nm 7 ?_
           refine on 5 33 (bt 12 575) HT_ (fun K hK => ?_)
           refine goes_ Try.func41 (by kernel_rfl) rfl #[.agg #[.int .i64 t710, .int .i64 t711, .int .i64 t712, .slice Ao30 t713.length co30], .int .i64 t723, .int .i64 t717] (by rfl) rfl rfl sl ?_
           with_reducible refine (impl_TableIn.calls t710 t711 t712 _ _ t713 t723 t717 t724 t725 t728 true _ ?side1 ?side2 A19.out).mono ?_
           (case side1 => repeat (first | exact (Kd.S_reads' HO715.out).2.2 | (with_reducible refine Kd.C_alloc ?_ _) | (with_reducible refine Kd.C_drewN ?_ _) | (with_reducible refine Kd.C_drew ?_)))
           (case side2 => exact (Kd.S_reads' HO715.out).2.1)
           rintro e w40 ⟨v726, v729, rfl, ho0, ho1, hb⟩
           refine ⟨_, rfl, ?_⟩
           replace HO715 := am (Kd.S_mono (Kd.S_told (Kd.S_told (Kd.S_old (ss HO715) hb) (Kd.R_base ho0)) (Kd.R_base ho1)) (fun _ h_ => h_.1))
           have HO727 := am (Kd.R_lower ho0 (below_size (sbw)))
           have HO730 := am (Kd.R_lower ho1 (below_size (sbw)))
           replace BK719 := bb BK719 hb
           replace BK732 := bb BK732 hb
           replace HB := bsw hb
           (try clear hb)
           (try clear hb2)
           (try clear hk)
           (try clear hi)
           (try clear ho0)
           (try clear ho1)
           refine hK.out _ _ ⟨bc0 BK719, bc1 BK719, bc2 BK719, bc3 BK719⟩ (fun hHeld => ?_)
           clear hK K
           refine nm 33 ?_
           refine put 6 27 (bt 12 639) HT_ ?_
           refine put 7 34 (bt 12 767) HT_ ?_
           refine put 8 35 (bt 12 1023) HT_ ?_
           exact norm_ a24_1 (hCont (v726, v729, gb732) _ ⟨hHeld, a24_0, (sr HO727), (sr HO730), (sk BK719), (sk BK732), GW732.out, GE732.out, NB719_732.out, NB732_719.out, (sbw)⟩)
         ·skip
          refine box_step ?hg (N := 7) ?hd (cs := #[.int .i64 0, .slice none 0 0, .slice none 0 0]) (t := 55) ?hr ?_; (case hd => rfl); (case hg => rfl); (case hr => first | (go_simp; done) | (go_simp; rfl))
          intro gb732 hg w38 hbox hb
          replace HO715 := am (Kd.S_below (Kd.S_elderB (ss HO715) gb732 (Nat.le_of_eq hg.symm)) hb)
          have GW732 := bzw w hg
          have GE732 := bzw w hg
          replace HB := bsw hb
          have BK732 := am hbox
          have NB719_732 := nl BK719 hg
          have NB732_719 := ng BK719 hg
          replace BK719 := bb BK719 hb
          clear hb hbox hg
          refine hK.out _ _ ⟨bc0 BK719, bc1 BK719, bc2 BK719, bc3 BK719⟩ (fun hHeld => ?_)
          clear hK K
          refine nm 7 ?_
          refine on 3 31 (bt 12 543) HT_ (fun K hK => ?_)
          refine goes_ Try.func42 (by kernel_rfl) rfl #[.agg #[.int .i64 t710, .int .i64 t711, .int .i64 t712, .slice Ao30 t713.length co30], .int .i64 t718] (by rfl) rfl rfl sl ?_
          with_reducible refine (impl_PieceAt.calls t710 t711 t712 _ _ t713 t718 t723 _ ?side1 ?side2 A18.out).mono ?_
          (case side1 => repeat (first | exact (Kd.S_reads' HO715.out).2.2 | (with_reducible refine Kd.C_alloc ?_ _) | (with_reducible refine Kd.C_drewN ?_ _) | (with_reducible refine Kd.C_drew ?_)))
          (case side2 => exact (Kd.S_reads' HO715.out).2.1)
          rintro e w39 ⟨rfl, hb⟩
          refine ⟨_, rfl, ?_⟩
          replace HO715 := am (Kd.S_below (ss HO715) hb)
          replace BK719 := bb BK719 hb
          replace BK732 := bb BK732 hb
          replace HB := bsw hb
          (try clear hb)
          (try clear hb2)
          (try clear hk)
          (try clear hi)
          refine hK.out _ _ ⟨bc0 BK719, bc1 BK719, bc2 BK719, bc3 BK719⟩ (fun hHeld => ?_)
          clear hK K
          refine nm 31 ?_
          refine on 5 33 (bt 12 575) HT_ (fun K hK => ?_)
          refine goes_ Try.func41 (by kernel_rfl) rfl #[.agg #[.int .i64 t710, .int .i64 t711, .int .i64 t712, .slice Ao30 t713.length co30], .int .i64 t723, .int .i64 t717] (by rfl) rfl rfl sl ?_
          with_reducible refine (impl_TableIn.calls t710 t711 t712 _ _ t713 t723 t717 t724 t725 t728 true _ ?side1 ?side2 A19.out).mono ?_
          (case side1 => repeat (first | exact (Kd.S_reads' HO715.out).2.2 | (with_reducible refine Kd.C_alloc ?_ _) | (with_reducible refine Kd.C_drewN ?_ _) | (with_reducible refine Kd.C_drew ?_)))
          (case side2 => exact (Kd.S_reads' HO715.out).2.1)
          rintro e w40 ⟨v726, v729, rfl, ho0, ho1, hb⟩
          refine ⟨_, rfl, ?_⟩
          replace HO715 := am (Kd.S_mono (Kd.S_told (Kd.S_told (Kd.S_old (ss HO715) hb) (Kd.R_base ho0)) (Kd.R_base ho1)) (fun _ h_ => h_.1))
          have HO727 := am (Kd.R_lower ho0 (below_size (sbw)))
          have HO730 := am (Kd.R_lower ho1 (below_size (sbw)))
          replace BK719 := bb BK719 hb
          replace BK732 := bb BK732 hb
          replace HB := bsw hb
          (try clear hb)
          (try clear hb2)
          (try clear hk)
          (try clear hi)
          (try clear ho0)
          (try clear ho1)
          refine hK.out _ _ ⟨bc0 BK719, bc1 BK719, bc2 BK719, bc3 BK719⟩ (fun hHeld => ?_)
          clear hK K
          refine nm 33 ?_
          refine put 6 27 (bt 12 639) HT_ ?_
          refine put 7 34 (bt 12 767) HT_ ?_
          refine put 8 35 (bt 12 1023) HT_ ?_
          exact norm_ a24_1 (hCont (v726, v729, gb732) _ ⟨hHeld, a24_0, (sr HO727), (sr HO730), (sk BK719), (sk BK732), GW732.out, GE732.out, NB719_732.out, NB732_719.out, (sbw)⟩)
        rintro ⟨v726, v729, gb732⟩ w41 ⟨hS_, h0_, h1_, h2_, h3_, h4_, h5_, h6_, h7_, h8_, h9_⟩
        replace HO715 : Aside0 (Kd.S k105 105 w41 w.heap.size (fun k_ => some k_ ≠ (v726 : Value).ownBlock ∧ some k_ ≠ (v729 : Value).ownBlock ∧ k_ ≠ gb732) (.slice Ao30 t713.length co30) t713) := ⟨h0_⟩
        have HO727 : Aside0 (Kd.R (Kd.int .i64) 3 w41 w.heap.size (fun k_ => some k_ ≠ (v729 : Value).ownBlock) v726 t725) := ⟨h1_⟩
        have HO730 : Aside0 (Kd.R (Kd.int .i64) 3 w41 w.heap.size (fun k_ => some k_ ≠ (v726 : Value).ownBlock) v729 t728) := ⟨h2_⟩
        replace BK719 : Aside0 (w41.heap[gb719]? = some (.cells #[.int .i64 t710, .int .i64 t711, .int .i64 t712, .slice Ao30 t713.length co30] 31 (0, 0))) := ⟨h3_⟩
        have BK732 : Aside0 (w41.heap[gb732]? = some (.cells #[.int .i64 0, .slice none 0 0, .slice none 0 0] 55 (0, 0))) := ⟨h4_⟩
        have GW732 : Aside0 (w.heap.size ≤ gb732) := ⟨h5_⟩
        have GE732 : Aside0 (w.heap.size ≤ gb732) := ⟨h6_⟩
        have NB719_732 : Aside0 (gb719 ≠ gb732) := ⟨h7_⟩
        have NB732_719 : Aside0 (gb732 ≠ gb719) := ⟨h8_⟩
        replace HB : Aside0 (Below w.heap.size w w41) := ⟨h9_⟩
        clear h0_ h1_ h2_ h3_ h4_ h5_ h6_ h7_ h8_ h9_
        have hHeld : w41.cell? ⟨gb719, 0, none⟩ = some (.int .i64 t710) ∧ w41.cell? ⟨gb719, 1, none⟩ = some (.int .i64 t711) ∧ w41.cell? ⟨gb719, 2, none⟩ = some (.int .i64 t712) ∧ w41.cell? ⟨gb719, 3, none⟩ = some (.slice Ao30 t713.length co30) := hS_
        obtain ⟨Ao43, co43, eo43⟩ := Kd.R_slice HO727.out
        (first | subst eo43 | (injection eo43 with f1_ f2_ f3_; have f4_ := f1_.symm; have f5_ := f3_.symm; clear f1_ f2_ f3_; subst f4_; subst f5_))
        obtain ⟨Ao45, co45, eo45⟩ := Kd.R_slice HO730.out
        (first | subst eo45 | (injection eo45 with f1_ f2_ f3_; have f4_ := f1_.symm; have f5_ := f3_.symm; clear f1_ f2_ f3_; subst f4_; subst f5_))
        refine norm_ (a' := ?_) ?_ ?_
        rotate_left
        ·simp only [putAll, Act.put, List.setIfInBounds_toArray, List.set_cons_zero, List.set_cons_succ]
         rfl
        refine one_ (i := 10) (N := none) (bt 12 2047) rfl rfl (one_of HT_.out (by kernel_rfl)) (by decide) (fun K hK => ?_)
        obtain ⟨hs42, hfs42⟩ := cc1 BK732
        have hns42_0 := NB719_732.out
        have hms42_0 := NB732_719.out
        have hs44 := bc1 BK732
        have hfs44 := bf BK732 1
        have hns44_0 := NB719_732.out
        have hms44_0 := NB732_719.out
        have hs46 := bc2 BK732
        have hfs46 := bf BK732 2
        have hns46_0 := NB719_732.out
        have hms46_0 := NB732_719.out
        refine skip_ (w1 := ?_) (by rfl) rfl ?_ ?_
        rotate_left
        ·go_simp
         rfl
        refine hK.out _ _ ⟨((cell_far (p := ⟨gb732, _, none⟩) NB719_732.out _).trans (((cell_far (p := ⟨gb732, _, none⟩) NB719_732.out _).trans (((cell_far (p := ⟨gb732, _, none⟩) NB719_732.out _).trans (hHeld.1)))))), ((cell_far (p := ⟨gb732, _, none⟩) NB719_732.out _).trans (((cell_far (p := ⟨gb732, _, none⟩) NB719_732.out _).trans (((cell_far (p := ⟨gb732, _, none⟩) NB719_732.out _).trans (hHeld.2.1)))))), ((cell_far (p := ⟨gb732, _, none⟩) NB719_732.out _).trans (((cell_far (p := ⟨gb732, _, none⟩) NB719_732.out _).trans (((cell_far (p := ⟨gb732, _, none⟩) NB719_732.out _).trans (hHeld.2.2.1)))))), ((cell_far (p := ⟨gb732, _, none⟩) NB719_732.out _).trans (((cell_far (p := ⟨gb732, _, none⟩) NB719_732.out _).trans (((cell_far (p := ⟨gb732, _, none⟩) NB719_732.out _).trans (hHeld.2.2.2))))))⟩ (fun hHeld => ?_)
        clear hK K
        refine put 11 8 (bt 12 4095) HT_ ?_
        refine done_ (done_of HT_.out (by kernel_rfl)) ?_
        have hnb47 := NB719_732.out
        have hnc47 := NB732_719.out
        obtain ⟨hcz48_0, hcz48_1, hcz48_2, hcz48_3, hfz48_0, hfz48_1, hfz48_2, hfz48_3⟩ := cc4 BK719
        exact e24_0
       ·obtain ⟨t735, A52, H⟩ := bnd H
        obtain rfl := Option.some.inj H
        go_enter Try.func6, Try.ntmps6
        try go_wp2_with (first | ((with_reducible refine gc 12 rfl ?_); refine gL (some 11) Try.func12 #[.slice A0 l0.length c0] ?_; (with_reducible refine (laws_big.calls _ _ l0 false _ ?side1 ?side2 A2.out).mono ?_); (case side1 => repeat (first | exact HR0.out | (with_reducible refine Kd.C_alloc ?_ _) | (with_reducible refine Kd.C_drewN ?_ _) | (with_reducible refine Kd.C_drew ?_))); (case side2 => exact HC0.out); rintro e w' ⟨rfl, ⟨nd, rfl⟩⟩; refine ⟨_, rfl, ?_⟩) | ((with_reducible refine gc 39 rfl ?_); refine gL (some 14) Try.func39 #[.slice A0 l0.length c0] ?_; (with_reducible refine (spec_DrawHopAt.calls k _ _ l0 t710 t711 t712 t713 t716 t717 t718 _ ?side1 ?side2 A4.out).mono ?_); (case side1 => repeat (first | exact HR0.out | (with_reducible refine Kd.C_alloc ?_ _) | (with_reducible refine Kd.C_drewN ?_ _) | (with_reducible refine Kd.C_drew ?_))); (case side2 => exact HC0.out); rintro e w53 ⟨v714, rfl, ho0, hb⟩; refine ⟨_, rfl, ?_⟩; have HO715 := am (Kd.S_lower ho0 (below_size (sb))); replace HB := bs hb; (try clear hb); (try clear ho0)) | ((with_reducible refine gd 3 rfl ?_); refine bx 3 #[.int .i64 0, .int .i64 0, .int .i64 0, .slice none 0 0] 31 ?_; intro gb719 hg w54 hbox hb; replace HO715 := am (Kd.S_below (ss HO715) hb); have GW719 := bz w hg; have GE719 := bz w hg; replace HB := bs hb; have BK719 := am hbox; clear hb hbox hg; obtain ⟨hcz55_0, hcz55_1, hcz55_2, hcz55_3, hfz55_0, hfz55_1, hfz55_2, hfz55_3⟩ := cc4 BK719; obtain ⟨Ao56, co56, eo56⟩ := Kd.S_slice HO715.out; subst eo56))
        have n0_ : Aside0 (Kd.S k105 105 ((((w54.setCell ⟨gb719, 0, none⟩ (.int .i64 t710)).setCell ⟨gb719, 1, none⟩ (.int .i64 t711)).setCell ⟨gb719, 2, none⟩ (.int .i64 t712)).setCell ⟨gb719, 3, none⟩ (.slice Ao56 t713.length co56)) w.heap.size (fun _ => True) (.slice Ao56 t713.length co56) t713) := ⟨by (with_reducible repeat (first | apply Kd.S_alloc | apply Kd.S_drewN | apply Kd.S_drew)); exact Kd.S_mono (Kd.S_far (p := ⟨gb719, 3, none⟩) (Kd.S_far (p := ⟨gb719, 2, none⟩) (Kd.S_far (p := ⟨gb719, 1, none⟩) (Kd.S_far (p := ⟨gb719, 0, none⟩) (Kd.S_types HO715.out BK719.out (by decide)) (fun _ hk => hk.2) (.int .i64 t710)) (fun _ hk => hk.2) (.int .i64 t711)) (fun _ hk => hk.2) (.int .i64 t712)) (fun _ hk => hk.2) (.slice Ao56 t713.length co56)) (fun _ hk => trivial)⟩
        have n1_ : Aside0 (((((w54.setCell ⟨gb719, 0, none⟩ (.int .i64 t710)).setCell ⟨gb719, 1, none⟩ (.int .i64 t711)).setCell ⟨gb719, 2, none⟩ (.int .i64 t712)).setCell ⟨gb719, 3, none⟩ (.slice Ao56 t713.length co56)).heap[gb719]? = some (.cells #[.int .i64 t710, .int .i64 t711, .int .i64 t712, .slice Ao56 t713.length co56] 31 (0, 0))) := ⟨sp BK719⟩
        have n2_ : Aside0 (Below w.heap.size w ((((w54.setCell ⟨gb719, 0, none⟩ (.int .i64 t710)).setCell ⟨gb719, 1, none⟩ (.int .i64 t711)).setCell ⟨gb719, 2, none⟩ (.int .i64 t712)).setCell ⟨gb719, 3, none⟩ (.slice Ao56 t713.length co56))) := ⟨sbw⟩
        (try clear HO715)
        (try clear BK719)
        (try clear HB)
        generalize ((((w54.setCell ⟨gb719, 0, none⟩ (.int .i64 t710)).setCell ⟨gb719, 1, none⟩ (.int .i64 t711)).setCell ⟨gb719, 2, none⟩ (.int .i64 t712)).setCell ⟨gb719, 3, none⟩ (.slice Ao56 t713.length co56)) = w57 at n0_ n1_ n2_ ⊢
        have HO715 := n0_
        have BK719 := n1_
        have HB := n2_
        clear n0_ n1_ n2_
        replace HO715 := am (Kd.S_drew HO715.out)
        replace BK719 := am (blk_drew BK719.out)
        replace HB := am (below_drew1 HB.out)
        refine start_ (n := 5) (S := fun w' => w'.cell? ⟨gb719, 0, none⟩ = some (.int .i64 t710) ∧ w'.cell? ⟨gb719, 1, none⟩ = some (.int .i64 t711) ∧ w'.cell? ⟨gb719, 2, none⟩ = some (.int .i64 t712) ∧ w'.cell? ⟨gb719, 3, none⟩ = some (.slice Ao56 t713.length co56)) (ds := []) #[false, false, false, false, false] (by kernel_rfl) rfl rfl ⟨bc0 BK719, bc1 BK719, bc2 BK719, bc3 BK719⟩ (fun hHeld => ?_)
        generalize w57.drew = w58 at HO715 BK719 HB hHeld ⊢
        refine ta4 0 19 (bt 5 1) hHeld ?_
        refine ta4 2 21 (bt 5 5) hHeld ?_
        refine one_ (i := 1) (N := some 20) (bt 5 7) rfl rfl (by kernel_rfl) (by decide) (fun K hK => ?_)
        refine goes_ Try.func36 (by kernel_rfl) rfl #[.agg #[.int .i64 t710, .int .i64 t711, .int .i64 t712, .slice Ao56 t713.length co56]] (by rfl) rfl rfl sl ?_
        with_reducible refine (impl_IsProgram.calls k t710 t711 t712 _ _ t713 t720 _ ?side1 ?side2 A5.out).mono ?_
        (case side1 => repeat (first | exact (Kd.S_reads' HO715.out).2.2 | (with_reducible refine Kd.C_alloc ?_ _) | (with_reducible refine Kd.C_drewN ?_ _) | (with_reducible refine Kd.C_drew ?_)))
        (case side2 => exact (Kd.S_reads' HO715.out).2.1)
        rintro e w59 ⟨rfl, hb⟩
        refine ⟨_, rfl, ?_⟩
        replace HO715 := am (Kd.S_below (ss HO715) hb)
        replace BK719 := bb BK719 hb
        replace HB := bsw hb
        (try clear hb)
        (try clear hb2)
        (try clear hk)
        (try clear hi)
        refine hK.out _ _ ⟨bc0 BK719, bc1 BK719, bc2 BK719, bc3 BK719⟩ (fun hHeld => ?_)
        clear hK K
        refine nm 20 ?_
        refine one_ (i := 3) (N := some 22) (bt 5 15) rfl rfl (by kernel_rfl) (by decide) (fun K hK => ?_)
        refine goes_ Try.func40 (by kernel_rfl) rfl #[.agg #[.int .i64 t710, .int .i64 t711, .int .i64 t712, .slice Ao56 t713.length co56]] (by rfl) rfl rfl sl ?_
        with_reducible refine (spec_IsProgram.calls k t710 t711 t712 _ _ t713 t721 _ ?side1 ?side2 A6.out).mono ?_
        (case side1 => repeat (first | exact (Kd.S_reads' HO715.out).2.2 | (with_reducible refine Kd.C_alloc ?_ _) | (with_reducible refine Kd.C_drewN ?_ _) | (with_reducible refine Kd.C_drew ?_)))
        (case side2 => exact (Kd.S_reads' HO715.out).2.1)
        rintro e w60 ⟨rfl, hb⟩
        refine ⟨_, rfl, ?_⟩
        replace HO715 := am (Kd.S_below (ss HO715) hb)
        replace BK719 := bb BK719 hb
        replace HB := bsw hb
        (try clear hb)
        (try clear hb2)
        (try clear hk)
        (try clear hi)
        refine hK.out _ _ ⟨bc0 BK719, bc1 BK719, bc2 BK719, bc3 BK719⟩ (fun hHeld => ?_)
        clear hK K
        refine nm 22 ?_
        refine pu 4 23 (bt 5 31) ?_
        refine done_ (by kernel_rfl) ?_
        obtain ⟨hcz61_0, hcz61_1, hcz61_2, hcz61_3, hfz61_0, hfz61_1, hfz61_2, hfz61_3⟩ := cc4 BK719
        try go_wp2_with (first | ((with_reducible refine gc 36 rfl ?_); refine gL (some 25) Try.func36 #[.agg #[.int .i64 t710, .int .i64 t711, .int .i64 t712, .slice Ao56 t713.length co56]] ?_; (with_reducible refine (impl_IsProgram.calls k t710 t711 t712 _ _ t713 true _ ?side1 ?side2 A16.out).mono ?_); (case side1 => repeat (first | exact (Kd.S_reads' HO715.out).2.2 | (with_reducible refine Kd.C_alloc ?_ _) | (with_reducible refine Kd.C_drewN ?_ _) | (with_reducible refine Kd.C_drew ?_))); (case side2 => exact (Kd.S_reads' HO715.out).2.1); rintro e w62 ⟨rfl, hb⟩; refine ⟨_, rfl, ?_⟩; replace HO715 := am (Kd.S_below (ss HO715) hb); replace BK719 := bb BK719 hb; replace HB := bsw hb; (try clear hb)))
        replace HO715 := am (Kd.S_drew HO715.out)
        replace BK719 := am (blk_drew BK719.out)
        replace HB := am (below_drew1 HB.out)
        refine start_ (n := 12) (S := fun w' => w'.cell? ⟨gb719, 0, none⟩ = some (.int .i64 t710) ∧ w'.cell? ⟨gb719, 1, none⟩ = some (.int .i64 t711) ∧ w'.cell? ⟨gb719, 2, none⟩ = some (.int .i64 t712) ∧ w'.cell? ⟨gb719, 3, none⟩ = some (.slice Ao56 t713.length co56)) (ds := []) #[false, false, false, false, false, false, false, false, false, false, false, false] (by kernel_rfl) rfl rfl ⟨bc0 BK719, bc1 BK719, bc2 BK719, bc3 BK719⟩ (fun hHeld => ?_); refine with_tabW laws_FnSwitched.tab8 laws_FnSwitched.bits8 (fun HT_ HW_ => ?_)
        generalize w62.drew = w63 at HO715 BK719 HB hHeld ⊢
        refine put 2 30 (bt 12 4) HT_ ?_
        refine put 4 32 (bt 12 20) HT_ ?_
        refine tat4 0 28 (bt 12 21) HT_ HW_ hHeld ?_
        refine tat4 1 29 (bt 12 23) HT_ HW_ hHeld ?_
        refine join_ (σ := Value × Value × Nat) 2 (bt 12 1023) (fun s_ => [(31, .int .i64 t723), (33, .tuple #[.agg #[.int .i64 t724, s_.1, s_.2.1], .bool true]), (7, .pointer (some ⟨s_.2.2, 0, none⟩)), (27, .tuple #[.agg #[.int .i64 t724, s_.1, s_.2.1], .bool true]), (34, .agg #[.int .i64 t724, s_.1, s_.2.1]), (35, .bool true)]) (fun s_ w' => (w'.cell? ⟨gb719, 0, none⟩ = some (.int .i64 t710) ∧ w'.cell? ⟨gb719, 1, none⟩ = some (.int .i64 t711) ∧ w'.cell? ⟨gb719, 2, none⟩ = some (.int .i64 t712) ∧ w'.cell? ⟨gb719, 3, none⟩ = some (.slice Ao56 t713.length co56)) ∧ (Kd.S k105 105 w' w.heap.size (fun k_ => some k_ ≠ (s_.1 : Value).ownBlock ∧ some k_ ≠ (s_.2.1 : Value).ownBlock ∧ k_ ≠ s_.2.2) (.slice Ao56 t713.length co56) t713) ∧ (Kd.R (Kd.int .i64) 3 w' w.heap.size (fun k_ => some k_ ≠ (s_.2.1 : Value).ownBlock) s_.1 t725) ∧ (Kd.R (Kd.int .i64) 3 w' w.heap.size (fun k_ => some k_ ≠ (s_.1 : Value).ownBlock) s_.2.1 t728) ∧ (w'.heap[gb719]? = some (.cells #[.int .i64 t710, .int .i64 t711, .int .i64 t712, .slice Ao56 t713.length co56] 31 (0, 0))) ∧ (w'.heap[s_.2.2]? = some (.cells #[.int .i64 0, .slice none 0 0, .slice none 0 0] 55 (0, 0))) ∧ (w.heap.size ≤ s_.2.2) ∧ (w.heap.size ≤ s_.2.2) ∧ (gb719 ≠ s_.2.2) ∧ (s_.2.2 ≠ gb719) ∧ (Below w.heap.size w w')) ?_ ?_
        rotate_left
        ·intro hCont
         refine two_ (i := 3) (j := 9) (Ni := some 31) (Nj := some 7) (bt 12 31) (bt 12 535) rfl rfl rfl rfl (two_of HT_.out (by kernel_rfl)) (by decide) (by decide) (fun K hK => ?_) (fun K hK => ?_)
         ·skip
          refine goes_ Try.func42 (by kernel_rfl) rfl #[.agg #[.int .i64 t710, .int .i64 t711, .int .i64 t712, .slice Ao56 t713.length co56], .int .i64 t718] (by rfl) rfl rfl sl ?_
          with_reducible refine (impl_PieceAt.calls t710 t711 t712 _ _ t713 t718 t723 _ ?side1 ?side2 A18.out).mono ?_
          (case side1 => repeat (first | exact (Kd.S_reads' HO715.out).2.2 | (with_reducible refine Kd.C_alloc ?_ _) | (with_reducible refine Kd.C_drewN ?_ _) | (with_reducible refine Kd.C_drew ?_)))
          (case side2 => exact (Kd.S_reads' HO715.out).2.1)
          rintro e w64 ⟨rfl, hb⟩
          refine ⟨_, rfl, ?_⟩
          replace HO715 := am (Kd.S_below (ss HO715) hb)
          replace BK719 := bb BK719 hb
          replace HB := bsw hb
          (try clear hb)
          (try clear hb2)
          (try clear hk)
          (try clear hi)
          refine hK.out _ _ ⟨bc0 BK719, bc1 BK719, bc2 BK719, bc3 BK719⟩ (fun hHeld => ?_)
          clear hK K
          refine nm 31 ?_
          refine two_ (i := 5) (j := 9) (Ni := some 33) (Nj := some 7) (bt 12 63) (bt 12 543) rfl rfl rfl rfl (two_of HT_.out (by kernel_rfl)) (by decide) (by decide) (fun K hK => ?_) (fun K hK => ?_)
          ·skip
           refine goes_ Try.func41 (by kernel_rfl) rfl #[.agg #[.int .i64 t710, .int .i64 t711, .int .i64 t712, .slice Ao56 t713.length co56], .int .i64 t723, .int .i64 t717] (by rfl) rfl rfl sl ?_
           with_reducible refine (impl_TableIn.calls t710 t711 t712 _ _ t713 t723 t717 t724 t725 t728 true _ ?side1 ?side2 A19.out).mono ?_
           (case side1 => repeat (first | exact (Kd.S_reads' HO715.out).2.2 | (with_reducible refine Kd.C_alloc ?_ _) | (with_reducible refine Kd.C_drewN ?_ _) | (with_reducible refine Kd.C_drew ?_)))
           (case side2 => exact (Kd.S_reads' HO715.out).2.1)
           rintro e w65 ⟨v726, v729, rfl, ho0, ho1, hb⟩
           refine ⟨_, rfl, ?_⟩
           replace HO715 := am (Kd.S_mono (Kd.S_told (Kd.S_told (Kd.S_old (ss HO715) hb) (Kd.R_base ho0)) (Kd.R_base ho1)) (fun _ h_ => h_.1))
           have HO727 := am (Kd.R_lower ho0 (below_size (sbw)))
           have HO730 := am (Kd.R_lower ho1 (below_size (sbw)))
           replace BK719 := bb BK719 hb
           replace HB := bsw hb
           (try clear hb)
           (try clear hb2)
           (try clear hk)
           (try clear hi)
           (try clear ho0)
           (try clear ho1)
           refine hK.out _ _ ⟨bc0 BK719, bc1 BK719, bc2 BK719, bc3 BK719⟩ (fun hHeld => ?_)
           clear hK K
           refine nm 33 ?_
           refine put 6 27 (bt 12 127) HT_ ?_
           refine put 7 34 (bt 12 255) HT_ ?_
           refine put 8 35 (bt 12 511) HT_ ?_
           refine on 9 7 (bt 12 1023) HT_ (fun K hK => ?_)
           refine box_step ?hg (N := 7) ?hd (cs := #[.int .i64 0, .slice none 0 0, .slice none 0 0]) (t := 55) ?hr ?_; (case hd => rfl); (case hg => rfl); (case hr => first | (go_simp; done) | (go_simp; rfl))
           intro gb732 hg w66 hbox hb
           replace HO715 := am (Kd.S_below (Kd.S_elderB (ss HO715) gb732 (Nat.le_of_eq hg.symm)) hb)
           replace HO727 := rb HO727 hb
           replace HO730 := rb HO730 hb
           have GW732 := bzw w hg
           have GE732 := bzw w hg
           replace HB := bsw hb
           have BK732 := am hbox
           have NB719_732 := nl BK719 hg
           have NB732_719 := ng BK719 hg
           replace BK719 := bb BK719 hb
           clear hb hbox hg
           refine hK.out _ _ ⟨bc0 BK719, bc1 BK719, bc2 BK719, bc3 BK719⟩ (fun hHeld => ?_)
           clear hK K
           refine nm 7 ?_
           exact norm_ a24_1 (hCont (v726, v729, gb732) _ ⟨hHeld, a24_2, (sr HO727), (sr HO730), (sk BK719), (sk BK732), GW732.out, GE732.out, NB719_732.out, NB732_719.out, (sbw)⟩)
          ·skip
           refine box_step ?hg (N := 7) ?hd (cs := #[.int .i64 0, .slice none 0 0, .slice none 0 0]) (t := 55) ?hr ?_; (case hd => rfl); (case hg => rfl); (case hr => first | (go_simp; done) | (go_simp; rfl))
           intro gb732 hg w65 hbox hb
           replace HO715 := am (Kd.S_below (Kd.S_elderB (ss HO715) gb732 (Nat.le_of_eq hg.symm)) hb)
           have GW732 := bzw w hg
           have GE732 := bzw w hg
           replace HB := bsw hb
           have BK732 := am hbox
           have NB719_732 := nl BK719 hg
           have NB732_719 := ng BK719 hg
           replace BK719 := bb BK719 hb
           clear hb hbox hg
           refine hK.out _ _ ⟨bc0 BK719, bc1 BK719, bc2 BK719, bc3 BK719⟩ (fun hHeld => ?_)
           clear hK K
           refine nm 7 ?_
           refine on 5 33 (bt 12 575) HT_ (fun K hK => ?_)
           refine goes_ Try.func41 (by kernel_rfl) rfl #[.agg #[.int .i64 t710, .int .i64 t711, .int .i64 t712, .slice Ao56 t713.length co56], .int .i64 t723, .int .i64 t717] (by rfl) rfl rfl sl ?_
           with_reducible refine (impl_TableIn.calls t710 t711 t712 _ _ t713 t723 t717 t724 t725 t728 true _ ?side1 ?side2 A19.out).mono ?_
           (case side1 => repeat (first | exact (Kd.S_reads' HO715.out).2.2 | (with_reducible refine Kd.C_alloc ?_ _) | (with_reducible refine Kd.C_drewN ?_ _) | (with_reducible refine Kd.C_drew ?_)))
           (case side2 => exact (Kd.S_reads' HO715.out).2.1)
           rintro e w66 ⟨v726, v729, rfl, ho0, ho1, hb⟩
           refine ⟨_, rfl, ?_⟩
           replace HO715 := am (Kd.S_mono (Kd.S_told (Kd.S_told (Kd.S_old (ss HO715) hb) (Kd.R_base ho0)) (Kd.R_base ho1)) (fun _ h_ => h_.1))
           have HO727 := am (Kd.R_lower ho0 (below_size (sbw)))
           have HO730 := am (Kd.R_lower ho1 (below_size (sbw)))
           replace BK719 := bb BK719 hb
           replace BK732 := bb BK732 hb
           replace HB := bsw hb
           (try clear hb)
           (try clear hb2)
           (try clear hk)
           (try clear hi)
           (try clear ho0)
           (try clear ho1)
           refine hK.out _ _ ⟨bc0 BK719, bc1 BK719, bc2 BK719, bc3 BK719⟩ (fun hHeld => ?_)
           clear hK K
           refine nm 33 ?_
           refine put 6 27 (bt 12 639) HT_ ?_
           refine put 7 34 (bt 12 767) HT_ ?_
           refine put 8 35 (bt 12 1023) HT_ ?_
           exact norm_ a24_1 (hCont (v726, v729, gb732) _ ⟨hHeld, a24_0, (sr HO727), (sr HO730), (sk BK719), (sk BK732), GW732.out, GE732.out, NB719_732.out, NB732_719.out, (sbw)⟩)
         ·skip
          refine box_step ?hg (N := 7) ?hd (cs := #[.int .i64 0, .slice none 0 0, .slice none 0 0]) (t := 55) ?hr ?_; (case hd => rfl); (case hg => rfl); (case hr => first | (go_simp; done) | (go_simp; rfl))
          intro gb732 hg w64 hbox hb
          replace HO715 := am (Kd.S_below (Kd.S_elderB (ss HO715) gb732 (Nat.le_of_eq hg.symm)) hb)
          have GW732 := bzw w hg
          have GE732 := bzw w hg
          replace HB := bsw hb
          have BK732 := am hbox
          have NB719_732 := nl BK719 hg
          have NB732_719 := ng BK719 hg
          replace BK719 := bb BK719 hb
          clear hb hbox hg
          refine hK.out _ _ ⟨bc0 BK719, bc1 BK719, bc2 BK719, bc3 BK719⟩ (fun hHeld => ?_)
          clear hK K
          refine nm 7 ?_
          refine on 3 31 (bt 12 543) HT_ (fun K hK => ?_)
          refine goes_ Try.func42 (by kernel_rfl) rfl #[.agg #[.int .i64 t710, .int .i64 t711, .int .i64 t712, .slice Ao56 t713.length co56], .int .i64 t718] (by rfl) rfl rfl sl ?_
          with_reducible refine (impl_PieceAt.calls t710 t711 t712 _ _ t713 t718 t723 _ ?side1 ?side2 A18.out).mono ?_
          (case side1 => repeat (first | exact (Kd.S_reads' HO715.out).2.2 | (with_reducible refine Kd.C_alloc ?_ _) | (with_reducible refine Kd.C_drewN ?_ _) | (with_reducible refine Kd.C_drew ?_)))
          (case side2 => exact (Kd.S_reads' HO715.out).2.1)
          rintro e w65 ⟨rfl, hb⟩
          refine ⟨_, rfl, ?_⟩
          replace HO715 := am (Kd.S_below (ss HO715) hb)
          replace BK719 := bb BK719 hb
          replace BK732 := bb BK732 hb
          replace HB := bsw hb
          (try clear hb)
          (try clear hb2)
          (try clear hk)
          (try clear hi)
          refine hK.out _ _ ⟨bc0 BK719, bc1 BK719, bc2 BK719, bc3 BK719⟩ (fun hHeld => ?_)
          clear hK K
          refine nm 31 ?_
          refine on 5 33 (bt 12 575) HT_ (fun K hK => ?_)
          refine goes_ Try.func41 (by kernel_rfl) rfl #[.agg #[.int .i64 t710, .int .i64 t711, .int .i64 t712, .slice Ao56 t713.length co56], .int .i64 t723, .int .i64 t717] (by rfl) rfl rfl sl ?_
          with_reducible refine (impl_TableIn.calls t710 t711 t712 _ _ t713 t723 t717 t724 t725 t728 true _ ?side1 ?side2 A19.out).mono ?_
          (case side1 => repeat (first | exact (Kd.S_reads' HO715.out).2.2 | (with_reducible refine Kd.C_alloc ?_ _) | (with_reducible refine Kd.C_drewN ?_ _) | (with_reducible refine Kd.C_drew ?_)))
          (case side2 => exact (Kd.S_reads' HO715.out).2.1)
          rintro e w66 ⟨v726, v729, rfl, ho0, ho1, hb⟩
          refine ⟨_, rfl, ?_⟩
          replace HO715 := am (Kd.S_mono (Kd.S_told (Kd.S_told (Kd.S_old (ss HO715) hb) (Kd.R_base ho0)) (Kd.R_base ho1)) (fun _ h_ => h_.1))
          have HO727 := am (Kd.R_lower ho0 (below_size (sbw)))
          have HO730 := am (Kd.R_lower ho1 (below_size (sbw)))
          replace BK719 := bb BK719 hb
          replace BK732 := bb BK732 hb
          replace HB := bsw hb
          (try clear hb)
          (try clear hb2)
          (try clear hk)
          (try clear hi)
          (try clear ho0)
          (try clear ho1)
          refine hK.out _ _ ⟨bc0 BK719, bc1 BK719, bc2 BK719, bc3 BK719⟩ (fun hHeld => ?_)
          clear hK K
          refine nm 33 ?_
          refine put 6 27 (bt 12 639) HT_ ?_
          refine put 7 34 (bt 12 767) HT_ ?_
          refine put 8 35 (bt 12 1023) HT_ ?_
          exact norm_ a24_1 (hCont (v726, v729, gb732) _ ⟨hHeld, a24_0, (sr HO727), (sr HO730), (sk BK719), (sk BK732), GW732.out, GE732.out, NB719_732.out, NB732_719.out, (sbw)⟩)
        rintro ⟨v726, v729, gb732⟩ w67 ⟨hS_, h0_, h1_, h2_, h3_, h4_, h5_, h6_, h7_, h8_, h9_⟩
        replace HO715 : Aside0 (Kd.S k105 105 w67 w.heap.size (fun k_ => some k_ ≠ (v726 : Value).ownBlock ∧ some k_ ≠ (v729 : Value).ownBlock ∧ k_ ≠ gb732) (.slice Ao56 t713.length co56) t713) := ⟨h0_⟩
        have HO727 : Aside0 (Kd.R (Kd.int .i64) 3 w67 w.heap.size (fun k_ => some k_ ≠ (v729 : Value).ownBlock) v726 t725) := ⟨h1_⟩
        have HO730 : Aside0 (Kd.R (Kd.int .i64) 3 w67 w.heap.size (fun k_ => some k_ ≠ (v726 : Value).ownBlock) v729 t728) := ⟨h2_⟩
        replace BK719 : Aside0 (w67.heap[gb719]? = some (.cells #[.int .i64 t710, .int .i64 t711, .int .i64 t712, .slice Ao56 t713.length co56] 31 (0, 0))) := ⟨h3_⟩
        have BK732 : Aside0 (w67.heap[gb732]? = some (.cells #[.int .i64 0, .slice none 0 0, .slice none 0 0] 55 (0, 0))) := ⟨h4_⟩
        have GW732 : Aside0 (w.heap.size ≤ gb732) := ⟨h5_⟩
        have GE732 : Aside0 (w.heap.size ≤ gb732) := ⟨h6_⟩
        have NB719_732 : Aside0 (gb719 ≠ gb732) := ⟨h7_⟩
        have NB732_719 : Aside0 (gb732 ≠ gb719) := ⟨h8_⟩
        replace HB : Aside0 (Below w.heap.size w w67) := ⟨h9_⟩
        clear h0_ h1_ h2_ h3_ h4_ h5_ h6_ h7_ h8_ h9_
        have hHeld : w67.cell? ⟨gb719, 0, none⟩ = some (.int .i64 t710) ∧ w67.cell? ⟨gb719, 1, none⟩ = some (.int .i64 t711) ∧ w67.cell? ⟨gb719, 2, none⟩ = some (.int .i64 t712) ∧ w67.cell? ⟨gb719, 3, none⟩ = some (.slice Ao56 t713.length co56) := hS_
        obtain ⟨Ao69, co69, eo69⟩ := Kd.R_slice HO727.out
        (first | subst eo69 | (injection eo69 with f1_ f2_ f3_; have f4_ := f1_.symm; have f5_ := f3_.symm; clear f1_ f2_ f3_; subst f4_; subst f5_))
        obtain ⟨Ao71, co71, eo71⟩ := Kd.R_slice HO730.out
        (first | subst eo71 | (injection eo71 with f1_ f2_ f3_; have f4_ := f1_.symm; have f5_ := f3_.symm; clear f1_ f2_ f3_; subst f4_; subst f5_))
        refine norm_ (a' := ?_) ?_ ?_
        rotate_left
        ·simp only [putAll, Act.put, List.setIfInBounds_toArray, List.set_cons_zero, List.set_cons_succ]
         rfl
        refine one_ (i := 10) (N := none) (bt 12 2047) rfl rfl (one_of HT_.out (by kernel_rfl)) (by decide) (fun K hK => ?_)
        obtain ⟨hs68, hfs68⟩ := cc1 BK732
        have hns68_0 := NB719_732.out
        have hms68_0 := NB732_719.out
        have hs70 := bc1 BK732
        have hfs70 := bf BK732 1
        have hns70_0 := NB719_732.out
        have hms70_0 := NB732_719.out
        have hs72 := bc2 BK732
        have hfs72 := bf BK732 2
        have hns72_0 := NB719_732.out
        have hms72_0 := NB732_719.out
        refine skip_ (w1 := ?_) (by rfl) rfl ?_ ?_
        rotate_left
        ·go_simp
         rfl
        refine hK.out _ _ ⟨((cell_far (p := ⟨gb732, _, none⟩) NB719_732.out _).trans (((cell_far (p := ⟨gb732, _, none⟩) NB719_732.out _).trans (((cell_far (p := ⟨gb732, _, none⟩) NB719_732.out _).trans (hHeld.1)))))), ((cell_far (p := ⟨gb732, _, none⟩) NB719_732.out _).trans (((cell_far (p := ⟨gb732, _, none⟩) NB719_732.out _).trans (((cell_far (p := ⟨gb732, _, none⟩) NB719_732.out _).trans (hHeld.2.1)))))), ((cell_far (p := ⟨gb732, _, none⟩) NB719_732.out _).trans (((cell_far (p := ⟨gb732, _, none⟩) NB719_732.out _).trans (((cell_far (p := ⟨gb732, _, none⟩) NB719_732.out _).trans (hHeld.2.2.1)))))), ((cell_far (p := ⟨gb732, _, none⟩) NB719_732.out _).trans (((cell_far (p := ⟨gb732, _, none⟩) NB719_732.out _).trans (((cell_far (p := ⟨gb732, _, none⟩) NB719_732.out _).trans (hHeld.2.2.2))))))⟩ (fun hHeld => ?_)
        clear hK K
        refine put 11 8 (bt 12 4095) HT_ ?_
        refine done_ (done_of HT_.out (by kernel_rfl)) ?_
        have hnb73 := NB719_732.out
        have hnc73 := NB732_719.out
        obtain ⟨hcz74_0, hcz74_1, hcz74_2, hcz74_3, hfz74_0, hfz74_1, hfz74_2, hfz74_3⟩ := cc4 BK719
        exact e24_0
      ·obtain rfl := Option.some.inj H
       go_enter Try.func6, Try.ntmps6
       try go_wp2_with (first | ((with_reducible refine gc 12 rfl ?_); refine gL (some 11) Try.func12 #[.slice A0 l0.length c0] ?_; (with_reducible refine (laws_big.calls _ _ l0 false _ ?side1 ?side2 A2.out).mono ?_); (case side1 => repeat (first | exact HR0.out | (with_reducible refine Kd.C_alloc ?_ _) | (with_reducible refine Kd.C_drewN ?_ _) | (with_reducible refine Kd.C_drew ?_))); (case side2 => exact HC0.out); rintro e w' ⟨rfl, ⟨nd, rfl⟩⟩; refine ⟨_, rfl, ?_⟩) | ((with_reducible refine gc 39 rfl ?_); refine gL (some 14) Try.func39 #[.slice A0 l0.length c0] ?_; (with_reducible refine (spec_DrawHopAt.calls k _ _ l0 t710 t711 t712 t713 t716 t717 t718 _ ?side1 ?side2 A4.out).mono ?_); (case side1 => repeat (first | exact HR0.out | (with_reducible refine Kd.C_alloc ?_ _) | (with_reducible refine Kd.C_drewN ?_ _) | (with_reducible refine Kd.C_drew ?_))); (case side2 => exact HC0.out); rintro e w79 ⟨v714, rfl, ho0, hb⟩; refine ⟨_, rfl, ?_⟩; have HO715 := am (Kd.S_lower ho0 (below_size (sb))); replace HB := bs hb; (try clear hb); (try clear ho0)) | ((with_reducible refine gd 3 rfl ?_); refine bx 3 #[.int .i64 0, .int .i64 0, .int .i64 0, .slice none 0 0] 31 ?_; intro gb719 hg w80 hbox hb; replace HO715 := am (Kd.S_below (ss HO715) hb); have GW719 := bz w hg; have GE719 := bz w hg; replace HB := bs hb; have BK719 := am hbox; clear hb hbox hg; obtain ⟨hcz81_0, hcz81_1, hcz81_2, hcz81_3, hfz81_0, hfz81_1, hfz81_2, hfz81_3⟩ := cc4 BK719; obtain ⟨Ao82, co82, eo82⟩ := Kd.S_slice HO715.out; subst eo82))
       have n0_ : Aside0 (Kd.S k105 105 ((((w80.setCell ⟨gb719, 0, none⟩ (.int .i64 t710)).setCell ⟨gb719, 1, none⟩ (.int .i64 t711)).setCell ⟨gb719, 2, none⟩ (.int .i64 t712)).setCell ⟨gb719, 3, none⟩ (.slice Ao82 t713.length co82)) w.heap.size (fun _ => True) (.slice Ao82 t713.length co82) t713) := ⟨by (with_reducible repeat (first | apply Kd.S_alloc | apply Kd.S_drewN | apply Kd.S_drew)); exact Kd.S_mono (Kd.S_far (p := ⟨gb719, 3, none⟩) (Kd.S_far (p := ⟨gb719, 2, none⟩) (Kd.S_far (p := ⟨gb719, 1, none⟩) (Kd.S_far (p := ⟨gb719, 0, none⟩) (Kd.S_types HO715.out BK719.out (by decide)) (fun _ hk => hk.2) (.int .i64 t710)) (fun _ hk => hk.2) (.int .i64 t711)) (fun _ hk => hk.2) (.int .i64 t712)) (fun _ hk => hk.2) (.slice Ao82 t713.length co82)) (fun _ hk => trivial)⟩
       have n1_ : Aside0 (((((w80.setCell ⟨gb719, 0, none⟩ (.int .i64 t710)).setCell ⟨gb719, 1, none⟩ (.int .i64 t711)).setCell ⟨gb719, 2, none⟩ (.int .i64 t712)).setCell ⟨gb719, 3, none⟩ (.slice Ao82 t713.length co82)).heap[gb719]? = some (.cells #[.int .i64 t710, .int .i64 t711, .int .i64 t712, .slice Ao82 t713.length co82] 31 (0, 0))) := ⟨sp BK719⟩
       have n2_ : Aside0 (Below w.heap.size w ((((w80.setCell ⟨gb719, 0, none⟩ (.int .i64 t710)).setCell ⟨gb719, 1, none⟩ (.int .i64 t711)).setCell ⟨gb719, 2, none⟩ (.int .i64 t712)).setCell ⟨gb719, 3, none⟩ (.slice Ao82 t713.length co82))) := ⟨sbw⟩
       (try clear HO715)
       (try clear BK719)
       (try clear HB)
       generalize ((((w80.setCell ⟨gb719, 0, none⟩ (.int .i64 t710)).setCell ⟨gb719, 1, none⟩ (.int .i64 t711)).setCell ⟨gb719, 2, none⟩ (.int .i64 t712)).setCell ⟨gb719, 3, none⟩ (.slice Ao82 t713.length co82)) = w83 at n0_ n1_ n2_ ⊢
       have HO715 := n0_
       have BK719 := n1_
       have HB := n2_
       clear n0_ n1_ n2_
       replace HO715 := am (Kd.S_drew HO715.out)
       replace BK719 := am (blk_drew BK719.out)
       replace HB := am (below_drew1 HB.out)
       refine start_ (n := 5) (S := fun w' => w'.cell? ⟨gb719, 0, none⟩ = some (.int .i64 t710) ∧ w'.cell? ⟨gb719, 1, none⟩ = some (.int .i64 t711) ∧ w'.cell? ⟨gb719, 2, none⟩ = some (.int .i64 t712) ∧ w'.cell? ⟨gb719, 3, none⟩ = some (.slice Ao82 t713.length co82)) (ds := []) #[false, false, false, false, false] (by kernel_rfl) rfl rfl ⟨bc0 BK719, bc1 BK719, bc2 BK719, bc3 BK719⟩ (fun hHeld => ?_)
       generalize w83.drew = w84 at HO715 BK719 HB hHeld ⊢
       refine ta4 0 19 (bt 5 1) hHeld ?_
       refine ta4 2 21 (bt 5 5) hHeld ?_
       refine one_ (i := 1) (N := some 20) (bt 5 7) rfl rfl (by kernel_rfl) (by decide) (fun K hK => ?_)
       refine goes_ Try.func36 (by kernel_rfl) rfl #[.agg #[.int .i64 t710, .int .i64 t711, .int .i64 t712, .slice Ao82 t713.length co82]] (by rfl) rfl rfl sl ?_
       with_reducible refine (impl_IsProgram.calls k t710 t711 t712 _ _ t713 t720 _ ?side1 ?side2 A5.out).mono ?_
       (case side1 => repeat (first | exact (Kd.S_reads' HO715.out).2.2 | (with_reducible refine Kd.C_alloc ?_ _) | (with_reducible refine Kd.C_drewN ?_ _) | (with_reducible refine Kd.C_drew ?_)))
       (case side2 => exact (Kd.S_reads' HO715.out).2.1)
       rintro e w85 ⟨rfl, hb⟩
       refine ⟨_, rfl, ?_⟩
       replace HO715 := am (Kd.S_below (ss HO715) hb)
       replace BK719 := bb BK719 hb
       replace HB := bsw hb
       (try clear hb)
       (try clear hb2)
       (try clear hk)
       (try clear hi)
       refine hK.out _ _ ⟨bc0 BK719, bc1 BK719, bc2 BK719, bc3 BK719⟩ (fun hHeld => ?_)
       clear hK K
       refine nm 20 ?_
       refine one_ (i := 3) (N := some 22) (bt 5 15) rfl rfl (by kernel_rfl) (by decide) (fun K hK => ?_)
       refine goes_ Try.func40 (by kernel_rfl) rfl #[.agg #[.int .i64 t710, .int .i64 t711, .int .i64 t712, .slice Ao82 t713.length co82]] (by rfl) rfl rfl sl ?_
       with_reducible refine (spec_IsProgram.calls k t710 t711 t712 _ _ t713 t721 _ ?side1 ?side2 A6.out).mono ?_
       (case side1 => repeat (first | exact (Kd.S_reads' HO715.out).2.2 | (with_reducible refine Kd.C_alloc ?_ _) | (with_reducible refine Kd.C_drewN ?_ _) | (with_reducible refine Kd.C_drew ?_)))
       (case side2 => exact (Kd.S_reads' HO715.out).2.1)
       rintro e w86 ⟨rfl, hb⟩
       refine ⟨_, rfl, ?_⟩
       replace HO715 := am (Kd.S_below (ss HO715) hb)
       replace BK719 := bb BK719 hb
       replace HB := bsw hb
       (try clear hb)
       (try clear hb2)
       (try clear hk)
       (try clear hi)
       refine hK.out _ _ ⟨bc0 BK719, bc1 BK719, bc2 BK719, bc3 BK719⟩ (fun hHeld => ?_)
       clear hK K
       refine nm 22 ?_
       refine pu 4 23 (bt 5 31) ?_
       refine done_ (by kernel_rfl) ?_
       obtain ⟨hcz87_0, hcz87_1, hcz87_2, hcz87_3, hfz87_0, hfz87_1, hfz87_2, hfz87_3⟩ := cc4 BK719
       try go_wp2_with (first | ((with_reducible refine gc 36 rfl ?_); refine gL (some 25) Try.func36 #[.agg #[.int .i64 t710, .int .i64 t711, .int .i64 t712, .slice Ao82 t713.length co82]] ?_; (with_reducible refine (impl_IsProgram.calls k t710 t711 t712 _ _ t713 true _ ?side1 ?side2 A16.out).mono ?_); (case side1 => repeat (first | exact (Kd.S_reads' HO715.out).2.2 | (with_reducible refine Kd.C_alloc ?_ _) | (with_reducible refine Kd.C_drewN ?_ _) | (with_reducible refine Kd.C_drew ?_))); (case side2 => exact (Kd.S_reads' HO715.out).2.1); rintro e w88 ⟨rfl, hb⟩; refine ⟨_, rfl, ?_⟩; replace HO715 := am (Kd.S_below (ss HO715) hb); replace BK719 := bb BK719 hb; replace HB := bsw hb; (try clear hb)))
       replace HO715 := am (Kd.S_drew HO715.out)
       replace BK719 := am (blk_drew BK719.out)
       replace HB := am (below_drew1 HB.out)
       refine start_ (n := 12) (S := fun w' => w'.cell? ⟨gb719, 0, none⟩ = some (.int .i64 t710) ∧ w'.cell? ⟨gb719, 1, none⟩ = some (.int .i64 t711) ∧ w'.cell? ⟨gb719, 2, none⟩ = some (.int .i64 t712) ∧ w'.cell? ⟨gb719, 3, none⟩ = some (.slice Ao82 t713.length co82)) (ds := []) #[false, false, false, false, false, false, false, false, false, false, false, false] (by kernel_rfl) rfl rfl ⟨bc0 BK719, bc1 BK719, bc2 BK719, bc3 BK719⟩ (fun hHeld => ?_); refine with_tabW laws_FnSwitched.tab8 laws_FnSwitched.bits8 (fun HT_ HW_ => ?_)
       generalize w88.drew = w89 at HO715 BK719 HB hHeld ⊢
       refine put 2 30 (bt 12 4) HT_ ?_
       refine put 4 32 (bt 12 20) HT_ ?_
       refine tat4 0 28 (bt 12 21) HT_ HW_ hHeld ?_
       refine tat4 1 29 (bt 12 23) HT_ HW_ hHeld ?_
       refine join_ (σ := Value × Value × Nat) 2 (bt 12 1023) (fun s_ => [(31, .int .i64 t723), (33, .tuple #[.agg #[.int .i64 t724, s_.1, s_.2.1], .bool true]), (7, .pointer (some ⟨s_.2.2, 0, none⟩)), (27, .tuple #[.agg #[.int .i64 t724, s_.1, s_.2.1], .bool true]), (34, .agg #[.int .i64 t724, s_.1, s_.2.1]), (35, .bool true)]) (fun s_ w' => (w'.cell? ⟨gb719, 0, none⟩ = some (.int .i64 t710) ∧ w'.cell? ⟨gb719, 1, none⟩ = some (.int .i64 t711) ∧ w'.cell? ⟨gb719, 2, none⟩ = some (.int .i64 t712) ∧ w'.cell? ⟨gb719, 3, none⟩ = some (.slice Ao82 t713.length co82)) ∧ (Kd.S k105 105 w' w.heap.size (fun k_ => some k_ ≠ (s_.1 : Value).ownBlock ∧ some k_ ≠ (s_.2.1 : Value).ownBlock ∧ k_ ≠ s_.2.2) (.slice Ao82 t713.length co82) t713) ∧ (Kd.R (Kd.int .i64) 3 w' w.heap.size (fun k_ => some k_ ≠ (s_.2.1 : Value).ownBlock) s_.1 t725) ∧ (Kd.R (Kd.int .i64) 3 w' w.heap.size (fun k_ => some k_ ≠ (s_.1 : Value).ownBlock) s_.2.1 t728) ∧ (w'.heap[gb719]? = some (.cells #[.int .i64 t710, .int .i64 t711, .int .i64 t712, .slice Ao82 t713.length co82] 31 (0, 0))) ∧ (w'.heap[s_.2.2]? = some (.cells #[.int .i64 0, .slice none 0 0, .slice none 0 0] 55 (0, 0))) ∧ (w.heap.size ≤ s_.2.2) ∧ (w.heap.size ≤ s_.2.2) ∧ (gb719 ≠ s_.2.2) ∧ (s_.2.2 ≠ gb719) ∧ (Below w.heap.size w w')) ?_ ?_
       rotate_left
       ·intro hCont
        refine two_ (i := 3) (j := 9) (Ni := some 31) (Nj := some 7) (bt 12 31) (bt 12 535) rfl rfl rfl rfl (two_of HT_.out (by kernel_rfl)) (by decide) (by decide) (fun K hK => ?_) (fun K hK => ?_)
        ·skip
         refine goes_ Try.func42 (by kernel_rfl) rfl #[.agg #[.int .i64 t710, .int .i64 t711, .int .i64 t712, .slice Ao82 t713.length co82], .int .i64 t718] (by rfl) rfl rfl sl ?_
         with_reducible refine (impl_PieceAt.calls t710 t711 t712 _ _ t713 t718 t723 _ ?side1 ?side2 A18.out).mono ?_
         (case side1 => repeat (first | exact (Kd.S_reads' HO715.out).2.2 | (with_reducible refine Kd.C_alloc ?_ _) | (with_reducible refine Kd.C_drewN ?_ _) | (with_reducible refine Kd.C_drew ?_)))
         (case side2 => exact (Kd.S_reads' HO715.out).2.1)
         rintro e w90 ⟨rfl, hb⟩
         refine ⟨_, rfl, ?_⟩
         replace HO715 := am (Kd.S_below (ss HO715) hb)
         replace BK719 := bb BK719 hb
         replace HB := bsw hb
         (try clear hb)
         (try clear hb2)
         (try clear hk)
         (try clear hi)
         refine hK.out _ _ ⟨bc0 BK719, bc1 BK719, bc2 BK719, bc3 BK719⟩ (fun hHeld => ?_)
         clear hK K
         refine nm 31 ?_
         refine two_ (i := 5) (j := 9) (Ni := some 33) (Nj := some 7) (bt 12 63) (bt 12 543) rfl rfl rfl rfl (two_of HT_.out (by kernel_rfl)) (by decide) (by decide) (fun K hK => ?_) (fun K hK => ?_)
         ·skip
          refine goes_ Try.func41 (by kernel_rfl) rfl #[.agg #[.int .i64 t710, .int .i64 t711, .int .i64 t712, .slice Ao82 t713.length co82], .int .i64 t723, .int .i64 t717] (by rfl) rfl rfl sl ?_
          with_reducible refine (impl_TableIn.calls t710 t711 t712 _ _ t713 t723 t717 t724 t725 t728 true _ ?side1 ?side2 A19.out).mono ?_
          (case side1 => repeat (first | exact (Kd.S_reads' HO715.out).2.2 | (with_reducible refine Kd.C_alloc ?_ _) | (with_reducible refine Kd.C_drewN ?_ _) | (with_reducible refine Kd.C_drew ?_)))
          (case side2 => exact (Kd.S_reads' HO715.out).2.1)
          rintro e w91 ⟨v726, v729, rfl, ho0, ho1, hb⟩
          refine ⟨_, rfl, ?_⟩
          replace HO715 := am (Kd.S_mono (Kd.S_told (Kd.S_told (Kd.S_old (ss HO715) hb) (Kd.R_base ho0)) (Kd.R_base ho1)) (fun _ h_ => h_.1))
          have HO727 := am (Kd.R_lower ho0 (below_size (sbw)))
          have HO730 := am (Kd.R_lower ho1 (below_size (sbw)))
          replace BK719 := bb BK719 hb
          replace HB := bsw hb
          (try clear hb)
          (try clear hb2)
          (try clear hk)
          (try clear hi)
          (try clear ho0)
          (try clear ho1)
          refine hK.out _ _ ⟨bc0 BK719, bc1 BK719, bc2 BK719, bc3 BK719⟩ (fun hHeld => ?_)
          clear hK K
          refine nm 33 ?_
          refine put 6 27 (bt 12 127) HT_ ?_
          refine put 7 34 (bt 12 255) HT_ ?_
          refine put 8 35 (bt 12 511) HT_ ?_
          refine on 9 7 (bt 12 1023) HT_ (fun K hK => ?_)
          refine box_step ?hg (N := 7) ?hd (cs := #[.int .i64 0, .slice none 0 0, .slice none 0 0]) (t := 55) ?hr ?_; (case hd => rfl); (case hg => rfl); (case hr => first | (go_simp; done) | (go_simp; rfl))
          intro gb732 hg w92 hbox hb
          replace HO715 := am (Kd.S_below (Kd.S_elderB (ss HO715) gb732 (Nat.le_of_eq hg.symm)) hb)
          replace HO727 := rb HO727 hb
          replace HO730 := rb HO730 hb
          have GW732 := bzw w hg
          have GE732 := bzw w hg
          replace HB := bsw hb
          have BK732 := am hbox
          have NB719_732 := nl BK719 hg
          have NB732_719 := ng BK719 hg
          replace BK719 := bb BK719 hb
          clear hb hbox hg
          refine hK.out _ _ ⟨bc0 BK719, bc1 BK719, bc2 BK719, bc3 BK719⟩ (fun hHeld => ?_)
          clear hK K
          refine nm 7 ?_
          exact norm_ a24_1 (hCont (v726, v729, gb732) _ ⟨hHeld, a24_2, (sr HO727), (sr HO730), (sk BK719), (sk BK732), GW732.out, GE732.out, NB719_732.out, NB732_719.out, (sbw)⟩)
         ·skip
          refine box_step ?hg (N := 7) ?hd (cs := #[.int .i64 0, .slice none 0 0, .slice none 0 0]) (t := 55) ?hr ?_; (case hd => rfl); (case hg => rfl); (case hr => first | (go_simp; done) | (go_simp; rfl))
          intro gb732 hg w91 hbox hb
          replace HO715 := am (Kd.S_below (Kd.S_elderB (ss HO715) gb732 (Nat.le_of_eq hg.symm)) hb)
          have GW732 := bzw w hg
          have GE732 := bzw w hg
          replace HB := bsw hb
          have BK732 := am hbox
          have NB719_732 := nl BK719 hg
          have NB732_719 := ng BK719 hg
          replace BK719 := bb BK719 hb
          clear hb hbox hg
          refine hK.out _ _ ⟨bc0 BK719, bc1 BK719, bc2 BK719, bc3 BK719⟩ (fun hHeld => ?_)
          clear hK K
          refine nm 7 ?_
          refine on 5 33 (bt 12 575) HT_ (fun K hK => ?_)
          refine goes_ Try.func41 (by kernel_rfl) rfl #[.agg #[.int .i64 t710, .int .i64 t711, .int .i64 t712, .slice Ao82 t713.length co82], .int .i64 t723, .int .i64 t717] (by rfl) rfl rfl sl ?_
          with_reducible refine (impl_TableIn.calls t710 t711 t712 _ _ t713 t723 t717 t724 t725 t728 true _ ?side1 ?side2 A19.out).mono ?_
          (case side1 => repeat (first | exact (Kd.S_reads' HO715.out).2.2 | (with_reducible refine Kd.C_alloc ?_ _) | (with_reducible refine Kd.C_drewN ?_ _) | (with_reducible refine Kd.C_drew ?_)))
          (case side2 => exact (Kd.S_reads' HO715.out).2.1)
          rintro e w92 ⟨v726, v729, rfl, ho0, ho1, hb⟩
          refine ⟨_, rfl, ?_⟩
          replace HO715 := am (Kd.S_mono (Kd.S_told (Kd.S_told (Kd.S_old (ss HO715) hb) (Kd.R_base ho0)) (Kd.R_base ho1)) (fun _ h_ => h_.1))
          have HO727 := am (Kd.R_lower ho0 (below_size (sbw)))
          have HO730 := am (Kd.R_lower ho1 (below_size (sbw)))
          replace BK719 := bb BK719 hb
          replace BK732 := bb BK732 hb
          replace HB := bsw hb
          (try clear hb)
          (try clear hb2)
          (try clear hk)
          (try clear hi)
          (try clear ho0)
          (try clear ho1)
          refine hK.out _ _ ⟨bc0 BK719, bc1 BK719, bc2 BK719, bc3 BK719⟩ (fun hHeld => ?_)
          clear hK K
          refine nm 33 ?_
          refine put 6 27 (bt 12 639) HT_ ?_
          refine put 7 34 (bt 12 767) HT_ ?_
          refine put 8 35 (bt 12 1023) HT_ ?_
          exact norm_ a24_1 (hCont (v726, v729, gb732) _ ⟨hHeld, a24_0, (sr HO727), (sr HO730), (sk BK719), (sk BK732), GW732.out, GE732.out, NB719_732.out, NB732_719.out, (sbw)⟩)
        ·skip
         refine box_step ?hg (N := 7) ?hd (cs := #[.int .i64 0, .slice none 0 0, .slice none 0 0]) (t := 55) ?hr ?_; (case hd => rfl); (case hg => rfl); (case hr => first | (go_simp; done) | (go_simp; rfl))
         intro gb732 hg w90 hbox hb
         replace HO715 := am (Kd.S_below (Kd.S_elderB (ss HO715) gb732 (Nat.le_of_eq hg.symm)) hb)
         have GW732 := bzw w hg
         have GE732 := bzw w hg
         replace HB := bsw hb
         have BK732 := am hbox
         have NB719_732 := nl BK719 hg
         have NB732_719 := ng BK719 hg
         replace BK719 := bb BK719 hb
         clear hb hbox hg
         refine hK.out _ _ ⟨bc0 BK719, bc1 BK719, bc2 BK719, bc3 BK719⟩ (fun hHeld => ?_)
         clear hK K
         refine nm 7 ?_
         refine on 3 31 (bt 12 543) HT_ (fun K hK => ?_)
         refine goes_ Try.func42 (by kernel_rfl) rfl #[.agg #[.int .i64 t710, .int .i64 t711, .int .i64 t712, .slice Ao82 t713.length co82], .int .i64 t718] (by rfl) rfl rfl sl ?_
         with_reducible refine (impl_PieceAt.calls t710 t711 t712 _ _ t713 t718 t723 _ ?side1 ?side2 A18.out).mono ?_
         (case side1 => repeat (first | exact (Kd.S_reads' HO715.out).2.2 | (with_reducible refine Kd.C_alloc ?_ _) | (with_reducible refine Kd.C_drewN ?_ _) | (with_reducible refine Kd.C_drew ?_)))
         (case side2 => exact (Kd.S_reads' HO715.out).2.1)
         rintro e w91 ⟨rfl, hb⟩
         refine ⟨_, rfl, ?_⟩
         replace HO715 := am (Kd.S_below (ss HO715) hb)
         replace BK719 := bb BK719 hb
         replace BK732 := bb BK732 hb
         replace HB := bsw hb
         (try clear hb)
         (try clear hb2)
         (try clear hk)
         (try clear hi)
         refine hK.out _ _ ⟨bc0 BK719, bc1 BK719, bc2 BK719, bc3 BK719⟩ (fun hHeld => ?_)
         clear hK K
         refine nm 31 ?_
         refine on 5 33 (bt 12 575) HT_ (fun K hK => ?_)
         refine goes_ Try.func41 (by kernel_rfl) rfl #[.agg #[.int .i64 t710, .int .i64 t711, .int .i64 t712, .slice Ao82 t713.length co82], .int .i64 t723, .int .i64 t717] (by rfl) rfl rfl sl ?_
         with_reducible refine (impl_TableIn.calls t710 t711 t712 _ _ t713 t723 t717 t724 t725 t728 true _ ?side1 ?side2 A19.out).mono ?_
         (case side1 => repeat (first | exact (Kd.S_reads' HO715.out).2.2 | (with_reducible refine Kd.C_alloc ?_ _) | (with_reducible refine Kd.C_drewN ?_ _) | (with_reducible refine Kd.C_drew ?_)))
         (case side2 => exact (Kd.S_reads' HO715.out).2.1)
         rintro e w92 ⟨v726, v729, rfl, ho0, ho1, hb⟩
         refine ⟨_, rfl, ?_⟩
         replace HO715 := am (Kd.S_mono (Kd.S_told (Kd.S_told (Kd.S_old (ss HO715) hb) (Kd.R_base ho0)) (Kd.R_base ho1)) (fun _ h_ => h_.1))
         have HO727 := am (Kd.R_lower ho0 (below_size (sbw)))
         have HO730 := am (Kd.R_lower ho1 (below_size (sbw)))
         replace BK719 := bb BK719 hb
         replace BK732 := bb BK732 hb
         replace HB := bsw hb
         (try clear hb)
         (try clear hb2)
         (try clear hk)
         (try clear hi)
         (try clear ho0)
         (try clear ho1)
         refine hK.out _ _ ⟨bc0 BK719, bc1 BK719, bc2 BK719, bc3 BK719⟩ (fun hHeld => ?_)
         clear hK K
         refine nm 33 ?_
         refine put 6 27 (bt 12 639) HT_ ?_
         refine put 7 34 (bt 12 767) HT_ ?_
         refine put 8 35 (bt 12 1023) HT_ ?_
         exact norm_ a24_1 (hCont (v726, v729, gb732) _ ⟨hHeld, a24_0, (sr HO727), (sr HO730), (sk BK719), (sk BK732), GW732.out, GE732.out, NB719_732.out, NB732_719.out, (sbw)⟩)
       rintro ⟨v726, v729, gb732⟩ w93 ⟨hS_, h0_, h1_, h2_, h3_, h4_, h5_, h6_, h7_, h8_, h9_⟩
       replace HO715 : Aside0 (Kd.S k105 105 w93 w.heap.size (fun k_ => some k_ ≠ (v726 : Value).ownBlock ∧ some k_ ≠ (v729 : Value).ownBlock ∧ k_ ≠ gb732) (.slice Ao82 t713.length co82) t713) := ⟨h0_⟩
       have HO727 : Aside0 (Kd.R (Kd.int .i64) 3 w93 w.heap.size (fun k_ => some k_ ≠ (v729 : Value).ownBlock) v726 t725) := ⟨h1_⟩
       have HO730 : Aside0 (Kd.R (Kd.int .i64) 3 w93 w.heap.size (fun k_ => some k_ ≠ (v726 : Value).ownBlock) v729 t728) := ⟨h2_⟩
       replace BK719 : Aside0 (w93.heap[gb719]? = some (.cells #[.int .i64 t710, .int .i64 t711, .int .i64 t712, .slice Ao82 t713.length co82] 31 (0, 0))) := ⟨h3_⟩
       have BK732 : Aside0 (w93.heap[gb732]? = some (.cells #[.int .i64 0, .slice none 0 0, .slice none 0 0] 55 (0, 0))) := ⟨h4_⟩
       have GW732 : Aside0 (w.heap.size ≤ gb732) := ⟨h5_⟩
       have GE732 : Aside0 (w.heap.size ≤ gb732) := ⟨h6_⟩
       have NB719_732 : Aside0 (gb719 ≠ gb732) := ⟨h7_⟩
       have NB732_719 : Aside0 (gb732 ≠ gb719) := ⟨h8_⟩
       replace HB : Aside0 (Below w.heap.size w w93) := ⟨h9_⟩
       clear h0_ h1_ h2_ h3_ h4_ h5_ h6_ h7_ h8_ h9_
       have hHeld : w93.cell? ⟨gb719, 0, none⟩ = some (.int .i64 t710) ∧ w93.cell? ⟨gb719, 1, none⟩ = some (.int .i64 t711) ∧ w93.cell? ⟨gb719, 2, none⟩ = some (.int .i64 t712) ∧ w93.cell? ⟨gb719, 3, none⟩ = some (.slice Ao82 t713.length co82) := hS_
       obtain ⟨Ao95, co95, eo95⟩ := Kd.R_slice HO727.out
       (first | subst eo95 | (injection eo95 with f1_ f2_ f3_; have f4_ := f1_.symm; have f5_ := f3_.symm; clear f1_ f2_ f3_; subst f4_; subst f5_))
       obtain ⟨Ao97, co97, eo97⟩ := Kd.R_slice HO730.out
       (first | subst eo97 | (injection eo97 with f1_ f2_ f3_; have f4_ := f1_.symm; have f5_ := f3_.symm; clear f1_ f2_ f3_; subst f4_; subst f5_))
       refine norm_ (a' := ?_) ?_ ?_
       rotate_left
       ·simp only [putAll, Act.put, List.setIfInBounds_toArray, List.set_cons_zero, List.set_cons_succ]
        rfl
       refine one_ (i := 10) (N := none) (bt 12 2047) rfl rfl (one_of HT_.out (by kernel_rfl)) (by decide) (fun K hK => ?_)
       obtain ⟨hs94, hfs94⟩ := cc1 BK732
       have hns94_0 := NB719_732.out
       have hms94_0 := NB732_719.out
       have hs96 := bc1 BK732
       have hfs96 := bf BK732 1
       have hns96_0 := NB719_732.out
       have hms96_0 := NB732_719.out
       have hs98 := bc2 BK732
       have hfs98 := bf BK732 2
       have hns98_0 := NB719_732.out
       have hms98_0 := NB732_719.out
       refine skip_ (w1 := ?_) (by rfl) rfl ?_ ?_
       rotate_left
       ·go_simp
        rfl
       refine hK.out _ _ ⟨((cell_far (p := ⟨gb732, _, none⟩) NB719_732.out _).trans (((cell_far (p := ⟨gb732, _, none⟩) NB719_732.out _).trans (((cell_far (p := ⟨gb732, _, none⟩) NB719_732.out _).trans (hHeld.1)))))), ((cell_far (p := ⟨gb732, _, none⟩) NB719_732.out _).trans (((cell_far (p := ⟨gb732, _, none⟩) NB719_732.out _).trans (((cell_far (p := ⟨gb732, _, none⟩) NB719_732.out _).trans (hHeld.2.1)))))), ((cell_far (p := ⟨gb732, _, none⟩) NB719_732.out _).trans (((cell_far (p := ⟨gb732, _, none⟩) NB719_732.out _).trans (((cell_far (p := ⟨gb732, _, none⟩) NB719_732.out _).trans (hHeld.2.2.1)))))), ((cell_far (p := ⟨gb732, _, none⟩) NB719_732.out _).trans (((cell_far (p := ⟨gb732, _, none⟩) NB719_732.out _).trans (((cell_far (p := ⟨gb732, _, none⟩) NB719_732.out _).trans (hHeld.2.2.2))))))⟩ (fun hHeld => ?_)
       clear hK K
       refine put 11 8 (bt 12 4095) HT_ ?_
       refine done_ (done_of HT_.out (by kernel_rfl)) ?_
       have hnb99 := NB719_732.out
       have hnc99 := NB732_719.out
       obtain ⟨hcz100_0, hcz100_1, hcz100_2, hcz100_3, hfz100_0, hfz100_1, hfz100_2, hfz100_3⟩ := cc4 BK719
       exact e24_0
     ·replace H := im H
      obtain rfl := Option.some.inj H
      go_enter Try.func6, Try.ntmps6
      try go_wp2_with (first | ((with_reducible refine gc 12 rfl ?_); refine gL (some 11) Try.func12 #[.slice A0 l0.length c0] ?_; (with_reducible refine (laws_big.calls _ _ l0 false _ ?side1 ?side2 A2.out).mono ?_); (case side1 => repeat (first | exact HR0.out | (with_reducible refine Kd.C_alloc ?_ _) | (with_reducible refine Kd.C_drewN ?_ _) | (with_reducible refine Kd.C_drew ?_))); (case side2 => exact HC0.out); rintro e w' ⟨rfl, ⟨nd, rfl⟩⟩; refine ⟨_, rfl, ?_⟩) | ((with_reducible refine gc 39 rfl ?_); refine gL (some 14) Try.func39 #[.slice A0 l0.length c0] ?_; (with_reducible refine (spec_DrawHopAt.calls k _ _ l0 t710 t711 t712 t713 t716 t717 t718 _ ?side1 ?side2 A4.out).mono ?_); (case side1 => repeat (first | exact HR0.out | (with_reducible refine Kd.C_alloc ?_ _) | (with_reducible refine Kd.C_drewN ?_ _) | (with_reducible refine Kd.C_drew ?_))); (case side2 => exact HC0.out); rintro e w103 ⟨v714, rfl, ho0, hb⟩; refine ⟨_, rfl, ?_⟩; have HO715 := am (Kd.S_lower ho0 (below_size (sb))); replace HB := bs hb; (try clear hb); (try clear ho0)) | ((with_reducible refine gd 3 rfl ?_); refine bx 3 #[.int .i64 0, .int .i64 0, .int .i64 0, .slice none 0 0] 31 ?_; intro gb719 hg w104 hbox hb; replace HO715 := am (Kd.S_below (ss HO715) hb); have GW719 := bz w hg; have GE719 := bz w hg; replace HB := bs hb; have BK719 := am hbox; clear hb hbox hg; obtain ⟨hcz105_0, hcz105_1, hcz105_2, hcz105_3, hfz105_0, hfz105_1, hfz105_2, hfz105_3⟩ := cc4 BK719; obtain ⟨Ao106, co106, eo106⟩ := Kd.S_slice HO715.out; subst eo106))
      have n0_ : Aside0 (Kd.S k105 105 ((((w104.setCell ⟨gb719, 0, none⟩ (.int .i64 t710)).setCell ⟨gb719, 1, none⟩ (.int .i64 t711)).setCell ⟨gb719, 2, none⟩ (.int .i64 t712)).setCell ⟨gb719, 3, none⟩ (.slice Ao106 t713.length co106)) w.heap.size (fun _ => True) (.slice Ao106 t713.length co106) t713) := ⟨by (with_reducible repeat (first | apply Kd.S_alloc | apply Kd.S_drewN | apply Kd.S_drew)); exact Kd.S_mono (Kd.S_far (p := ⟨gb719, 3, none⟩) (Kd.S_far (p := ⟨gb719, 2, none⟩) (Kd.S_far (p := ⟨gb719, 1, none⟩) (Kd.S_far (p := ⟨gb719, 0, none⟩) (Kd.S_types HO715.out BK719.out (by decide)) (fun _ hk => hk.2) (.int .i64 t710)) (fun _ hk => hk.2) (.int .i64 t711)) (fun _ hk => hk.2) (.int .i64 t712)) (fun _ hk => hk.2) (.slice Ao106 t713.length co106)) (fun _ hk => trivial)⟩
      have n1_ : Aside0 (((((w104.setCell ⟨gb719, 0, none⟩ (.int .i64 t710)).setCell ⟨gb719, 1, none⟩ (.int .i64 t711)).setCell ⟨gb719, 2, none⟩ (.int .i64 t712)).setCell ⟨gb719, 3, none⟩ (.slice Ao106 t713.length co106)).heap[gb719]? = some (.cells #[.int .i64 t710, .int .i64 t711, .int .i64 t712, .slice Ao106 t713.length co106] 31 (0, 0))) := ⟨sp BK719⟩
      have n2_ : Aside0 (Below w.heap.size w ((((w104.setCell ⟨gb719, 0, none⟩ (.int .i64 t710)).setCell ⟨gb719, 1, none⟩ (.int .i64 t711)).setCell ⟨gb719, 2, none⟩ (.int .i64 t712)).setCell ⟨gb719, 3, none⟩ (.slice Ao106 t713.length co106))) := ⟨sbw⟩
      (try clear HO715)
      (try clear BK719)
      (try clear HB)
      generalize ((((w104.setCell ⟨gb719, 0, none⟩ (.int .i64 t710)).setCell ⟨gb719, 1, none⟩ (.int .i64 t711)).setCell ⟨gb719, 2, none⟩ (.int .i64 t712)).setCell ⟨gb719, 3, none⟩ (.slice Ao106 t713.length co106)) = w107 at n0_ n1_ n2_ ⊢
      have HO715 := n0_
      have BK719 := n1_
      have HB := n2_
      clear n0_ n1_ n2_
      replace HO715 := am (Kd.S_drew HO715.out)
      replace BK719 := am (blk_drew BK719.out)
      replace HB := am (below_drew1 HB.out)
      refine start_ (n := 5) (S := fun w' => w'.cell? ⟨gb719, 0, none⟩ = some (.int .i64 t710) ∧ w'.cell? ⟨gb719, 1, none⟩ = some (.int .i64 t711) ∧ w'.cell? ⟨gb719, 2, none⟩ = some (.int .i64 t712) ∧ w'.cell? ⟨gb719, 3, none⟩ = some (.slice Ao106 t713.length co106)) (ds := []) #[false, false, false, false, false] (by kernel_rfl) rfl rfl ⟨bc0 BK719, bc1 BK719, bc2 BK719, bc3 BK719⟩ (fun hHeld => ?_)
      generalize w107.drew = w108 at HO715 BK719 HB hHeld ⊢
      refine ta4 0 19 (bt 5 1) hHeld ?_
      refine ta4 2 21 (bt 5 5) hHeld ?_
      refine one_ (i := 1) (N := some 20) (bt 5 7) rfl rfl (by kernel_rfl) (by decide) (fun K hK => ?_)
      refine goes_ Try.func36 (by kernel_rfl) rfl #[.agg #[.int .i64 t710, .int .i64 t711, .int .i64 t712, .slice Ao106 t713.length co106]] (by rfl) rfl rfl sl ?_
      with_reducible refine (impl_IsProgram.calls k t710 t711 t712 _ _ t713 t720 _ ?side1 ?side2 A5.out).mono ?_
      (case side1 => repeat (first | exact (Kd.S_reads' HO715.out).2.2 | (with_reducible refine Kd.C_alloc ?_ _) | (with_reducible refine Kd.C_drewN ?_ _) | (with_reducible refine Kd.C_drew ?_)))
      (case side2 => exact (Kd.S_reads' HO715.out).2.1)
      rintro e w109 ⟨rfl, hb⟩
      refine ⟨_, rfl, ?_⟩
      replace HO715 := am (Kd.S_below (ss HO715) hb)
      replace BK719 := bb BK719 hb
      replace HB := bsw hb
      (try clear hb)
      (try clear hb2)
      (try clear hk)
      (try clear hi)
      refine hK.out _ _ ⟨bc0 BK719, bc1 BK719, bc2 BK719, bc3 BK719⟩ (fun hHeld => ?_)
      clear hK K
      refine nm 20 ?_
      refine one_ (i := 3) (N := some 22) (bt 5 15) rfl rfl (by kernel_rfl) (by decide) (fun K hK => ?_)
      refine goes_ Try.func40 (by kernel_rfl) rfl #[.agg #[.int .i64 t710, .int .i64 t711, .int .i64 t712, .slice Ao106 t713.length co106]] (by rfl) rfl rfl sl ?_
      with_reducible refine (spec_IsProgram.calls k t710 t711 t712 _ _ t713 t721 _ ?side1 ?side2 A6.out).mono ?_
      (case side1 => repeat (first | exact (Kd.S_reads' HO715.out).2.2 | (with_reducible refine Kd.C_alloc ?_ _) | (with_reducible refine Kd.C_drewN ?_ _) | (with_reducible refine Kd.C_drew ?_)))
      (case side2 => exact (Kd.S_reads' HO715.out).2.1)
      rintro e w110 ⟨rfl, hb⟩
      refine ⟨_, rfl, ?_⟩
      replace HO715 := am (Kd.S_below (ss HO715) hb)
      replace BK719 := bb BK719 hb
      replace HB := bsw hb
      (try clear hb)
      (try clear hb2)
      (try clear hk)
      (try clear hi)
      refine hK.out _ _ ⟨bc0 BK719, bc1 BK719, bc2 BK719, bc3 BK719⟩ (fun hHeld => ?_)
      clear hK K
      refine nm 22 ?_
      refine pu 4 23 (bt 5 31) ?_
      refine done_ (by kernel_rfl) ?_
      obtain ⟨hcz111_0, hcz111_1, hcz111_2, hcz111_3, hfz111_0, hfz111_1, hfz111_2, hfz111_3⟩ := cc4 BK719
      try go_wp2_with (first | ((with_reducible refine gc 36 rfl ?_); refine gL (some 25) Try.func36 #[.agg #[.int .i64 t710, .int .i64 t711, .int .i64 t712, .slice Ao106 t713.length co106]] ?_; (with_reducible refine (impl_IsProgram.calls k t710 t711 t712 _ _ t713 true _ ?side1 ?side2 A16.out).mono ?_); (case side1 => repeat (first | exact (Kd.S_reads' HO715.out).2.2 | (with_reducible refine Kd.C_alloc ?_ _) | (with_reducible refine Kd.C_drewN ?_ _) | (with_reducible refine Kd.C_drew ?_))); (case side2 => exact (Kd.S_reads' HO715.out).2.1); rintro e w112 ⟨rfl, hb⟩; refine ⟨_, rfl, ?_⟩; replace HO715 := am (Kd.S_below (ss HO715) hb); replace BK719 := bb BK719 hb; replace HB := bsw hb; (try clear hb)))
      replace HO715 := am (Kd.S_drew HO715.out)
      replace BK719 := am (blk_drew BK719.out)
      replace HB := am (below_drew1 HB.out)
      refine start_ (n := 12) (S := fun w' => w'.cell? ⟨gb719, 0, none⟩ = some (.int .i64 t710) ∧ w'.cell? ⟨gb719, 1, none⟩ = some (.int .i64 t711) ∧ w'.cell? ⟨gb719, 2, none⟩ = some (.int .i64 t712) ∧ w'.cell? ⟨gb719, 3, none⟩ = some (.slice Ao106 t713.length co106)) (ds := []) #[false, false, false, false, false, false, false, false, false, false, false, false] (by kernel_rfl) rfl rfl ⟨bc0 BK719, bc1 BK719, bc2 BK719, bc3 BK719⟩ (fun hHeld => ?_); refine with_tabW laws_FnSwitched.tab8 laws_FnSwitched.bits8 (fun HT_ HW_ => ?_)
      generalize w112.drew = w113 at HO715 BK719 HB hHeld ⊢
      refine put 2 30 (bt 12 4) HT_ ?_
      refine put 4 32 (bt 12 20) HT_ ?_
      refine tat4 0 28 (bt 12 21) HT_ HW_ hHeld ?_
      refine tat4 1 29 (bt 12 23) HT_ HW_ hHeld ?_
      refine join_ (σ := Value × Value × Nat) 2 (bt 12 1023) (fun s_ => [(31, .int .i64 t723), (33, .tuple #[.agg #[.int .i64 t724, s_.1, s_.2.1], .bool false]), (7, .pointer (some ⟨s_.2.2, 0, none⟩)), (27, .tuple #[.agg #[.int .i64 t724, s_.1, s_.2.1], .bool false]), (34, .agg #[.int .i64 t724, s_.1, s_.2.1]), (35, .bool false)]) (fun s_ w' => (w'.cell? ⟨gb719, 0, none⟩ = some (.int .i64 t710) ∧ w'.cell? ⟨gb719, 1, none⟩ = some (.int .i64 t711) ∧ w'.cell? ⟨gb719, 2, none⟩ = some (.int .i64 t712) ∧ w'.cell? ⟨gb719, 3, none⟩ = some (.slice Ao106 t713.length co106)) ∧ (Kd.S k105 105 w' w.heap.size (fun k_ => some k_ ≠ (s_.1 : Value).ownBlock ∧ some k_ ≠ (s_.2.1 : Value).ownBlock ∧ k_ ≠ s_.2.2) (.slice Ao106 t713.length co106) t713) ∧ (Kd.R (Kd.int .i64) 3 w' w.heap.size (fun k_ => some k_ ≠ (s_.2.1 : Value).ownBlock) s_.1 t725) ∧ (Kd.R (Kd.int .i64) 3 w' w.heap.size (fun k_ => some k_ ≠ (s_.1 : Value).ownBlock) s_.2.1 t728) ∧ (w'.heap[gb719]? = some (.cells #[.int .i64 t710, .int .i64 t711, .int .i64 t712, .slice Ao106 t713.length co106] 31 (0, 0))) ∧ (w'.heap[s_.2.2]? = some (.cells #[.int .i64 0, .slice none 0 0, .slice none 0 0] 55 (0, 0))) ∧ (w.heap.size ≤ s_.2.2) ∧ (w.heap.size ≤ s_.2.2) ∧ (gb719 ≠ s_.2.2) ∧ (s_.2.2 ≠ gb719) ∧ (Below w.heap.size w w')) ?_ ?_
      rotate_left
      ·intro hCont
       refine two_ (i := 3) (j := 9) (Ni := some 31) (Nj := some 7) (bt 12 31) (bt 12 535) rfl rfl rfl rfl (two_of HT_.out (by kernel_rfl)) (by decide) (by decide) (fun K hK => ?_) (fun K hK => ?_)
       ·skip
        refine goes_ Try.func42 (by kernel_rfl) rfl #[.agg #[.int .i64 t710, .int .i64 t711, .int .i64 t712, .slice Ao106 t713.length co106], .int .i64 t718] (by rfl) rfl rfl sl ?_
        with_reducible refine (impl_PieceAt.calls t710 t711 t712 _ _ t713 t718 t723 _ ?side1 ?side2 A18.out).mono ?_
        (case side1 => repeat (first | exact (Kd.S_reads' HO715.out).2.2 | (with_reducible refine Kd.C_alloc ?_ _) | (with_reducible refine Kd.C_drewN ?_ _) | (with_reducible refine Kd.C_drew ?_)))
        (case side2 => exact (Kd.S_reads' HO715.out).2.1)
        rintro e w114 ⟨rfl, hb⟩
        refine ⟨_, rfl, ?_⟩
        replace HO715 := am (Kd.S_below (ss HO715) hb)
        replace BK719 := bb BK719 hb
        replace HB := bsw hb
        (try clear hb)
        (try clear hb2)
        (try clear hk)
        (try clear hi)
        refine hK.out _ _ ⟨bc0 BK719, bc1 BK719, bc2 BK719, bc3 BK719⟩ (fun hHeld => ?_)
        clear hK K
        refine nm 31 ?_
        refine two_ (i := 5) (j := 9) (Ni := some 33) (Nj := some 7) (bt 12 63) (bt 12 543) rfl rfl rfl rfl (two_of HT_.out (by kernel_rfl)) (by decide) (by decide) (fun K hK => ?_) (fun K hK => ?_)
        ·skip
         refine goes_ Try.func41 (by kernel_rfl) rfl #[.agg #[.int .i64 t710, .int .i64 t711, .int .i64 t712, .slice Ao106 t713.length co106], .int .i64 t723, .int .i64 t717] (by rfl) rfl rfl sl ?_
         with_reducible refine (impl_TableIn.calls t710 t711 t712 _ _ t713 t723 t717 t724 t725 t728 false _ ?side1 ?side2 A19.out).mono ?_
         (case side1 => repeat (first | exact (Kd.S_reads' HO715.out).2.2 | (with_reducible refine Kd.C_alloc ?_ _) | (with_reducible refine Kd.C_drewN ?_ _) | (with_reducible refine Kd.C_drew ?_)))
         (case side2 => exact (Kd.S_reads' HO715.out).2.1)
         rintro e w115 ⟨v726, v729, rfl, ho0, ho1, hb⟩
         refine ⟨_, rfl, ?_⟩
         replace HO715 := am (Kd.S_mono (Kd.S_told (Kd.S_told (Kd.S_old (ss HO715) hb) (Kd.R_base ho0)) (Kd.R_base ho1)) (fun _ h_ => h_.1))
         have HO727 := am (Kd.R_lower ho0 (below_size (sbw)))
         have HO730 := am (Kd.R_lower ho1 (below_size (sbw)))
         replace BK719 := bb BK719 hb
         replace HB := bsw hb
         (try clear hb)
         (try clear hb2)
         (try clear hk)
         (try clear hi)
         (try clear ho0)
         (try clear ho1)
         refine hK.out _ _ ⟨bc0 BK719, bc1 BK719, bc2 BK719, bc3 BK719⟩ (fun hHeld => ?_)
         clear hK K
         refine nm 33 ?_
         refine put 6 27 (bt 12 127) HT_ ?_
         refine put 7 34 (bt 12 255) HT_ ?_
         refine put 8 35 (bt 12 511) HT_ ?_
         refine on 9 7 (bt 12 1023) HT_ (fun K hK => ?_)
         refine box_step ?hg (N := 7) ?hd (cs := #[.int .i64 0, .slice none 0 0, .slice none 0 0]) (t := 55) ?hr ?_; (case hd => rfl); (case hg => rfl); (case hr => first | (go_simp; done) | (go_simp; rfl))
         intro gb732 hg w116 hbox hb
         replace HO715 := am (Kd.S_below (Kd.S_elderB (ss HO715) gb732 (Nat.le_of_eq hg.symm)) hb)
         replace HO727 := rb HO727 hb
         replace HO730 := rb HO730 hb
         have GW732 := bzw w hg
         have GE732 := bzw w hg
         replace HB := bsw hb
         have BK732 := am hbox
         have NB719_732 := nl BK719 hg
         have NB732_719 := ng BK719 hg
         replace BK719 := bb BK719 hb
         clear hb hbox hg
         refine hK.out _ _ ⟨bc0 BK719, bc1 BK719, bc2 BK719, bc3 BK719⟩ (fun hHeld => ?_)
         clear hK K
         refine nm 7 ?_
         exact norm_ a24_1 (hCont (v726, v729, gb732) _ ⟨hHeld, a24_2, (sr HO727), (sr HO730), (sk BK719), (sk BK732), GW732.out, GE732.out, NB719_732.out, NB732_719.out, (sbw)⟩)
        ·skip
         refine box_step ?hg (N := 7) ?hd (cs := #[.int .i64 0, .slice none 0 0, .slice none 0 0]) (t := 55) ?hr ?_; (case hd => rfl); (case hg => rfl); (case hr => first | (go_simp; done) | (go_simp; rfl))
         intro gb732 hg w115 hbox hb
         replace HO715 := am (Kd.S_below (Kd.S_elderB (ss HO715) gb732 (Nat.le_of_eq hg.symm)) hb)
         have GW732 := bzw w hg
         have GE732 := bzw w hg
         replace HB := bsw hb
         have BK732 := am hbox
         have NB719_732 := nl BK719 hg
         have NB732_719 := ng BK719 hg
         replace BK719 := bb BK719 hb
         clear hb hbox hg
         refine hK.out _ _ ⟨bc0 BK719, bc1 BK719, bc2 BK719, bc3 BK719⟩ (fun hHeld => ?_)
         clear hK K
         refine nm 7 ?_
         refine on 5 33 (bt 12 575) HT_ (fun K hK => ?_)
         refine goes_ Try.func41 (by kernel_rfl) rfl #[.agg #[.int .i64 t710, .int .i64 t711, .int .i64 t712, .slice Ao106 t713.length co106], .int .i64 t723, .int .i64 t717] (by rfl) rfl rfl sl ?_
         with_reducible refine (impl_TableIn.calls t710 t711 t712 _ _ t713 t723 t717 t724 t725 t728 false _ ?side1 ?side2 A19.out).mono ?_
         (case side1 => repeat (first | exact (Kd.S_reads' HO715.out).2.2 | (with_reducible refine Kd.C_alloc ?_ _) | (with_reducible refine Kd.C_drewN ?_ _) | (with_reducible refine Kd.C_drew ?_)))
         (case side2 => exact (Kd.S_reads' HO715.out).2.1)
         rintro e w116 ⟨v726, v729, rfl, ho0, ho1, hb⟩
         refine ⟨_, rfl, ?_⟩
         replace HO715 := am (Kd.S_mono (Kd.S_told (Kd.S_told (Kd.S_old (ss HO715) hb) (Kd.R_base ho0)) (Kd.R_base ho1)) (fun _ h_ => h_.1))
         have HO727 := am (Kd.R_lower ho0 (below_size (sbw)))
         have HO730 := am (Kd.R_lower ho1 (below_size (sbw)))
         replace BK719 := bb BK719 hb
         replace BK732 := bb BK732 hb
         replace HB := bsw hb
         (try clear hb)
         (try clear hb2)
         (try clear hk)
         (try clear hi)
         (try clear ho0)
         (try clear ho1)
         refine hK.out _ _ ⟨bc0 BK719, bc1 BK719, bc2 BK719, bc3 BK719⟩ (fun hHeld => ?_)
         clear hK K
         refine nm 33 ?_
         refine put 6 27 (bt 12 639) HT_ ?_
         refine put 7 34 (bt 12 767) HT_ ?_
         refine put 8 35 (bt 12 1023) HT_ ?_
         exact norm_ a24_1 (hCont (v726, v729, gb732) _ ⟨hHeld, a24_0, (sr HO727), (sr HO730), (sk BK719), (sk BK732), GW732.out, GE732.out, NB719_732.out, NB732_719.out, (sbw)⟩)
       ·skip
        refine box_step ?hg (N := 7) ?hd (cs := #[.int .i64 0, .slice none 0 0, .slice none 0 0]) (t := 55) ?hr ?_; (case hd => rfl); (case hg => rfl); (case hr => first | (go_simp; done) | (go_simp; rfl))
        intro gb732 hg w114 hbox hb
        replace HO715 := am (Kd.S_below (Kd.S_elderB (ss HO715) gb732 (Nat.le_of_eq hg.symm)) hb)
        have GW732 := bzw w hg
        have GE732 := bzw w hg
        replace HB := bsw hb
        have BK732 := am hbox
        have NB719_732 := nl BK719 hg
        have NB732_719 := ng BK719 hg
        replace BK719 := bb BK719 hb
        clear hb hbox hg
        refine hK.out _ _ ⟨bc0 BK719, bc1 BK719, bc2 BK719, bc3 BK719⟩ (fun hHeld => ?_)
        clear hK K
        refine nm 7 ?_
        refine on 3 31 (bt 12 543) HT_ (fun K hK => ?_)
        refine goes_ Try.func42 (by kernel_rfl) rfl #[.agg #[.int .i64 t710, .int .i64 t711, .int .i64 t712, .slice Ao106 t713.length co106], .int .i64 t718] (by rfl) rfl rfl sl ?_
        with_reducible refine (impl_PieceAt.calls t710 t711 t712 _ _ t713 t718 t723 _ ?side1 ?side2 A18.out).mono ?_
        (case side1 => repeat (first | exact (Kd.S_reads' HO715.out).2.2 | (with_reducible refine Kd.C_alloc ?_ _) | (with_reducible refine Kd.C_drewN ?_ _) | (with_reducible refine Kd.C_drew ?_)))
        (case side2 => exact (Kd.S_reads' HO715.out).2.1)
        rintro e w115 ⟨rfl, hb⟩
        refine ⟨_, rfl, ?_⟩
        replace HO715 := am (Kd.S_below (ss HO715) hb)
        replace BK719 := bb BK719 hb
        replace BK732 := bb BK732 hb
        replace HB := bsw hb
        (try clear hb)
        (try clear hb2)
        (try clear hk)
        (try clear hi)
        refine hK.out _ _ ⟨bc0 BK719, bc1 BK719, bc2 BK719, bc3 BK719⟩ (fun hHeld => ?_)
        clear hK K
        refine nm 31 ?_
        refine on 5 33 (bt 12 575) HT_ (fun K hK => ?_)
        refine goes_ Try.func41 (by kernel_rfl) rfl #[.agg #[.int .i64 t710, .int .i64 t711, .int .i64 t712, .slice Ao106 t713.length co106], .int .i64 t723, .int .i64 t717] (by rfl) rfl rfl sl ?_
        with_reducible refine (impl_TableIn.calls t710 t711 t712 _ _ t713 t723 t717 t724 t725 t728 false _ ?side1 ?side2 A19.out).mono ?_
        (case side1 => repeat (first | exact (Kd.S_reads' HO715.out).2.2 | (with_reducible refine Kd.C_alloc ?_ _) | (with_reducible refine Kd.C_drewN ?_ _) | (with_reducible refine Kd.C_drew ?_)))
        (case side2 => exact (Kd.S_reads' HO715.out).2.1)
        rintro e w116 ⟨v726, v729, rfl, ho0, ho1, hb⟩
        refine ⟨_, rfl, ?_⟩
        replace HO715 := am (Kd.S_mono (Kd.S_told (Kd.S_told (Kd.S_old (ss HO715) hb) (Kd.R_base ho0)) (Kd.R_base ho1)) (fun _ h_ => h_.1))
        have HO727 := am (Kd.R_lower ho0 (below_size (sbw)))
        have HO730 := am (Kd.R_lower ho1 (below_size (sbw)))
        replace BK719 := bb BK719 hb
        replace BK732 := bb BK732 hb
        replace HB := bsw hb
        (try clear hb)
        (try clear hb2)
        (try clear hk)
        (try clear hi)
        (try clear ho0)
        (try clear ho1)
        refine hK.out _ _ ⟨bc0 BK719, bc1 BK719, bc2 BK719, bc3 BK719⟩ (fun hHeld => ?_)
        clear hK K
        refine nm 33 ?_
        refine put 6 27 (bt 12 639) HT_ ?_
        refine put 7 34 (bt 12 767) HT_ ?_
        refine put 8 35 (bt 12 1023) HT_ ?_
        exact norm_ a24_1 (hCont (v726, v729, gb732) _ ⟨hHeld, a24_0, (sr HO727), (sr HO730), (sk BK719), (sk BK732), GW732.out, GE732.out, NB719_732.out, NB732_719.out, (sbw)⟩)
      rintro ⟨v726, v729, gb732⟩ w117 ⟨hS_, h0_, h1_, h2_, h3_, h4_, h5_, h6_, h7_, h8_, h9_⟩
      replace HO715 : Aside0 (Kd.S k105 105 w117 w.heap.size (fun k_ => some k_ ≠ (v726 : Value).ownBlock ∧ some k_ ≠ (v729 : Value).ownBlock ∧ k_ ≠ gb732) (.slice Ao106 t713.length co106) t713) := ⟨h0_⟩
      have HO727 : Aside0 (Kd.R (Kd.int .i64) 3 w117 w.heap.size (fun k_ => some k_ ≠ (v729 : Value).ownBlock) v726 t725) := ⟨h1_⟩
      have HO730 : Aside0 (Kd.R (Kd.int .i64) 3 w117 w.heap.size (fun k_ => some k_ ≠ (v726 : Value).ownBlock) v729 t728) := ⟨h2_⟩
      replace BK719 : Aside0 (w117.heap[gb719]? = some (.cells #[.int .i64 t710, .int .i64 t711, .int .i64 t712, .slice Ao106 t713.length co106] 31 (0, 0))) := ⟨h3_⟩
      have BK732 : Aside0 (w117.heap[gb732]? = some (.cells #[.int .i64 0, .slice none 0 0, .slice none 0 0] 55 (0, 0))) := ⟨h4_⟩
      have GW732 : Aside0 (w.heap.size ≤ gb732) := ⟨h5_⟩
      have GE732 : Aside0 (w.heap.size ≤ gb732) := ⟨h6_⟩
      have NB719_732 : Aside0 (gb719 ≠ gb732) := ⟨h7_⟩
      have NB732_719 : Aside0 (gb732 ≠ gb719) := ⟨h8_⟩
      replace HB : Aside0 (Below w.heap.size w w117) := ⟨h9_⟩
      clear h0_ h1_ h2_ h3_ h4_ h5_ h6_ h7_ h8_ h9_
      have hHeld : w117.cell? ⟨gb719, 0, none⟩ = some (.int .i64 t710) ∧ w117.cell? ⟨gb719, 1, none⟩ = some (.int .i64 t711) ∧ w117.cell? ⟨gb719, 2, none⟩ = some (.int .i64 t712) ∧ w117.cell? ⟨gb719, 3, none⟩ = some (.slice Ao106 t713.length co106) := hS_
      obtain ⟨Ao119, co119, eo119⟩ := Kd.R_slice HO727.out
      (first | subst eo119 | (injection eo119 with f1_ f2_ f3_; have f4_ := f1_.symm; have f5_ := f3_.symm; clear f1_ f2_ f3_; subst f4_; subst f5_))
      obtain ⟨Ao121, co121, eo121⟩ := Kd.R_slice HO730.out
      (first | subst eo121 | (injection eo121 with f1_ f2_ f3_; have f4_ := f1_.symm; have f5_ := f3_.symm; clear f1_ f2_ f3_; subst f4_; subst f5_))
      refine norm_ (a' := ?_) ?_ ?_
      rotate_left
      ·simp only [putAll, Act.put, List.setIfInBounds_toArray, List.set_cons_zero, List.set_cons_succ]
       rfl
      refine one_ (i := 10) (N := none) (bt 12 2047) rfl rfl (one_of HT_.out (by kernel_rfl)) (by decide) (fun K hK => ?_)
      obtain ⟨hs118, hfs118⟩ := cc1 BK732
      have hns118_0 := NB719_732.out
      have hms118_0 := NB732_719.out
      have hs120 := bc1 BK732
      have hfs120 := bf BK732 1
      have hns120_0 := NB719_732.out
      have hms120_0 := NB732_719.out
      have hs122 := bc2 BK732
      have hfs122 := bf BK732 2
      have hns122_0 := NB719_732.out
      have hms122_0 := NB732_719.out
      refine skip_ (w1 := ?_) (by rfl) rfl ?_ ?_
      rotate_left
      ·go_simp
       rfl
      refine hK.out _ _ ⟨((cell_far (p := ⟨gb732, _, none⟩) NB719_732.out _).trans (((cell_far (p := ⟨gb732, _, none⟩) NB719_732.out _).trans (((cell_far (p := ⟨gb732, _, none⟩) NB719_732.out _).trans (hHeld.1)))))), ((cell_far (p := ⟨gb732, _, none⟩) NB719_732.out _).trans (((cell_far (p := ⟨gb732, _, none⟩) NB719_732.out _).trans (((cell_far (p := ⟨gb732, _, none⟩) NB719_732.out _).trans (hHeld.2.1)))))), ((cell_far (p := ⟨gb732, _, none⟩) NB719_732.out _).trans (((cell_far (p := ⟨gb732, _, none⟩) NB719_732.out _).trans (((cell_far (p := ⟨gb732, _, none⟩) NB719_732.out _).trans (hHeld.2.2.1)))))), ((cell_far (p := ⟨gb732, _, none⟩) NB719_732.out _).trans (((cell_far (p := ⟨gb732, _, none⟩) NB719_732.out _).trans (((cell_far (p := ⟨gb732, _, none⟩) NB719_732.out _).trans (hHeld.2.2.2))))))⟩ (fun hHeld => ?_)
      clear hK K
      refine put 11 8 (bt 12 4095) HT_ ?_
      refine done_ (done_of HT_.out (by kernel_rfl)) ?_
      have hnb123 := NB719_732.out
      have hnc123 := NB732_719.out
      obtain ⟨hcz124_0, hcz124_1, hcz124_2, hcz124_3, hfz124_0, hfz124_1, hfz124_2, hfz124_3⟩ := cc4 BK719
      exact e24_0
    ·obtain ⟨-, c126b0, H⟩ | ⟨-, c126b0, H⟩ := ic_ H
     ·obtain rfl := Option.some.inj H
      go_enter Try.func6, Try.ntmps6
      try go_wp2_with (first | ((with_reducible refine gc 12 rfl ?_); refine gL (some 11) Try.func12 #[.slice A0 l0.length c0] ?_; (with_reducible refine (laws_big.calls _ _ l0 false _ ?side1 ?side2 A2.out).mono ?_); (case side1 => repeat (first | exact HR0.out | (with_reducible refine Kd.C_alloc ?_ _) | (with_reducible refine Kd.C_drewN ?_ _) | (with_reducible refine Kd.C_drew ?_))); (case side2 => exact HC0.out); rintro e w' ⟨rfl, ⟨nd, rfl⟩⟩; refine ⟨_, rfl, ?_⟩) | ((with_reducible refine gc 39 rfl ?_); refine gL (some 14) Try.func39 #[.slice A0 l0.length c0] ?_; (with_reducible refine (spec_DrawHopAt.calls k _ _ l0 t710 t711 t712 t713 t716 t717 t718 _ ?side1 ?side2 A4.out).mono ?_); (case side1 => repeat (first | exact HR0.out | (with_reducible refine Kd.C_alloc ?_ _) | (with_reducible refine Kd.C_drewN ?_ _) | (with_reducible refine Kd.C_drew ?_))); (case side2 => exact HC0.out); rintro e w127 ⟨v714, rfl, ho0, hb⟩; refine ⟨_, rfl, ?_⟩; have HO715 := am (Kd.S_lower ho0 (below_size (sb))); replace HB := bs hb; (try clear hb); (try clear ho0)) | ((with_reducible refine gd 3 rfl ?_); refine bx 3 #[.int .i64 0, .int .i64 0, .int .i64 0, .slice none 0 0] 31 ?_; intro gb719 hg w128 hbox hb; replace HO715 := am (Kd.S_below (ss HO715) hb); have GW719 := bz w hg; have GE719 := bz w hg; replace HB := bs hb; have BK719 := am hbox; clear hb hbox hg; obtain ⟨hcz129_0, hcz129_1, hcz129_2, hcz129_3, hfz129_0, hfz129_1, hfz129_2, hfz129_3⟩ := cc4 BK719; obtain ⟨Ao130, co130, eo130⟩ := Kd.S_slice HO715.out; subst eo130))
      have n0_ : Aside0 (Kd.S k105 105 ((((w128.setCell ⟨gb719, 0, none⟩ (.int .i64 t710)).setCell ⟨gb719, 1, none⟩ (.int .i64 t711)).setCell ⟨gb719, 2, none⟩ (.int .i64 t712)).setCell ⟨gb719, 3, none⟩ (.slice Ao130 t713.length co130)) w.heap.size (fun _ => True) (.slice Ao130 t713.length co130) t713) := ⟨by (with_reducible repeat (first | apply Kd.S_alloc | apply Kd.S_drewN | apply Kd.S_drew)); exact Kd.S_mono (Kd.S_far (p := ⟨gb719, 3, none⟩) (Kd.S_far (p := ⟨gb719, 2, none⟩) (Kd.S_far (p := ⟨gb719, 1, none⟩) (Kd.S_far (p := ⟨gb719, 0, none⟩) (Kd.S_types HO715.out BK719.out (by decide)) (fun _ hk => hk.2) (.int .i64 t710)) (fun _ hk => hk.2) (.int .i64 t711)) (fun _ hk => hk.2) (.int .i64 t712)) (fun _ hk => hk.2) (.slice Ao130 t713.length co130)) (fun _ hk => trivial)⟩
      have n1_ : Aside0 (((((w128.setCell ⟨gb719, 0, none⟩ (.int .i64 t710)).setCell ⟨gb719, 1, none⟩ (.int .i64 t711)).setCell ⟨gb719, 2, none⟩ (.int .i64 t712)).setCell ⟨gb719, 3, none⟩ (.slice Ao130 t713.length co130)).heap[gb719]? = some (.cells #[.int .i64 t710, .int .i64 t711, .int .i64 t712, .slice Ao130 t713.length co130] 31 (0, 0))) := ⟨sp BK719⟩
      have n2_ : Aside0 (Below w.heap.size w ((((w128.setCell ⟨gb719, 0, none⟩ (.int .i64 t710)).setCell ⟨gb719, 1, none⟩ (.int .i64 t711)).setCell ⟨gb719, 2, none⟩ (.int .i64 t712)).setCell ⟨gb719, 3, none⟩ (.slice Ao130 t713.length co130))) := ⟨sbw⟩
      (try clear HO715)
      (try clear BK719)
      (try clear HB)
      generalize ((((w128.setCell ⟨gb719, 0, none⟩ (.int .i64 t710)).setCell ⟨gb719, 1, none⟩ (.int .i64 t711)).setCell ⟨gb719, 2, none⟩ (.int .i64 t712)).setCell ⟨gb719, 3, none⟩ (.slice Ao130 t713.length co130)) = w131 at n0_ n1_ n2_ ⊢
      have HO715 := n0_
      have BK719 := n1_
      have HB := n2_
      clear n0_ n1_ n2_
      replace HO715 := am (Kd.S_drew HO715.out)
      replace BK719 := am (blk_drew BK719.out)
      replace HB := am (below_drew1 HB.out)
      refine start_ (n := 5) (S := fun w' => w'.cell? ⟨gb719, 0, none⟩ = some (.int .i64 t710) ∧ w'.cell? ⟨gb719, 1, none⟩ = some (.int .i64 t711) ∧ w'.cell? ⟨gb719, 2, none⟩ = some (.int .i64 t712) ∧ w'.cell? ⟨gb719, 3, none⟩ = some (.slice Ao130 t713.length co130)) (ds := []) #[false, false, false, false, false] (by kernel_rfl) rfl rfl ⟨bc0 BK719, bc1 BK719, bc2 BK719, bc3 BK719⟩ (fun hHeld => ?_)
      generalize w131.drew = w132 at HO715 BK719 HB hHeld ⊢
      refine ta4 0 19 (bt 5 1) hHeld ?_
      refine ta4 2 21 (bt 5 5) hHeld ?_
      refine one_ (i := 1) (N := some 20) (bt 5 7) rfl rfl (by kernel_rfl) (by decide) (fun K hK => ?_)
      refine goes_ Try.func36 (by kernel_rfl) rfl #[.agg #[.int .i64 t710, .int .i64 t711, .int .i64 t712, .slice Ao130 t713.length co130]] (by rfl) rfl rfl sl ?_
      with_reducible refine (impl_IsProgram.calls k t710 t711 t712 _ _ t713 t720 _ ?side1 ?side2 A5.out).mono ?_
      (case side1 => repeat (first | exact (Kd.S_reads' HO715.out).2.2 | (with_reducible refine Kd.C_alloc ?_ _) | (with_reducible refine Kd.C_drewN ?_ _) | (with_reducible refine Kd.C_drew ?_)))
      (case side2 => exact (Kd.S_reads' HO715.out).2.1)
      rintro e w133 ⟨rfl, hb⟩
      refine ⟨_, rfl, ?_⟩
      replace HO715 := am (Kd.S_below (ss HO715) hb)
      replace BK719 := bb BK719 hb
      replace HB := bsw hb
      (try clear hb)
      (try clear hb2)
      (try clear hk)
      (try clear hi)
      refine hK.out _ _ ⟨bc0 BK719, bc1 BK719, bc2 BK719, bc3 BK719⟩ (fun hHeld => ?_)
      clear hK K
      refine nm 20 ?_
      refine one_ (i := 3) (N := some 22) (bt 5 15) rfl rfl (by kernel_rfl) (by decide) (fun K hK => ?_)
      refine goes_ Try.func40 (by kernel_rfl) rfl #[.agg #[.int .i64 t710, .int .i64 t711, .int .i64 t712, .slice Ao130 t713.length co130]] (by rfl) rfl rfl sl ?_
      with_reducible refine (spec_IsProgram.calls k t710 t711 t712 _ _ t713 t721 _ ?side1 ?side2 A6.out).mono ?_
      (case side1 => repeat (first | exact (Kd.S_reads' HO715.out).2.2 | (with_reducible refine Kd.C_alloc ?_ _) | (with_reducible refine Kd.C_drewN ?_ _) | (with_reducible refine Kd.C_drew ?_)))
      (case side2 => exact (Kd.S_reads' HO715.out).2.1)
      rintro e w134 ⟨rfl, hb⟩
      refine ⟨_, rfl, ?_⟩
      replace HO715 := am (Kd.S_below (ss HO715) hb)
      replace BK719 := bb BK719 hb
      replace HB := bsw hb
      (try clear hb)
      (try clear hb2)
      (try clear hk)
      (try clear hi)
      refine hK.out _ _ ⟨bc0 BK719, bc1 BK719, bc2 BK719, bc3 BK719⟩ (fun hHeld => ?_)
      clear hK K
      refine nm 22 ?_
      refine pu 4 23 (bt 5 31) ?_
      refine done_ (by kernel_rfl) ?_
      obtain ⟨hcz135_0, hcz135_1, hcz135_2, hcz135_3, hfz135_0, hfz135_1, hfz135_2, hfz135_3⟩ := cc4 BK719
      try go_wp2_with (first | ((with_reducible refine gc 36 rfl ?_); refine gL (some 25) Try.func36 #[.agg #[.int .i64 t710, .int .i64 t711, .int .i64 t712, .slice Ao130 t713.length co130]] ?_; (with_reducible refine (impl_IsProgram.calls k t710 t711 t712 _ _ t713 true _ ?side1 ?side2 A16.out).mono ?_); (case side1 => repeat (first | exact (Kd.S_reads' HO715.out).2.2 | (with_reducible refine Kd.C_alloc ?_ _) | (with_reducible refine Kd.C_drewN ?_ _) | (with_reducible refine Kd.C_drew ?_))); (case side2 => exact (Kd.S_reads' HO715.out).2.1); rintro e w136 ⟨rfl, hb⟩; refine ⟨_, rfl, ?_⟩; replace HO715 := am (Kd.S_below (ss HO715) hb); replace BK719 := bb BK719 hb; replace HB := bsw hb; (try clear hb)))
      replace HO715 := am (Kd.S_drew HO715.out)
      replace BK719 := am (blk_drew BK719.out)
      replace HB := am (below_drew1 HB.out)
      refine start_ (n := 12) (S := fun w' => w'.cell? ⟨gb719, 0, none⟩ = some (.int .i64 t710) ∧ w'.cell? ⟨gb719, 1, none⟩ = some (.int .i64 t711) ∧ w'.cell? ⟨gb719, 2, none⟩ = some (.int .i64 t712) ∧ w'.cell? ⟨gb719, 3, none⟩ = some (.slice Ao130 t713.length co130)) (ds := []) #[false, false, false, false, false, false, false, false, false, false, false, false] (by kernel_rfl) rfl rfl ⟨bc0 BK719, bc1 BK719, bc2 BK719, bc3 BK719⟩ (fun hHeld => ?_); refine with_tabW laws_FnSwitched.tab8 laws_FnSwitched.bits8 (fun HT_ HW_ => ?_)
      generalize w136.drew = w137 at HO715 BK719 HB hHeld ⊢
      refine put 2 30 (bt 12 4) HT_ ?_
      refine put 4 32 (bt 12 20) HT_ ?_
      refine tat4 0 28 (bt 12 21) HT_ HW_ hHeld ?_
      refine tat4 1 29 (bt 12 23) HT_ HW_ hHeld ?_
      refine join_ (σ := Value × Value × Nat) 2 (bt 12 1023) (fun s_ => [(31, .int .i64 t723), (33, .tuple #[.agg #[.int .i64 t724, s_.1, s_.2.1], .bool t731]), (7, .pointer (some ⟨s_.2.2, 0, none⟩)), (27, .tuple #[.agg #[.int .i64 t724, s_.1, s_.2.1], .bool t731]), (34, .agg #[.int .i64 t724, s_.1, s_.2.1]), (35, .bool t731)]) (fun s_ w' => (w'.cell? ⟨gb719, 0, none⟩ = some (.int .i64 t710) ∧ w'.cell? ⟨gb719, 1, none⟩ = some (.int .i64 t711) ∧ w'.cell? ⟨gb719, 2, none⟩ = some (.int .i64 t712) ∧ w'.cell? ⟨gb719, 3, none⟩ = some (.slice Ao130 t713.length co130)) ∧ (Kd.S k105 105 w' w.heap.size (fun k_ => some k_ ≠ (s_.1 : Value).ownBlock ∧ some k_ ≠ (s_.2.1 : Value).ownBlock ∧ k_ ≠ s_.2.2) (.slice Ao130 t713.length co130) t713) ∧ (Kd.R (Kd.int .i64) 3 w' w.heap.size (fun k_ => some k_ ≠ (s_.2.1 : Value).ownBlock) s_.1 t725) ∧ (Kd.R (Kd.int .i64) 3 w' w.heap.size (fun k_ => some k_ ≠ (s_.1 : Value).ownBlock) s_.2.1 t728) ∧ (w'.heap[gb719]? = some (.cells #[.int .i64 t710, .int .i64 t711, .int .i64 t712, .slice Ao130 t713.length co130] 31 (0, 0))) ∧ (w'.heap[s_.2.2]? = some (.cells #[.int .i64 0, .slice none 0 0, .slice none 0 0] 55 (0, 0))) ∧ (w.heap.size ≤ s_.2.2) ∧ (w.heap.size ≤ s_.2.2) ∧ (gb719 ≠ s_.2.2) ∧ (s_.2.2 ≠ gb719) ∧ (Below w.heap.size w w')) ?_ ?_
      rotate_left
      ·intro hCont
       refine two_ (i := 3) (j := 9) (Ni := some 31) (Nj := some 7) (bt 12 31) (bt 12 535) rfl rfl rfl rfl (two_of HT_.out (by kernel_rfl)) (by decide) (by decide) (fun K hK => ?_) (fun K hK => ?_)
       ·skip
        refine goes_ Try.func42 (by kernel_rfl) rfl #[.agg #[.int .i64 t710, .int .i64 t711, .int .i64 t712, .slice Ao130 t713.length co130], .int .i64 t718] (by rfl) rfl rfl sl ?_
        with_reducible refine (impl_PieceAt.calls t710 t711 t712 _ _ t713 t718 t723 _ ?side1 ?side2 A18.out).mono ?_
        (case side1 => repeat (first | exact (Kd.S_reads' HO715.out).2.2 | (with_reducible refine Kd.C_alloc ?_ _) | (with_reducible refine Kd.C_drewN ?_ _) | (with_reducible refine Kd.C_drew ?_)))
        (case side2 => exact (Kd.S_reads' HO715.out).2.1)
        rintro e w138 ⟨rfl, hb⟩
        refine ⟨_, rfl, ?_⟩
        replace HO715 := am (Kd.S_below (ss HO715) hb)
        replace BK719 := bb BK719 hb
        replace HB := bsw hb
        (try clear hb)
        (try clear hb2)
        (try clear hk)
        (try clear hi)
        refine hK.out _ _ ⟨bc0 BK719, bc1 BK719, bc2 BK719, bc3 BK719⟩ (fun hHeld => ?_)
        clear hK K
        refine nm 31 ?_
        refine two_ (i := 5) (j := 9) (Ni := some 33) (Nj := some 7) (bt 12 63) (bt 12 543) rfl rfl rfl rfl (two_of HT_.out (by kernel_rfl)) (by decide) (by decide) (fun K hK => ?_) (fun K hK => ?_)
        ·skip
         refine goes_ Try.func41 (by kernel_rfl) rfl #[.agg #[.int .i64 t710, .int .i64 t711, .int .i64 t712, .slice Ao130 t713.length co130], .int .i64 t723, .int .i64 t717] (by rfl) rfl rfl sl ?_
         with_reducible refine (impl_TableIn.calls t710 t711 t712 _ _ t713 t723 t717 t724 t725 t728 t731 _ ?side1 ?side2 A19.out).mono ?_
         (case side1 => repeat (first | exact (Kd.S_reads' HO715.out).2.2 | (with_reducible refine Kd.C_alloc ?_ _) | (with_reducible refine Kd.C_drewN ?_ _) | (with_reducible refine Kd.C_drew ?_)))
         (case side2 => exact (Kd.S_reads' HO715.out).2.1)
         rintro e w139 ⟨v726, v729, rfl, ho0, ho1, hb⟩
         refine ⟨_, rfl, ?_⟩
         replace HO715 := am (Kd.S_mono (Kd.S_told (Kd.S_told (Kd.S_old (ss HO715) hb) (Kd.R_base ho0)) (Kd.R_base ho1)) (fun _ h_ => h_.1))
         have HO727 := am (Kd.R_lower ho0 (below_size (sbw)))
         have HO730 := am (Kd.R_lower ho1 (below_size (sbw)))
         replace BK719 := bb BK719 hb
         replace HB := bsw hb
         (try clear hb)
         (try clear hb2)
         (try clear hk)
         (try clear hi)
         (try clear ho0)
         (try clear ho1)
         refine hK.out _ _ ⟨bc0 BK719, bc1 BK719, bc2 BK719, bc3 BK719⟩ (fun hHeld => ?_)
         clear hK K
         refine nm 33 ?_
         refine put 6 27 (bt 12 127) HT_ ?_
         refine put 7 34 (bt 12 255) HT_ ?_
         refine put 8 35 (bt 12 511) HT_ ?_
         refine on 9 7 (bt 12 1023) HT_ (fun K hK => ?_)
         refine box_step ?hg (N := 7) ?hd (cs := #[.int .i64 0, .slice none 0 0, .slice none 0 0]) (t := 55) ?hr ?_; (case hd => rfl); (case hg => rfl); (case hr => first | (go_simp; done) | (go_simp; rfl))
         intro gb732 hg w140 hbox hb
         replace HO715 := am (Kd.S_below (Kd.S_elderB (ss HO715) gb732 (Nat.le_of_eq hg.symm)) hb)
         replace HO727 := rb HO727 hb
         replace HO730 := rb HO730 hb
         have GW732 := bzw w hg
         have GE732 := bzw w hg
         replace HB := bsw hb
         have BK732 := am hbox
         have NB719_732 := nl BK719 hg
         have NB732_719 := ng BK719 hg
         replace BK719 := bb BK719 hb
         clear hb hbox hg
         refine hK.out _ _ ⟨bc0 BK719, bc1 BK719, bc2 BK719, bc3 BK719⟩ (fun hHeld => ?_)
         clear hK K
         refine nm 7 ?_
         exact norm_ a24_1 (hCont (v726, v729, gb732) _ ⟨hHeld, a24_2, (sr HO727), (sr HO730), (sk BK719), (sk BK732), GW732.out, GE732.out, NB719_732.out, NB732_719.out, (sbw)⟩)
        ·skip
         refine box_step ?hg (N := 7) ?hd (cs := #[.int .i64 0, .slice none 0 0, .slice none 0 0]) (t := 55) ?hr ?_; (case hd => rfl); (case hg => rfl); (case hr => first | (go_simp; done) | (go_simp; rfl))
         intro gb732 hg w139 hbox hb
         replace HO715 := am (Kd.S_below (Kd.S_elderB (ss HO715) gb732 (Nat.le_of_eq hg.symm)) hb)
         have GW732 := bzw w hg
         have GE732 := bzw w hg
         replace HB := bsw hb
         have BK732 := am hbox
         have NB719_732 := nl BK719 hg
         have NB732_719 := ng BK719 hg
         replace BK719 := bb BK719 hb
         clear hb hbox hg
         refine hK.out _ _ ⟨bc0 BK719, bc1 BK719, bc2 BK719, bc3 BK719⟩ (fun hHeld => ?_)
         clear hK K
         refine nm 7 ?_
         refine on 5 33 (bt 12 575) HT_ (fun K hK => ?_)
         refine goes_ Try.func41 (by kernel_rfl) rfl #[.agg #[.int .i64 t710, .int .i64 t711, .int .i64 t712, .slice Ao130 t713.length co130], .int .i64 t723, .int .i64 t717] (by rfl) rfl rfl sl ?_
         with_reducible refine (impl_TableIn.calls t710 t711 t712 _ _ t713 t723 t717 t724 t725 t728 t731 _ ?side1 ?side2 A19.out).mono ?_
         (case side1 => repeat (first | exact (Kd.S_reads' HO715.out).2.2 | (with_reducible refine Kd.C_alloc ?_ _) | (with_reducible refine Kd.C_drewN ?_ _) | (with_reducible refine Kd.C_drew ?_)))
         (case side2 => exact (Kd.S_reads' HO715.out).2.1)
         rintro e w140 ⟨v726, v729, rfl, ho0, ho1, hb⟩
         refine ⟨_, rfl, ?_⟩
         replace HO715 := am (Kd.S_mono (Kd.S_told (Kd.S_told (Kd.S_old (ss HO715) hb) (Kd.R_base ho0)) (Kd.R_base ho1)) (fun _ h_ => h_.1))
         have HO727 := am (Kd.R_lower ho0 (below_size (sbw)))
         have HO730 := am (Kd.R_lower ho1 (below_size (sbw)))
         replace BK719 := bb BK719 hb
         replace BK732 := bb BK732 hb
         replace HB := bsw hb
         (try clear hb)
         (try clear hb2)
         (try clear hk)
         (try clear hi)
         (try clear ho0)
         (try clear ho1)
         refine hK.out _ _ ⟨bc0 BK719, bc1 BK719, bc2 BK719, bc3 BK719⟩ (fun hHeld => ?_)
         clear hK K
         refine nm 33 ?_
         refine put 6 27 (bt 12 639) HT_ ?_
         refine put 7 34 (bt 12 767) HT_ ?_
         refine put 8 35 (bt 12 1023) HT_ ?_
         exact norm_ a24_1 (hCont (v726, v729, gb732) _ ⟨hHeld, a24_0, (sr HO727), (sr HO730), (sk BK719), (sk BK732), GW732.out, GE732.out, NB719_732.out, NB732_719.out, (sbw)⟩)
       ·skip
        refine box_step ?hg (N := 7) ?hd (cs := #[.int .i64 0, .slice none 0 0, .slice none 0 0]) (t := 55) ?hr ?_; (case hd => rfl); (case hg => rfl); (case hr => first | (go_simp; done) | (go_simp; rfl))
        intro gb732 hg w138 hbox hb
        replace HO715 := am (Kd.S_below (Kd.S_elderB (ss HO715) gb732 (Nat.le_of_eq hg.symm)) hb)
        have GW732 := bzw w hg
        have GE732 := bzw w hg
        replace HB := bsw hb
        have BK732 := am hbox
        have NB719_732 := nl BK719 hg
        have NB732_719 := ng BK719 hg
        replace BK719 := bb BK719 hb
        clear hb hbox hg
        refine hK.out _ _ ⟨bc0 BK719, bc1 BK719, bc2 BK719, bc3 BK719⟩ (fun hHeld => ?_)
        clear hK K
        refine nm 7 ?_
        refine on 3 31 (bt 12 543) HT_ (fun K hK => ?_)
        refine goes_ Try.func42 (by kernel_rfl) rfl #[.agg #[.int .i64 t710, .int .i64 t711, .int .i64 t712, .slice Ao130 t713.length co130], .int .i64 t718] (by rfl) rfl rfl sl ?_
        with_reducible refine (impl_PieceAt.calls t710 t711 t712 _ _ t713 t718 t723 _ ?side1 ?side2 A18.out).mono ?_
        (case side1 => repeat (first | exact (Kd.S_reads' HO715.out).2.2 | (with_reducible refine Kd.C_alloc ?_ _) | (with_reducible refine Kd.C_drewN ?_ _) | (with_reducible refine Kd.C_drew ?_)))
        (case side2 => exact (Kd.S_reads' HO715.out).2.1)
        rintro e w139 ⟨rfl, hb⟩
        refine ⟨_, rfl, ?_⟩
        replace HO715 := am (Kd.S_below (ss HO715) hb)
        replace BK719 := bb BK719 hb
        replace BK732 := bb BK732 hb
        replace HB := bsw hb
        (try clear hb)
        (try clear hb2)
        (try clear hk)
        (try clear hi)
        refine hK.out _ _ ⟨bc0 BK719, bc1 BK719, bc2 BK719, bc3 BK719⟩ (fun hHeld => ?_)
        clear hK K
        refine nm 31 ?_
        refine on 5 33 (bt 12 575) HT_ (fun K hK => ?_)
        refine goes_ Try.func41 (by kernel_rfl) rfl #[.agg #[.int .i64 t710, .int .i64 t711, .int .i64 t712, .slice Ao130 t713.length co130], .int .i64 t723, .int .i64 t717] (by rfl) rfl rfl sl ?_
        with_reducible refine (impl_TableIn.calls t710 t711 t712 _ _ t713 t723 t717 t724 t725 t728 t731 _ ?side1 ?side2 A19.out).mono ?_
        (case side1 => repeat (first | exact (Kd.S_reads' HO715.out).2.2 | (with_reducible refine Kd.C_alloc ?_ _) | (with_reducible refine Kd.C_drewN ?_ _) | (with_reducible refine Kd.C_drew ?_)))
        (case side2 => exact (Kd.S_reads' HO715.out).2.1)
        rintro e w140 ⟨v726, v729, rfl, ho0, ho1, hb⟩
        refine ⟨_, rfl, ?_⟩
        replace HO715 := am (Kd.S_mono (Kd.S_told (Kd.S_told (Kd.S_old (ss HO715) hb) (Kd.R_base ho0)) (Kd.R_base ho1)) (fun _ h_ => h_.1))
        have HO727 := am (Kd.R_lower ho0 (below_size (sbw)))
        have HO730 := am (Kd.R_lower ho1 (below_size (sbw)))
        replace BK719 := bb BK719 hb
        replace BK732 := bb BK732 hb
        replace HB := bsw hb
        (try clear hb)
        (try clear hb2)
        (try clear hk)
        (try clear hi)
        (try clear ho0)
        (try clear ho1)
        refine hK.out _ _ ⟨bc0 BK719, bc1 BK719, bc2 BK719, bc3 BK719⟩ (fun hHeld => ?_)
        clear hK K
        refine nm 33 ?_
        refine put 6 27 (bt 12 639) HT_ ?_
        refine put 7 34 (bt 12 767) HT_ ?_
        refine put 8 35 (bt 12 1023) HT_ ?_
        exact norm_ a24_1 (hCont (v726, v729, gb732) _ ⟨hHeld, a24_0, (sr HO727), (sr HO730), (sk BK719), (sk BK732), GW732.out, GE732.out, NB719_732.out, NB732_719.out, (sbw)⟩)
      rintro ⟨v726, v729, gb732⟩ w141 ⟨hS_, h0_, h1_, h2_, h3_, h4_, h5_, h6_, h7_, h8_, h9_⟩
      replace HO715 : Aside0 (Kd.S k105 105 w141 w.heap.size (fun k_ => some k_ ≠ (v726 : Value).ownBlock ∧ some k_ ≠ (v729 : Value).ownBlock ∧ k_ ≠ gb732) (.slice Ao130 t713.length co130) t713) := ⟨h0_⟩
      have HO727 : Aside0 (Kd.R (Kd.int .i64) 3 w141 w.heap.size (fun k_ => some k_ ≠ (v729 : Value).ownBlock) v726 t725) := ⟨h1_⟩
      have HO730 : Aside0 (Kd.R (Kd.int .i64) 3 w141 w.heap.size (fun k_ => some k_ ≠ (v726 : Value).ownBlock) v729 t728) := ⟨h2_⟩
      replace BK719 : Aside0 (w141.heap[gb719]? = some (.cells #[.int .i64 t710, .int .i64 t711, .int .i64 t712, .slice Ao130 t713.length co130] 31 (0, 0))) := ⟨h3_⟩
      have BK732 : Aside0 (w141.heap[gb732]? = some (.cells #[.int .i64 0, .slice none 0 0, .slice none 0 0] 55 (0, 0))) := ⟨h4_⟩
      have GW732 : Aside0 (w.heap.size ≤ gb732) := ⟨h5_⟩
      have GE732 : Aside0 (w.heap.size ≤ gb732) := ⟨h6_⟩
      have NB719_732 : Aside0 (gb719 ≠ gb732) := ⟨h7_⟩
      have NB732_719 : Aside0 (gb732 ≠ gb719) := ⟨h8_⟩
      replace HB : Aside0 (Below w.heap.size w w141) := ⟨h9_⟩
      clear h0_ h1_ h2_ h3_ h4_ h5_ h6_ h7_ h8_ h9_
      have hHeld : w141.cell? ⟨gb719, 0, none⟩ = some (.int .i64 t710) ∧ w141.cell? ⟨gb719, 1, none⟩ = some (.int .i64 t711) ∧ w141.cell? ⟨gb719, 2, none⟩ = some (.int .i64 t712) ∧ w141.cell? ⟨gb719, 3, none⟩ = some (.slice Ao130 t713.length co130) := hS_
      obtain ⟨Ao143, co143, eo143⟩ := Kd.R_slice HO727.out
      (first | subst eo143 | (injection eo143 with f1_ f2_ f3_; have f4_ := f1_.symm; have f5_ := f3_.symm; clear f1_ f2_ f3_; subst f4_; subst f5_))
      obtain ⟨Ao145, co145, eo145⟩ := Kd.R_slice HO730.out
      (first | subst eo145 | (injection eo145 with f1_ f2_ f3_; have f4_ := f1_.symm; have f5_ := f3_.symm; clear f1_ f2_ f3_; subst f4_; subst f5_))
      refine norm_ (a' := ?_) ?_ ?_
      rotate_left
      ·simp only [putAll, Act.put, List.setIfInBounds_toArray, List.set_cons_zero, List.set_cons_succ]
       rfl
      refine one_ (i := 10) (N := none) (bt 12 2047) rfl rfl (one_of HT_.out (by kernel_rfl)) (by decide) (fun K hK => ?_)
      obtain ⟨hs142, hfs142⟩ := cc1 BK732
      have hns142_0 := NB719_732.out
      have hms142_0 := NB732_719.out
      have hs144 := bc1 BK732
      have hfs144 := bf BK732 1
      have hns144_0 := NB719_732.out
      have hms144_0 := NB732_719.out
      have hs146 := bc2 BK732
      have hfs146 := bf BK732 2
      have hns146_0 := NB719_732.out
      have hms146_0 := NB732_719.out
      refine skip_ (w1 := ?_) (by rfl) rfl ?_ ?_
      rotate_left
      ·go_simp
       rfl
      refine hK.out _ _ ⟨((cell_far (p := ⟨gb732, _, none⟩) NB719_732.out _).trans (((cell_far (p := ⟨gb732, _, none⟩) NB719_732.out _).trans (((cell_far (p := ⟨gb732, _, none⟩) NB719_732.out _).trans (hHeld.1)))))), ((cell_far (p := ⟨gb732, _, none⟩) NB719_732.out _).trans (((cell_far (p := ⟨gb732, _, none⟩) NB719_732.out _).trans (((cell_far (p := ⟨gb732, _, none⟩) NB719_732.out _).trans (hHeld.2.1)))))), ((cell_far (p := ⟨gb732, _, none⟩) NB719_732.out _).trans (((cell_far (p := ⟨gb732, _, none⟩) NB719_732.out _).trans (((cell_far (p := ⟨gb732, _, none⟩) NB719_732.out _).trans (hHeld.2.2.1)))))), ((cell_far (p := ⟨gb732, _, none⟩) NB719_732.out _).trans (((cell_far (p := ⟨gb732, _, none⟩) NB719_732.out _).trans (((cell_far (p := ⟨gb732, _, none⟩) NB719_732.out _).trans (hHeld.2.2.2))))))⟩ (fun hHeld => ?_)
      clear hK K
      refine put 11 8 (bt 12 4095) HT_ ?_
      refine done_ (done_of HT_.out (by kernel_rfl)) ?_
      have hnb147 := NB719_732.out
      have hnc147 := NB732_719.out
      obtain ⟨hcz148_0, hcz148_1, hcz148_2, hcz148_3, hfz148_0, hfz148_1, hfz148_2, hfz148_3⟩ := cc4 BK719
      exact e24_0
     ·obtain ⟨t736, A151, H⟩ := bnd H
      obtain rfl := Option.some.inj H
      go_enter Try.func6, Try.ntmps6
      try go_wp2_with (first | ((with_reducible refine gc 12 rfl ?_); refine gL (some 11) Try.func12 #[.slice A0 l0.length c0] ?_; (with_reducible refine (laws_big.calls _ _ l0 false _ ?side1 ?side2 A2.out).mono ?_); (case side1 => repeat (first | exact HR0.out | (with_reducible refine Kd.C_alloc ?_ _) | (with_reducible refine Kd.C_drewN ?_ _) | (with_reducible refine Kd.C_drew ?_))); (case side2 => exact HC0.out); rintro e w' ⟨rfl, ⟨nd, rfl⟩⟩; refine ⟨_, rfl, ?_⟩) | ((with_reducible refine gc 39 rfl ?_); refine gL (some 14) Try.func39 #[.slice A0 l0.length c0] ?_; (with_reducible refine (spec_DrawHopAt.calls k _ _ l0 t710 t711 t712 t713 t716 t717 t718 _ ?side1 ?side2 A4.out).mono ?_); (case side1 => repeat (first | exact HR0.out | (with_reducible refine Kd.C_alloc ?_ _) | (with_reducible refine Kd.C_drewN ?_ _) | (with_reducible refine Kd.C_drew ?_))); (case side2 => exact HC0.out); rintro e w152 ⟨v714, rfl, ho0, hb⟩; refine ⟨_, rfl, ?_⟩; have HO715 := am (Kd.S_lower ho0 (below_size (sb))); replace HB := bs hb; (try clear hb); (try clear ho0)) | ((with_reducible refine gd 3 rfl ?_); refine bx 3 #[.int .i64 0, .int .i64 0, .int .i64 0, .slice none 0 0] 31 ?_; intro gb719 hg w153 hbox hb; replace HO715 := am (Kd.S_below (ss HO715) hb); have GW719 := bz w hg; have GE719 := bz w hg; replace HB := bs hb; have BK719 := am hbox; clear hb hbox hg; obtain ⟨hcz154_0, hcz154_1, hcz154_2, hcz154_3, hfz154_0, hfz154_1, hfz154_2, hfz154_3⟩ := cc4 BK719; obtain ⟨Ao155, co155, eo155⟩ := Kd.S_slice HO715.out; subst eo155))
      have n0_ : Aside0 (Kd.S k105 105 ((((w153.setCell ⟨gb719, 0, none⟩ (.int .i64 t710)).setCell ⟨gb719, 1, none⟩ (.int .i64 t711)).setCell ⟨gb719, 2, none⟩ (.int .i64 t712)).setCell ⟨gb719, 3, none⟩ (.slice Ao155 t713.length co155)) w.heap.size (fun _ => True) (.slice Ao155 t713.length co155) t713) := ⟨by (with_reducible repeat (first | apply Kd.S_alloc | apply Kd.S_drewN | apply Kd.S_drew)); exact Kd.S_mono (Kd.S_far (p := ⟨gb719, 3, none⟩) (Kd.S_far (p := ⟨gb719, 2, none⟩) (Kd.S_far (p := ⟨gb719, 1, none⟩) (Kd.S_far (p := ⟨gb719, 0, none⟩) (Kd.S_types HO715.out BK719.out (by decide)) (fun _ hk => hk.2) (.int .i64 t710)) (fun _ hk => hk.2) (.int .i64 t711)) (fun _ hk => hk.2) (.int .i64 t712)) (fun _ hk => hk.2) (.slice Ao155 t713.length co155)) (fun _ hk => trivial)⟩
      have n1_ : Aside0 (((((w153.setCell ⟨gb719, 0, none⟩ (.int .i64 t710)).setCell ⟨gb719, 1, none⟩ (.int .i64 t711)).setCell ⟨gb719, 2, none⟩ (.int .i64 t712)).setCell ⟨gb719, 3, none⟩ (.slice Ao155 t713.length co155)).heap[gb719]? = some (.cells #[.int .i64 t710, .int .i64 t711, .int .i64 t712, .slice Ao155 t713.length co155] 31 (0, 0))) := ⟨sp BK719⟩
      have n2_ : Aside0 (Below w.heap.size w ((((w153.setCell ⟨gb719, 0, none⟩ (.int .i64 t710)).setCell ⟨gb719, 1, none⟩ (.int .i64 t711)).setCell ⟨gb719, 2, none⟩ (.int .i64 t712)).setCell ⟨gb719, 3, none⟩ (.slice Ao155 t713.length co155))) := ⟨sbw⟩
      (try clear HO715)
      (try clear BK719)
      (try clear HB)
      generalize ((((w153.setCell ⟨gb719, 0, none⟩ (.int .i64 t710)).setCell ⟨gb719, 1, none⟩ (.int .i64 t711)).setCell ⟨gb719, 2, none⟩ (.int .i64 t712)).setCell ⟨gb719, 3, none⟩ (.slice Ao155 t713.length co155)) = w156 at n0_ n1_ n2_ ⊢
      have HO715 := n0_
      have BK719 := n1_
      have HB := n2_
      clear n0_ n1_ n2_
      replace HO715 := am (Kd.S_drew HO715.out)
      replace BK719 := am (blk_drew BK719.out)
      replace HB := am (below_drew1 HB.out)
      refine start_ (n := 5) (S := fun w' => w'.cell? ⟨gb719, 0, none⟩ = some (.int .i64 t710) ∧ w'.cell? ⟨gb719, 1, none⟩ = some (.int .i64 t711) ∧ w'.cell? ⟨gb719, 2, none⟩ = some (.int .i64 t712) ∧ w'.cell? ⟨gb719, 3, none⟩ = some (.slice Ao155 t713.length co155)) (ds := []) #[false, false, false, false, false] (by kernel_rfl) rfl rfl ⟨bc0 BK719, bc1 BK719, bc2 BK719, bc3 BK719⟩ (fun hHeld => ?_)
      generalize w156.drew = w157 at HO715 BK719 HB hHeld ⊢
      refine ta4 0 19 (bt 5 1) hHeld ?_
      refine ta4 2 21 (bt 5 5) hHeld ?_
      refine one_ (i := 1) (N := some 20) (bt 5 7) rfl rfl (by kernel_rfl) (by decide) (fun K hK => ?_)
      refine goes_ Try.func36 (by kernel_rfl) rfl #[.agg #[.int .i64 t710, .int .i64 t711, .int .i64 t712, .slice Ao155 t713.length co155]] (by rfl) rfl rfl sl ?_
      with_reducible refine (impl_IsProgram.calls k t710 t711 t712 _ _ t713 t720 _ ?side1 ?side2 A5.out).mono ?_
      (case side1 => repeat (first | exact (Kd.S_reads' HO715.out).2.2 | (with_reducible refine Kd.C_alloc ?_ _) | (with_reducible refine Kd.C_drewN ?_ _) | (with_reducible refine Kd.C_drew ?_)))
      (case side2 => exact (Kd.S_reads' HO715.out).2.1)
      rintro e w158 ⟨rfl, hb⟩
      refine ⟨_, rfl, ?_⟩
      replace HO715 := am (Kd.S_below (ss HO715) hb)
      replace BK719 := bb BK719 hb
      replace HB := bsw hb
      (try clear hb)
      (try clear hb2)
      (try clear hk)
      (try clear hi)
      refine hK.out _ _ ⟨bc0 BK719, bc1 BK719, bc2 BK719, bc3 BK719⟩ (fun hHeld => ?_)
      clear hK K
      refine nm 20 ?_
      refine one_ (i := 3) (N := some 22) (bt 5 15) rfl rfl (by kernel_rfl) (by decide) (fun K hK => ?_)
      refine goes_ Try.func40 (by kernel_rfl) rfl #[.agg #[.int .i64 t710, .int .i64 t711, .int .i64 t712, .slice Ao155 t713.length co155]] (by rfl) rfl rfl sl ?_
      with_reducible refine (spec_IsProgram.calls k t710 t711 t712 _ _ t713 t721 _ ?side1 ?side2 A6.out).mono ?_
      (case side1 => repeat (first | exact (Kd.S_reads' HO715.out).2.2 | (with_reducible refine Kd.C_alloc ?_ _) | (with_reducible refine Kd.C_drewN ?_ _) | (with_reducible refine Kd.C_drew ?_)))
      (case side2 => exact (Kd.S_reads' HO715.out).2.1)
      rintro e w159 ⟨rfl, hb⟩
      refine ⟨_, rfl, ?_⟩
      replace HO715 := am (Kd.S_below (ss HO715) hb)
      replace BK719 := bb BK719 hb
      replace HB := bsw hb
      (try clear hb)
      (try clear hb2)
      (try clear hk)
      (try clear hi)
      refine hK.out _ _ ⟨bc0 BK719, bc1 BK719, bc2 BK719, bc3 BK719⟩ (fun hHeld => ?_)
      clear hK K
      refine nm 22 ?_
      refine pu 4 23 (bt 5 31) ?_
      refine done_ (by kernel_rfl) ?_
      obtain ⟨hcz160_0, hcz160_1, hcz160_2, hcz160_3, hfz160_0, hfz160_1, hfz160_2, hfz160_3⟩ := cc4 BK719
      try go_wp2_with (first | ((with_reducible refine gc 36 rfl ?_); refine gL (some 25) Try.func36 #[.agg #[.int .i64 t710, .int .i64 t711, .int .i64 t712, .slice Ao155 t713.length co155]] ?_; (with_reducible refine (impl_IsProgram.calls k t710 t711 t712 _ _ t713 true _ ?side1 ?side2 A16.out).mono ?_); (case side1 => repeat (first | exact (Kd.S_reads' HO715.out).2.2 | (with_reducible refine Kd.C_alloc ?_ _) | (with_reducible refine Kd.C_drewN ?_ _) | (with_reducible refine Kd.C_drew ?_))); (case side2 => exact (Kd.S_reads' HO715.out).2.1); rintro e w161 ⟨rfl, hb⟩; refine ⟨_, rfl, ?_⟩; replace HO715 := am (Kd.S_below (ss HO715) hb); replace BK719 := bb BK719 hb; replace HB := bsw hb; (try clear hb)))
      replace HO715 := am (Kd.S_drew HO715.out)
      replace BK719 := am (blk_drew BK719.out)
      replace HB := am (below_drew1 HB.out)
      refine start_ (n := 12) (S := fun w' => w'.cell? ⟨gb719, 0, none⟩ = some (.int .i64 t710) ∧ w'.cell? ⟨gb719, 1, none⟩ = some (.int .i64 t711) ∧ w'.cell? ⟨gb719, 2, none⟩ = some (.int .i64 t712) ∧ w'.cell? ⟨gb719, 3, none⟩ = some (.slice Ao155 t713.length co155)) (ds := []) #[false, false, false, false, false, false, false, false, false, false, false, false] (by kernel_rfl) rfl rfl ⟨bc0 BK719, bc1 BK719, bc2 BK719, bc3 BK719⟩ (fun hHeld => ?_); refine with_tabW laws_FnSwitched.tab8 laws_FnSwitched.bits8 (fun HT_ HW_ => ?_)
      generalize w161.drew = w162 at HO715 BK719 HB hHeld ⊢
      refine put 2 30 (bt 12 4) HT_ ?_
      refine put 4 32 (bt 12 20) HT_ ?_
      refine tat4 0 28 (bt 12 21) HT_ HW_ hHeld ?_
      refine tat4 1 29 (bt 12 23) HT_ HW_ hHeld ?_
      refine join_ (σ := Value × Value × Nat) 2 (bt 12 1023) (fun s_ => [(31, .int .i64 t723), (33, .tuple #[.agg #[.int .i64 t724, s_.1, s_.2.1], .bool t731]), (7, .pointer (some ⟨s_.2.2, 0, none⟩)), (27, .tuple #[.agg #[.int .i64 t724, s_.1, s_.2.1], .bool t731]), (34, .agg #[.int .i64 t724, s_.1, s_.2.1]), (35, .bool t731)]) (fun s_ w' => (w'.cell? ⟨gb719, 0, none⟩ = some (.int .i64 t710) ∧ w'.cell? ⟨gb719, 1, none⟩ = some (.int .i64 t711) ∧ w'.cell? ⟨gb719, 2, none⟩ = some (.int .i64 t712) ∧ w'.cell? ⟨gb719, 3, none⟩ = some (.slice Ao155 t713.length co155)) ∧ (Kd.S k105 105 w' w.heap.size (fun k_ => some k_ ≠ (s_.1 : Value).ownBlock ∧ some k_ ≠ (s_.2.1 : Value).ownBlock ∧ k_ ≠ s_.2.2) (.slice Ao155 t713.length co155) t713) ∧ (Kd.R (Kd.int .i64) 3 w' w.heap.size (fun k_ => some k_ ≠ (s_.2.1 : Value).ownBlock) s_.1 t725) ∧ (Kd.R (Kd.int .i64) 3 w' w.heap.size (fun k_ => some k_ ≠ (s_.1 : Value).ownBlock) s_.2.1 t728) ∧ (w'.heap[gb719]? = some (.cells #[.int .i64 t710, .int .i64 t711, .int .i64 t712, .slice Ao155 t713.length co155] 31 (0, 0))) ∧ (w'.heap[s_.2.2]? = some (.cells #[.int .i64 0, .slice none 0 0, .slice none 0 0] 55 (0, 0))) ∧ (w.heap.size ≤ s_.2.2) ∧ (w.heap.size ≤ s_.2.2) ∧ (gb719 ≠ s_.2.2) ∧ (s_.2.2 ≠ gb719) ∧ (Below w.heap.size w w')) ?_ ?_
      rotate_left
      ·intro hCont
       refine two_ (i := 3) (j := 9) (Ni := some 31) (Nj := some 7) (bt 12 31) (bt 12 535) rfl rfl rfl rfl (two_of HT_.out (by kernel_rfl)) (by decide) (by decide) (fun K hK => ?_) (fun K hK => ?_)
       ·skip
        refine goes_ Try.func42 (by kernel_rfl) rfl #[.agg #[.int .i64 t710, .int .i64 t711, .int .i64 t712, .slice Ao155 t713.length co155], .int .i64 t718] (by rfl) rfl rfl sl ?_
        with_reducible refine (impl_PieceAt.calls t710 t711 t712 _ _ t713 t718 t723 _ ?side1 ?side2 A18.out).mono ?_
        (case side1 => repeat (first | exact (Kd.S_reads' HO715.out).2.2 | (with_reducible refine Kd.C_alloc ?_ _) | (with_reducible refine Kd.C_drewN ?_ _) | (with_reducible refine Kd.C_drew ?_)))
        (case side2 => exact (Kd.S_reads' HO715.out).2.1)
        rintro e w163 ⟨rfl, hb⟩
        refine ⟨_, rfl, ?_⟩
        replace HO715 := am (Kd.S_below (ss HO715) hb)
        replace BK719 := bb BK719 hb
        replace HB := bsw hb
        (try clear hb)
        (try clear hb2)
        (try clear hk)
        (try clear hi)
        refine hK.out _ _ ⟨bc0 BK719, bc1 BK719, bc2 BK719, bc3 BK719⟩ (fun hHeld => ?_)
        clear hK K
        refine nm 31 ?_
        refine two_ (i := 5) (j := 9) (Ni := some 33) (Nj := some 7) (bt 12 63) (bt 12 543) rfl rfl rfl rfl (two_of HT_.out (by kernel_rfl)) (by decide) (by decide) (fun K hK => ?_) (fun K hK => ?_)
        ·skip
         refine goes_ Try.func41 (by kernel_rfl) rfl #[.agg #[.int .i64 t710, .int .i64 t711, .int .i64 t712, .slice Ao155 t713.length co155], .int .i64 t723, .int .i64 t717] (by rfl) rfl rfl sl ?_
         with_reducible refine (impl_TableIn.calls t710 t711 t712 _ _ t713 t723 t717 t724 t725 t728 t731 _ ?side1 ?side2 A19.out).mono ?_
         (case side1 => repeat (first | exact (Kd.S_reads' HO715.out).2.2 | (with_reducible refine Kd.C_alloc ?_ _) | (with_reducible refine Kd.C_drewN ?_ _) | (with_reducible refine Kd.C_drew ?_)))
         (case side2 => exact (Kd.S_reads' HO715.out).2.1)
         rintro e w164 ⟨v726, v729, rfl, ho0, ho1, hb⟩
         refine ⟨_, rfl, ?_⟩
         replace HO715 := am (Kd.S_mono (Kd.S_told (Kd.S_told (Kd.S_old (ss HO715) hb) (Kd.R_base ho0)) (Kd.R_base ho1)) (fun _ h_ => h_.1))
         have HO727 := am (Kd.R_lower ho0 (below_size (sbw)))
         have HO730 := am (Kd.R_lower ho1 (below_size (sbw)))
         replace BK719 := bb BK719 hb
         replace HB := bsw hb
         (try clear hb)
         (try clear hb2)
         (try clear hk)
         (try clear hi)
         (try clear ho0)
         (try clear ho1)
         refine hK.out _ _ ⟨bc0 BK719, bc1 BK719, bc2 BK719, bc3 BK719⟩ (fun hHeld => ?_)
         clear hK K
         refine nm 33 ?_
         refine put 6 27 (bt 12 127) HT_ ?_
         refine put 7 34 (bt 12 255) HT_ ?_
         refine put 8 35 (bt 12 511) HT_ ?_
         refine on 9 7 (bt 12 1023) HT_ (fun K hK => ?_)
         refine box_step ?hg (N := 7) ?hd (cs := #[.int .i64 0, .slice none 0 0, .slice none 0 0]) (t := 55) ?hr ?_; (case hd => rfl); (case hg => rfl); (case hr => first | (go_simp; done) | (go_simp; rfl))
         intro gb732 hg w165 hbox hb
         replace HO715 := am (Kd.S_below (Kd.S_elderB (ss HO715) gb732 (Nat.le_of_eq hg.symm)) hb)
         replace HO727 := rb HO727 hb
         replace HO730 := rb HO730 hb
         have GW732 := bzw w hg
         have GE732 := bzw w hg
         replace HB := bsw hb
         have BK732 := am hbox
         have NB719_732 := nl BK719 hg
         have NB732_719 := ng BK719 hg
         replace BK719 := bb BK719 hb
         clear hb hbox hg
         refine hK.out _ _ ⟨bc0 BK719, bc1 BK719, bc2 BK719, bc3 BK719⟩ (fun hHeld => ?_)
         clear hK K
         refine nm 7 ?_
         exact norm_ a24_1 (hCont (v726, v729, gb732) _ ⟨hHeld, a24_2, (sr HO727), (sr HO730), (sk BK719), (sk BK732), GW732.out, GE732.out, NB719_732.out, NB732_719.out, (sbw)⟩)
        ·skip
         refine box_step ?hg (N := 7) ?hd (cs := #[.int .i64 0, .slice none 0 0, .slice none 0 0]) (t := 55) ?hr ?_; (case hd => rfl); (case hg => rfl); (case hr => first | (go_simp; done) | (go_simp; rfl))
         intro gb732 hg w164 hbox hb
         replace HO715 := am (Kd.S_below (Kd.S_elderB (ss HO715) gb732 (Nat.le_of_eq hg.symm)) hb)
         have GW732 := bzw w hg
         have GE732 := bzw w hg
         replace HB := bsw hb
         have BK732 := am hbox
         have NB719_732 := nl BK719 hg
         have NB732_719 := ng BK719 hg
         replace BK719 := bb BK719 hb
         clear hb hbox hg
         refine hK.out _ _ ⟨bc0 BK719, bc1 BK719, bc2 BK719, bc3 BK719⟩ (fun hHeld => ?_)
         clear hK K
         refine nm 7 ?_
         refine on 5 33 (bt 12 575) HT_ (fun K hK => ?_)
         refine goes_ Try.func41 (by kernel_rfl) rfl #[.agg #[.int .i64 t710, .int .i64 t711, .int .i64 t712, .slice Ao155 t713.length co155], .int .i64 t723, .int .i64 t717] (by rfl) rfl rfl sl ?_
         with_reducible refine (impl_TableIn.calls t710 t711 t712 _ _ t713 t723 t717 t724 t725 t728 t731 _ ?side1 ?side2 A19.out).mono ?_
         (case side1 => repeat (first | exact (Kd.S_reads' HO715.out).2.2 | (with_reducible refine Kd.C_alloc ?_ _) | (with_reducible refine Kd.C_drewN ?_ _) | (with_reducible refine Kd.C_drew ?_)))
         (case side2 => exact (Kd.S_reads' HO715.out).2.1)
         rintro e w165 ⟨v726, v729, rfl, ho0, ho1, hb⟩
         refine ⟨_, rfl, ?_⟩
         replace HO715 := am (Kd.S_mono (Kd.S_told (Kd.S_told (Kd.S_old (ss HO715) hb) (Kd.R_base ho0)) (Kd.R_base ho1)) (fun _ h_ => h_.1))
         have HO727 := am (Kd.R_lower ho0 (below_size (sbw)))
         have HO730 := am (Kd.R_lower ho1 (below_size (sbw)))
         replace BK719 := bb BK719 hb
         replace BK732 := bb BK732 hb
         replace HB := bsw hb
         (try clear hb)
         (try clear hb2)
         (try clear hk)
         (try clear hi)
         (try clear ho0)
         (try clear ho1)
         refine hK.out _ _ ⟨bc0 BK719, bc1 BK719, bc2 BK719, bc3 BK719⟩ (fun hHeld => ?_)
         clear hK K
         refine nm 33 ?_
         refine put 6 27 (bt 12 639) HT_ ?_
         refine put 7 34 (bt 12 767) HT_ ?_
         refine put 8 35 (bt 12 1023) HT_ ?_
         exact norm_ a24_1 (hCont (v726, v729, gb732) _ ⟨hHeld, a24_0, (sr HO727), (sr HO730), (sk BK719), (sk BK732), GW732.out, GE732.out, NB719_732.out, NB732_719.out, (sbw)⟩)
       ·skip
        refine box_step ?hg (N := 7) ?hd (cs := #[.int .i64 0, .slice none 0 0, .slice none 0 0]) (t := 55) ?hr ?_; (case hd => rfl); (case hg => rfl); (case hr => first | (go_simp; done) | (go_simp; rfl))
        intro gb732 hg w163 hbox hb
        replace HO715 := am (Kd.S_below (Kd.S_elderB (ss HO715) gb732 (Nat.le_of_eq hg.symm)) hb)
        have GW732 := bzw w hg
        have GE732 := bzw w hg
        replace HB := bsw hb
        have BK732 := am hbox
        have NB719_732 := nl BK719 hg
        have NB732_719 := ng BK719 hg
        replace BK719 := bb BK719 hb
        clear hb hbox hg
        refine hK.out _ _ ⟨bc0 BK719, bc1 BK719, bc2 BK719, bc3 BK719⟩ (fun hHeld => ?_)
        clear hK K
        refine nm 7 ?_
        refine on 3 31 (bt 12 543) HT_ (fun K hK => ?_)
        refine goes_ Try.func42 (by kernel_rfl) rfl #[.agg #[.int .i64 t710, .int .i64 t711, .int .i64 t712, .slice Ao155 t713.length co155], .int .i64 t718] (by rfl) rfl rfl sl ?_
        with_reducible refine (impl_PieceAt.calls t710 t711 t712 _ _ t713 t718 t723 _ ?side1 ?side2 A18.out).mono ?_
        (case side1 => repeat (first | exact (Kd.S_reads' HO715.out).2.2 | (with_reducible refine Kd.C_alloc ?_ _) | (with_reducible refine Kd.C_drewN ?_ _) | (with_reducible refine Kd.C_drew ?_)))
        (case side2 => exact (Kd.S_reads' HO715.out).2.1)
        rintro e w164 ⟨rfl, hb⟩
        refine ⟨_, rfl, ?_⟩
        replace HO715 := am (Kd.S_below (ss HO715) hb)
        replace BK719 := bb BK719 hb
        replace BK732 := bb BK732 hb
        replace HB := bsw hb
        (try clear hb)
        (try clear hb2)
        (try clear hk)
        (try clear hi)
        refine hK.out _ _ ⟨bc0 BK719, bc1 BK719, bc2 BK719, bc3 BK719⟩ (fun hHeld => ?_)
        clear hK K
        refine nm 31 ?_
        refine on 5 33 (bt 12 575) HT_ (fun K hK => ?_)
        refine goes_ Try.func41 (by kernel_rfl) rfl #[.agg #[.int .i64 t710, .int .i64 t711, .int .i64 t712, .slice Ao155 t713.length co155], .int .i64 t723, .int .i64 t717] (by rfl) rfl rfl sl ?_
        with_reducible refine (impl_TableIn.calls t710 t711 t712 _ _ t713 t723 t717 t724 t725 t728 t731 _ ?side1 ?side2 A19.out).mono ?_
        (case side1 => repeat (first | exact (Kd.S_reads' HO715.out).2.2 | (with_reducible refine Kd.C_alloc ?_ _) | (with_reducible refine Kd.C_drewN ?_ _) | (with_reducible refine Kd.C_drew ?_)))
        (case side2 => exact (Kd.S_reads' HO715.out).2.1)
        rintro e w165 ⟨v726, v729, rfl, ho0, ho1, hb⟩
        refine ⟨_, rfl, ?_⟩
        replace HO715 := am (Kd.S_mono (Kd.S_told (Kd.S_told (Kd.S_old (ss HO715) hb) (Kd.R_base ho0)) (Kd.R_base ho1)) (fun _ h_ => h_.1))
        have HO727 := am (Kd.R_lower ho0 (below_size (sbw)))
        have HO730 := am (Kd.R_lower ho1 (below_size (sbw)))
        replace BK719 := bb BK719 hb
        replace BK732 := bb BK732 hb
        replace HB := bsw hb
        (try clear hb)
        (try clear hb2)
        (try clear hk)
        (try clear hi)
        (try clear ho0)
        (try clear ho1)
        refine hK.out _ _ ⟨bc0 BK719, bc1 BK719, bc2 BK719, bc3 BK719⟩ (fun hHeld => ?_)
        clear hK K
        refine nm 33 ?_
        refine put 6 27 (bt 12 639) HT_ ?_
        refine put 7 34 (bt 12 767) HT_ ?_
        refine put 8 35 (bt 12 1023) HT_ ?_
        exact norm_ a24_1 (hCont (v726, v729, gb732) _ ⟨hHeld, a24_0, (sr HO727), (sr HO730), (sk BK719), (sk BK732), GW732.out, GE732.out, NB719_732.out, NB732_719.out, (sbw)⟩)
      rintro ⟨v726, v729, gb732⟩ w166 ⟨hS_, h0_, h1_, h2_, h3_, h4_, h5_, h6_, h7_, h8_, h9_⟩
      replace HO715 : Aside0 (Kd.S k105 105 w166 w.heap.size (fun k_ => some k_ ≠ (v726 : Value).ownBlock ∧ some k_ ≠ (v729 : Value).ownBlock ∧ k_ ≠ gb732) (.slice Ao155 t713.length co155) t713) := ⟨h0_⟩
      have HO727 : Aside0 (Kd.R (Kd.int .i64) 3 w166 w.heap.size (fun k_ => some k_ ≠ (v729 : Value).ownBlock) v726 t725) := ⟨h1_⟩
      have HO730 : Aside0 (Kd.R (Kd.int .i64) 3 w166 w.heap.size (fun k_ => some k_ ≠ (v726 : Value).ownBlock) v729 t728) := ⟨h2_⟩
      replace BK719 : Aside0 (w166.heap[gb719]? = some (.cells #[.int .i64 t710, .int .i64 t711, .int .i64 t712, .slice Ao155 t713.length co155] 31 (0, 0))) := ⟨h3_⟩
      have BK732 : Aside0 (w166.heap[gb732]? = some (.cells #[.int .i64 0, .slice none 0 0, .slice none 0 0] 55 (0, 0))) := ⟨h4_⟩
      have GW732 : Aside0 (w.heap.size ≤ gb732) := ⟨h5_⟩
      have GE732 : Aside0 (w.heap.size ≤ gb732) := ⟨h6_⟩
      have NB719_732 : Aside0 (gb719 ≠ gb732) := ⟨h7_⟩
      have NB732_719 : Aside0 (gb732 ≠ gb719) := ⟨h8_⟩
      replace HB : Aside0 (Below w.heap.size w w166) := ⟨h9_⟩
      clear h0_ h1_ h2_ h3_ h4_ h5_ h6_ h7_ h8_ h9_
      have hHeld : w166.cell? ⟨gb719, 0, none⟩ = some (.int .i64 t710) ∧ w166.cell? ⟨gb719, 1, none⟩ = some (.int .i64 t711) ∧ w166.cell? ⟨gb719, 2, none⟩ = some (.int .i64 t712) ∧ w166.cell? ⟨gb719, 3, none⟩ = some (.slice Ao155 t713.length co155) := hS_
      obtain ⟨Ao168, co168, eo168⟩ := Kd.R_slice HO727.out
      (first | subst eo168 | (injection eo168 with f1_ f2_ f3_; have f4_ := f1_.symm; have f5_ := f3_.symm; clear f1_ f2_ f3_; subst f4_; subst f5_))
      obtain ⟨Ao170, co170, eo170⟩ := Kd.R_slice HO730.out
      (first | subst eo170 | (injection eo170 with f1_ f2_ f3_; have f4_ := f1_.symm; have f5_ := f3_.symm; clear f1_ f2_ f3_; subst f4_; subst f5_))
      refine norm_ (a' := ?_) ?_ ?_
      rotate_left
      ·simp only [putAll, Act.put, List.setIfInBounds_toArray, List.set_cons_zero, List.set_cons_succ]
       rfl
      refine one_ (i := 10) (N := none) (bt 12 2047) rfl rfl (one_of HT_.out (by kernel_rfl)) (by decide) (fun K hK => ?_)
      obtain ⟨hs167, hfs167⟩ := cc1 BK732
      have hns167_0 := NB719_732.out
      have hms167_0 := NB732_719.out
      have hs169 := bc1 BK732
      have hfs169 := bf BK732 1
      have hns169_0 := NB719_732.out
      have hms169_0 := NB732_719.out
      have hs171 := bc2 BK732
      have hfs171 := bf BK732 2
      have hns171_0 := NB719_732.out
      have hms171_0 := NB732_719.out
      refine skip_ (w1 := ?_) (by rfl) rfl ?_ ?_
      rotate_left
      ·go_simp
       rfl
      refine hK.out _ _ ⟨((cell_far (p := ⟨gb732, _, none⟩) NB719_732.out _).trans (((cell_far (p := ⟨gb732, _, none⟩) NB719_732.out _).trans (((cell_far (p := ⟨gb732, _, none⟩) NB719_732.out _).trans (hHeld.1)))))), ((cell_far (p := ⟨gb732, _, none⟩) NB719_732.out _).trans (((cell_far (p := ⟨gb732, _, none⟩) NB719_732.out _).trans (((cell_far (p := ⟨gb732, _, none⟩) NB719_732.out _).trans (hHeld.2.1)))))), ((cell_far (p := ⟨gb732, _, none⟩) NB719_732.out _).trans (((cell_far (p := ⟨gb732, _, none⟩) NB719_732.out _).trans (((cell_far (p := ⟨gb732, _, none⟩) NB719_732.out _).trans (hHeld.2.2.1)))))), ((cell_far (p := ⟨gb732, _, none⟩) NB719_732.out _).trans (((cell_far (p := ⟨gb732, _, none⟩) NB719_732.out _).trans (((cell_far (p := ⟨gb732, _, none⟩) NB719_732.out _).trans (hHeld.2.2.2))))))⟩ (fun hHeld => ?_)
      clear hK K
      refine put 11 8 (bt 12 4095) HT_ ?_
      refine done_ (done_of HT_.out (by kernel_rfl)) ?_
      have hnb172 := NB719_732.out
      have hnc172 := NB732_719.out
      obtain ⟨hcz173_0, hcz173_1, hcz173_2, hcz173_3, hfz173_0, hfz173_1, hfz173_2, hfz173_3⟩ := cc4 BK719
      exact e24_0
   ·replace H := im H
    obtain rfl := Option.some.inj H
    go_enter Try.func6, Try.ntmps6
    try go_wp2_with (first | ((with_reducible refine gc 12 rfl ?_); refine gL (some 11) Try.func12 #[.slice A0 l0.length c0] ?_; (with_reducible refine (laws_big.calls _ _ l0 false _ ?side1 ?side2 A2.out).mono ?_); (case side1 => repeat (first | exact HR0.out | (with_reducible refine Kd.C_alloc ?_ _) | (with_reducible refine Kd.C_drewN ?_ _) | (with_reducible refine Kd.C_drew ?_))); (case side2 => exact HC0.out); rintro e w' ⟨rfl, ⟨nd, rfl⟩⟩; refine ⟨_, rfl, ?_⟩) | ((with_reducible refine gc 39 rfl ?_); refine gL (some 14) Try.func39 #[.slice A0 l0.length c0] ?_; (with_reducible refine (spec_DrawHopAt.calls k _ _ l0 t710 t711 t712 t713 t716 t717 t718 _ ?side1 ?side2 A4.out).mono ?_); (case side1 => repeat (first | exact HR0.out | (with_reducible refine Kd.C_alloc ?_ _) | (with_reducible refine Kd.C_drewN ?_ _) | (with_reducible refine Kd.C_drew ?_))); (case side2 => exact HC0.out); rintro e w177 ⟨v714, rfl, ho0, hb⟩; refine ⟨_, rfl, ?_⟩; have HO715 := am (Kd.S_lower ho0 (below_size (sb))); replace HB := bs hb; (try clear hb); (try clear ho0)) | ((with_reducible refine gd 3 rfl ?_); refine bx 3 #[.int .i64 0, .int .i64 0, .int .i64 0, .slice none 0 0] 31 ?_; intro gb719 hg w178 hbox hb; replace HO715 := am (Kd.S_below (ss HO715) hb); have GW719 := bz w hg; have GE719 := bz w hg; replace HB := bs hb; have BK719 := am hbox; clear hb hbox hg; obtain ⟨hcz179_0, hcz179_1, hcz179_2, hcz179_3, hfz179_0, hfz179_1, hfz179_2, hfz179_3⟩ := cc4 BK719; obtain ⟨Ao180, co180, eo180⟩ := Kd.S_slice HO715.out; subst eo180))
    have n0_ : Aside0 (Kd.S k105 105 ((((w178.setCell ⟨gb719, 0, none⟩ (.int .i64 t710)).setCell ⟨gb719, 1, none⟩ (.int .i64 t711)).setCell ⟨gb719, 2, none⟩ (.int .i64 t712)).setCell ⟨gb719, 3, none⟩ (.slice Ao180 t713.length co180)) w.heap.size (fun _ => True) (.slice Ao180 t713.length co180) t713) := ⟨by (with_reducible repeat (first | apply Kd.S_alloc | apply Kd.S_drewN | apply Kd.S_drew)); exact Kd.S_mono (Kd.S_far (p := ⟨gb719, 3, none⟩) (Kd.S_far (p := ⟨gb719, 2, none⟩) (Kd.S_far (p := ⟨gb719, 1, none⟩) (Kd.S_far (p := ⟨gb719, 0, none⟩) (Kd.S_types HO715.out BK719.out (by decide)) (fun _ hk => hk.2) (.int .i64 t710)) (fun _ hk => hk.2) (.int .i64 t711)) (fun _ hk => hk.2) (.int .i64 t712)) (fun _ hk => hk.2) (.slice Ao180 t713.length co180)) (fun _ hk => trivial)⟩
    have n1_ : Aside0 (((((w178.setCell ⟨gb719, 0, none⟩ (.int .i64 t710)).setCell ⟨gb719, 1, none⟩ (.int .i64 t711)).setCell ⟨gb719, 2, none⟩ (.int .i64 t712)).setCell ⟨gb719, 3, none⟩ (.slice Ao180 t713.length co180)).heap[gb719]? = some (.cells #[.int .i64 t710, .int .i64 t711, .int .i64 t712, .slice Ao180 t713.length co180] 31 (0, 0))) := ⟨sp BK719⟩
    have n2_ : Aside0 (Below w.heap.size w ((((w178.setCell ⟨gb719, 0, none⟩ (.int .i64 t710)).setCell ⟨gb719, 1, none⟩ (.int .i64 t711)).setCell ⟨gb719, 2, none⟩ (.int .i64 t712)).setCell ⟨gb719, 3, none⟩ (.slice Ao180 t713.length co180))) := ⟨sbw⟩
    (try clear HO715)
    (try clear BK719)
    (try clear HB)
    generalize ((((w178.setCell ⟨gb719, 0, none⟩ (.int .i64 t710)).setCell ⟨gb719, 1, none⟩ (.int .i64 t711)).setCell ⟨gb719, 2, none⟩ (.int .i64 t712)).setCell ⟨gb719, 3, none⟩ (.slice Ao180 t713.length co180)) = w181 at n0_ n1_ n2_ ⊢
    have HO715 := n0_
    have BK719 := n1_
    have HB := n2_
    clear n0_ n1_ n2_
    replace HO715 := am (Kd.S_drew HO715.out)
    replace BK719 := am (blk_drew BK719.out)
    replace HB := am (below_drew1 HB.out)
    refine start_ (n := 5) (S := fun w' => w'.cell? ⟨gb719, 0, none⟩ = some (.int .i64 t710) ∧ w'.cell? ⟨gb719, 1, none⟩ = some (.int .i64 t711) ∧ w'.cell? ⟨gb719, 2, none⟩ = some (.int .i64 t712) ∧ w'.cell? ⟨gb719, 3, none⟩ = some (.slice Ao180 t713.length co180)) (ds := []) #[false, false, false, false, false] (by kernel_rfl) rfl rfl ⟨bc0 BK719, bc1 BK719, bc2 BK719, bc3 BK719⟩ (fun hHeld => ?_)
    generalize w181.drew = w182 at HO715 BK719 HB hHeld ⊢
    refine ta4 0 19 (bt 5 1) hHeld ?_
    refine ta4 2 21 (bt 5 5) hHeld ?_
    refine one_ (i := 1) (N := some 20) (bt 5 7) rfl rfl (by kernel_rfl) (by decide) (fun K hK => ?_)
    refine goes_ Try.func36 (by kernel_rfl) rfl #[.agg #[.int .i64 t710, .int .i64 t711, .int .i64 t712, .slice Ao180 t713.length co180]] (by rfl) rfl rfl sl ?_
    with_reducible refine (impl_IsProgram.calls k t710 t711 t712 _ _ t713 t720 _ ?side1 ?side2 A5.out).mono ?_
    (case side1 => repeat (first | exact (Kd.S_reads' HO715.out).2.2 | (with_reducible refine Kd.C_alloc ?_ _) | (with_reducible refine Kd.C_drewN ?_ _) | (with_reducible refine Kd.C_drew ?_)))
    (case side2 => exact (Kd.S_reads' HO715.out).2.1)
    rintro e w183 ⟨rfl, hb⟩
    refine ⟨_, rfl, ?_⟩
    replace HO715 := am (Kd.S_below (ss HO715) hb)
    replace BK719 := bb BK719 hb
    replace HB := bsw hb
    (try clear hb)
    (try clear hb2)
    (try clear hk)
    (try clear hi)
    refine hK.out _ _ ⟨bc0 BK719, bc1 BK719, bc2 BK719, bc3 BK719⟩ (fun hHeld => ?_)
    clear hK K
    refine nm 20 ?_
    refine one_ (i := 3) (N := some 22) (bt 5 15) rfl rfl (by kernel_rfl) (by decide) (fun K hK => ?_)
    refine goes_ Try.func40 (by kernel_rfl) rfl #[.agg #[.int .i64 t710, .int .i64 t711, .int .i64 t712, .slice Ao180 t713.length co180]] (by rfl) rfl rfl sl ?_
    with_reducible refine (spec_IsProgram.calls k t710 t711 t712 _ _ t713 t721 _ ?side1 ?side2 A6.out).mono ?_
    (case side1 => repeat (first | exact (Kd.S_reads' HO715.out).2.2 | (with_reducible refine Kd.C_alloc ?_ _) | (with_reducible refine Kd.C_drewN ?_ _) | (with_reducible refine Kd.C_drew ?_)))
    (case side2 => exact (Kd.S_reads' HO715.out).2.1)
    rintro e w184 ⟨rfl, hb⟩
    refine ⟨_, rfl, ?_⟩
    replace HO715 := am (Kd.S_below (ss HO715) hb)
    replace BK719 := bb BK719 hb
    replace HB := bsw hb
    (try clear hb)
    (try clear hb2)
    (try clear hk)
    (try clear hi)
    refine hK.out _ _ ⟨bc0 BK719, bc1 BK719, bc2 BK719, bc3 BK719⟩ (fun hHeld => ?_)
    clear hK K
    refine nm 22 ?_
    refine pu 4 23 (bt 5 31) ?_
    refine done_ (by kernel_rfl) ?_
    obtain ⟨hcz185_0, hcz185_1, hcz185_2, hcz185_3, hfz185_0, hfz185_1, hfz185_2, hfz185_3⟩ := cc4 BK719
    try go_wp2_with (first | ((with_reducible refine gc 36 rfl ?_); refine gL (some 25) Try.func36 #[.agg #[.int .i64 t710, .int .i64 t711, .int .i64 t712, .slice Ao180 t713.length co180]] ?_; (with_reducible refine (impl_IsProgram.calls k t710 t711 t712 _ _ t713 false _ ?side1 ?side2 A16.out).mono ?_); (case side1 => repeat (first | exact (Kd.S_reads' HO715.out).2.2 | (with_reducible refine Kd.C_alloc ?_ _) | (with_reducible refine Kd.C_drewN ?_ _) | (with_reducible refine Kd.C_drew ?_))); (case side2 => exact (Kd.S_reads' HO715.out).2.1); rintro e w186 ⟨rfl, hb⟩; refine ⟨_, rfl, ?_⟩; replace HO715 := am (Kd.S_below (ss HO715) hb); replace BK719 := bb BK719 hb; replace HB := bsw hb; (try clear hb)))
    go_ret
    exact ⟨se, sbw⟩

/-- THE ONE PURE STATEMENT of laws_FnSwitched: yours. -/
def laws_FnSwitched.Pure : Prop := ∀ (l0 : List Int), l0.length ≤ maxLen → l0.length * 1 ≤ 140737488351232 → (∀ x ∈ l0, (Lit.int .u8 x).wf = true) → ∃ k, laws_FnSwitched.f k l0 = some true
theorem laws_FnSwitched.walk (P : laws_FnSwitched.Pure) (a0 : Option Addr) (len0 cap0 : Nat) (z0 : List Int) (w : World) (w0 : (a0 = none ∧ len0 = 0 ∧ cap0 = 0 ∧ z0 = []) ∨ ∃ x, a0 = some x ∧ len0 ≤ cap0 ∧ cap0 ≤ maxLen ∧ z0.length = cap0 ∧ (∀ i, i < z0.length → w.cell? (x.add i) = some (.int .u8 (z0.getD i 0))) ∧ ∀ n ∈ z0, (Lit.int .u8 n).wf = true) (y0 : len0 * 1 ≤ 140737488351232) :
    Calls Try.prog 6 #[.slice a0 len0 cap0] w fun e w' => e = .returned (.bool true) ∧ Below w.heap.size w w' := by
 obtain ⟨l0, rfl, hr0, hm0, hw0, hc0⟩ := ReadsInt.ofRowC w0
 obtain ⟨k, h⟩ := P l0 hm0 y0 hw0
 refine (laws_FnSwitched.calls k _ _ l0 true w (Kd.C_of_reads (d := (0 : Int)) (h1 := fun _ => rfl) hr0) hc0 h).mono ?_
 rintro e w' ⟨rfl, hd⟩
 exact ⟨rfl, hd⟩

end Go.Proofs.Ytiihaabhjphaeaa.QFnSwitched
