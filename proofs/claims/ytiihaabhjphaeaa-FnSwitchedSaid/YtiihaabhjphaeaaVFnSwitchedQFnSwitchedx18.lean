/- Printed by a program of the session. Conditions: none. (squeezed). -/
import Derived.Test.YtiihaabhjphaeaaVFnSwitchedQFnSwitchedx17
namespace Go.Proofs.Ytiihaabhjphaeaa.QFnSwitched
set_option maxHeartbeats 8000000
set_option maxRecDepth 100000
open Go.RowKit Go.Proofs.YtiihaabhjphaeaaW.PrintWords Go.Proofs.YtiihaabhjphaeaaW.PrintLast Go.Proofs.YtiihaabhjphaeaaW.PrintMore Go.Proofs.Ytiihaabhjphaeaa.Open Go.Proofs.Ytiihaabhjphaeaa.Sq
attribute [local go_sem] max2_int min2_int max_two min_two max_three min_three max_four min_four   -- for this text's walks alone
attribute [local go_sem] isSome_set
set_option linter.unusedVariables false
set_option linter.unusedSimpArgs false

theorem a18_10 {P : Prop} (h : P := by rw [hg]; exact (keep_size (w := w) (g := g) (row := none) (by exact kp HK))) : P := h
theorem a18_9 {P : Prop} (h : P := by rw [hg]; exact Nat.ne_of_gt (IsS152.lt (show IsS152 w0 _ g s0_0 t575 t576 from a18_1))) : P := h
theorem a18_8 {P : Prop} (h : P := by rw [hg]; exact Nat.ne_of_lt (IsS152.lt (show IsS152 w0 _ g s0_0 t575 t576 from a18_1))) : P := h
theorem a18_7 {P : Prop} (h : P := by rw [hg]; exact (keep_size (w := w) (g := g) (row := none) a18_0)) : P := h
theorem a18_6 {P : Prop} (h : P := by (with_reducible repeat (first | apply Kd.R_alloc | apply Kd.R_drewN | apply Kd.R_drew)); exact (Kd.R_mono (Kd.R_far (p := ⟨gb584, 3, none⟩) (h3 HO571 BK584) (fun _ hk => hk.2) (.slice Ao29 t580.length co29)) (fun _ h_ => h_.1))) : P := h
theorem a18_5 {P : Prop} (h : P := by repeat (first | (with_reducible first | exact HB.out | apply below_alloc | apply pw_below_drewN | apply below_drew1 | refine below_set ?_ (IsS152.ge HI0.out) | refine below_set ?_ GE568.out | refine below_set ?_ GE584.out) | exact HB.out)) : P := h
theorem a18_4 {P : Prop} (h : P := by repeat (first | (with_reducible first | exact HB.out | apply below_alloc | apply pw_below_drewN | apply below_drew1 | refine below_set ?_ (IsS152.ge HI0.out) | refine below_set ?_ GE568.out) | exact HB.out)) : P := h
theorem a18_3 {P : Prop} (h : P := by repeat (first | (with_reducible first | exact HI0.out | apply IsS152.alloc | apply IsS152.drewN | apply IsS152.drew | apply IsS152.set_1 | apply IsS152.set_2 | refine IsS152.far ?_ NB0_568.out _ | refine IsS152.far ?_ NB0_584.out _) | exact HI0.out)) : P := h
theorem a18_2 {P : Prop} (h : P := by repeat (first | (with_reducible first | exact HK.out | apply KeepBut.set_ | apply keep_drewN | apply keep_drew | apply keep_alloc | refine keep_far ?_ GW568.out _ | refine keep_far ?_ GW584.out _) | exact HK.out)) : P := h
theorem a18_1 {P : Prop} (h : P := by repeat (first | (with_reducible first | exact HI0.out | apply IsS152.alloc | apply IsS152.drewN | apply IsS152.drew | apply IsS152.set_1 | apply IsS152.set_2 | refine IsS152.far ?_ NB0_568.out _) | exact HI0.out)) : P := h
theorem a18_0 {P : Prop} (h : P := by repeat (first | (with_reducible first | exact HK.out | apply KeepBut.set_ | apply keep_drewN | apply keep_drew | apply keep_alloc | refine keep_far ?_ GW568.out _) | exact HK.out)) : P := h
def spec_l17Draw.f (k : Nat) (s0_0 : List Int) (s0_1 : Int) (s0_2 : Int) : Option (Int × Int × Int × (List (S105)) × Int × Int) := (spec_l11Plan.f k s0_0 s0_1 s0_2 5 24).bind fun bt569 => ((spec_l1Below.f s0_0 bt569.2.1 bt569.2.2 3).bind fun bt574 => ((spec_BuildProgram.f k bt569.1 5 4 0 24 bt574.1).bind fun bt577 => (if bt577.2.2.2.2 = true then (some (bt577.1, bt577.2.1, bt577.2.2.1, bt577.2.2.2.1, bt574.2.1, bt574.2.2)) else ((spec_l11Plan.f k s0_0 bt574.2.1 bt574.2.2 3 12).bind fun bt585 => ((spec_BuildProgram.f k bt585.1 3 2 0 12 0).bind fun bt590 => (some (bt590.1, bt590.2.1, bt590.2.2.1, bt590.2.2.2.1, bt585.2.1, bt585.2.2)))))))
theorem spec_l17Draw.mono : ∀ a0 a1 a2 k, LeO (spec_l17Draw.f k a0 a1 a2) (spec_l17Draw.f (k + 1) a0 a1 a2) := by
  intro a0 a1 a2 k
  unfold spec_l17Draw.f
  have m0 := @spec_BuildProgram.mono
  have m1 := @spec_l11Plan.mono
  exact mo
theorem e18_0 {P : Prop} (h : P := by
 go_enter Try.func87, Try.ntmps87
 go_wp2_with (first | ((with_reducible refine gd 2 rfl ?_); refine bx 2 #[.int .i64 0, .int .i64 0, .int .i64 0, .slice none 0 0] 31 ?_; intro gb568 hg w6 hbox hb; replace HB := am (below_step (by exact sj152 HB HI0) hb); have BK568 := am hbox; have GW568 := am ((a18_10 : w.heap.size ≤ gb568)); have GE568 := am ((Nat.le_trans HW0.out (a18_10 : w.heap.size ≤ gb568) : w0.heap.size ≤ gb568)); replace HK := am (KeepBut.trans (by exact kp HK) (KeepBut.of_below hb g none) (.inl rfl)); have NB0_568 := am ((by rw [hg]; exact Nat.ne_of_lt (IsS152.lt (show IsS152 w0 _ g s0_0 s0_1 s0_2 from by exact si152 HI0)) : g ≠ gb568)); have NB568_0 := am ((by rw [hg]; exact Nat.ne_of_gt (IsS152.lt (show IsS152 w0 _ g s0_0 s0_1 s0_2 from by exact si152 HI0)) : gb568 ≠ g)); replace HI0 := am (IsS152.below (by exact si152 HI0) hb); clear hb hbox hg) | ((with_reducible refine gc 106 rfl ?_); refine gL (some 7) Try.func106 #[.pointer (some ⟨g, 0, none⟩), .int .i64 5, .int .i64 24] ?_; (with_reducible refine (spec_l11Plan.calls k g s0_0 s0_1 s0_2 5 24 t569 t572 t573 w0 _ ?side1 ?side2 A2.out).mono ?_); (case side1 => repeat (first | (with_reducible first | exact HI0.out | apply IsS152.alloc | apply IsS152.drewN | apply IsS152.drew | apply IsS152.set_1 | apply IsS152.set_2 | refine IsS152.far ?_ NB0_568.out _) | exact HI0.out)); (case side2 => repeat (first | (with_reducible first | exact HB.out | apply below_alloc | apply pw_below_drewN | apply below_drew1 | refine below_set ?_ (IsS152.ge HI0.out) | refine below_set ?_ GE568.out) | exact HB.out)); rintro e w7 ⟨v570, rfl, ho0, hi, hb, hk⟩; refine ⟨_, rfl, ?_⟩; replace BK568 := am (KeepBut.blk hk (g' := gb568) (o := .cells #[.int .i64 0, .int .i64 0, .int .i64 0, .slice none 0 0] 31 (0, 0)) (sk BK568) NB568_0.out (by simp)); have HO571 := am (Kd.R_lower ho0 (keep_size (w := w) (g := g) (row := none) a18_0)); replace HK := am (KeepBut.trans a18_0 hk (.inl rfl)); replace HB := am hb; replace HI0 := am hi; (try clear hb); (try clear hk); (try clear hi); (try clear ho0)) | ((with_reducible refine gc 76 rfl ?_); refine gL (some 9) Try.func76 #[.pointer (some ⟨g, 0, none⟩), .int .i64 3] ?_; (with_reducible refine (spec_l1Below.calls g s0_0 t572 t573 3 t574 t575 t576 w0 _ ?side1 ?side2 A3.out).mono ?_); (case side1 => repeat (first | (with_reducible first | exact HI0.out | apply IsS152.alloc | apply IsS152.drewN | apply IsS152.drew | apply IsS152.set_1 | apply IsS152.set_2 | refine IsS152.far ?_ NB0_568.out _) | exact HI0.out)); (case side2 => repeat (first | (with_reducible first | exact HB.out | apply below_alloc | apply pw_below_drewN | apply below_drew1 | refine below_set ?_ (IsS152.ge HI0.out) | refine below_set ?_ GE568.out) | exact HB.out)); rintro e w8 ⟨rfl, hi, hb, hk⟩; refine ⟨_, rfl, ?_⟩; replace BK568 := am (KeepBut.blk hk (g' := gb568) (o := .cells #[.int .i64 0, .int .i64 0, .int .i64 0, .slice none 0 0] 31 (0, 0)) (sk BK568) NB568_0.out (by simp)); replace HO571 := am (Kd.R_mono (Kd.R_keep (IsS152.apart (show IsS152 w0 _ g s0_0 t572 t573 from a18_1) (sr HO571) (by decide)) hk (fun _ h => h.2)) (fun _ h => h.1)); replace HK := am (KeepBut.trans a18_0 hk (.inl rfl)); replace HB := am hb; replace HI0 := am hi; (try clear hb); (try clear hk); (try clear hi); obtain ⟨Ao9, co9, eo9⟩ := Kd.R_slice HO571.out; subst eo9) | (have _ := A18; (with_reducible refine gc 46 rfl ?_); refine gL (some 10) Try.func46 #[.slice Ao9 t569.length co9, .int .i64 5, .int .i64 4, .int .i64 0, .int .i64 24, .int .i64 t574] ?_; (with_reducible refine (spec_BuildProgram.calls k _ _ t569 5 4 0 24 t574 t577 t578 t579 t580 false _ ?side1 ?side2 A4.out).mono ?_); (case side1 => exact cr HO571); (case side2 => exact (Kd.R_reads' HO571.out).2.1); rintro e w24 ⟨v581, rfl, ho0, hb⟩; refine ⟨_, rfl, ?_⟩; replace HO571 := rb HO571 hb; have HO582 := am (Kd.S_lower ho0 (keep_size (w := w) (g := g) (row := none) a18_0)); replace BK568 := bb BK568 hb; replace HK := am (KeepBut.trans a18_0 (KeepBut.of_below hb g none) (.inl rfl)); replace HB := am (below_step a18_4 hb); replace HI0 := am (IsS152.below a18_1 hb); (try clear hb); (try clear hk); (try clear hi); (try clear ho0)) | ((with_reducible refine gc 46 rfl ?_); refine gL (some 10) Try.func46 #[.slice Ao9 t569.length co9, .int .i64 5, .int .i64 4, .int .i64 0, .int .i64 24, .int .i64 t574] ?_; (with_reducible refine (spec_BuildProgram.calls k _ _ t569 5 4 0 24 t574 t577 t578 t579 t580 true _ ?side1 ?side2 A4.out).mono ?_); (case side1 => exact cr HO571); (case side2 => exact (Kd.R_reads' HO571.out).2.1); rintro e w10 ⟨v581, rfl, ho0, hb⟩; refine ⟨_, rfl, ?_⟩; replace HO571 := rb HO571 hb; have HO582 := am (Kd.S_lower ho0 (keep_size (w := w) (g := g) (row := none) a18_0)); replace BK568 := bb BK568 hb; replace HK := am (KeepBut.trans a18_0 (KeepBut.of_below hb g none) (.inl rfl)); replace HB := am (below_step a18_4 hb); replace HI0 := am (IsS152.below a18_1 hb); (try clear hb); (try clear hk); (try clear hi); (try clear ho0)) | (have _ := A18; (with_reducible refine gd 3 rfl ?_); refine bx 3 #[.int .i64 0, .int .i64 0, .int .i64 0, .slice none 0 0] 31 ?_; intro gb584 hg w25 hbox hb; replace HO571 := rb HO571 hb; replace HO582 := am (Kd.S_below (ss HO582) hb); replace HB := am (below_step a18_4 hb); have BK584 := am hbox; have GW584 := am ((a18_7 : w.heap.size ≤ gb584)); have GE584 := am ((Nat.le_trans HW0.out (a18_7 : w.heap.size ≤ gb584) : w0.heap.size ≤ gb584)); replace HK := am (KeepBut.trans a18_0 (KeepBut.of_below hb g none) (.inl rfl)); have NB568_584 := nl BK568 hg; have NB584_568 := ng BK568 hg; replace BK568 := bb BK568 hb; have NB0_584 := am ((a18_8 : g ≠ gb584)); have NB584_0 := am ((a18_9 : gb584 ≠ g)); replace HI0 := am (IsS152.below a18_1 hb); clear hb hbox hg; have hnb26 := NB584_568.out; have hnc26 := NB568_584.out; have hnb27 := NB584_0.out; have hnc27 := NB0_584.out; obtain ⟨hcz28_0, hcz28_1, hcz28_2, hcz28_3, hfz28_0, hfz28_1, hfz28_2, hfz28_3⟩ := cc4 BK584; obtain ⟨Ao29, co29, eo29⟩ := Kd.S_slice HO582.out; subst eo29) | ((with_reducible refine gd 3 rfl ?_); refine bx 3 #[.int .i64 0, .int .i64 0, .int .i64 0, .slice none 0 0] 31 ?_; intro gb584 hg w11 hbox hb; replace HO571 := rb HO571 hb; replace HO582 := am (Kd.S_below (ss HO582) hb); replace HB := am (below_step a18_4 hb); have BK584 := am hbox; have GW584 := am ((a18_7 : w.heap.size ≤ gb584)); have GE584 := am ((Nat.le_trans HW0.out (a18_7 : w.heap.size ≤ gb584) : w0.heap.size ≤ gb584)); replace HK := am (KeepBut.trans a18_0 (KeepBut.of_below hb g none) (.inl rfl)); have NB568_584 := nl BK568 hg; have NB584_568 := ng BK568 hg; replace BK568 := bb BK568 hb; have NB0_584 := am ((a18_8 : g ≠ gb584)); have NB584_0 := am ((a18_9 : gb584 ≠ g)); replace HI0 := am (IsS152.below a18_1 hb); clear hb hbox hg; have hnb12 := NB584_568.out; have hnc12 := NB568_584.out; have hnb13 := NB584_0.out; have hnc13 := NB0_584.out; obtain ⟨hcz14_0, hcz14_1, hcz14_2, hcz14_3, hfz14_0, hfz14_1, hfz14_2, hfz14_3⟩ := cc4 BK584; obtain ⟨Ao15, co15, eo15⟩ := Kd.S_slice HO582.out; subst eo15; have hnb16 := NB568_0.out; have hnc16 := NB0_568.out; obtain ⟨hcz17_0, hcz17_1, hcz17_2, hcz17_3, hfz17_0, hfz17_1, hfz17_2, hfz17_3⟩ := cc4 BK568) | ((with_reducible refine gc 106 rfl ?_); refine gL (some 17) Try.func106 #[.pointer (some ⟨g, 0, none⟩), .int .i64 3, .int .i64 12] ?_; (with_reducible refine (spec_l11Plan.calls k g s0_0 t575 t576 3 12 t585 t588 t589 w0 _ ?side1 ?side2 A18.out).mono ?_); (case side1 => repeat (first | (with_reducible first | exact HI0.out | apply IsS152.alloc | apply IsS152.drewN | apply IsS152.drew | apply IsS152.set_1 | apply IsS152.set_2 | refine IsS152.far ?_ NB0_568.out _ | refine IsS152.far ?_ NB0_584.out _) | exact HI0.out)); (case side2 => repeat (first | (with_reducible first | exact HB.out | apply below_alloc | apply pw_below_drewN | apply below_drew1 | refine below_set ?_ (IsS152.ge HI0.out) | refine below_set ?_ GE568.out | refine below_set ?_ GE584.out) | exact HB.out)); rintro e w30 ⟨v586, rfl, ho0, hi, hb, hk⟩; refine ⟨_, rfl, ?_⟩; replace BK568 := am (KeepBut.blk hk (g' := gb568) (o := .cells #[.int .i64 0, .int .i64 0, .int .i64 0, .slice none 0 0] 31 (0, 0)) (sp BK568) NB568_0.out (by simp)); replace HO582 := am (Kd.S_mono (Kd.S_keep (IsS152.apartS (show IsS152 w0 _ g s0_0 t575 t576 from a18_3) (by (with_reducible repeat (first | apply Kd.S_alloc | apply Kd.S_drewN | apply Kd.S_drew)); exact (Kd.S_mono (Kd.S_far (p := ⟨gb584, 3, none⟩) (Kd.S_far (p := ⟨gb584, 2, none⟩) (Kd.S_far (p := ⟨gb584, 1, none⟩) (Kd.S_far (p := ⟨gb584, 0, none⟩) (Kd.S_types HO582.out BK584.out (by decide)) (fun _ hk => hk.2) (.int .i64 t577)) (fun _ hk => hk.2) (.int .i64 t578)) (fun _ hk => hk.2) (.int .i64 t579)) (fun _ hk => hk.2) (.slice Ao29 t580.length co29)) (fun _ h_ => h_.1))) (by decide)) hk (fun _ h => h.2)) (fun _ h => h.1)); have HO587 := am (Kd.R_lower (Kd.R_new' ho0 (Kd.R_lt a18_6)) (keep_size (w := w) (g := g) (row := none) a18_2)); replace HO571 := am (Kd.R_mono (Kd.R_told (Kd.R_oldK (IsS152.apart (show IsS152 w0 _ g s0_0 t575 t576 from a18_3) a18_6 (by decide)) hk) (Kd.R_base ho0)) (fun _ h_ => h_.1)); replace BK584 := am (KeepBut.blk hk (g' := gb584) (o := .cells #[.int .i64 t577, .int .i64 t578, .int .i64 t579, .slice Ao29 t580.length co29] 31 (0, 0)) (sp BK584) NB584_0.out (by simp)); replace HK := am (KeepBut.trans a18_2 hk (.inl rfl)); replace HB := am hb; replace HI0 := am hi; (try clear hb); (try clear hk); (try clear hi); (try clear ho0); obtain ⟨Ao31, co31, eo31⟩ := Kd.R_slice HO587.out; subst eo31) | ((with_reducible refine gc 46 rfl ?_); refine gL (some 18) Try.func46 #[.slice Ao31 t585.length co31, .int .i64 3, .int .i64 2, .int .i64 0, .int .i64 12, .int .i64 0] ?_; (with_reducible refine (spec_BuildProgram.calls k _ _ t585 3 2 0 12 0 t590 t591 t592 t593 t596 _ ?side1 ?side2 A19.out).mono ?_); (case side1 => exact cr HO587); (case side2 => exact (Kd.R_reads' HO587.out).2.1); rintro e w32 ⟨v594, rfl, ho0, hb⟩; refine ⟨_, rfl, ?_⟩; replace HO571 := rb HO571 hb; replace HO587 := rb HO587 hb; have HO595 := am (Kd.S_lower (Kd.S_new' ho0 (Kd.S_lt (ss HO582))) (keep_size (w := w) (g := g) (row := none) a18_2)); replace HO582 := am (Kd.S_elder' (ss HO582) (Kd.S_base ho0) hb); replace BK568 := bb BK568 hb; replace BK584 := bb BK584 hb; replace HK := am (KeepBut.trans a18_2 (KeepBut.of_below hb g none) (.inl rfl)); replace HB := am (below_step a18_5 hb); replace HI0 := am (IsS152.below a18_3 hb); (try clear hb); (try clear hk); (try clear hi); (try clear ho0); obtain ⟨hcz33_0, hcz33_1, hcz33_2, hcz33_3, hfz33_0, hfz33_1, hfz33_2, hfz33_3⟩ := cc4 BK584; obtain ⟨Ao34, co34, eo34⟩ := Kd.S_slice HO595.out; subst eo34; have hnb35 := NB568_0.out; have hnc35 := NB0_568.out; obtain ⟨hcz36_0, hcz36_1, hcz36_2, hcz36_3, hfz36_0, hfz36_1, hfz36_2, hfz36_3⟩ := cc4 BK568))
 first
 | have _ := A18
   refine bodyPost_ret (results_cell_row rfl _ _ gb568 31 #[.int .i64 t590, .int .i64 t591, .int .i64 t592, .slice Ao34 t593.length co34] (0, 0) _ rfl (sp BK568) Try.underlying31 rfl (by kernel_rfl)) rfl ?_
   exact ⟨_, se, by (with_reducible repeat (first | apply Kd.S_alloc | apply Kd.S_drewN | apply Kd.S_drew)); exact Kd.S_mono (Kd.S_far (p := ⟨gb568, 3, none⟩) (Kd.S_far (p := ⟨gb568, 2, none⟩) (Kd.S_far (p := ⟨gb568, 1, none⟩) (Kd.S_far (p := ⟨gb568, 0, none⟩) (Kd.S_far (p := ⟨gb584, 3, none⟩) (Kd.S_far (p := ⟨gb584, 2, none⟩) (Kd.S_far (p := ⟨gb584, 1, none⟩) (Kd.S_far (p := ⟨gb584, 0, none⟩) (Kd.S_types (Kd.S_types HO595.out BK584.out (by decide)) BK568.out (by decide)) (fun _ hk => hk.1.2) (.int .i64 t590)) (fun _ hk => hk.1.2) (.int .i64 t591)) (fun _ hk => hk.1.2) (.int .i64 t592)) (fun _ hk => hk.1.2) (.slice Ao34 t593.length co34)) (fun _ hk => hk.2) (.int .i64 t590)) (fun _ hk => hk.2) (.int .i64 t591)) (fun _ hk => hk.2) (.int .i64 t592)) (fun _ hk => hk.2) (.slice Ao34 t593.length co34)) (fun _ hk => trivial), a18_3, a18_5, a18_2⟩
   
 | refine bodyPost_ret (results_cell_row rfl _ _ gb568 31 #[.int .i64 t577, .int .i64 t578, .int .i64 t579, .slice Ao15 t580.length co15] (0, 0) _ rfl (sp BK568) Try.underlying31 rfl (by kernel_rfl)) rfl ?_
   exact ⟨_, se, by (with_reducible repeat (first | apply Kd.S_alloc | apply Kd.S_drewN | apply Kd.S_drew)); exact Kd.S_mono (Kd.S_far (p := ⟨gb568, 3, none⟩) (Kd.S_far (p := ⟨gb568, 2, none⟩) (Kd.S_far (p := ⟨gb568, 1, none⟩) (Kd.S_far (p := ⟨gb568, 0, none⟩) (Kd.S_far (p := ⟨gb584, 3, none⟩) (Kd.S_far (p := ⟨gb584, 2, none⟩) (Kd.S_far (p := ⟨gb584, 1, none⟩) (Kd.S_far (p := ⟨gb584, 0, none⟩) (Kd.S_types (Kd.S_types HO582.out BK584.out (by decide)) BK568.out (by decide)) (fun _ hk => hk.1.2) (.int .i64 t577)) (fun _ hk => hk.1.2) (.int .i64 t578)) (fun _ hk => hk.1.2) (.int .i64 t579)) (fun _ hk => hk.1.2) (.slice Ao15 t580.length co15)) (fun _ hk => hk.2) (.int .i64 t577)) (fun _ hk => hk.2) (.int .i64 t578)) (fun _ hk => hk.2) (.int .i64 t579)) (fun _ hk => hk.2) (.slice Ao15 t580.length co15)) (fun _ hk => trivial), a18_3, a18_5, a18_2⟩) : P := h
theorem spec_l17Draw.calls (k : Nat) (g : Nat) (s0_0 : List Int) (s0_1 : Int) (s0_2 : Int) (r1 : Int) (r2 : Int) (r3 : Int) (r4 : List (S105)) (r5 : Int) (r6 : Int) (w0 w : World) (hI : IsS152 w0 w g s0_0 s0_1 s0_2) (hB : Below w0.heap.size w0 w) (h : spec_l17Draw.f k s0_0 s0_1 s0_2 = some (r1, r2, r3, r4, r5, r6)) :
    Calls Try.prog 87 #[.pointer (some ⟨g, 0, none⟩)] w fun e w' => ∃ v3_ : Value, e = .returned (.agg #[.int .i64 r1, .int .i64 r2, .int .i64 r3, v3_]) ∧ Kd.S k105 105 w' w.heap.size (fun _ => True) v3_ r4 ∧ IsS152 w0 w' g s0_0 r5 r6 ∧ Below w0.heap.size w0 w' ∧ KeepBut w w' g none := by
 have hu31 := Try.underlying31
 have HI0 := am hI
 have HK := am (KeepBut.refl w g none)
 have HL := am hB.size
 clear hI
 have HW0 := am hB.size
 have HB := am hB
 clear hB
 have H := h; unfold spec_l17Draw.f at H
 clear h
 obtain ⟨⟨t569, t572, t573⟩, A2, H⟩ := bnd H
 try dsimp only at H
 obtain ⟨⟨t574, t575, t576⟩, A3, H⟩ := bnd H
 try dsimp only at H
 obtain ⟨⟨t577, t578, t579, t580, t583⟩, A4, H⟩ := bnd H
 try dsimp only at H
 obtain rfl | rfl := tt t583
 ·replace H := ip H
  simp only [Option.some.injEq, Prod.mk.injEq] at H
  obtain ⟨rfl, rfl, rfl, rfl, rfl, rfl⟩ := H
  exact e18_0
 ·replace H := im H
  obtain ⟨⟨t585, t588, t589⟩, A18, H⟩ := bnd H
  try dsimp only at H
  obtain ⟨⟨t590, t591, t592, t593, t596⟩, A19, H⟩ := bnd H
  try dsimp only at H
  simp only [Option.some.injEq, Prod.mk.injEq] at H
  obtain ⟨rfl, rfl, rfl, rfl, rfl, rfl⟩ := H
  exact e18_0
def spec_l1Once.f (s0_0 : List Int) (s0_1 : Int) (s0_2 : Int) (a1 : Int) : Option (Bool × Int × Int) := (spec_l1Below.f s0_0 s0_1 s0_2 a1).bind fun bt597 => (some ((bt597.1 == 0), bt597.2.1, bt597.2.2))
theorem spec_l1Once.calls (g : Nat) (s0_0 : List Int) (s0_1 : Int) (s0_2 : Int) (a1 : Int) (r1 : Bool) (r2 : Int) (r3 : Int) (w0 w : World) (hI : IsS152 w0 w g s0_0 s0_1 s0_2) (hB : Below w0.heap.size w0 w) (h : spec_l1Once.f s0_0 s0_1 s0_2 a1 = some (r1, r2, r3)) :
    Calls Try.prog 107 #[.pointer (some ⟨g, 0, none⟩), .int .i64 a1] w fun e w' => e = .returned (.bool r1) ∧ IsS152 w0 w' g s0_0 r2 r3 ∧ Below w0.heap.size w0 w' ∧ KeepBut w w' g none := by
 have HI0 := am hI
 have HK := am (KeepBut.refl w g none)
 have HL := am hB.size
 clear hI
 have HW0 := am hB.size
 have HB := am hB
 clear hB
 have H := h; unfold spec_l1Once.f at H
 clear h
 obtain ⟨⟨t597, t598, t599⟩, A3, H⟩ := bnd H
 try dsimp only at H
 simp only [Option.some.injEq, Prod.mk.injEq] at H
 obtain ⟨rfl, rfl, rfl⟩ := H
 go_enter Try.func107, Try.ntmps107
 go_wp2_with (first | ((with_reducible refine gc 76 rfl ?_); refine gL (some 7) Try.func76 #[.pointer (some ⟨g, 0, none⟩), .int .i64 a1] ?_; (with_reducible refine (spec_l1Below.calls g s0_0 s0_1 s0_2 a1 t597 t598 t599 w0 _ ?side1 ?side2 A3.out).mono ?_); (case side1 => exact si152 HI0); (case side2 => exact sj152 HB HI0); rintro e w4 ⟨rfl, hi, hb, hk⟩; refine ⟨_, rfl, ?_⟩; replace HK := am (KeepBut.trans (by exact kp HK) hk (.inl rfl)); replace HB := am hb; replace HI0 := am hi; (try clear hb); (try clear hk); (try clear hi)))
 go_ret
 exact ⟨se, by exact si152 HI0, by exact sj152 HB HI0, by exact kp HK⟩

def spec_l1Int.f (s0_0 : List Int) (s0_1 : Int) (s0_2 : Int) (l1 : List Int) : Option (Int × Int × Int) := (spec_l1Below.f s0_0 s0_1 s0_2 (l1.length : Int)).bind fun bt600 => (if 0 ≤ bt600.1 then (if bt600.1 < (l1.length : Int) then (some (rd l1 bt600.1, bt600.2.1, bt600.2.2)) else (none)) else (none))
theorem spec_l1Int.calls (g : Nat) (s0_0 : List Int) (s0_1 : Int) (s0_2 : Int) (A1 : Option Addr) (c1 : Nat) (l1 : List Int) (r1 : Int) (r2 : Int) (r3 : Int) (w0 w : World) (hI : IsS152 w0 w g s0_0 s0_1 s0_2) (hB : Below w0.heap.size w0 w) (hr1 : Kd.C (Kd.int .i64) w A1 l1.length l1) (hc1 : l1.length ≤ c1) (hf1 : ∀ ad, A1 = some ad → 0 < l1.length → ad.block ≠ g) (h : spec_l1Int.f s0_0 s0_1 s0_2 l1 = some (r1, r2, r3)) :
    Calls Try.prog 109 #[.pointer (some ⟨g, 0, none⟩), .slice A1 l1.length c1] w fun e w' => e = .returned (.int .i64 r1) ∧ IsS152 w0 w' g s0_0 r2 r3 ∧ Below w0.heap.size w0 w' ∧ KeepBut w w' g none := by
 have HR1 := am hr1
 have HC1 := am hc1
 clear hr1 hc1
 have HI0 := am hI
 have HK := am (KeepBut.refl w g none)
 have HL := am hB.size
 clear hI
 have HW0 := am hB.size
 have HB := am hB
 clear hB
 have H := h; unfold spec_l1Int.f at H
 clear h
 obtain ⟨⟨t600, t601, t602⟩, A3, H⟩ := bnd H
 try dsimp only at H
 obtain ⟨c4b0, H⟩ := id_ H
 obtain ⟨c5b0, H⟩ := id_ H
 simp only [Option.some.injEq, Prod.mk.injEq] at H
 obtain ⟨rfl, rfl, rfl⟩ := H
 go_enter Try.func109, Try.ntmps109
 go_wp2_with (first | ((with_reducible refine gc 76 rfl ?_); refine gL (some 9) Try.func76 #[.pointer (some ⟨g, 0, none⟩), .int .i64 (l1.length : Int)] ?_; (with_reducible refine (spec_l1Below.calls g s0_0 s0_1 s0_2 (l1.length : Int) t600 t601 t602 w0 _ ?side1 ?side2 A3.out).mono ?_); (case side1 => exact si152 HI0); (case side2 => exact sj152 HB HI0); rintro e w6 ⟨rfl, hi, hb, hk⟩; refine ⟨_, rfl, ?_⟩; replace HK := am (KeepBut.trans (by exact kp HK) hk (.inl rfl)); replace HB := am hb; replace HI0 := am hi; (try clear hb); (try clear hk); (try clear hi); have p603 : 0 ≤ (t600 : Int) := sa; have q603 : t600 < (l1.length : Int) := sa; obtain ⟨ad603, e603, hx603_0⟩ := Kd.at_int HR1.out t600 p603 q603; cases e603; replace hx603_0 := keep_cell HK.out hx603_0 (by first | (rw [add_block]; exact hf1 _ rfl (by omega)) | exact hf1 _ rfl (by omega) | exact hf1 ad603 rfl (by omega)); replace p603 := eq_true p603; replace q603 := eq_true q603))
 go_ret
 exact ⟨se, by exact si152 HI0, by exact sj152 HB HI0, by exact kp HK⟩

def spec_l4Raw.f (s0_0 : List Int) (s0_1 : Int) (s0_2 : Int) : Option (Int × Int × Int) := (spec_l1Once.f s0_0 s0_1 s0_2 6).bind fun bt604 => (if bt604.1 = true then ((spec_l1Int.f s0_0 bt604.2.1 bt604.2.2 (([(-1), 0, 1000, 1001, 9223372036854775807, (-9223372036854775808)] : List Int))).bind fun bt610 => (some (bt610.1, bt610.2.1, bt610.2.2))) else ((spec_l1Below.f s0_0 bt604.2.1 bt604.2.2 40).bind fun bt613 => (some (bt613.1, bt613.2.1, bt613.2.2))))
theorem spec_l4Raw.calls (g : Nat) (s0_0 : List Int) (s0_1 : Int) (s0_2 : Int) (r1 : Int) (r2 : Int) (r3 : Int) (w0 w : World) (hI : IsS152 w0 w g s0_0 s0_1 s0_2) (hB : Below w0.heap.size w0 w) (h : spec_l4Raw.f s0_0 s0_1 s0_2 = some (r1, r2, r3)) :
    Calls Try.prog 89 #[.pointer (some ⟨g, 0, none⟩)] w fun e w' => e = .returned (.int .i64 r1) ∧ IsS152 w0 w' g s0_0 r2 r3 ∧ Below w0.heap.size w0 w' ∧ KeepBut w w' g none := by
 have HI0 := am hI
 have HK := am (KeepBut.refl w g none)
 have HL := am hB.size
 clear hI
 have HW0 := am hB.size
 have HB := am hB
 clear hB
 have H := h; unfold spec_l4Raw.f at H
 clear h
 obtain ⟨⟨t604, t605, t606⟩, A2, H⟩ := bnd H
 try dsimp only at H
 obtain rfl | rfl := tt t604
 ·replace H := ip H
  obtain ⟨y607, hy607⟩ : ∃ y_ : List Int, y_ = (([(-1), 0, 1000, 1001, 9223372036854775807, (-9223372036854775808)] : List Int)) := ⟨_, rfl⟩
  replace H : ((spec_l1Int.f s0_0 t605 t606 y607).bind fun bt610 => (some (bt610.1, bt610.2.1, bt610.2.2))) = some (r1, r2, r3) := ry hy607 H
  have Ny607 := am hy607
  clear hy607
  obtain ⟨⟨t610, t611, t612⟩, A4, H⟩ := bnd H
  try dsimp only at H
  simp only [Option.some.injEq, Prod.mk.injEq] at H
  obtain ⟨rfl, rfl, rfl⟩ := H
  go_enter Try.func89, Try.ntmps89
  go_wp2_with (first | ((with_reducible refine gc 107 rfl ?_); refine gL (some 4) Try.func107 #[.pointer (some ⟨g, 0, none⟩), .int .i64 6] ?_; (with_reducible refine (spec_l1Once.calls g s0_0 s0_1 s0_2 6 true t605 t606 w0 _ ?side1 ?side2 A2.out).mono ?_); (case side1 => exact si152 HI0); (case side2 => exact sj152 HB HI0); rintro e w5 ⟨rfl, hi, hb, hk⟩; refine ⟨_, rfl, ?_⟩; replace HK := am (KeepBut.trans (by exact kp HK) hk (.inl rfl)); replace HB := am hb; replace HI0 := am hi; (try clear hb); (try clear hk); (try clear hi)) | ((with_reducible refine gd 6 rfl ?_); refine Kd.R_lit (Kd.int .i64) _ 3 ?hg (N := 6) ?hd (xs := ([(-1), 0, 1000, 1001, 9223372036854775807, (-9223372036854775808)] : List Int)) (inner := [.int .i64 (-1), .int .i64 0, .int .i64 1000, .int .i64 1001, .int .i64 9223372036854775807, .int .i64 (-9223372036854775808)]) (ok := fun _ => True) (okp := fun _ => True) ?hr ?hp (fun _ hk => hk) trivial (Below.refl _ _) (Nat.le_refl _) (by simp) ?_; (case hd => rfl); (case hg => rfl); (case hr => first | (go_simp; done) | (go_simp; rfl)); (case hp => exact (Reps.one (show Kd.M (Kd.int .i64) _ _ _ (-1) [.int .i64 (-1)] from rfl) (Reps.one (show Kd.M (Kd.int .i64) _ _ _ 0 [.int .i64 0] from rfl) (Reps.one (show Kd.M (Kd.int .i64) _ _ _ 1000 [.int .i64 1000] from rfl) (Reps.one (show Kd.M (Kd.int .i64) _ _ _ 1001 [.int .i64 1001] from rfl) (Reps.one (show Kd.M (Kd.int .i64) _ _ _ 9223372036854775807 [.int .i64 9223372036854775807] from rfl) (Reps.one (show Kd.M (Kd.int .i64) _ _ _ (-9223372036854775808) [.int .i64 (-9223372036854775808)] from rfl) (Reps.none _ _)))))))); intro v608 w6 ho7 hb hg_ hnew_; clear hg_ hnew_; (first | rw [← Ny607.out] at ho7 | (simp only [Int.reduceToNat] at ho7; rw [← Ny607.out] at ho7)); have HO609 := am (Kd.R_lower ho7 (keep_size (w := w) (g := g) (row := none) (by exact kp HK))); replace HK := am (KeepBut.trans (by exact kp HK) (KeepBut.of_below hb g none) (.inl rfl)); replace HB := am (below_step (by exact sj152 HB HI0) hb); replace HI0 := am (IsS152.below (by exact si152 HI0) hb); clear hb ho7; obtain ⟨Ao8, co8, eo8⟩ := Kd.R_slice HO609.out; subst eo8) | ((with_reducible refine gc 109 rfl ?_); refine gL (some 7) Try.func109 #[.pointer (some ⟨g, 0, none⟩), .slice Ao8 y607.length co8] ?_; (with_reducible refine (spec_l1Int.calls g s0_0 t605 t606 _ _ y607 t610 t611 t612 w0 _ ?side1 ?side2 ?side3 ?side4 ?side5 A4.out).mono ?_); (case side1 => exact si152 HI0); (case side2 => exact sj152 HB HI0); (case side3 => exact cr HO609); (case side4 => exact (Kd.R_reads' HO609.out).2.1); (case side5 => exact far_slice (IsS152.own_ne HI0.out HO609.out (by decide))); rintro e w9 ⟨rfl, hi, hb, hk⟩; refine ⟨_, rfl, ?_⟩; replace HO609 := am (Kd.R_mono (Kd.R_keep (IsS152.apart (show IsS152 w0 _ g s0_0 t605 t606 from by exact si152 HI0) (sr HO609) (by decide)) hk (fun _ h => h.2)) (fun _ h => h.1)); replace HK := am (KeepBut.trans (by exact kp HK) hk (.inl rfl)); replace HB := am hb; replace HI0 := am hi; (try clear hb); (try clear hk); (try clear hi)))
  go_ret
  exact ⟨se, by exact si152 HI0, by exact sj152 HB HI0, by exact kp HK⟩
 ·replace H := im H
  obtain ⟨⟨t613, t614, t615⟩, A10, H⟩ := bnd H
  try dsimp only at H
  simp only [Option.some.injEq, Prod.mk.injEq] at H
  obtain ⟨rfl, rfl, rfl⟩ := H
  go_enter Try.func89, Try.ntmps89
  go_wp2_with (first | ((with_reducible refine gc 107 rfl ?_); refine gL (some 4) Try.func107 #[.pointer (some ⟨g, 0, none⟩), .int .i64 6] ?_; (with_reducible refine (spec_l1Once.calls g s0_0 s0_1 s0_2 6 false t605 t606 w0 _ ?side1 ?side2 A2.out).mono ?_); (case side1 => exact si152 HI0); (case side2 => exact sj152 HB HI0); rintro e w11 ⟨rfl, hi, hb, hk⟩; refine ⟨_, rfl, ?_⟩; replace HK := am (KeepBut.trans (by exact kp HK) hk (.inl rfl)); replace HB := am hb; replace HI0 := am hi; (try clear hb); (try clear hk); (try clear hi)) | ((with_reducible refine gc 76 rfl ?_); refine gL (some 9) Try.func76 #[.pointer (some ⟨g, 0, none⟩), .int .i64 40] ?_; (with_reducible refine (spec_l1Below.calls g s0_0 t605 t606 40 t613 t614 t615 w0 _ ?side1 ?side2 A10.out).mono ?_); (case side1 => exact si152 HI0); (case side2 => exact sj152 HB HI0); rintro e w12 ⟨rfl, hi, hb, hk⟩; refine ⟨_, rfl, ?_⟩; replace HK := am (KeepBut.trans (by exact kp HK) hk (.inl rfl)); replace HB := am hb; replace HI0 := am hi; (try clear hb); (try clear hk); (try clear hi)))
  go_ret
  exact ⟨se, by exact si152 HI0, by exact sj152 HB HI0, by exact kp HK⟩

end Go.Proofs.Ytiihaabhjphaeaa.QFnSwitched
