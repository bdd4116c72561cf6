/- Printed by a program of the session. Conditions: none. (squeezed). -/
import Derived.Test.YticepodaobpdlaaVFnQueuesQFnQueuesx2
namespace Go.Proofs.Yticepodaobpdlaa.QFnQueues
set_option maxHeartbeats 8000000
set_option maxRecDepth 100000
open Go.RowKit Go.Proofs.YticepodaobpdlaaW.PrintWords Go.Proofs.YticepodaobpdlaaW.PrintLast Go.Proofs.YticepodaobpdlaaW.PrintMore Go.Proofs.Yticepodaobpdlaa.Open Go.Proofs.Yticepodaobpdlaa.Sq
attribute [local go_sem] max2_int min2_int max_two min_two max_three min_three max_four min_four   -- for this text's walks alone
attribute [local go_sem] isSome_set
set_option linter.unusedVariables false
set_option linter.unusedSimpArgs false

theorem a3_23 {P : Prop} (h : P := by rw [hg]; exact Nat.ne_of_gt (IsS53.lt (show IsS53 w0 _ g s0_0 t192 t193 from a3_8))) : P := h
theorem a3_22 {P : Prop} (h : P := by rw [hg]; exact Nat.ne_of_lt (IsS53.lt (show IsS53 w0 _ g s0_0 t192 t193 from a3_8))) : P := h
theorem a3_21 {P : Prop} (h : P := by rw [hg]; exact Nat.ne_of_gt (IsS53.lt (show IsS53 w _ g224 t221 t237 t238 from a3_2))) : P := h
theorem a3_20 {P : Prop} (h : P := by rw [hg]; exact Nat.ne_of_lt (IsS53.lt (show IsS53 w _ g224 t221 t237 t238 from a3_2))) : P := h
theorem a3_19 {P : Prop} (h : P := by rw [hg]; exact Nat.ne_of_gt (IsS53.lt (show IsS53 w _ g224 t221 t228 t229 from a3_6))) : P := h
theorem a3_18 {P : Prop} (h : P := by rw [hg]; exact Nat.ne_of_lt (IsS53.lt (show IsS53 w _ g224 t221 t228 t229 from a3_6))) : P := h
theorem a3_17 {P : Prop} (h : P := by rw [hg]; exact Nat.ne_of_gt (IsS53.lt (show IsS53 w0 _ g s0_0 s0_1 s0_2 from by exact si53 HI0))) : P := h
theorem a3_16 {P : Prop} (h : P := by rw [hg]; exact Nat.ne_of_lt (IsS53.lt (show IsS53 w0 _ g s0_0 s0_1 s0_2 from by exact si53 HI0))) : P := h
theorem a3_15 {P : Prop} (h : P := by rw [hg]; exact (keep_size (w := w) (g := g) (row := none) a3_7)) : P := h
theorem a3_14 {P : Prop} (h : P := by repeat (first | (with_reducible first | exact HB.out | apply below_alloc | apply pw_below_drewN | apply below_drew1 | refine below_set ?_ (IsS53.ge HI0.out) | refine below_set ?_ GE185.out) | exact HB.out)) : P := h
theorem a3_13 {P : Prop} (h : P := by rw [hg]; exact (keep_size (w := w) (g := g) (row := none) (by exact kp HK))) : P := h
theorem a3_12 {P : Prop} (h : P := by (with_reducible repeat (first | apply Kd.R_alloc | apply Kd.R_drewN | apply Kd.R_drew)); exact (Kd.R_mono (Kd.R_far (p := ⟨gb254, 0, none⟩) (Kd.R_types HO253.out BK254.out (by decide)) (fun _ hk => hk.2) (.slice Ao31 t251.length co31)) (fun _ h_ => h_.1))) : P := h
theorem a3_11 {P : Prop} (h : P := by repeat (first | (with_reducible first | exact HB.out | apply below_alloc | apply pw_below_drewN | apply below_drew1 | refine below_set ?_ (IsS53.ge HI224.out) | refine below_set ?_ GE219.out | refine below_set ?_ GE220.out | refine below_set ?_ GE230.out | refine below_set ?_ GE239.out) | exact HB.out)) : P := h
theorem a3_10 {P : Prop} (h : P := by (with_reducible repeat (first | apply Kd.R_alloc | apply Kd.R_drewN | apply Kd.R_drew)); exact (Kd.R_mono (Kd.R_far (p := ⟨gb239, 5, none⟩) (Kd.R_far (p := ⟨gb239, 4, none⟩) (Kd.R_far (p := ⟨gb239, 3, none⟩) (Kd.R_far (p := ⟨gb239, 2, none⟩) (Kd.R_far (p := ⟨gb239, 1, none⟩) (Kd.R_far (p := ⟨gb239, 0, none⟩) (Kd.R_mono HO227.out (fun k_ hk => (⟨hk, hk.2⟩ : _ ∧ k_ ≠ gb239))) (fun _ hk => hk.2) (.int .i64 t231)) (fun _ hk => hk.2) (.int .i64 t232)) (fun _ hk => hk.2) (.int .i64 t233)) (fun _ hk => hk.2) (.int .i64 t234)) (fun _ hk => hk.2) (.int .i64 t235)) (fun _ hk => hk.2) (.int .i64 t236)) (fun _ h_ => h_.1))) : P := h
theorem a3_9 {P : Prop} (h : P := by repeat (first | (with_reducible first | exact HI224.out | apply IsS53.alloc | apply IsS53.drewN | apply IsS53.drew | apply IsS53.set_1 | apply IsS53.set_2 | refine IsS53.far ?_ NB224_219.out _ | refine IsS53.far ?_ NB224_220.out _ | refine IsS53.far ?_ NB224_230.out _ | refine IsS53.far ?_ NB224_239.out _) | exact HI224.out)) : P := h
theorem a3_8 {P : Prop} (h : P := by repeat (first | (with_reducible first | exact HI0.out | apply IsS53.alloc | apply IsS53.drewN | apply IsS53.drew | apply IsS53.set_1 | apply IsS53.set_2 | refine IsS53.far ?_ NB0_185.out _) | exact HI0.out)) : P := h
theorem a3_7 {P : Prop} (h : P := by repeat (first | (with_reducible first | exact HK.out | apply KeepBut.set_ | apply keep_drewN | apply keep_drew | apply keep_alloc | refine keep_far ?_ GW185.out _) | exact HK.out)) : P := h
theorem a3_6 {P : Prop} (h : P := by repeat (first | (with_reducible first | exact HI224.out | apply IsS53.alloc | apply IsS53.drewN | apply IsS53.drew | apply IsS53.set_1 | apply IsS53.set_2 | refine IsS53.far ?_ NB224_219.out _ | refine IsS53.far ?_ NB224_220.out _) | exact HI224.out)) : P := h
theorem a3_5 {P : Prop} (h : P := by repeat (first | (with_reducible first | exact HB.out | apply below_alloc | apply pw_below_drewN | apply below_drew1 | refine below_set ?_ (IsS53.ge HI224.out) | refine below_set ?_ GE219.out | refine below_set ?_ GE220.out | refine below_set ?_ GE230.out) | exact HB.out)) : P := h
theorem a3_4 {P : Prop} (h : P := by repeat (first | (with_reducible first | exact HB.out | apply below_alloc | apply pw_below_drewN | apply below_drew1 | refine below_set ?_ (IsS53.ge HI0.out) | refine below_set ?_ GE185.out | refine below_set ?_ GE194.out) | exact HB.out)) : P := h
theorem a3_3 {P : Prop} (h : P := by repeat (first | (with_reducible first | exact HB.out | apply below_alloc | apply pw_below_drewN | apply below_drew1 | refine below_set ?_ (IsS53.ge HI224.out) | refine below_set ?_ GE219.out | refine below_set ?_ GE220.out) | exact HB.out)) : P := h
theorem a3_2 {P : Prop} (h : P := by repeat (first | (with_reducible first | exact HI224.out | apply IsS53.alloc | apply IsS53.drewN | apply IsS53.drew | apply IsS53.set_1 | apply IsS53.set_2 | refine IsS53.far ?_ NB224_219.out _ | refine IsS53.far ?_ NB224_220.out _ | refine IsS53.far ?_ NB224_230.out _) | exact HI224.out)) : P := h
theorem a3_1 {P : Prop} (h : P := by repeat (first | (with_reducible first | exact HI0.out | apply IsS53.alloc | apply IsS53.drewN | apply IsS53.drew | apply IsS53.set_1 | apply IsS53.set_2 | refine IsS53.far ?_ NB0_185.out _ | refine IsS53.far ?_ NB0_194.out _) | exact HI0.out)) : P := h
theorem a3_0 {P : Prop} (h : P := by repeat (first | (with_reducible first | exact HK.out | apply KeepBut.set_ | apply keep_drewN | apply keep_drew | apply keep_alloc | refine keep_far ?_ GW185.out _ | refine keep_far ?_ GW194.out _) | exact HK.out)) : P := h
def spec_l24Any.f (s0_0 : List Int) (s0_1 : Int) (s0_2 : Int) : Option (Int × Int × Int × Int × Int × Int × Int × Int) := (spec_l24Packet.f s0_0 s0_1 s0_2).bind fun bt186 => ((spec_l1Below.f s0_0 bt186.2.2.2.2.2.2.1 bt186.2.2.2.2.2.2.2 9).bind fun bt195 => (if bt195.1 = 0 then ((spec_l1Int.f s0_0 bt195.2.1 bt195.2.2 (([(-1), 9999, 10000] : List Int))).bind fun bt201 => (some (bt201.1, bt186.2.1, bt186.2.2.1, bt186.2.2.2.1, bt186.2.2.2.2.1, bt186.2.2.2.2.2.1, bt201.2.1, bt201.2.2))) else (if bt195.1 = 1 then ((spec_l1Int.f s0_0 bt195.2.1 bt195.2.2 (([(-1), 5, 0] : List Int))).bind fun bt207 => (some (bt186.1, bt186.2.1, bt186.2.2.1, bt186.2.2.2.1, bt207.1, bt186.2.2.2.2.2.1, bt207.2.1, bt207.2.2))) else (if bt195.1 = 2 then ((spec_l1Below.f s0_0 bt195.2.1 bt195.2.2 4).bind fun bt210 => (some (bt186.1, bt186.2.1, bt186.2.2.1, bt186.2.2.2.1, bt186.2.2.2.2.1, wrap64 (bt210.1 - 1), bt210.2.1, bt210.2.2))) else (if bt195.1 = 3 then ((spec_l1Int.f s0_0 bt195.2.1 bt195.2.2 (([(-1), 9999, 10000] : List Int))).bind fun bt216 => (some (bt186.1, bt186.2.1, bt216.1, bt186.2.2.2.1, bt186.2.2.2.2.1, bt186.2.2.2.2.2.1, bt216.2.1, bt216.2.2))) else (some (bt186.1, bt186.2.1, bt186.2.2.1, bt186.2.2.2.1, bt186.2.2.2.2.1, bt186.2.2.2.2.2.1, bt195.2.1, bt195.2.2)))))))
theorem e3_0 {P : Prop} (h : P := by
 go_enter Try.func15, Try.ntmps15
 go_wp2_with (first | ((with_reducible refine gd 2 rfl ?_); refine bx 2 #[.int .i64 0, .int .i64 0, .int .i64 0, .int .i64 0, .int .i64 0, .int .i64 0] 28 ?_; intro gb185 hg w6 hbox hb; replace HB := am (below_step (by exact sj53 HB HI0) hb); have BK185 := am hbox; have GW185 := am ((a3_13 : w.heap.size ≤ gb185)); have GE185 := am ((Nat.le_trans HW0.out (a3_13 : w.heap.size ≤ gb185) : w0.heap.size ≤ gb185)); replace HK := am (KeepBut.trans (by exact kp HK) (KeepBut.of_below hb g none) (.inl rfl)); have NB0_185 := am ((a3_16 : g ≠ gb185)); have NB185_0 := am ((a3_17 : gb185 ≠ g)); replace HI0 := am (IsS53.below (by exact si53 HI0) hb); clear hb hbox hg) | ((with_reducible refine gc 23 rfl ?_); refine gL (some 5) Try.func23 #[.pointer (some ⟨g, 0, none⟩)] ?_; (with_reducible refine (spec_l24Packet.calls g s0_0 s0_1 s0_2 t186 t187 t188 t189 t190 t191 t192 t193 w0 _ ?side1 ?side2 A2.out).mono ?_); (case side1 => repeat (first | (with_reducible first | exact HI0.out | apply IsS53.alloc | apply IsS53.drewN | apply IsS53.drew | apply IsS53.set_1 | apply IsS53.set_2 | refine IsS53.far ?_ NB0_185.out _) | exact HI0.out)); (case side2 => repeat (first | (with_reducible first | exact HB.out | apply below_alloc | apply pw_below_drewN | apply below_drew1 | refine below_set ?_ (IsS53.ge HI0.out) | refine below_set ?_ GE185.out) | exact HB.out)); rintro e w7 ⟨rfl, hi, hb, hk⟩; refine ⟨_, rfl, ?_⟩; replace BK185 := am (KeepBut.blk hk (g' := gb185) (o := .cells #[.int .i64 0, .int .i64 0, .int .i64 0, .int .i64 0, .int .i64 0, .int .i64 0] 28 (0, 0)) (sk BK185) NB185_0.out (by simp)); replace HK := am (KeepBut.trans a3_7 hk (.inl rfl)); replace HB := am hb; replace HI0 := am hi; (try clear hb); (try clear hk); (try clear hi)) | ((with_reducible refine gd 3 rfl ?_); refine bx 3 #[.int .i64 0, .int .i64 0, .int .i64 0, .int .i64 0, .int .i64 0, .int .i64 0] 28 ?_; intro gb194 hg w8 hbox hb; replace HB := am (below_step a3_14 hb); have BK194 := am hbox; have GW194 := am ((a3_15 : w.heap.size ≤ gb194)); have GE194 := am ((Nat.le_trans HW0.out (a3_15 : w.heap.size ≤ gb194) : w0.heap.size ≤ gb194)); replace HK := am (KeepBut.trans a3_7 (KeepBut.of_below hb g none) (.inl rfl)); have NB185_194 := nl BK185 hg; have NB194_185 := ng BK185 hg; replace BK185 := bb BK185 hb; have NB0_194 := am ((a3_22 : g ≠ gb194)); have NB194_0 := am ((a3_23 : gb194 ≠ g)); replace HI0 := am (IsS53.below a3_8 hb); clear hb hbox hg; have hnb9 := NB194_185.out; have hnc9 := NB185_194.out; have hnb10 := NB194_0.out; have hnc10 := NB0_194.out; obtain ⟨hcz11_0, hcz11_1, hcz11_2, hcz11_3, hcz11_4, hcz11_5, hfz11_0, hfz11_1, hfz11_2, hfz11_3, hfz11_4, hfz11_5⟩ := cc6 BK194) | ((with_reducible refine gc 20 rfl ?_); refine gL (some 7) Try.func20 #[.pointer (some ⟨g, 0, none⟩), .int .i64 9] ?_; (with_reducible refine (spec_l1Below.calls g s0_0 t192 t193 9 t195 t196 t197 w0 _ ?side1 ?side2 A3.out).mono ?_); (case side1 => repeat (first | (with_reducible first | exact HI0.out | apply IsS53.alloc | apply IsS53.drewN | apply IsS53.drew | apply IsS53.set_1 | apply IsS53.set_2 | refine IsS53.far ?_ NB0_185.out _ | refine IsS53.far ?_ NB0_194.out _) | exact HI0.out)); (case side2 => repeat (first | (with_reducible first | exact HB.out | apply below_alloc | apply pw_below_drewN | apply below_drew1 | refine below_set ?_ (IsS53.ge HI0.out) | refine below_set ?_ GE185.out | refine below_set ?_ GE194.out) | exact HB.out)); rintro e w12 ⟨rfl, hi, hb, hk⟩; refine ⟨_, rfl, ?_⟩; replace BK185 := am (KeepBut.blk hk (g' := gb185) (o := .cells #[.int .i64 0, .int .i64 0, .int .i64 0, .int .i64 0, .int .i64 0, .int .i64 0] 28 (0, 0)) (sp BK185) NB185_0.out (by simp)); replace BK194 := am (KeepBut.blk hk (g' := gb194) (o := .cells #[.int .i64 t186, .int .i64 t187, .int .i64 t188, .int .i64 t189, .int .i64 t190, .int .i64 t191] 28 (0, 0)) (sp BK194) NB194_0.out (by simp)); replace HK := am (KeepBut.trans a3_0 hk (.inl rfl)); replace HB := am hb; replace HI0 := am hi; (try clear hb); (try clear hk); (try clear hi)) | ((with_reducible refine gd 11 rfl ?_); refine Kd.R_lit (Kd.int .i64) _ 3 ?hg (N := 11) ?hd (xs := ([(-1), 9999, 10000] : List Int)) (inner := [.int .i64 (-1), .int .i64 9999, .int .i64 10000]) (ok := fun _ => True) (okp := fun _ => True) ?hr ?hp (fun _ hk => hk) trivial (Below.refl _ _) (Nat.le_refl _) (by simp) ?_; (case hd => rfl); (case hg => rfl); (case hr => first | (go_simp; done) | (go_simp; rfl)); (case hp => exact (Reps.one (show Kd.M (Kd.int .i64) _ _ _ (-1) [.int .i64 (-1)] from rfl) (Reps.one (show Kd.M (Kd.int .i64) _ _ _ 9999 [.int .i64 9999] from rfl) (Reps.one (show Kd.M (Kd.int .i64) _ _ _ 10000 [.int .i64 10000] from rfl) (Reps.none _ _))))); intro v199 w13 ho14 hb hg_ hnew_; clear hg_ hnew_; (first | rw [← Ny198.out] at ho14 | (simp only [Int.reduceToNat] at ho14; rw [← Ny198.out] at ho14)); have HO200 := am (Kd.R_lower ho14 (keep_size (w := w) (g := g) (row := none) a3_0)); replace BK185 := bb BK185 hb; replace BK194 := bb BK194 hb; replace HK := am (KeepBut.trans a3_0 (KeepBut.of_below hb g none) (.inl rfl)); replace HB := am (below_step a3_4 hb); replace HI0 := am (IsS53.below a3_1 hb); clear hb ho14; obtain ⟨Ao15, co15, eo15⟩ := Kd.R_slice HO200.out; subst eo15) | ((with_reducible refine gc 25 rfl ?_); refine gL (some 12) Try.func25 #[.pointer (some ⟨g, 0, none⟩), .slice Ao15 y198.length co15] ?_; (with_reducible refine (spec_l1Int.calls g s0_0 t196 t197 _ _ y198 t201 t202 t203 w0 _ ?side1 ?side2 ?side3 ?side4 ?side5 A5.out).mono ?_); (case side1 => repeat (first | (with_reducible first | exact HI0.out | apply IsS53.alloc | apply IsS53.drewN | apply IsS53.drew | apply IsS53.set_1 | apply IsS53.set_2 | refine IsS53.far ?_ NB0_185.out _ | refine IsS53.far ?_ NB0_194.out _) | exact HI0.out)); (case side2 => repeat (first | (with_reducible first | exact HB.out | apply below_alloc | apply pw_below_drewN | apply below_drew1 | refine below_set ?_ (IsS53.ge HI0.out) | refine below_set ?_ GE185.out | refine below_set ?_ GE194.out) | exact HB.out)); (case side3 => exact cr HO200); (case side4 => exact (Kd.R_reads' HO200.out).2.1); (case side5 => exact far_slice (IsS53.own_ne HI0.out HO200.out (by decide))); rintro e w16 ⟨rfl, hi, hb, hk⟩; refine ⟨_, rfl, ?_⟩; replace BK185 := am (KeepBut.blk hk (g' := gb185) (o := .cells #[.int .i64 0, .int .i64 0, .int .i64 0, .int .i64 0, .int .i64 0, .int .i64 0] 28 (0, 0)) (sk BK185) NB185_0.out (by simp)); replace BK194 := am (KeepBut.blk hk (g' := gb194) (o := .cells #[.int .i64 t186, .int .i64 t187, .int .i64 t188, .int .i64 t189, .int .i64 t190, .int .i64 t191] 28 (0, 0)) (sk BK194) NB194_0.out (by simp)); replace HO200 := am (Kd.R_mono (Kd.R_keep (IsS53.apart (show IsS53 w0 _ g s0_0 t196 t197 from a3_1) (sr HO200) (by decide)) hk (fun _ h => h.2)) (fun _ h => h.1)); replace HK := am (KeepBut.trans a3_0 hk (.inl rfl)); replace HB := am hb; replace HI0 := am hi; (try clear hb); (try clear hk); (try clear hi); obtain ⟨hcz17_0, hcz17_1, hcz17_2, hcz17_3, hcz17_4, hcz17_5, hfz17_0, hfz17_1, hfz17_2, hfz17_3, hfz17_4, hfz17_5⟩ := cc6 BK194; have hnb18 := NB185_0.out; have hnc18 := NB0_185.out; obtain ⟨hcz19_0, hcz19_1, hcz19_2, hcz19_3, hcz19_4, hcz19_5, hfz19_0, hfz19_1, hfz19_2, hfz19_3, hfz19_4, hfz19_5⟩ := cc6 BK185) | ((with_reducible refine gd 17 rfl ?_); refine Kd.R_lit (Kd.int .i64) _ 3 ?hg (N := 17) ?hd (xs := ([(-1), 5, 0] : List Int)) (inner := [.int .i64 (-1), .int .i64 5, .int .i64 0]) (ok := fun _ => True) (okp := fun _ => True) ?hr ?hp (fun _ hk => hk) trivial (Below.refl _ _) (Nat.le_refl _) (by simp) ?_; (case hd => rfl); (case hg => rfl); (case hr => first | (go_simp; done) | (go_simp; rfl)); (case hp => exact (Reps.one (show Kd.M (Kd.int .i64) _ _ _ (-1) [.int .i64 (-1)] from rfl) (Reps.one (show Kd.M (Kd.int .i64) _ _ _ 5 [.int .i64 5] from rfl) (Reps.one (show Kd.M (Kd.int .i64) _ _ _ 0 [.int .i64 0] from rfl) (Reps.none _ _))))); intro v205 w29 ho30 hb hg_ hnew_; clear hg_ hnew_; (first | rw [← Ny204.out] at ho30 | (simp only [Int.reduceToNat] at ho30; rw [← Ny204.out] at ho30)); have HO206 := am (Kd.R_lower ho30 (keep_size (w := w) (g := g) (row := none) a3_0)); replace BK185 := bb BK185 hb; replace BK194 := bb BK194 hb; replace HK := am (KeepBut.trans a3_0 (KeepBut.of_below hb g none) (.inl rfl)); replace HB := am (below_step a3_4 hb); replace HI0 := am (IsS53.below a3_1 hb); clear hb ho30; obtain ⟨Ao31, co31, eo31⟩ := Kd.R_slice HO206.out; subst eo31) | ((with_reducible refine gc 25 rfl ?_); refine gL (some 18) Try.func25 #[.pointer (some ⟨g, 0, none⟩), .slice Ao31 y204.length co31] ?_; (with_reducible refine (spec_l1Int.calls g s0_0 t196 t197 _ _ y204 t207 t208 t209 w0 _ ?side1 ?side2 ?side3 ?side4 ?side5 A21.out).mono ?_); (case side1 => repeat (first | (with_reducible first | exact HI0.out | apply IsS53.alloc | apply IsS53.drewN | apply IsS53.drew | apply IsS53.set_1 | apply IsS53.set_2 | refine IsS53.far ?_ NB0_185.out _ | refine IsS53.far ?_ NB0_194.out _) | exact HI0.out)); (case side2 => repeat (first | (with_reducible first | exact HB.out | apply below_alloc | apply pw_below_drewN | apply below_drew1 | refine below_set ?_ (IsS53.ge HI0.out) | refine below_set ?_ GE185.out | refine below_set ?_ GE194.out) | exact HB.out)); (case side3 => exact cr HO206); (case side4 => exact (Kd.R_reads' HO206.out).2.1); (case side5 => exact far_slice (IsS53.own_ne HI0.out HO206.out (by decide))); rintro e w32 ⟨rfl, hi, hb, hk⟩; refine ⟨_, rfl, ?_⟩; replace BK185 := am (KeepBut.blk hk (g' := gb185) (o := .cells #[.int .i64 0, .int .i64 0, .int .i64 0, .int .i64 0, .int .i64 0, .int .i64 0] 28 (0, 0)) (sk BK185) NB185_0.out (by simp)); replace BK194 := am (KeepBut.blk hk (g' := gb194) (o := .cells #[.int .i64 t186, .int .i64 t187, .int .i64 t188, .int .i64 t189, .int .i64 t190, .int .i64 t191] 28 (0, 0)) (sk BK194) NB194_0.out (by simp)); replace HO206 := am (Kd.R_mono (Kd.R_keep (IsS53.apart (show IsS53 w0 _ g s0_0 t196 t197 from a3_1) (sr HO206) (by decide)) hk (fun _ h => h.2)) (fun _ h => h.1)); replace HK := am (KeepBut.trans a3_0 hk (.inl rfl)); replace HB := am hb; replace HI0 := am hi; (try clear hb); (try clear hk); (try clear hi); obtain ⟨hcz33_0, hcz33_1, hcz33_2, hcz33_3, hcz33_4, hcz33_5, hfz33_0, hfz33_1, hfz33_2, hfz33_3, hfz33_4, hfz33_5⟩ := cc6 BK194; have hnb34 := NB185_0.out; have hnc34 := NB0_185.out; obtain ⟨hcz35_0, hcz35_1, hcz35_2, hcz35_3, hcz35_4, hcz35_5, hfz35_0, hfz35_1, hfz35_2, hfz35_3, hfz35_4, hfz35_5⟩ := cc6 BK185) | ((with_reducible refine gc 20 rfl ?_); refine gL (some 23) Try.func20 #[.pointer (some ⟨g, 0, none⟩), .int .i64 4] ?_; (with_reducible refine (spec_l1Below.calls g s0_0 t196 t197 4 t210 t211 t212 w0 _ ?side1 ?side2 A37.out).mono ?_); (case side1 => repeat (first | (with_reducible first | exact HI0.out | apply IsS53.alloc | apply IsS53.drewN | apply IsS53.drew | apply IsS53.set_1 | apply IsS53.set_2 | refine IsS53.far ?_ NB0_185.out _ | refine IsS53.far ?_ NB0_194.out _) | exact HI0.out)); (case side2 => repeat (first | (with_reducible first | exact HB.out | apply below_alloc | apply pw_below_drewN | apply below_drew1 | refine below_set ?_ (IsS53.ge HI0.out) | refine below_set ?_ GE185.out | refine below_set ?_ GE194.out) | exact HB.out)); rintro e w45 ⟨rfl, hi, hb, hk⟩; refine ⟨_, rfl, ?_⟩; replace BK185 := am (KeepBut.blk hk (g' := gb185) (o := .cells #[.int .i64 0, .int .i64 0, .int .i64 0, .int .i64 0, .int .i64 0, .int .i64 0] 28 (0, 0)) (sk BK185) NB185_0.out (by simp)); replace BK194 := am (KeepBut.blk hk (g' := gb194) (o := .cells #[.int .i64 t186, .int .i64 t187, .int .i64 t188, .int .i64 t189, .int .i64 t190, .int .i64 t191] 28 (0, 0)) (sk BK194) NB194_0.out (by simp)); replace HK := am (KeepBut.trans a3_0 hk (.inl rfl)); replace HB := am hb; replace HI0 := am hi; (try clear hb); (try clear hk); (try clear hi); obtain ⟨hcz46_0, hcz46_1, hcz46_2, hcz46_3, hcz46_4, hcz46_5, hfz46_0, hfz46_1, hfz46_2, hfz46_3, hfz46_4, hfz46_5⟩ := cc6 BK194; have hnb47 := NB185_0.out; have hnc47 := NB0_185.out; obtain ⟨hcz48_0, hcz48_1, hcz48_2, hcz48_3, hcz48_4, hcz48_5, hfz48_0, hfz48_1, hfz48_2, hfz48_3, hfz48_4, hfz48_5⟩ := cc6 BK185) | ((with_reducible refine gd 29 rfl ?_); refine Kd.R_lit (Kd.int .i64) _ 3 ?hg (N := 29) ?hd (xs := ([(-1), 9999, 10000] : List Int)) (inner := [.int .i64 (-1), .int .i64 9999, .int .i64 10000]) (ok := fun _ => True) (okp := fun _ => True) ?hr ?hp (fun _ hk => hk) trivial (Below.refl _ _) (Nat.le_refl _) (by simp) ?_; (case hd => rfl); (case hg => rfl); (case hr => first | (go_simp; done) | (go_simp; rfl)); (case hp => exact (Reps.one (show Kd.M (Kd.int .i64) _ _ _ (-1) [.int .i64 (-1)] from rfl) (Reps.one (show Kd.M (Kd.int .i64) _ _ _ 9999 [.int .i64 9999] from rfl) (Reps.one (show Kd.M (Kd.int .i64) _ _ _ 10000 [.int .i64 10000] from rfl) (Reps.none _ _))))); intro v214 w58 ho59 hb hg_ hnew_; clear hg_ hnew_; (first | rw [← Ny213.out] at ho59 | (simp only [Int.reduceToNat] at ho59; rw [← Ny213.out] at ho59)); have HO215 := am (Kd.R_lower ho59 (keep_size (w := w) (g := g) (row := none) a3_0)); replace BK185 := bb BK185 hb; replace BK194 := bb BK194 hb; replace HK := am (KeepBut.trans a3_0 (KeepBut.of_below hb g none) (.inl rfl)); replace HB := am (below_step a3_4 hb); replace HI0 := am (IsS53.below a3_1 hb); clear hb ho59; obtain ⟨Ao60, co60, eo60⟩ := Kd.R_slice HO215.out; subst eo60) | ((with_reducible refine gc 25 rfl ?_); refine gL (some 30) Try.func25 #[.pointer (some ⟨g, 0, none⟩), .slice Ao60 y213.length co60] ?_; (with_reducible refine (spec_l1Int.calls g s0_0 t196 t197 _ _ y213 t216 t217 t218 w0 _ ?side1 ?side2 ?side3 ?side4 ?side5 A50.out).mono ?_); (case side1 => repeat (first | (with_reducible first | exact HI0.out | apply IsS53.alloc | apply IsS53.drewN | apply IsS53.drew | apply IsS53.set_1 | apply IsS53.set_2 | refine IsS53.far ?_ NB0_185.out _ | refine IsS53.far ?_ NB0_194.out _) | exact HI0.out)); (case side2 => repeat (first | (with_reducible first | exact HB.out | apply below_alloc | apply pw_below_drewN | apply below_drew1 | refine below_set ?_ (IsS53.ge HI0.out) | refine below_set ?_ GE185.out | refine below_set ?_ GE194.out) | exact HB.out)); (case side3 => exact cr HO215); (case side4 => exact (Kd.R_reads' HO215.out).2.1); (case side5 => exact far_slice (IsS53.own_ne HI0.out HO215.out (by decide))); rintro e w61 ⟨rfl, hi, hb, hk⟩; refine ⟨_, rfl, ?_⟩; replace BK185 := am (KeepBut.blk hk (g' := gb185) (o := .cells #[.int .i64 0, .int .i64 0, .int .i64 0, .int .i64 0, .int .i64 0, .int .i64 0] 28 (0, 0)) (sk BK185) NB185_0.out (by simp)); replace BK194 := am (KeepBut.blk hk (g' := gb194) (o := .cells #[.int .i64 t186, .int .i64 t187, .int .i64 t188, .int .i64 t189, .int .i64 t190, .int .i64 t191] 28 (0, 0)) (sk BK194) NB194_0.out (by simp)); replace HO215 := am (Kd.R_mono (Kd.R_keep (IsS53.apart (show IsS53 w0 _ g s0_0 t196 t197 from a3_1) (sr HO215) (by decide)) hk (fun _ h => h.2)) (fun _ h => h.1)); replace HK := am (KeepBut.trans a3_0 hk (.inl rfl)); replace HB := am hb; replace HI0 := am hi; (try clear hb); (try clear hk); (try clear hi); obtain ⟨hcz62_0, hcz62_1, hcz62_2, hcz62_3, hcz62_4, hcz62_5, hfz62_0, hfz62_1, hfz62_2, hfz62_3, hfz62_4, hfz62_5⟩ := cc6 BK194; have hnb63 := NB185_0.out; have hnc63 := NB0_185.out; obtain ⟨hcz64_0, hcz64_1, hcz64_2, hcz64_3, hcz64_4, hcz64_5, hfz64_0, hfz64_1, hfz64_2, hfz64_3, hfz64_4, hfz64_5⟩ := cc6 BK185))
 first
 | have _ := A5
   refine bodyPost_ret (results_cell_row rfl _ _ gb185 28 #[.int .i64 t201, .int .i64 t187, .int .i64 t188, .int .i64 t189, .int .i64 t190, .int .i64 t191] (0, 0) _ rfl (sp BK185) Try.underlying28 rfl (by kernel_rfl)) rfl ?_
   exact ⟨se, a3_1, a3_4, a3_0⟩
 | have _ := A21
   refine bodyPost_ret (results_cell_row rfl _ _ gb185 28 #[.int .i64 t186, .int .i64 t187, .int .i64 t188, .int .i64 t189, .int .i64 t207, .int .i64 t191] (0, 0) _ rfl (sp BK185) Try.underlying28 rfl (by kernel_rfl)) rfl ?_
   exact ⟨se, a3_1, a3_4, a3_0⟩
 | have _ := A37
   refine bodyPost_ret (results_cell_row rfl _ _ gb185 28 #[.int .i64 t186, .int .i64 t187, .int .i64 t188, .int .i64 t189, .int .i64 t190, .int .i64 (wrap64 (t210 - 1))] (0, 0) _ rfl (sp BK185) Try.underlying28 rfl (by kernel_rfl)) rfl ?_
   exact ⟨se, a3_1, a3_4, a3_0⟩
 | refine bodyPost_ret (results_cell_row rfl _ _ gb185 28 #[.int .i64 t186, .int .i64 t187, .int .i64 t216, .int .i64 t189, .int .i64 t190, .int .i64 t191] (0, 0) _ rfl (sp BK185) Try.underlying28 rfl (by kernel_rfl)) rfl ?_
   exact ⟨se, a3_1, a3_4, a3_0⟩) : P := h
theorem spec_l24Any.calls (g : Nat) (s0_0 : List Int) (s0_1 : Int) (s0_2 : Int) (r1 : Int) (r2 : Int) (r3 : Int) (r4 : Int) (r5 : Int) (r6 : Int) (r7 : Int) (r8 : Int) (w0 w : World) (hI : IsS53 w0 w g s0_0 s0_1 s0_2) (hB : Below w0.heap.size w0 w) (h : spec_l24Any.f s0_0 s0_1 s0_2 = some (r1, r2, r3, r4, r5, r6, r7, r8)) :
    Calls Try.prog 15 #[.pointer (some ⟨g, 0, none⟩)] w fun e w' => e = .returned (.agg #[.int .i64 r1, .int .i64 r2, .int .i64 r3, .int .i64 r4, .int .i64 r5, .int .i64 r6]) ∧ IsS53 w0 w' g s0_0 r7 r8 ∧ Below w0.heap.size w0 w' ∧ KeepBut w w' g none := by
 have hu28 := Try.underlying28
 have HI0 := am hI
 have HK := am (KeepBut.refl w g none)
 have HL := am hB.size
 clear hI
 have HW0 := am hB.size
 have HB := am hB
 clear hB
 have H := h; unfold spec_l24Any.f at H
 clear h
 obtain ⟨⟨t186, t187, t188, t189, t190, t191, t192, t193⟩, A2, H⟩ := bnd H
 try dsimp only at H
 obtain ⟨⟨t195, t196, t197⟩, A3, H⟩ := bnd H
 try dsimp only at H
 obtain ⟨-, c4b0, c4b1, H⟩ | ⟨c4, c4b0, c4b1, H⟩ := ib_ H
 ·obtain ⟨y198, hy198⟩ : ∃ y_ : List Int, y_ = (([(-1), 9999, 10000] : List Int)) := ⟨_, rfl⟩
  replace H : ((spec_l1Int.f s0_0 t196 t197 y198).bind fun bt201 => (some (bt201.1, t187, t188, t189, t190, t191, bt201.2.1, bt201.2.2))) = some (r1, r2, r3, r4, r5, r6, r7, r8) := ry hy198 H
  have Ny198 := am hy198
  clear hy198
  obtain ⟨⟨t201, t202, t203⟩, A5, H⟩ := bnd H
  try dsimp only at H
  simp only [Option.some.injEq, Prod.mk.injEq] at H
  obtain ⟨rfl, rfl, rfl, rfl, rfl, rfl, rfl, rfl⟩ := H
  exact e3_0
 ·obtain ⟨-, c20b0, c20b1, H⟩ | ⟨c20, c20b0, c20b1, H⟩ := ib_ H
  ·obtain ⟨y204, hy204⟩ : ∃ y_ : List Int, y_ = (([(-1), 5, 0] : List Int)) := ⟨_, rfl⟩
   replace H : ((spec_l1Int.f s0_0 t196 t197 y204).bind fun bt207 => (some (t186, t187, t188, t189, bt207.1, t191, bt207.2.1, bt207.2.2))) = some (r1, r2, r3, r4, r5, r6, r7, r8) := ry hy204 H
   have Ny204 := am hy204
   clear hy204
   obtain ⟨⟨t207, t208, t209⟩, A21, H⟩ := bnd H
   try dsimp only at H
   simp only [Option.some.injEq, Prod.mk.injEq] at H
   obtain ⟨rfl, rfl, rfl, rfl, rfl, rfl, rfl, rfl⟩ := H
   exact e3_0
  ·obtain ⟨-, c36b0, c36b1, H⟩ | ⟨c36, c36b0, c36b1, H⟩ := ib_ H
   ·obtain ⟨⟨t210, t211, t212⟩, A37, H⟩ := bnd H
    try dsimp only at H
    simp only [Option.some.injEq, Prod.mk.injEq] at H
    obtain ⟨rfl, rfl, rfl, rfl, rfl, rfl, rfl, rfl⟩ := H
    exact e3_0
   ·obtain ⟨-, c49b0, c49b1, H⟩ | ⟨c49, c49b0, c49b1, H⟩ := ib_ H
    ·obtain ⟨y213, hy213⟩ : ∃ y_ : List Int, y_ = (([(-1), 9999, 10000] : List Int)) := ⟨_, rfl⟩
     replace H : ((spec_l1Int.f s0_0 t196 t197 y213).bind fun bt216 => (some (t186, t187, bt216.1, t189, t190, t191, bt216.2.1, bt216.2.2))) = some (r1, r2, r3, r4, r5, r6, r7, r8) := ry hy213 H
     have Ny213 := am hy213
     clear hy213
     obtain ⟨⟨t216, t217, t218⟩, A50, H⟩ := bnd H
     try dsimp only at H
     simp only [Option.some.injEq, Prod.mk.injEq] at H
     obtain ⟨rfl, rfl, rfl, rfl, rfl, rfl, rfl, rfl⟩ := H
     exact e3_0
    ·simp only [Option.some.injEq, Prod.mk.injEq] at H
     obtain ⟨rfl, rfl, rfl, rfl, rfl, rfl, rfl, rfl⟩ := H
     go_enter Try.func15, Try.ntmps15
     go_wp2_with (first | ((with_reducible refine gd 2 rfl ?_); refine bx 2 #[.int .i64 0, .int .i64 0, .int .i64 0, .int .i64 0, .int .i64 0, .int .i64 0] 28 ?_; intro gb185 hg w65 hbox hb; replace HB := am (below_step (by exact sj53 HB HI0) hb); have BK185 := am hbox; have GW185 := am ((a3_13 : w.heap.size ≤ gb185)); have GE185 := am ((Nat.le_trans HW0.out (a3_13 : w.heap.size ≤ gb185) : w0.heap.size ≤ gb185)); replace HK := am (KeepBut.trans (by exact kp HK) (KeepBut.of_below hb g none) (.inl rfl)); have NB0_185 := am ((a3_16 : g ≠ gb185)); have NB185_0 := am ((a3_17 : gb185 ≠ g)); replace HI0 := am (IsS53.below (by exact si53 HI0) hb); clear hb hbox hg) | ((with_reducible refine gc 23 rfl ?_); refine gL (some 5) Try.func23 #[.pointer (some ⟨g, 0, none⟩)] ?_; (with_reducible refine (spec_l24Packet.calls g s0_0 s0_1 s0_2 t186 t187 t188 t189 t190 t191 t192 t193 w0 _ ?side1 ?side2 A2.out).mono ?_); (case side1 => repeat (first | (with_reducible first | exact HI0.out | apply IsS53.alloc | apply IsS53.drewN | apply IsS53.drew | apply IsS53.set_1 | apply IsS53.set_2 | refine IsS53.far ?_ NB0_185.out _) | exact HI0.out)); (case side2 => repeat (first | (with_reducible first | exact HB.out | apply below_alloc | apply pw_below_drewN | apply below_drew1 | refine below_set ?_ (IsS53.ge HI0.out) | refine below_set ?_ GE185.out) | exact HB.out)); rintro e w66 ⟨rfl, hi, hb, hk⟩; refine ⟨_, rfl, ?_⟩; replace BK185 := am (KeepBut.blk hk (g' := gb185) (o := .cells #[.int .i64 0, .int .i64 0, .int .i64 0, .int .i64 0, .int .i64 0, .int .i64 0] 28 (0, 0)) (sk BK185) NB185_0.out (by simp)); replace HK := am (KeepBut.trans a3_7 hk (.inl rfl)); replace HB := am hb; replace HI0 := am hi; (try clear hb); (try clear hk); (try clear hi)) | ((with_reducible refine gd 3 rfl ?_); refine bx 3 #[.int .i64 0, .int .i64 0, .int .i64 0, .int .i64 0, .int .i64 0, .int .i64 0] 28 ?_; intro gb194 hg w67 hbox hb; replace HB := am (below_step a3_14 hb); have BK194 := am hbox; have GW194 := am ((a3_15 : w.heap.size ≤ gb194)); have GE194 := am ((Nat.le_trans HW0.out (a3_15 : w.heap.size ≤ gb194) : w0.heap.size ≤ gb194)); replace HK := am (KeepBut.trans a3_7 (KeepBut.of_below hb g none) (.inl rfl)); have NB185_194 := nl BK185 hg; have NB194_185 := ng BK185 hg; replace BK185 := bb BK185 hb; have NB0_194 := am ((a3_22 : g ≠ gb194)); have NB194_0 := am ((a3_23 : gb194 ≠ g)); replace HI0 := am (IsS53.below a3_8 hb); clear hb hbox hg; have hnb68 := NB194_185.out; have hnc68 := NB185_194.out; have hnb69 := NB194_0.out; have hnc69 := NB0_194.out; obtain ⟨hcz70_0, hcz70_1, hcz70_2, hcz70_3, hcz70_4, hcz70_5, hfz70_0, hfz70_1, hfz70_2, hfz70_3, hfz70_4, hfz70_5⟩ := cc6 BK194) | ((with_reducible refine gc 20 rfl ?_); refine gL (some 7) Try.func20 #[.pointer (some ⟨g, 0, none⟩), .int .i64 9] ?_; (with_reducible refine (spec_l1Below.calls g s0_0 t192 t193 9 t195 t196 t197 w0 _ ?side1 ?side2 A3.out).mono ?_); (case side1 => repeat (first | (with_reducible first | exact HI0.out | apply IsS53.alloc | apply IsS53.drewN | apply IsS53.drew | apply IsS53.set_1 | apply IsS53.set_2 | refine IsS53.far ?_ NB0_185.out _ | refine IsS53.far ?_ NB0_194.out _) | exact HI0.out)); (case side2 => repeat (first | (with_reducible first | exact HB.out | apply below_alloc | apply pw_below_drewN | apply below_drew1 | refine below_set ?_ (IsS53.ge HI0.out) | refine below_set ?_ GE185.out | refine below_set ?_ GE194.out) | exact HB.out)); rintro e w71 ⟨rfl, hi, hb, hk⟩; refine ⟨_, rfl, ?_⟩; replace BK185 := am (KeepBut.blk hk (g' := gb185) (o := .cells #[.int .i64 0, .int .i64 0, .int .i64 0, .int .i64 0, .int .i64 0, .int .i64 0] 28 (0, 0)) (sp BK185) NB185_0.out (by simp)); replace BK194 := am (KeepBut.blk hk (g' := gb194) (o := .cells #[.int .i64 t186, .int .i64 t187, .int .i64 t188, .int .i64 t189, .int .i64 t190, .int .i64 t191] 28 (0, 0)) (sp BK194) NB194_0.out (by simp)); replace HK := am (KeepBut.trans a3_0 hk (.inl rfl)); replace HB := am hb; replace HI0 := am hi; (try clear hb); (try clear hk); (try clear hi); obtain ⟨hcz72_0, hcz72_1, hcz72_2, hcz72_3, hcz72_4, hcz72_5, hfz72_0, hfz72_1, hfz72_2, hfz72_3, hfz72_4, hfz72_5⟩ := cc6 BK194; have hnb73 := NB185_0.out; have hnc73 := NB0_185.out; obtain ⟨hcz74_0, hcz74_1, hcz74_2, hcz74_3, hcz74_4, hcz74_5, hfz74_0, hfz74_1, hfz74_2, hfz74_3, hfz74_4, hfz74_5⟩ := cc6 BK185))
     refine bodyPost_ret (results_cell_row rfl _ _ gb185 28 #[.int .i64 t186, .int .i64 t187, .int .i64 t188, .int .i64 t189, .int .i64 t190, .int .i64 t191] (0, 0) _ rfl (sp BK185) Try.underlying28 rfl (by kernel_rfl)) rfl ?_
     exact ⟨se, a3_1, a3_4, a3_0⟩

def spec_DrawPushPacket.f (k : Nat) (l0 : List Int) : Option ((List (S28)) × Int × Int × Int × Int × Int × Int) := (spec_l1New.f k l0).bind fun bt221 => ((spec_l24Queue.f k bt221.1 bt221.2.1 bt221.2.2).bind fun bt225 => ((spec_l24Any.f bt221.1 bt225.2.1 bt225.2.2).bind fun bt231 => ((spec_l1Once.f bt221.1 bt231.2.2.2.2.2.2.1 bt231.2.2.2.2.2.2.2 4).bind fun bt240 => (if bt240.1 = true then (some (bt225.1, 20, bt231.2.1, bt231.2.2.1, bt231.2.2.2.1, bt231.2.2.2.2.1, bt231.2.2.2.2.2.1)) else (some (bt225.1, bt231.1, bt231.2.1, bt231.2.2.1, bt231.2.2.2.1, bt231.2.2.2.2.1, bt231.2.2.2.2.2.1))))))
theorem spec_DrawPushPacket.mono : ∀ a0 k, LeO (spec_DrawPushPacket.f k a0) (spec_DrawPushPacket.f (k + 1) a0) := by
  intro a0 k
  unfold spec_DrawPushPacket.f
  have m0 := @spec_l1New.mono
  have m1 := @spec_l24Queue.mono
  exact mo
theorem spec_DrawPushPacket.calls (k : Nat) (A0 : Option Addr) (c0 : Nat) (l0 : List Int) (r1 : List (S28)) (r2 : Int) (r3 : Int) (r4 : Int) (r5 : Int) (r6 : Int) (r7 : Int) (w : World) (hr0 : Kd.C (Kd.int .u8) w A0 l0.length l0) (hc0 : l0.length ≤ c0) (h : spec_DrawPushPacket.f k l0 = some (r1, r2, r3, r4, r5, r6, r7)) :
    Calls Try.prog 5 #[.slice A0 l0.length c0] w fun e w' => ∃ v0_ : Value, e = .returned (.tuple #[.agg #[v0_], .agg #[.int .i64 r2, .int .i64 r3, .int .i64 r4, .int .i64 r5, .int .i64 r6, .int .i64 r7]]) ∧ Kd.R k28 28 w' w.heap.size (fun _ => True) v0_ r1 ∧ Below w.heap.size w w' := by
 have hu26 := Try.underlying26
 have hu28 := Try.underlying28
 have HR0 := am hr0
 have HC0 := am hc0
 clear hr0 hc0
 have HB := am (Below.refl w.heap.size w)
 have H := h; unfold spec_DrawPushPacket.f at H
 clear h
 obtain ⟨⟨t221, t222, t223⟩, A2, H⟩ := bnd H
 try dsimp only at H
 obtain ⟨⟨t225, t228, t229⟩, A3, H⟩ := bnd H
 try dsimp only at H
 obtain ⟨⟨t231, t232, t233, t234, t235, t236, t237, t238⟩, A4, H⟩ := bnd H
 try dsimp only at H
 obtain ⟨⟨t240, t241, t242⟩, A5, H⟩ := bnd H
 try dsimp only at H
 obtain rfl | rfl := tt t240
 ·replace H := ip H
  simp only [Option.some.injEq, Prod.mk.injEq] at H
  obtain ⟨rfl, rfl, rfl, rfl, rfl, rfl, rfl⟩ := H
  go_enter Try.func5, Try.ntmps5
  try go_wp2_with (first | ((with_reducible refine gd 2 rfl ?_); refine bx 2 #[.slice none 0 0] 26 ?_; intro gb219 hg w7 hbox hb; have GW219 := bz w hg; have GE219 := bz w hg; replace HB := bs hb; have BK219 := am hbox; clear hb hbox hg) | ((with_reducible refine gd 3 rfl ?_); refine bx 3 #[.int .i64 0, .int .i64 0, .int .i64 0, .int .i64 0, .int .i64 0, .int .i64 0] 28 ?_; intro gb220 hg w8 hbox hb; have GW220 := bzw w hg; have GE220 := bzw w hg; replace HB := bsw hb; have BK220 := am hbox; have NB219_220 := nl BK219 hg; have NB220_219 := ng BK219 hg; replace BK219 := bb BK219 hb; clear hb hbox hg) | ((with_reducible refine gc 13 rfl ?_); refine gL (some 8) Try.func13 #[.slice A0 l0.length c0] ?_; (with_reducible refine (spec_l1New.calls k _ _ l0 t221 t222 t223 w _ ?side1 ?side2 ?side3 A2.out).mono ?_); (case side1 => repeat (first | (with_reducible first | exact HB.out | apply below_alloc | apply pw_below_drewN | apply below_drew1 | refine below_set ?_ GE219.out | refine below_set ?_ GE220.out) | exact HB.out)); (case side2 => exact HR0.out); (case side3 => exact HC0.out); rintro e w9 ⟨g224, rfl, hi, hb, hb2⟩; refine ⟨_, rfl, ?_⟩; replace HB := am hb; have HI224 := am hi; have NB224_219 := am (IsS53.ne_blk hi (blk_below (g := gb219) (o := .cells #[.slice none 0 0] 26 (0, 0)) (sk BK219) hb2) (by decide)); have NB219_224 := am (Ne.symm (IsS53.ne_blk hi (blk_below (g := gb219) (o := .cells #[.slice none 0 0] 26 (0, 0)) (sk BK219) hb2) (by decide))); replace BK219 := bb BK219 hb2; have NB224_220 := am (IsS53.ne_blk hi (blk_below (g := gb220) (o := .cells #[.int .i64 0, .int .i64 0, .int .i64 0, .int .i64 0, .int .i64 0, .int .i64 0] 28 (0, 0)) (sk BK220) hb2) (by decide)); have NB220_224 := am (Ne.symm (IsS53.ne_blk hi (blk_below (g := gb220) (o := .cells #[.int .i64 0, .int .i64 0, .int .i64 0, .int .i64 0, .int .i64 0, .int .i64 0] 28 (0, 0)) (sk BK220) hb2) (by decide))); replace BK220 := bb BK220 hb2; (try clear hb); (try clear hb2); (try clear hk); (try clear hi)) | ((with_reducible refine gc 14 rfl ?_); refine gL (some 10) Try.func14 #[.pointer (some ⟨g224, 0, none⟩)] ?_; (with_reducible refine (spec_l24Queue.calls k g224 t221 t222 t223 t225 t228 t229 w _ ?side1 ?side2 A3.out).mono ?_); (case side1 => repeat (first | (with_reducible first | exact HI224.out | apply IsS53.alloc | apply IsS53.drewN | apply IsS53.drew | apply IsS53.set_1 | apply IsS53.set_2 | refine IsS53.far ?_ NB224_219.out _ | refine IsS53.far ?_ NB224_220.out _) | exact HI224.out)); (case side2 => repeat (first | (with_reducible first | exact HB.out | apply below_alloc | apply pw_below_drewN | apply below_drew1 | refine below_set ?_ (IsS53.ge HI224.out) | refine below_set ?_ GE219.out | refine below_set ?_ GE220.out) | exact HB.out)); rintro e w10 ⟨v226, rfl, ho0, hi, hb, hk⟩; refine ⟨_, rfl, ?_⟩; replace BK219 := am (KeepBut.blk hk (g' := gb219) (o := .cells #[.slice none 0 0] 26 (0, 0)) (sk BK219) NB219_224.out (by simp)); have HO227 := am (Kd.R_lower (Kd.R_newB ho0 (g := gb220) (o := .cells #[.int .i64 0, .int .i64 0, .int .i64 0, .int .i64 0, .int .i64 0, .int .i64 0] 28 (0, 0)) (sk BK220)) (below_size a3_3)); replace BK220 := am (KeepBut.blk hk (g' := gb220) (o := .cells #[.int .i64 0, .int .i64 0, .int .i64 0, .int .i64 0, .int .i64 0, .int .i64 0] 28 (0, 0)) (sk BK220) NB220_224.out (by simp)); replace HB := am hb; replace HI224 := am hi; (try clear hb); (try clear hb2); (try clear hk); (try clear hi); (try clear ho0)) | ((with_reducible refine gd 5 rfl ?_); refine bx 5 #[.slice none 0 0] 26 ?_; intro gb230 hg w11 hbox hb; replace HO227 := rb HO227 hb; have BK230 := am hbox; have GW230 := am ((by rw [hg]; exact (below_size a3_3) : w.heap.size ≤ gb230)); have GE230 := am ((by rw [hg]; exact (below_size a3_3) : w.heap.size ≤ gb230)); replace HB := am (below_step a3_3 hb); have NB219_230 := nl BK219 hg; have NB230_219 := ng BK219 hg; replace BK219 := bb BK219 hb; have NB220_230 := nl BK220 hg; have NB230_220 := ng BK220 hg; replace BK220 := bb BK220 hb; have NB224_230 := am ((a3_18 : g224 ≠ gb230)); have NB230_224 := am ((a3_19 : gb230 ≠ g224)); replace HI224 := am (IsS53.below a3_6 hb); clear hb hbox hg; obtain ⟨Ao12, co12, eo12⟩ := Kd.R_slice HO227.out; subst eo12; have hnb13 := NB230_219.out; have hnc13 := NB219_230.out; have hnb14 := NB230_220.out; have hnc14 := NB220_230.out; have hnb15 := NB230_224.out; have hnc15 := NB224_230.out; obtain ⟨hcz16_0, hfz16_0⟩ := cc1 BK230) | ((with_reducible refine gc 15 rfl ?_); refine gL (some 12) Try.func15 #[.pointer (some ⟨g224, 0, none⟩)] ?_; (with_reducible refine (spec_l24Any.calls g224 t221 t228 t229 t231 t232 t233 t234 t235 t236 t237 t238 w _ ?side1 ?side2 A4.out).mono ?_); (case side1 => repeat (first | (with_reducible first | exact HI224.out | apply IsS53.alloc | apply IsS53.drewN | apply IsS53.drew | apply IsS53.set_1 | apply IsS53.set_2 | refine IsS53.far ?_ NB224_219.out _ | refine IsS53.far ?_ NB224_220.out _ | refine IsS53.far ?_ NB224_230.out _) | exact HI224.out)); (case side2 => repeat (first | (with_reducible first | exact HB.out | apply below_alloc | apply pw_below_drewN | apply below_drew1 | refine below_set ?_ (IsS53.ge HI224.out) | refine below_set ?_ GE219.out | refine below_set ?_ GE220.out | refine below_set ?_ GE230.out) | exact HB.out)); rintro e w17 ⟨rfl, hi, hb, hk⟩; refine ⟨_, rfl, ?_⟩; replace BK219 := am (KeepBut.blk hk (g' := gb219) (o := .cells #[.slice none 0 0] 26 (0, 0)) (sp BK219) NB219_224.out (by simp)); replace BK220 := am (KeepBut.blk hk (g' := gb220) (o := .cells #[.int .i64 0, .int .i64 0, .int .i64 0, .int .i64 0, .int .i64 0, .int .i64 0] 28 (0, 0)) (sp BK220) NB220_224.out (by simp)); replace HO227 := am (Kd.R_mono (Kd.R_keep (IsS53.apart (show IsS53 w _ g224 t221 t228 t229 from a3_2) (by (with_reducible repeat (first | apply Kd.R_alloc | apply Kd.R_drewN | apply Kd.R_drew)); exact (Kd.R_mono (Kd.R_far (p := ⟨gb230, 0, none⟩) (Kd.R_types HO227.out BK230.out (by decide)) (fun _ hk => hk.2) (.slice Ao12 t225.length co12)) (fun _ h_ => h_.1))) (by decide)) hk (fun _ h => h.2)) (fun _ h => h.1)); replace BK230 := am (KeepBut.blk hk (g' := gb230) (o := .cells #[.slice Ao12 t225.length co12] 26 (0, 0)) (sp BK230) NB230_224.out (by simp)); replace HB := am hb; replace HI224 := am hi; (try clear hb); (try clear hb2); (try clear hk); (try clear hi)) | ((with_reducible refine gd 6 rfl ?_); refine bx 6 #[.int .i64 0, .int .i64 0, .int .i64 0, .int .i64 0, .int .i64 0, .int .i64 0] 28 ?_; intro gb239 hg w18 hbox hb; replace HO227 := am (Kd.R_below (Kd.R_elderB (sr HO227) gb239 (Nat.le_of_eq hg.symm)) hb); have BK239 := am hbox; have GW239 := am ((by rw [hg]; exact (below_size a3_5) : w.heap.size ≤ gb239)); have GE239 := am ((by rw [hg]; exact (below_size a3_5) : w.heap.size ≤ gb239)); replace HB := am (below_step a3_5 hb); have NB219_239 := nl BK219 hg; have NB239_219 := ng BK219 hg; replace BK219 := bb BK219 hb; have NB220_239 := nl BK220 hg; have NB239_220 := ng BK220 hg; replace BK220 := bb BK220 hb; have NB230_239 := nl BK230 hg; have NB239_230 := ng BK230 hg; replace BK230 := bb BK230 hb; have NB224_239 := am ((a3_20 : g224 ≠ gb239)); have NB239_224 := am ((a3_21 : gb239 ≠ g224)); replace HI224 := am (IsS53.below a3_2 hb); clear hb hbox hg; have hnb19 := NB239_219.out; have hnc19 := NB219_239.out; have hnb20 := NB239_220.out; have hnc20 := NB220_239.out; have hnb21 := NB239_230.out; have hnc21 := NB230_239.out; have hnb22 := NB239_224.out; have hnc22 := NB224_239.out; obtain ⟨hcz23_0, hcz23_1, hcz23_2, hcz23_3, hcz23_4, hcz23_5, hfz23_0, hfz23_1, hfz23_2, hfz23_3, hfz23_4, hfz23_5⟩ := cc6 BK239) | ((with_reducible refine gc 16 rfl ?_); refine gL (some 14) Try.func16 #[.pointer (some ⟨g224, 0, none⟩), .int .i64 4] ?_; (with_reducible refine (spec_l1Once.calls g224 t221 t237 t238 4 true t241 t242 w _ ?side1 ?side2 A5.out).mono ?_); (case side1 => repeat (first | (with_reducible first | exact HI224.out | apply IsS53.alloc | apply IsS53.drewN | apply IsS53.drew | apply IsS53.set_1 | apply IsS53.set_2 | refine IsS53.far ?_ NB224_219.out _ | refine IsS53.far ?_ NB224_220.out _ | refine IsS53.far ?_ NB224_230.out _ | refine IsS53.far ?_ NB224_239.out _) | exact HI224.out)); (case side2 => repeat (first | (with_reducible first | exact HB.out | apply below_alloc | apply pw_below_drewN | apply below_drew1 | refine below_set ?_ (IsS53.ge HI224.out) | refine below_set ?_ GE219.out | refine below_set ?_ GE220.out | refine below_set ?_ GE230.out | refine below_set ?_ GE239.out) | exact HB.out)); rintro e w24 ⟨rfl, hi, hb, hk⟩; refine ⟨_, rfl, ?_⟩; replace BK219 := am (KeepBut.blk hk (g' := gb219) (o := .cells #[.slice none 0 0] 26 (0, 0)) (sp BK219) NB219_224.out (by simp)); replace BK220 := am (KeepBut.blk hk (g' := gb220) (o := .cells #[.int .i64 0, .int .i64 0, .int .i64 0, .int .i64 0, .int .i64 0, .int .i64 0] 28 (0, 0)) (sp BK220) NB220_224.out (by simp)); replace HO227 := am (Kd.R_mono (Kd.R_keep (IsS53.apart (show IsS53 w _ g224 t221 t237 t238 from a3_9) a3_10 (by decide)) hk (fun _ h => h.2)) (fun _ h => h.1)); replace BK230 := am (KeepBut.blk hk (g' := gb230) (o := .cells #[.slice Ao12 t225.length co12] 26 (0, 0)) (sp BK230) NB230_224.out (by simp)); replace BK239 := am (KeepBut.blk hk (g' := gb239) (o := .cells #[.int .i64 t231, .int .i64 t232, .int .i64 t233, .int .i64 t234, .int .i64 t235, .int .i64 t236] 28 (0, 0)) (sp BK239) NB239_224.out (by simp)); replace HB := am hb; replace HI224 := am hi; (try clear hb); (try clear hb2); (try clear hk); (try clear hi); obtain ⟨hcz25_0, hcz25_1, hcz25_2, hcz25_3, hcz25_4, hcz25_5, hfz25_0, hfz25_1, hfz25_2, hfz25_3, hfz25_4, hfz25_5⟩ := cc6 BK239))
  have n0_ : Aside0 (Kd.R k28 28 (w24.setCell ⟨gb239, 0, none⟩ (.int .i64 20)) w.heap.size (fun k_ => k_ ≠ gb220 ∧ k_ ≠ gb239) (.slice Ao12 t225.length co12) t225) := ⟨by (with_reducible repeat (first | apply Kd.R_alloc | apply Kd.R_drewN | apply Kd.R_drew)); exact Kd.R_mono (Kd.R_far (p := ⟨gb239, 0, none⟩) (Kd.R_mono HO227.out (fun k_ hk => (⟨hk, hk.2⟩ : _ ∧ k_ ≠ gb239))) (fun _ hk => hk.2) (.int .i64 20)) (fun _ hk => ⟨hk.1.1.2, hk.1.2⟩)⟩
  have n1_ : Aside0 ((w24.setCell ⟨gb239, 0, none⟩ (.int .i64 20)).heap[gb219]? = some (.cells #[.slice none 0 0] 26 (0, 0))) := ⟨sp BK219⟩
  have n2_ : Aside0 ((w24.setCell ⟨gb239, 0, none⟩ (.int .i64 20)).heap[gb220]? = some (.cells #[.int .i64 0, .int .i64 0, .int .i64 0, .int .i64 0, .int .i64 0, .int .i64 0] 28 (0, 0))) := ⟨sp BK220⟩
  have n3_ : Aside0 ((w24.setCell ⟨gb239, 0, none⟩ (.int .i64 20)).heap[gb230]? = some (.cells #[.slice Ao12 t225.length co12] 26 (0, 0))) := ⟨sp BK230⟩
  have n4_ : Aside0 ((w24.setCell ⟨gb239, 0, none⟩ (.int .i64 20)).heap[gb239]? = some (.cells #[.int .i64 20, .int .i64 t232, .int .i64 t233, .int .i64 t234, .int .i64 t235, .int .i64 t236] 28 (0, 0))) := ⟨sp BK239⟩
  have n5_ : Aside0 (IsS53 w (w24.setCell ⟨gb239, 0, none⟩ (.int .i64 20)) g224 t221 t241 t242) := ⟨a3_9⟩
  have n6_ : Aside0 (Below w.heap.size w (w24.setCell ⟨gb239, 0, none⟩ (.int .i64 20))) := ⟨a3_11⟩
  (try clear HO227)
  (try clear BK219)
  (try clear BK220)
  (try clear BK230)
  (try clear BK239)
  (try clear HI224)
  (try clear HB)
  generalize (w24.setCell ⟨gb239, 0, none⟩ (.int .i64 20)) = w26 at n0_ n1_ n2_ n3_ n4_ n5_ n6_ ⊢
  have HO227 := n0_
  have BK219 := n1_
  have BK220 := n2_
  have BK230 := n3_
  have BK239 := n4_
  have HI224 := n5_
  have HB := n6_
  clear n0_ n1_ n2_ n3_ n4_ n5_ n6_
  replace HO227 := am (Kd.R_drew HO227.out)
  replace BK219 := am (blk_drew BK219.out)
  replace BK220 := am (blk_drew BK220.out)
  replace BK230 := am (blk_drew BK230.out)
  replace BK239 := am (blk_drew BK239.out)
  replace HI224 := am (IsS53.drew HI224.out)
  replace HB := am (below_drew1 HB.out)
  refine start_ (n := 4) (S := fun w' => w'.cell? ⟨gb230, 0, none⟩ = some (.slice Ao12 t225.length co12) ∧ w'.cell? ⟨gb239, 0, none⟩ = some (.int .i64 20) ∧ w'.cell? ⟨gb239, 1, none⟩ = some (.int .i64 t232) ∧ w'.cell? ⟨gb239, 2, none⟩ = some (.int .i64 t233) ∧ w'.cell? ⟨gb239, 3, none⟩ = some (.int .i64 t234) ∧ w'.cell? ⟨gb239, 4, none⟩ = some (.int .i64 t235) ∧ w'.cell? ⟨gb239, 5, none⟩ = some (.int .i64 t236)) (ds := []) #[false, false, false, false] (by kernel_rfl) rfl rfl ⟨bc0 BK230, bc0 BK239, bc1 BK239, bc2 BK239, bc3 BK239, bc4 BK239, bc5 BK239⟩ (fun hHeld => ?_)
  generalize w26.drew = w27 at HO227 BK219 BK220 BK230 BK239 HI224 HB hHeld ⊢
  refine ta7 0 16 (bt 4 1) hHeld ?_
  refine ta7 1 17 (bt 4 3) hHeld ?_
  refine one_ (i := 2) (N := none) (bt 4 7) rfl rfl (by kernel_rfl) (by decide) (fun K hK => ?_)
  obtain ⟨hs28, hfs28⟩ := cc1 BK219
  have hns28_1 := NB220_219.out
  have hns28_2 := NB230_219.out
  have hns28_3 := NB239_219.out
  have hms28_1 := NB219_220.out
  have hms28_2 := NB219_230.out
  have hms28_3 := NB219_239.out
  refine skip_ (w1 := ?_) (by rfl) rfl ?_ ?_
  rotate_left
  ·go_simp
   rfl
  refine hK.out _ _ ⟨((cell_far (p := ⟨gb219, _, none⟩) NB230_219.out _).trans (hHeld.1)), ((cell_far (p := ⟨gb219, _, none⟩) NB239_219.out _).trans (hHeld.2.1)), ((cell_far (p := ⟨gb219, _, none⟩) NB239_219.out _).trans (hHeld.2.2.1)), ((cell_far (p := ⟨gb219, _, none⟩) NB239_219.out _).trans (hHeld.2.2.2.1)), ((cell_far (p := ⟨gb219, _, none⟩) NB239_219.out _).trans (hHeld.2.2.2.2.1)), ((cell_far (p := ⟨gb219, _, none⟩) NB239_219.out _).trans (hHeld.2.2.2.2.2.1)), ((cell_far (p := ⟨gb219, _, none⟩) NB239_219.out _).trans (hHeld.2.2.2.2.2.2))⟩ (fun hHeld => ?_)
  clear hK K
  refine one_ (i := 3) (N := none) (bt 4 15) rfl rfl (by kernel_rfl) (by decide) (fun K hK => ?_)
  obtain ⟨hs29, hfs29⟩ := cc1 BK220
  have hns29_0 := NB219_220.out
  have hns29_2 := NB230_220.out
  have hns29_3 := NB239_220.out
  have hms29_0 := NB220_219.out
  have hms29_2 := NB220_230.out
  have hms29_3 := NB220_239.out
  have hs30 := bc1 BK220
  have hfs30 := bf BK220 1
  have hns30_0 := NB219_220.out
  have hns30_2 := NB230_220.out
  have hns30_3 := NB239_220.out
  have hms30_0 := NB220_219.out
  have hms30_2 := NB220_230.out
  have hms30_3 := NB220_239.out
  have hs31 := bc2 BK220
  have hfs31 := bf BK220 2
  have hns31_0 := NB219_220.out
  have hns31_2 := NB230_220.out
  have hns31_3 := NB239_220.out
  have hms31_0 := NB220_219.out
  have hms31_2 := NB220_230.out
  have hms31_3 := NB220_239.out
  have hs32 := bc3 BK220
  have hfs32 := bf BK220 3
  have hns32_0 := NB219_220.out
  have hns32_2 := NB230_220.out
  have hns32_3 := NB239_220.out
  have hms32_0 := NB220_219.out
  have hms32_2 := NB220_230.out
  have hms32_3 := NB220_239.out
  have hs33 := bc4 BK220
  have hfs33 := bf BK220 4
  have hns33_0 := NB219_220.out
  have hns33_2 := NB230_220.out
  have hns33_3 := NB239_220.out
  have hms33_0 := NB220_219.out
  have hms33_2 := NB220_230.out
  have hms33_3 := NB220_239.out
  have hs34 := bc5 BK220
  have hfs34 := bf BK220 5
  have hns34_0 := NB219_220.out
  have hns34_2 := NB230_220.out
  have hns34_3 := NB239_220.out
  have hms34_0 := NB220_219.out
  have hms34_2 := NB220_230.out
  have hms34_3 := NB220_239.out
  refine skip_ (w1 := ?_) (by rfl) rfl ?_ ?_
  rotate_left
  ·go_simp
   rfl
  refine hK.out _ _ ⟨((cell_far (p := ⟨gb220, _, none⟩) NB230_220.out _).trans (((cell_far (p := ⟨gb220, _, none⟩) NB230_220.out _).trans (((cell_far (p := ⟨gb220, _, none⟩) NB230_220.out _).trans (((cell_far (p := ⟨gb220, _, none⟩) NB230_220.out _).trans (((cell_far (p := ⟨gb220, _, none⟩) NB230_220.out _).trans (((cell_far (p := ⟨gb220, _, none⟩) NB230_220.out _).trans (hHeld.1)))))))))))), ((cell_far (p := ⟨gb220, _, none⟩) NB239_220.out _).trans (((cell_far (p := ⟨gb220, _, none⟩) NB239_220.out _).trans (((cell_far (p := ⟨gb220, _, none⟩) NB239_220.out _).trans (((cell_far (p := ⟨gb220, _, none⟩) NB239_220.out _).trans (((cell_far (p := ⟨gb220, _, none⟩) NB239_220.out _).trans (((cell_far (p := ⟨gb220, _, none⟩) NB239_220.out _).trans (hHeld.2.1)))))))))))), ((cell_far (p := ⟨gb220, _, none⟩) NB239_220.out _).trans (((cell_far (p := ⟨gb220, _, none⟩) NB239_220.out _).trans (((cell_far (p := ⟨gb220, _, none⟩) NB239_220.out _).trans (((cell_far (p := ⟨gb220, _, none⟩) NB239_220.out _).trans (((cell_far (p := ⟨gb220, _, none⟩) NB239_220.out _).trans (((cell_far (p := ⟨gb220, _, none⟩) NB239_220.out _).trans (hHeld.2.2.1)))))))))))), ((cell_far (p := ⟨gb220, _, none⟩) NB239_220.out _).trans (((cell_far (p := ⟨gb220, _, none⟩) NB239_220.out _).trans (((cell_far (p := ⟨gb220, _, none⟩) NB239_220.out _).trans (((cell_far (p := ⟨gb220, _, none⟩) NB239_220.out _).trans (((cell_far (p := ⟨gb220, _, none⟩) NB239_220.out _).trans (((cell_far (p := ⟨gb220, _, none⟩) NB239_220.out _).trans (hHeld.2.2.2.1)))))))))))), ((cell_far (p := ⟨gb220, _, none⟩) NB239_220.out _).trans (((cell_far (p := ⟨gb220, _, none⟩) NB239_220.out _).trans (((cell_far (p := ⟨gb220, _, none⟩) NB239_220.out _).trans (((cell_far (p := ⟨gb220, _, none⟩) NB239_220.out _).trans (((cell_far (p := ⟨gb220, _, none⟩) NB239_220.out _).trans (((cell_far (p := ⟨gb220, _, none⟩) NB239_220.out _).trans (hHeld.2.2.2.2.1)))))))))))), ((cell_far (p := ⟨gb220, _, none⟩) NB239_220.out _).trans (((cell_far (p := ⟨gb220, _, none⟩) NB239_220.out _).trans (((cell_far (p := ⟨gb220, _, none⟩) NB239_220.out _).trans (((cell_far (p := ⟨gb220, _, none⟩) NB239_220.out _).trans (((cell_far (p := ⟨gb220, _, none⟩) NB239_220.out _).trans (((cell_far (p := ⟨gb220, _, none⟩) NB239_220.out _).trans (hHeld.2.2.2.2.2.1)))))))))))), ((cell_far (p := ⟨gb220, _, none⟩) NB239_220.out _).trans (((cell_far (p := ⟨gb220, _, none⟩) NB239_220.out _).trans (((cell_far (p := ⟨gb220, _, none⟩) NB239_220.out _).trans (((cell_far (p := ⟨gb220, _, none⟩) NB239_220.out _).trans (((cell_far (p := ⟨gb220, _, none⟩) NB239_220.out _).trans (((cell_far (p := ⟨gb220, _, none⟩) NB239_220.out _).trans (hHeld.2.2.2.2.2.2))))))))))))⟩ (fun hHeld => ?_)
  clear hK K
  refine done_ (by kernel_rfl) ?_
  try go_wp2
  refine bodyPost_ret (results_cc rfl _ _ gb219 gb220 26 28 #[.slice Ao12 t225.length co12] #[.int .i64 20, .int .i64 t232, .int .i64 t233, .int .i64 t234, .int .i64 t235, .int .i64 t236] (0, 0) (0, 0) _ _ rfl (sp BK219) Try.underlying26 rfl (by kernel_rfl) rfl (sp BK220) Try.underlying28 rfl (by kernel_rfl)) rfl ?_
  exact ⟨_, se, by (with_reducible repeat (first | apply Kd.R_alloc | apply Kd.R_drewN | apply Kd.R_drew)); exact Kd.R_mono (Kd.R_far (p := ⟨gb220, 5, none⟩) (Kd.R_far (p := ⟨gb220, 4, none⟩) (Kd.R_far (p := ⟨gb220, 3, none⟩) (Kd.R_far (p := ⟨gb220, 2, none⟩) (Kd.R_far (p := ⟨gb220, 1, none⟩) (Kd.R_far (p := ⟨gb220, 0, none⟩) (Kd.R_far (p := ⟨gb219, 0, none⟩) (Kd.R_mono (Kd.R_types HO227.out BK219.out (by decide)) (fun k_ hk => (⟨hk, hk.1.1⟩ : _ ∧ k_ ≠ gb220))) (fun _ hk => hk.1.2) (.slice Ao12 t225.length co12)) (fun _ hk => hk.2) (.int .i64 20)) (fun _ hk => hk.2) (.int .i64 t232)) (fun _ hk => hk.2) (.int .i64 t233)) (fun _ hk => hk.2) (.int .i64 t234)) (fun _ hk => hk.2) (.int .i64 t235)) (fun _ hk => hk.2) (.int .i64 t236)) (fun _ hk => trivial), a3_11⟩
 ·replace H := im H
  simp only [Option.some.injEq, Prod.mk.injEq] at H
  obtain ⟨rfl, rfl, rfl, rfl, rfl, rfl, rfl⟩ := H
  go_enter Try.func5, Try.ntmps5
  try go_wp2_with (first | ((with_reducible refine gd 2 rfl ?_); refine bx 2 #[.slice none 0 0] 26 ?_; intro gb219 hg w35 hbox hb; have GW219 := bz w hg; have GE219 := bz w hg; replace HB := bs hb; have BK219 := am hbox; clear hb hbox hg) | ((with_reducible refine gd 3 rfl ?_); refine bx 3 #[.int .i64 0, .int .i64 0, .int .i64 0, .int .i64 0, .int .i64 0, .int .i64 0] 28 ?_; intro gb220 hg w36 hbox hb; have GW220 := bzw w hg; have GE220 := bzw w hg; replace HB := bsw hb; have BK220 := am hbox; have NB219_220 := nl BK219 hg; have NB220_219 := ng BK219 hg; replace BK219 := bb BK219 hb; clear hb hbox hg) | ((with_reducible refine gc 13 rfl ?_); refine gL (some 8) Try.func13 #[.slice A0 l0.length c0] ?_; (with_reducible refine (spec_l1New.calls k _ _ l0 t221 t222 t223 w _ ?side1 ?side2 ?side3 A2.out).mono ?_); (case side1 => repeat (first | (with_reducible first | exact HB.out | apply below_alloc | apply pw_below_drewN | apply below_drew1 | refine below_set ?_ GE219.out | refine below_set ?_ GE220.out) | exact HB.out)); (case side2 => exact HR0.out); (case side3 => exact HC0.out); rintro e w37 ⟨g224, rfl, hi, hb, hb2⟩; refine ⟨_, rfl, ?_⟩; replace HB := am hb; have HI224 := am hi; have NB224_219 := am (IsS53.ne_blk hi (blk_below (g := gb219) (o := .cells #[.slice none 0 0] 26 (0, 0)) (sk BK219) hb2) (by decide)); have NB219_224 := am (Ne.symm (IsS53.ne_blk hi (blk_below (g := gb219) (o := .cells #[.slice none 0 0] 26 (0, 0)) (sk BK219) hb2) (by decide))); replace BK219 := bb BK219 hb2; have NB224_220 := am (IsS53.ne_blk hi (blk_below (g := gb220) (o := .cells #[.int .i64 0, .int .i64 0, .int .i64 0, .int .i64 0, .int .i64 0, .int .i64 0] 28 (0, 0)) (sk BK220) hb2) (by decide)); have NB220_224 := am (Ne.symm (IsS53.ne_blk hi (blk_below (g := gb220) (o := .cells #[.int .i64 0, .int .i64 0, .int .i64 0, .int .i64 0, .int .i64 0, .int .i64 0] 28 (0, 0)) (sk BK220) hb2) (by decide))); replace BK220 := bb BK220 hb2; (try clear hb); (try clear hb2); (try clear hk); (try clear hi)) | ((with_reducible refine gc 14 rfl ?_); refine gL (some 10) Try.func14 #[.pointer (some ⟨g224, 0, none⟩)] ?_; (with_reducible refine (spec_l24Queue.calls k g224 t221 t222 t223 t225 t228 t229 w _ ?side1 ?side2 A3.out).mono ?_); (case side1 => repeat (first | (with_reducible first | exact HI224.out | apply IsS53.alloc | apply IsS53.drewN | apply IsS53.drew | apply IsS53.set_1 | apply IsS53.set_2 | refine IsS53.far ?_ NB224_219.out _ | refine IsS53.far ?_ NB224_220.out _) | exact HI224.out)); (case side2 => repeat (first | (with_reducible first | exact HB.out | apply below_alloc | apply pw_below_drewN | apply below_drew1 | refine below_set ?_ (IsS53.ge HI224.out) | refine below_set ?_ GE219.out | refine below_set ?_ GE220.out) | exact HB.out)); rintro e w38 ⟨v226, rfl, ho0, hi, hb, hk⟩; refine ⟨_, rfl, ?_⟩; replace BK219 := am (KeepBut.blk hk (g' := gb219) (o := .cells #[.slice none 0 0] 26 (0, 0)) (sk BK219) NB219_224.out (by simp)); have HO227 := am (Kd.R_lower (Kd.R_newB ho0 (g := gb220) (o := .cells #[.int .i64 0, .int .i64 0, .int .i64 0, .int .i64 0, .int .i64 0, .int .i64 0] 28 (0, 0)) (sk BK220)) (below_size a3_3)); replace BK220 := am (KeepBut.blk hk (g' := gb220) (o := .cells #[.int .i64 0, .int .i64 0, .int .i64 0, .int .i64 0, .int .i64 0, .int .i64 0] 28 (0, 0)) (sk BK220) NB220_224.out (by simp)); replace HB := am hb; replace HI224 := am hi; (try clear hb); (try clear hb2); (try clear hk); (try clear hi); (try clear ho0)) | ((with_reducible refine gd 5 rfl ?_); refine bx 5 #[.slice none 0 0] 26 ?_; intro gb230 hg w39 hbox hb; replace HO227 := rb HO227 hb; have BK230 := am hbox; have GW230 := am ((by rw [hg]; exact (below_size a3_3) : w.heap.size ≤ gb230)); have GE230 := am ((by rw [hg]; exact (below_size a3_3) : w.heap.size ≤ gb230)); replace HB := am (below_step a3_3 hb); have NB219_230 := nl BK219 hg; have NB230_219 := ng BK219 hg; replace BK219 := bb BK219 hb; have NB220_230 := nl BK220 hg; have NB230_220 := ng BK220 hg; replace BK220 := bb BK220 hb; have NB224_230 := am ((a3_18 : g224 ≠ gb230)); have NB230_224 := am ((a3_19 : gb230 ≠ g224)); replace HI224 := am (IsS53.below a3_6 hb); clear hb hbox hg; obtain ⟨Ao40, co40, eo40⟩ := Kd.R_slice HO227.out; subst eo40; have hnb41 := NB230_219.out; have hnc41 := NB219_230.out; have hnb42 := NB230_220.out; have hnc42 := NB220_230.out; have hnb43 := NB230_224.out; have hnc43 := NB224_230.out; obtain ⟨hcz44_0, hfz44_0⟩ := cc1 BK230) | ((with_reducible refine gc 15 rfl ?_); refine gL (some 12) Try.func15 #[.pointer (some ⟨g224, 0, none⟩)] ?_; (with_reducible refine (spec_l24Any.calls g224 t221 t228 t229 t231 t232 t233 t234 t235 t236 t237 t238 w _ ?side1 ?side2 A4.out).mono ?_); (case side1 => repeat (first | (with_reducible first | exact HI224.out | apply IsS53.alloc | apply IsS53.drewN | apply IsS53.drew | apply IsS53.set_1 | apply IsS53.set_2 | refine IsS53.far ?_ NB224_219.out _ | refine IsS53.far ?_ NB224_220.out _ | refine IsS53.far ?_ NB224_230.out _) | exact HI224.out)); (case side2 => repeat (first | (with_reducible first | exact HB.out | apply below_alloc | apply pw_below_drewN | apply below_drew1 | refine below_set ?_ (IsS53.ge HI224.out) | refine below_set ?_ GE219.out | refine below_set ?_ GE220.out | refine below_set ?_ GE230.out) | exact HB.out)); rintro e w45 ⟨rfl, hi, hb, hk⟩; refine ⟨_, rfl, ?_⟩; replace BK219 := am (KeepBut.blk hk (g' := gb219) (o := .cells #[.slice none 0 0] 26 (0, 0)) (sp BK219) NB219_224.out (by simp)); replace BK220 := am (KeepBut.blk hk (g' := gb220) (o := .cells #[.int .i64 0, .int .i64 0, .int .i64 0, .int .i64 0, .int .i64 0, .int .i64 0] 28 (0, 0)) (sp BK220) NB220_224.out (by simp)); replace HO227 := am (Kd.R_mono (Kd.R_keep (IsS53.apart (show IsS53 w _ g224 t221 t228 t229 from a3_2) (by (with_reducible repeat (first | apply Kd.R_alloc | apply Kd.R_drewN | apply Kd.R_drew)); exact (Kd.R_mono (Kd.R_far (p := ⟨gb230, 0, none⟩) (Kd.R_types HO227.out BK230.out (by decide)) (fun _ hk => hk.2) (.slice Ao40 t225.length co40)) (fun _ h_ => h_.1))) (by decide)) hk (fun _ h => h.2)) (fun _ h => h.1)); replace BK230 := am (KeepBut.blk hk (g' := gb230) (o := .cells #[.slice Ao40 t225.length co40] 26 (0, 0)) (sp BK230) NB230_224.out (by simp)); replace HB := am hb; replace HI224 := am hi; (try clear hb); (try clear hb2); (try clear hk); (try clear hi)) | ((with_reducible refine gd 6 rfl ?_); refine bx 6 #[.int .i64 0, .int .i64 0, .int .i64 0, .int .i64 0, .int .i64 0, .int .i64 0] 28 ?_; intro gb239 hg w46 hbox hb; replace HO227 := am (Kd.R_below (Kd.R_elderB (sr HO227) gb239 (Nat.le_of_eq hg.symm)) hb); have BK239 := am hbox; have GW239 := am ((by rw [hg]; exact (below_size a3_5) : w.heap.size ≤ gb239)); have GE239 := am ((by rw [hg]; exact (below_size a3_5) : w.heap.size ≤ gb239)); replace HB := am (below_step a3_5 hb); have NB219_239 := nl BK219 hg; have NB239_219 := ng BK219 hg; replace BK219 := bb BK219 hb; have NB220_239 := nl BK220 hg; have NB239_220 := ng BK220 hg; replace BK220 := bb BK220 hb; have NB230_239 := nl BK230 hg; have NB239_230 := ng BK230 hg; replace BK230 := bb BK230 hb; have NB224_239 := am ((a3_20 : g224 ≠ gb239)); have NB239_224 := am ((a3_21 : gb239 ≠ g224)); replace HI224 := am (IsS53.below a3_2 hb); clear hb hbox hg; have hnb47 := NB239_219.out; have hnc47 := NB219_239.out; have hnb48 := NB239_220.out; have hnc48 := NB220_239.out; have hnb49 := NB239_230.out; have hnc49 := NB230_239.out; have hnb50 := NB239_224.out; have hnc50 := NB224_239.out; obtain ⟨hcz51_0, hcz51_1, hcz51_2, hcz51_3, hcz51_4, hcz51_5, hfz51_0, hfz51_1, hfz51_2, hfz51_3, hfz51_4, hfz51_5⟩ := cc6 BK239) | ((with_reducible refine gc 16 rfl ?_); refine gL (some 14) Try.func16 #[.pointer (some ⟨g224, 0, none⟩), .int .i64 4] ?_; (with_reducible refine (spec_l1Once.calls g224 t221 t237 t238 4 false t241 t242 w _ ?side1 ?side2 A5.out).mono ?_); (case side1 => repeat (first | (with_reducible first | exact HI224.out | apply IsS53.alloc | apply IsS53.drewN | apply IsS53.drew | apply IsS53.set_1 | apply IsS53.set_2 | refine IsS53.far ?_ NB224_219.out _ | refine IsS53.far ?_ NB224_220.out _ | refine IsS53.far ?_ NB224_230.out _ | refine IsS53.far ?_ NB224_239.out _) | exact HI224.out)); (case side2 => repeat (first | (with_reducible first | exact HB.out | apply below_alloc | apply pw_below_drewN | apply below_drew1 | refine below_set ?_ (IsS53.ge HI224.out) | refine below_set ?_ GE219.out | refine below_set ?_ GE220.out | refine below_set ?_ GE230.out | refine below_set ?_ GE239.out) | exact HB.out)); rintro e w52 ⟨rfl, hi, hb, hk⟩; refine ⟨_, rfl, ?_⟩; replace BK219 := am (KeepBut.blk hk (g' := gb219) (o := .cells #[.slice none 0 0] 26 (0, 0)) (sp BK219) NB219_224.out (by simp)); replace BK220 := am (KeepBut.blk hk (g' := gb220) (o := .cells #[.int .i64 0, .int .i64 0, .int .i64 0, .int .i64 0, .int .i64 0, .int .i64 0] 28 (0, 0)) (sp BK220) NB220_224.out (by simp)); replace HO227 := am (Kd.R_mono (Kd.R_keep (IsS53.apart (show IsS53 w _ g224 t221 t237 t238 from a3_9) a3_10 (by decide)) hk (fun _ h => h.2)) (fun _ h => h.1)); replace BK230 := am (KeepBut.blk hk (g' := gb230) (o := .cells #[.slice Ao40 t225.length co40] 26 (0, 0)) (sp BK230) NB230_224.out (by simp)); replace BK239 := am (KeepBut.blk hk (g' := gb239) (o := .cells #[.int .i64 t231, .int .i64 t232, .int .i64 t233, .int .i64 t234, .int .i64 t235, .int .i64 t236] 28 (0, 0)) (sp BK239) NB239_224.out (by simp)); replace HB := am hb; replace HI224 := am hi; (try clear hb); (try clear hb2); (try clear hk); (try clear hi)))
  replace HO227 := am (Kd.R_drew HO227.out)
  replace BK219 := am (blk_drew BK219.out)
  replace BK220 := am (blk_drew BK220.out)
  replace BK230 := am (blk_drew BK230.out)
  replace BK239 := am (blk_drew BK239.out)
  replace HI224 := am (IsS53.drew HI224.out)
  replace HB := am (below_drew1 HB.out)
  refine start_ (n := 4) (S := fun w' => w'.cell? ⟨gb230, 0, none⟩ = some (.slice Ao40 t225.length co40) ∧ w'.cell? ⟨gb239, 0, none⟩ = some (.int .i64 t231) ∧ w'.cell? ⟨gb239, 1, none⟩ = some (.int .i64 t232) ∧ w'.cell? ⟨gb239, 2, none⟩ = some (.int .i64 t233) ∧ w'.cell? ⟨gb239, 3, none⟩ = some (.int .i64 t234) ∧ w'.cell? ⟨gb239, 4, none⟩ = some (.int .i64 t235) ∧ w'.cell? ⟨gb239, 5, none⟩ = some (.int .i64 t236)) (ds := []) #[false, false, false, false] (by kernel_rfl) rfl rfl ⟨bc0 BK230, bc0 BK239, bc1 BK239, bc2 BK239, bc3 BK239, bc4 BK239, bc5 BK239⟩ (fun hHeld => ?_)
  generalize w52.drew = w53 at HO227 BK219 BK220 BK230 BK239 HI224 HB hHeld ⊢
  refine ta7 0 16 (bt 4 1) hHeld ?_
  refine ta7 1 17 (bt 4 3) hHeld ?_
  refine one_ (i := 2) (N := none) (bt 4 7) rfl rfl (by kernel_rfl) (by decide) (fun K hK => ?_)
  obtain ⟨hs54, hfs54⟩ := cc1 BK219
  have hns54_1 := NB220_219.out
  have hns54_2 := NB230_219.out
  have hns54_3 := NB239_219.out
  have hms54_1 := NB219_220.out
  have hms54_2 := NB219_230.out
  have hms54_3 := NB219_239.out
  refine skip_ (w1 := ?_) (by rfl) rfl ?_ ?_
  rotate_left
  ·go_simp
   rfl
  refine hK.out _ _ ⟨((cell_far (p := ⟨gb219, _, none⟩) NB230_219.out _).trans (hHeld.1)), ((cell_far (p := ⟨gb219, _, none⟩) NB239_219.out _).trans (hHeld.2.1)), ((cell_far (p := ⟨gb219, _, none⟩) NB239_219.out _).trans (hHeld.2.2.1)), ((cell_far (p := ⟨gb219, _, none⟩) NB239_219.out _).trans (hHeld.2.2.2.1)), ((cell_far (p := ⟨gb219, _, none⟩) NB239_219.out _).trans (hHeld.2.2.2.2.1)), ((cell_far (p := ⟨gb219, _, none⟩) NB239_219.out _).trans (hHeld.2.2.2.2.2.1)), ((cell_far (p := ⟨gb219, _, none⟩) NB239_219.out _).trans (hHeld.2.2.2.2.2.2))⟩ (fun hHeld => ?_)
  clear hK K
  refine one_ (i := 3) (N := none) (bt 4 15) rfl rfl (by kernel_rfl) (by decide) (fun K hK => ?_)
  obtain ⟨hs55, hfs55⟩ := cc1 BK220
  have hns55_0 := NB219_220.out
  have hns55_2 := NB230_220.out
  have hns55_3 := NB239_220.out
  have hms55_0 := NB220_219.out
  have hms55_2 := NB220_230.out
  have hms55_3 := NB220_239.out
  have hs56 := bc1 BK220
  have hfs56 := bf BK220 1
  have hns56_0 := NB219_220.out
  have hns56_2 := NB230_220.out
  have hns56_3 := NB239_220.out
  have hms56_0 := NB220_219.out
  have hms56_2 := NB220_230.out
  have hms56_3 := NB220_239.out
  have hs57 := bc2 BK220
  have hfs57 := bf BK220 2
  have hns57_0 := NB219_220.out
  have hns57_2 := NB230_220.out
  have hns57_3 := NB239_220.out
  have hms57_0 := NB220_219.out
  have hms57_2 := NB220_230.out
  have hms57_3 := NB220_239.out
  have hs58 := bc3 BK220
  have hfs58 := bf BK220 3
  have hns58_0 := NB219_220.out
  have hns58_2 := NB230_220.out
  have hns58_3 := NB239_220.out
  have hms58_0 := NB220_219.out
  have hms58_2 := NB220_230.out
  have hms58_3 := NB220_239.out
  have hs59 := bc4 BK220
  have hfs59 := bf BK220 4
  have hns59_0 := NB219_220.out
  have hns59_2 := NB230_220.out
  have hns59_3 := NB239_220.out
  have hms59_0 := NB220_219.out
  have hms59_2 := NB220_230.out
  have hms59_3 := NB220_239.out
  have hs60 := bc5 BK220
  have hfs60 := bf BK220 5
  have hns60_0 := NB219_220.out
  have hns60_2 := NB230_220.out
  have hns60_3 := NB239_220.out
  have hms60_0 := NB220_219.out
  have hms60_2 := NB220_230.out
  have hms60_3 := NB220_239.out
  refine skip_ (w1 := ?_) (by rfl) rfl ?_ ?_
  rotate_left
  ·go_simp
   rfl
  refine hK.out _ _ ⟨((cell_far (p := ⟨gb220, _, none⟩) NB230_220.out _).trans (((cell_far (p := ⟨gb220, _, none⟩) NB230_220.out _).trans (((cell_far (p := ⟨gb220, _, none⟩) NB230_220.out _).trans (((cell_far (p := ⟨gb220, _, none⟩) NB230_220.out _).trans (((cell_far (p := ⟨gb220, _, none⟩) NB230_220.out _).trans (((cell_far (p := ⟨gb220, _, none⟩) NB230_220.out _).trans (hHeld.1)))))))))))), ((cell_far (p := ⟨gb220, _, none⟩) NB239_220.out _).trans (((cell_far (p := ⟨gb220, _, none⟩) NB239_220.out _).trans (((cell_far (p := ⟨gb220, _, none⟩) NB239_220.out _).trans (((cell_far (p := ⟨gb220, _, none⟩) NB239_220.out _).trans (((cell_far (p := ⟨gb220, _, none⟩) NB239_220.out _).trans (((cell_far (p := ⟨gb220, _, none⟩) NB239_220.out _).trans (hHeld.2.1)))))))))))), ((cell_far (p := ⟨gb220, _, none⟩) NB239_220.out _).trans (((cell_far (p := ⟨gb220, _, none⟩) NB239_220.out _).trans (((cell_far (p := ⟨gb220, _, none⟩) NB239_220.out _).trans (((cell_far (p := ⟨gb220, _, none⟩) NB239_220.out _).trans (((cell_far (p := ⟨gb220, _, none⟩) NB239_220.out _).trans (((cell_far (p := ⟨gb220, _, none⟩) NB239_220.out _).trans (hHeld.2.2.1)))))))))))), ((cell_far (p := ⟨gb220, _, none⟩) NB239_220.out _).trans (((cell_far (p := ⟨gb220, _, none⟩) NB239_220.out _).trans (((cell_far (p := ⟨gb220, _, none⟩) NB239_220.out _).trans (((cell_far (p := ⟨gb220, _, none⟩) NB239_220.out _).trans (((cell_far (p := ⟨gb220, _, none⟩) NB239_220.out _).trans (((cell_far (p := ⟨gb220, _, none⟩) NB239_220.out _).trans (hHeld.2.2.2.1)))))))))))), ((cell_far (p := ⟨gb220, _, none⟩) NB239_220.out _).trans (((cell_far (p := ⟨gb220, _, none⟩) NB239_220.out _).trans (((cell_far (p := ⟨gb220, _, none⟩) NB239_220.out _).trans (((cell_far (p := ⟨gb220, _, none⟩) NB239_220.out _).trans (((cell_far (p := ⟨gb220, _, none⟩) NB239_220.out _).trans (((cell_far (p := ⟨gb220, _, none⟩) NB239_220.out _).trans (hHeld.2.2.2.2.1)))))))))))), ((cell_far (p := ⟨gb220, _, none⟩) NB239_220.out _).trans (((cell_far (p := ⟨gb220, _, none⟩) NB239_220.out _).trans (((cell_far (p := ⟨gb220, _, none⟩) NB239_220.out _).trans (((cell_far (p := ⟨gb220, _, none⟩) NB239_220.out _).trans (((cell_far (p := ⟨gb220, _, none⟩) NB239_220.out _).trans (((cell_far (p := ⟨gb220, _, none⟩) NB239_220.out _).trans (hHeld.2.2.2.2.2.1)))))))))))), ((cell_far (p := ⟨gb220, _, none⟩) NB239_220.out _).trans (((cell_far (p := ⟨gb220, _, none⟩) NB239_220.out _).trans (((cell_far (p := ⟨gb220, _, none⟩) NB239_220.out _).trans (((cell_far (p := ⟨gb220, _, none⟩) NB239_220.out _).trans (((cell_far (p := ⟨gb220, _, none⟩) NB239_220.out _).trans (((cell_far (p := ⟨gb220, _, none⟩) NB239_220.out _).trans (hHeld.2.2.2.2.2.2))))))))))))⟩ (fun hHeld => ?_)
  clear hK K
  refine done_ (by kernel_rfl) ?_
  try go_wp2
  refine bodyPost_ret (results_cc rfl _ _ gb219 gb220 26 28 #[.slice Ao40 t225.length co40] #[.int .i64 t231, .int .i64 t232, .int .i64 t233, .int .i64 t234, .int .i64 t235, .int .i64 t236] (0, 0) (0, 0) _ _ rfl (sp BK219) Try.underlying26 rfl (by kernel_rfl) rfl (sp BK220) Try.underlying28 rfl (by kernel_rfl)) rfl ?_
  exact ⟨_, se, by (with_reducible repeat (first | apply Kd.R_alloc | apply Kd.R_drewN | apply Kd.R_drew)); exact Kd.R_mono (Kd.R_far (p := ⟨gb220, 5, none⟩) (Kd.R_far (p := ⟨gb220, 4, none⟩) (Kd.R_far (p := ⟨gb220, 3, none⟩) (Kd.R_far (p := ⟨gb220, 2, none⟩) (Kd.R_far (p := ⟨gb220, 1, none⟩) (Kd.R_far (p := ⟨gb220, 0, none⟩) (Kd.R_far (p := ⟨gb219, 0, none⟩) (Kd.R_mono (Kd.R_types HO227.out BK219.out (by decide)) (fun k_ hk => (⟨hk, hk.1.1.2⟩ : _ ∧ k_ ≠ gb220))) (fun _ hk => hk.1.2) (.slice Ao40 t225.length co40)) (fun _ hk => hk.2) (.int .i64 t231)) (fun _ hk => hk.2) (.int .i64 t232)) (fun _ hk => hk.2) (.int .i64 t233)) (fun _ hk => hk.2) (.int .i64 t234)) (fun _ hk => hk.2) (.int .i64 t235)) (fun _ hk => hk.2) (.int .i64 t236)) (fun _ hk => trivial), a3_11⟩

-- NOT PRINTED: function 18 (impl_Packet_18)

-- NOT PRINTED: function 19 (impl_FindPacket_1)

def impl_FindPacket.hit (x : S28) (id : Int) : Bool := (x.f0 == id)
theorem impl_FindPacket.lit (x : S28) (id : Int) (gb_id : Nat) (W : World) (hc_id : W.cell? ⟨gb_id, 0, none⟩ = some (.int .i64 id)) :
    Calls Try.prog 19 #[.agg #[.int .i64 x.f0, .int .i64 x.f1, .int .i64 x.f2, .int .i64 x.f3, .int .i64 x.f4, .int .i64 x.f5], .pointer (some ⟨gb_id, 0, none⟩)] W fun e w' => e = .returned (.bool (impl_FindPacket.hit x id)) ∧ Below W.heap.size W w' := by
  have hu := Try.underlying28
  have hlt_id := World.block_lt_of_cell? W _ hc_id
  unfold impl_FindPacket.hit
  cases h1 : (x.f0 == id)
  all_goals (
    go_enter Try.func19, Try.ntmps19
    go_wp2_with (first | ((with_reducible refine gd 2 rfl ?_); refine box_event ?hg (N := 2) ?hd (cs := #[.int .i64 x.f0, .int .i64 x.f1, .int .i64 x.f2, .int .i64 x.f3, .int .i64 x.f4, .int .i64 x.f5]) (t := 28) ?hr ?_; (case hd => rfl); (case hg => rfl); (case hr => first | (go_simp; done) | (go_simp; rfl)); intro gbx hg w3 hbox hb3; subst hg; have hc3_id : w3.cell? ⟨gb_id, 0, none⟩ = some (.int .i64 id) := (hb3.cell hlt_id).trans hc_id; have hx0 : w3.cell? ⟨W.heap.size, 0, none⟩ = some (.int .i64 x.f0) := (blk_cell hbox 0).trans rfl; have hx1 : w3.cell? ⟨W.heap.size, 1, none⟩ = some (.int .i64 x.f1) := (blk_cell hbox 1).trans rfl; have hx2 : w3.cell? ⟨W.heap.size, 2, none⟩ = some (.int .i64 x.f2) := (blk_cell hbox 2).trans rfl; have hx3 : w3.cell? ⟨W.heap.size, 3, none⟩ = some (.int .i64 x.f3) := (blk_cell hbox 3).trans rfl; have hx4 : w3.cell? ⟨W.heap.size, 4, none⟩ = some (.int .i64 x.f4) := (blk_cell hbox 4).trans rfl; have hx5 : w3.cell? ⟨W.heap.size, 5, none⟩ = some (.int .i64 x.f5) := (blk_cell hbox 5).trans rfl))
    go_ret
    refine ⟨?_, hb3⟩
    first | rfl | (simp_all; done) | (simp at *; simp_all))
def impl_FindPacket.go (id : Int) : List S28 → Nat → Int
  | [], _ => -1
  | x :: xs, i => if impl_FindPacket.hit x id = true then (i : Int) else impl_FindPacket.go id xs (i + 1)
theorem impl_FindPacket.idx (A0 : Option Addr) (c0 : Nat) (l : List S28) (id : Int) (gb_id : Nat) (w : World) (hr : Kd.C k28 w A0 l.length l) (hm : l.length ≤ 4611686018427387904) (hc_id : w.cell? ⟨gb_id, 0, none⟩ = some (.int .i64 id)) :
    Calls Try.prog 18 #[.slice A0 l.length c0, .func (.func 19) #[] #[.pointer (some ⟨gb_id, 0, none⟩)]] w fun e w' => e = .returned (.int .i64 (impl_FindPacket.go id l 0)) ∧ Below w.heap.size w w' := by
  have hu := Try.underlying28
  have hlt_id := World.block_lt_of_cell? w _ hc_id
  go_enter Try.func18, Try.ntmps18
  go_wp2
  go_loopg [5, 8] l.length (fun gg _ s8 wr => ∃ i : Int, 0 ≤ i ∧ i ≤ (l.length : Int) ∧ (l.length : Int) - i ≤ gg ∧ s8 = .int .i64 i ∧ Aside0 (Below w.heap.size w wr) ∧ Aside0 (impl_FindPacket.go id (l.drop i.toNat) i.toNat = impl_FindPacket.go id l 0))
  case atStart => exact ⟨0, by omega, by omega, by omega, rfl, ⟨Below.refl _ w⟩, ⟨rfl⟩⟩
  case round =>
    obtain ⟨i, hi0, hi1, hg, rfl, BW, HI⟩ := hrel
    by_cases hlt2 : i < (l.length : Int)
    · obtain ⟨ad, e0, hx0, hx1, hx2, hx3, hx4, hx5⟩ := at_T28 hr i hi0 hlt2
      cases e0
      replace hx0 := (BW.out.cell (World.block_lt_of_cell? w _ hx0)).trans hx0
      replace hx1 := (BW.out.cell (World.block_lt_of_cell? w _ hx1)).trans hx1
      replace hx2 := (BW.out.cell (World.block_lt_of_cell? w _ hx2)).trans hx2
      replace hx3 := (BW.out.cell (World.block_lt_of_cell? w _ hx3)).trans hx3
      replace hx4 := (BW.out.cell (World.block_lt_of_cell? w _ hx4)).trans hx4
      replace hx5 := (BW.out.cell (World.block_lt_of_cell? w _ hx5)).trans hx5
      have hc'_id : wr.cell? ⟨gb_id, 0, none⟩ = some (.int .i64 id) := (BW.out.cell hlt_id).trans hc_id
      have hcall := impl_FindPacket.lit (rd_T28 l i) id gb_id wr hc'_id
      have hd : l.drop i.toNat = rd_T28 l i :: l.drop (i.toNat + 1) := by
        have hlt3 : i.toNat < l.length := by omega
        rw [List.drop_eq_getElem_cons hlt3, show rd_T28 l i = l.getD i.toNat z28 from rfl, List.getD_eq_getElem?_getD, List.getElem?_eq_getElem hlt3]
        rfl
      cases hq : impl_FindPacket.hit (rd_T28 l i) id with
      | true =>
        rw [hq] at hcall
        go_wp2_with (go_at_call 19; refine hcall.mono ?_; rintro e w' ⟨rfl, hb'⟩)
        go_ret
        refine ⟨?_, below_step BW.out hb'⟩
        rw [← HI.out, hd, impl_FindPacket.go, if_pos hq, Int.toNat_of_nonneg hi0]
        rfl
      | false =>
        rw [hq] at hcall
        go_wp2_with (go_at_call 19; refine hcall.mono ?_; rintro e w' ⟨rfl, hb'⟩)
        go_roundg (l.length - (i.toNat + 1))
        case measure => omega
        case rel =>
          refine ⟨i + 1, by omega, by omega, by omega, by go_num, ⟨below_step BW.out hb'⟩, ⟨?_⟩⟩
          rw [← HI.out, hd, impl_FindPacket.go, if_neg (by rw [hq]; simp), show (i + 1).toNat = i.toNat + 1 by omega]
    · have : i = (l.length : Int) := by omega
      subst this
      go_wp2
      go_ret
      refine ⟨?_, BW.out⟩
      rw [← HI.out, Int.toNat_natCast, List.drop_length, impl_FindPacket.go]
      rfl
def impl_FindPacket.f (l0_0 : List (S28)) (a1 : Int) : Option (Int) := if l0_0.length ≤ 4611686018427387904 then some (impl_FindPacket.go a1 l0_0 0) else none
theorem impl_FindPacket.calls (A0_0 : Option Addr) (c0_0 : Nat) (l0_0 : List (S28)) (a1 : Int) (r : Int) (w : World) (hr0_0 : Kd.C k28 w A0_0 l0_0.length l0_0) (hc0_0 : l0_0.length ≤ c0_0) (h : impl_FindPacket.f l0_0 a1 = some r) :
    Calls Try.prog 7 #[.agg #[.slice A0_0 l0_0.length c0_0], .int .i64 a1] w fun e w' => e = .returned (.int .i64 r) ∧ Below w.heap.size w w' := by
 have hu := Try.underlying26
 unfold impl_FindPacket.f at h
 by_cases hm : l0_0.length ≤ 4611686018427387904
 rotate_left
 ·rw [if_neg hm] at h
  cases h
 rw [if_pos hm] at h
 obtain rfl := Option.some.inj h
 go_enter Try.func7, Try.ntmps7
 go_wp2_with (go_at_call 18; refine (impl_FindPacket.idx A0_0 c0_0 l0_0 a1 _ _ (Kd.C_alloc (Kd.C_alloc hr0_0 _) _) hm ?_).mono ?_; (case refine_1 => go_simp); rintro e w' ⟨rfl, hb⟩)
 go_ret
 exact ⟨rfl, below_step (below_alloc (below_alloc (Below.refl _ _) _) _) hb⟩

def impl_Packet_26.f (l0 : List S28) : Option (List S28) := if l0.length < 2932031007402 then some l0 else none
theorem impl_Packet_26.calls (A0 : Option Addr) (c0 : Nat) (l0 : List S28) (r : List S28) (w : World) (hr0 : Kd.C k28 w A0 l0.length l0) (hc0 : l0.length ≤ c0) (h : impl_Packet_26.f l0 = some r) :
    Calls Try.prog 26 #[.slice A0 l0.length c0] w fun e w' => ∃ v0_ : Value, e = .returned (v0_) ∧ Kd.R k28 28 w' w.heap.size (fun _ => True) v0_ r ∧ Below w.heap.size w w' := by
 have hu := Try.underlying24
 unfold impl_Packet_26.f at h
 by_cases hm : l0.length < 2932031007402
 rotate_left
 ·rw [if_neg hm] at h
  cases h
 rw [if_pos hm] at h
 obtain rfl := Option.some.inj h
 cases A0 with
 | none =>
  have hz : l0 = [] := by
   obtain ⟨_, _, h3⟩ := hr0
   refine List.length_eq_zero_iff.mp (Classical.byContradiction fun hne => ?_)
   obtain ⟨ad, e, _⟩ := h3 (by omega)
   cases e
  subst hz
  have he := Go.Lib.run_eql_slice_nil (P := Try.prog) w 24 28 none 0 c0 0 0 hu
  go_enter Try.func26, Try.ntmps26
  go_wp2
  go_ret
  exact ⟨_, rfl, Kd.R_nil _ _ _ _ _, Below.refl _ _⟩
 | some ad =>
  have he := Go.Lib.run_eql_slice_nil (P := Try.prog) w 24 28 (some ad) l0.length c0 0 0 hu
  go_enter Try.func26, Try.ntmps26
  go_wp2_with (first | ((with_reducible refine gd 5 rfl ?_); refine Kd.R_lit k28 _ 28 ?hg (N := 5) ?hd (xs := ([] : List S28)) (inner := []) (ok := fun _ => True) (okp := fun _ => True) ?hr ?hp (fun _ hk => hk) trivial (Below.refl _ _) (Nat.le_refl _) (by simp) ?_; (case hd => rfl); (case hg => rfl); (case hr => first | (go_simp; done) | (go_simp; rfl)); (case hp => exact (Reps.none _ _)); intro v5 w5 ho5 hb5 hg_ hnew_; clear hg_ hnew_) | ((with_reducible refine gd 7 rfl ?_); refine Kd.R_append_rows k28 (w0 := w) w.heap.size rfl (.tmp 5) (.tmp 6) 24 28 (.agg #[(.int .i64 0), (.int .i64 0), (.int .i64 0), (.int .i64 0), (.int .i64 0), (.int .i64 0)]) 48 rfl Try.underlying24 info28 rfl (by decide) (by omega) v5 [] l0 _ _ _ (fun _ => True) (fun _ => False) rfl rfl ?aO ?aR (fun _ _ h => h) (fun _ h => h.elim) ?aF ?aB ?aS ?aL ?_; (case aR => exact Kd.C_below hr0 hb5); (case aB => exact hb5); (case aF => exact (fun _ _ => trivial)); (case aO => exact ho5); (case aS => exact below_size hb5); (case aL => simp only [List.length_nil]; omega); intro v7 w7 ho7 hb7 hg7 hat7))
  go_ret
  rw [List.nil_append] at ho7
  exact ⟨v7, rfl, ho7, hb7⟩

def impl_cloneQueue.f (l0_0 : List (S28)) : Option ((List (S28))) := (impl_Packet_26.f l0_0).bind fun t245 => (some t245)
theorem impl_cloneQueue.calls (A0_0 : Option Addr) (c0_0 : Nat) (l0_0 : List (S28)) (r : List (S28)) (w : World) (hr0_0 : Kd.C k28 w A0_0 l0_0.length l0_0) (hc0_0 : l0_0.length ≤ c0_0) (h : impl_cloneQueue.f l0_0 = some r) :
    Calls Try.prog 17 #[.agg #[.slice A0_0 l0_0.length c0_0]] w fun e w' => ∃ v0_ : Value, e = .returned (.agg #[v0_]) ∧ Kd.R k28 28 w' w.heap.size (fun _ => True) v0_ r ∧ Below w.heap.size w w' := by
 have hu26 := Try.underlying26
 have HR0_0 := am hr0_0
 have HC0_0 := am hc0_0
 clear hr0_0 hc0_0
 have HB := am (Below.refl w.heap.size w)
 have H := h; unfold impl_cloneQueue.f at H
 clear h
 obtain ⟨t245, A2, H⟩ := bnd H
 obtain rfl := Option.some.inj H
 go_enter Try.func17, Try.ntmps17
 go_wp2_with (first | ((with_reducible refine gd 1 rfl ?_); refine bx 1 #[.slice A0_0 l0_0.length c0_0] 26 ?_; intro gb243 hg w3 hbox hb; have GW243 := bz w hg; have GE243 := bz w hg; replace HB := bs hb; have BK243 := am hbox; clear hb hbox hg) | ((with_reducible refine gd 2 rfl ?_); refine bx 2 #[.slice none 0 0] 26 ?_; intro gb244 hg w4 hbox hb; have GW244 := bzw w hg; have GE244 := bzw w hg; replace HB := bsw hb; have BK244 := am hbox; have NB243_244 := nl BK243 hg; have NB244_243 := ng BK243 hg; replace BK243 := bb BK243 hb; clear hb hbox hg; have hnb5 := NB243_244.out; have hnc5 := NB244_243.out; obtain ⟨hcz6_0, hfz6_0⟩ := cc1 BK243) | ((with_reducible refine gc 26 rfl ?_); refine gL (some 5) Try.func26 #[.slice A0_0 l0_0.length c0_0] ?_; (with_reducible refine (impl_Packet_26.calls _ _ l0_0 t245 _ ?side1 ?side2 A2.out).mono ?_); (case side1 => exact cb HR0_0); (case side2 => exact HC0_0.out); rintro e w7 ⟨v246, rfl, ho0, hb⟩; refine ⟨_, rfl, ?_⟩; have HO247 := am (Kd.R_lower ho0 (below_size (sbw))); replace BK243 := bb BK243 hb; replace BK244 := bb BK244 hb; replace HB := bsw hb; (try clear hb); (try clear ho0); obtain ⟨Ao8, co8, eo8⟩ := Kd.R_slice HO247.out; subst eo8; obtain ⟨hcz9_0, hfz9_0⟩ := cc1 BK244))
 refine bodyPost_ret (results_cell_row rfl _ _ gb244 26 #[.slice Ao8 t245.length co8] (0, 0) _ rfl (sp BK244) Try.underlying26 rfl (by kernel_rfl)) rfl ?_
 exact ⟨_, se, by (with_reducible repeat (first | apply Kd.R_alloc | apply Kd.R_drewN | apply Kd.R_drew)); exact Kd.R_mono (Kd.R_far (p := ⟨gb244, 0, none⟩) (Kd.R_types HO247.out BK244.out (by decide)) (fun _ hk => hk.2) (.slice Ao8 t245.length co8)) (fun _ hk => trivial), sbw⟩

def impl_PushPacket.f (l0_0 : List (S28)) (a1_0 : Int) (a1_1 : Int) (a1_2 : Int) (a1_3 : Int) (a1_4 : Int) (a1_5 : Int) : Option ((List (S28)) × Bool) := (impl_cloneQueue.f l0_0).bind fun t251 => (if (l0_0.length : Int) ≥ 12 then (some (t251, false)) else ((impl_FindPacket.f l0_0 a1_0).bind fun t255 => (if t255 ≥ 0 then (some (t251, false)) else (if t251.length < 2932031007402 then (some ((t251 ++ [(⟨a1_0, a1_1, a1_2, a1_3, a1_4, a1_5⟩ : S28)]), true)) else (none)))))
theorem e3_1 {P : Prop} (h : P := by
 go_enter Try.func6, Try.ntmps6
 go_wp2_with (first | ((with_reducible refine gd 2 rfl ?_); refine bx 2 #[.slice A0_0 l0_0.length c0_0] 26 ?_; intro gb248 hg w5 hbox hb; have GW248 := bz w hg; have GE248 := bz w hg; replace HB := bs hb; have BK248 := am hbox; clear hb hbox hg) | ((with_reducible refine gd 3 rfl ?_); refine bx 3 #[.int .i64 a1_0, .int .i64 a1_1, .int .i64 a1_2, .int .i64 a1_3, .int .i64 a1_4, .int .i64 a1_5] 28 ?_; intro gb249 hg w6 hbox hb; have GW249 := bzw w hg; have GE249 := bzw w hg; replace HB := bsw hb; have BK249 := am hbox; have NB248_249 := nl BK248 hg; have NB249_248 := ng BK248 hg; replace BK248 := bb BK248 hb; clear hb hbox hg) | ((with_reducible refine gd 4 rfl ?_); refine bx 4 #[.slice none 0 0] 26 ?_; intro gb250 hg w7 hbox hb; have GW250 := bzw w hg; have GE250 := bzw w hg; replace HB := bsw hb; have BK250 := am hbox; have NB248_250 := nl BK248 hg; have NB250_248 := ng BK248 hg; replace BK248 := bb BK248 hb; have NB249_250 := nl BK249 hg; have NB250_249 := ng BK249 hg; replace BK249 := bb BK249 hb; clear hb hbox hg; have hnb8 := NB248_249.out; have hnc8 := NB249_248.out; have hnb9 := NB248_250.out; have hnc9 := NB250_248.out; obtain ⟨hcz10_0, hfz10_0⟩ := cc1 BK248) | (have _ := A21; (with_reducible refine gc 17 rfl ?_); refine gL (some 8) Try.func17 #[.agg #[.slice A0_0 l0_0.length c0_0]] ?_; (with_reducible refine (impl_cloneQueue.calls _ _ l0_0 t251 _ ?side1 ?side2 A3.out).mono ?_); (case side1 => exact cb HR0_0); (case side2 => exact HC0_0.out); rintro e w29 ⟨v252, rfl, ho0, hb⟩; refine ⟨_, rfl, ?_⟩; have HO253 := am (Kd.R_lower (Kd.R_newB ho0 (g := gb249) (o := .cells #[.int .i64 a1_0, .int .i64 a1_1, .int .i64 a1_2, .int .i64 a1_3, .int .i64 a1_4, .int .i64 a1_5] 28 (0, 0)) (sk BK249)) (below_size (sbw))); replace BK248 := bb BK248 hb; replace BK249 := bb BK249 hb; replace BK250 := bb BK250 hb; replace HB := bsw hb; (try clear hb); (try clear hk); (try clear ho0)) | (have _ := y256; go_at_call 7; (with_reducible refine (impl_FindPacket.calls _ _ l0_0 a1_0 t255 _ ?side1 ?side2 A21.out).mono ?_); (case side1 => exact Kd.C_below HR0_0.out (sbw)); (case side2 => exact HC0_0.out); rintro e w59 ⟨rfl, hb⟩; replace HO253 := am (Kd.R_below a3_12 hb); replace BK248 := am (blk_below (g := gb248) (o := .cells #[.slice A0_0 l0_0.length c0_0] 26 (0, 0)) (sp BK248) hb); replace BK249 := am (blk_below (g := gb249) (o := .cells #[.int .i64 a1_0, .int .i64 a1_1, .int .i64 a1_2, .int .i64 a1_3, .int .i64 a1_4, .int .i64 a1_5] 28 (0, 0)) (sp BK249) hb); replace BK250 := am (blk_below (g := gb250) (o := .cells #[.slice none 0 0] 26 (0, 0)) (sp BK250) hb); replace BK254 := am (blk_below (g := gb254) (o := .cells #[.slice Ao31 t251.length co31] 26 (0, 0)) (sp BK254) hb); replace HB := bsw hb; (try clear hb); (try clear hk); obtain ⟨hcz60_0, hfz60_0⟩ := cc1 BK254; obtain ⟨hcz61_0, hcz61_1, hcz61_2, hcz61_3, hcz61_4, hcz61_5, hfz61_0, hfz61_1, hfz61_2, hfz61_3, hfz61_4, hfz61_5⟩ := cc6 BK249) | (have _ := y256; (with_reducible refine gate_builtin (b := .append) (xs := #[.tmp 22, .tmp 24]) rfl ?_); at_builtin; refine Kd.R_append k28 (w0 := w) w.heap.size rfl (.tmp 22) (.tmp 24) 24 28 (.agg #[(.int .i64 0), (.int .i64 0), (.int .i64 0), (.int .i64 0), (.int .i64 0), (.int .i64 0)]) 48 rfl Try.underlying24 info28 rfl (by decide) (by omega) (.slice Ao31 t251.length co31) t251 (⟨a1_0, a1_1, a1_2, a1_3, a1_4, a1_5⟩ : S28) [.int .i64 a1_0, .int .i64 a1_1, .int .i64 a1_2, .int .i64 a1_3, .int .i64 a1_4, .int .i64 a1_5] (fun k_ => k_ ≠ gb249) (fun _ => False) rfl rfl ?aP (fun _ hk => hk.elim) ?aF ?aO ?aB ?aS ?aL ?_; (case aP => exact k28_mkM _ _ _ (⟨a1_0, a1_1, a1_2, a1_3, a1_4, a1_5⟩ : S28)); (case aB => exact (sbw)); (case aF => exact (fun k_ hk => Kd.freshB (g := gb249) (o := .cells #[.int .i64 a1_0, .int .i64 a1_1, .int .i64 a1_2, .int .i64 a1_3, .int .i64 a1_4, .int .i64 a1_5] 28 (0, 0)) (sk BK249) k_ hk)); (case aO => exact (by exact rm HO253 (fun _ hk => hk.2))); (case aS => exact (below_size (sbw))); (case aL => have := LMc42.out; omega); intro v257 w62 ho hb hg hat; rw [← Ny256.out] at ho; replace BK248 := am (blk_grown (g := gb248) (o := .cells #[.slice A0_0 l0_0.length c0_0] 26 (0, 0)) (sk BK248) hg (Kd.R_ne HO253.out BK248.out (by decide))); replace BK249 := am (blk_grown (g := gb249) (o := .cells #[.int .i64 a1_0, .int .i64 a1_1, .int .i64 a1_2, .int .i64 a1_3, .int .i64 a1_4, .int .i64 a1_5] 28 (0, 0)) (sk BK249) hg (Kd.R_away HO253.out (fun _ hk => hk.2))); replace BK250 := am (blk_grown (g := gb250) (o := .cells #[.slice none 0 0] 26 (0, 0)) (sk BK250) hg (Kd.R_ne HO253.out BK250.out (by decide))); replace BK254 := am (blk_grown (g := gb254) (o := .cells #[.slice Ao31 t251.length co31] 26 (0, 0)) (sk BK254) hg (Kd.R_ne HO253.out BK254.out (by decide))); replace HB := am hb; have HO258 := am ho; clear HO253; clear ho hb hg hat; obtain ⟨Ao63, co63, eo63⟩ := Kd.R_slice HO258.out; subst eo63; obtain ⟨hcz64_0, hfz64_0⟩ := cc1 BK254; obtain ⟨hcz65_0, hfz65_0⟩ := cc1 BK250) | (have _ := A21; go_at_call 7; (with_reducible refine (impl_FindPacket.calls _ _ l0_0 a1_0 t255 _ ?side1 ?side2 A21.out).mono ?_); (case side1 => exact Kd.C_below HR0_0.out (sbw)); (case side2 => exact HC0_0.out); rintro e w39 ⟨rfl, hb⟩; replace HO253 := am (Kd.R_below a3_12 hb); replace BK248 := am (blk_below (g := gb248) (o := .cells #[.slice A0_0 l0_0.length c0_0] 26 (0, 0)) (sp BK248) hb); replace BK249 := am (blk_below (g := gb249) (o := .cells #[.int .i64 a1_0, .int .i64 a1_1, .int .i64 a1_2, .int .i64 a1_3, .int .i64 a1_4, .int .i64 a1_5] 28 (0, 0)) (sp BK249) hb); replace BK250 := am (blk_below (g := gb250) (o := .cells #[.slice none 0 0] 26 (0, 0)) (sp BK250) hb); replace BK254 := am (blk_below (g := gb254) (o := .cells #[.slice Ao31 t251.length co31] 26 (0, 0)) (sp BK254) hb); replace HB := bsw hb; (try clear hb); (try clear hk); obtain ⟨hcz40_0, hfz40_0⟩ := cc1 BK254; obtain ⟨hcz41_0, hfz41_0⟩ := cc1 BK250) | ((with_reducible refine gc 17 rfl ?_); refine gL (some 8) Try.func17 #[.agg #[.slice A0_0 l0_0.length c0_0]] ?_; (with_reducible refine (impl_cloneQueue.calls _ _ l0_0 t251 _ ?side1 ?side2 A3.out).mono ?_); (case side1 => exact cb HR0_0); (case side2 => exact HC0_0.out); rintro e w11 ⟨v252, rfl, ho0, hb⟩; refine ⟨_, rfl, ?_⟩; have HO253 := am (Kd.R_lower (Kd.R_newB ho0 (g := gb249) (o := .cells #[.int .i64 a1_0, .int .i64 a1_1, .int .i64 a1_2, .int .i64 a1_3, .int .i64 a1_4, .int .i64 a1_5] 28 (0, 0)) (sk BK249)) (below_size (sbw))); replace BK248 := bb BK248 hb; replace BK249 := bb BK249 hb; replace BK250 := bb BK250 hb; replace HB := bsw hb; (try clear hb); (try clear ho0)) | (have _ := A21; (with_reducible refine gd 6 rfl ?_); refine bx 6 #[.slice none 0 0] 26 ?_; intro gb254 hg w30 hbox hb; replace HO253 := rb HO253 hb; have GW254 := bzw w hg; have GE254 := bzw w hg; replace HB := bsw hb; have BK254 := am hbox; have NB248_254 := nl BK248 hg; have NB254_248 := ng BK248 hg; replace BK248 := bb BK248 hb; have NB249_254 := nl BK249 hg; have NB254_249 := ng BK249 hg; replace BK249 := bb BK249 hb; have NB250_254 := nl BK250 hg; have NB254_250 := ng BK250 hg; replace BK250 := bb BK250 hb; clear hb hbox hg; obtain ⟨Ao31, co31, eo31⟩ := Kd.R_slice HO253.out; subst eo31; have hnb32 := NB254_248.out; have hnc32 := NB248_254.out; have hnb33 := NB254_249.out; have hnc33 := NB249_254.out; have hnb34 := NB254_250.out; have hnc34 := NB250_254.out; obtain ⟨hcz35_0, hfz35_0⟩ := cc1 BK254; obtain ⟨hcz36_0, hfz36_0⟩ := cc1 BK248; have hnb37 := NB249_250.out; have hnc37 := NB250_249.out; obtain ⟨hcz38_0, hcz38_1, hcz38_2, hcz38_3, hcz38_4, hcz38_5, hfz38_0, hfz38_1, hfz38_2, hfz38_3, hfz38_4, hfz38_5⟩ := cc6 BK249) | ((with_reducible refine gd 6 rfl ?_); refine bx 6 #[.slice none 0 0] 26 ?_; intro gb254 hg w12 hbox hb; replace HO253 := rb HO253 hb; have GW254 := bzw w hg; have GE254 := bzw w hg; replace HB := bsw hb; have BK254 := am hbox; have NB248_254 := nl BK248 hg; have NB254_248 := ng BK248 hg; replace BK248 := bb BK248 hb; have NB249_254 := nl BK249 hg; have NB254_249 := ng BK249 hg; replace BK249 := bb BK249 hb; have NB250_254 := nl BK250 hg; have NB254_250 := ng BK250 hg; replace BK250 := bb BK250 hb; clear hb hbox hg; obtain ⟨Ao13, co13, eo13⟩ := Kd.R_slice HO253.out; subst eo13; have hnb14 := NB254_248.out; have hnc14 := NB248_254.out; have hnb15 := NB254_249.out; have hnc15 := NB249_254.out; have hnb16 := NB254_250.out; have hnc16 := NB250_254.out; obtain ⟨hcz17_0, hfz17_0⟩ := cc1 BK254; obtain ⟨hcz18_0, hfz18_0⟩ := cc1 BK248; have hnb19 := NB250_249.out; have hnc19 := NB249_250.out; obtain ⟨hcz20_0, hfz20_0⟩ := cc1 BK250))
 first
 | have _ := y256
   refine bodyPost_ret (results_ct rfl _ _ gb250 26 #[.slice Ao63 y256.length co63] (0, 0) _ rfl (sp BK250) Try.underlying26 rfl (by kernel_rfl)) rfl ?_
   exact ⟨_, se, by (with_reducible repeat (first | apply Kd.R_alloc | apply Kd.R_drewN | apply Kd.R_drew)); exact Kd.R_mono (Kd.R_far (p := ⟨gb250, 0, none⟩) (Kd.R_far (p := ⟨gb254, 0, none⟩) (Kd.R_types (Kd.R_types HO258.out BK254.out (by decide)) BK250.out (by decide)) (fun _ hk => hk.1.2) (.slice Ao63 y256.length co63)) (fun _ hk => hk.2) (.slice Ao63 y256.length co63)) (fun _ hk => trivial), sbw⟩
   
 | have _ := A21
   refine bodyPost_ret (results_ct rfl _ _ gb250 26 #[.slice Ao31 t251.length co31] (0, 0) _ rfl (sp BK250) Try.underlying26 rfl (by kernel_rfl)) rfl ?_
   exact ⟨_, se, by (with_reducible repeat (first | apply Kd.R_alloc | apply Kd.R_drewN | apply Kd.R_drew)); exact Kd.R_mono (Kd.R_far (p := ⟨gb250, 0, none⟩) (Kd.R_types HO253.out BK250.out (by decide)) (fun _ hk => hk.2) (.slice Ao31 t251.length co31)) (fun _ hk => trivial), sbw⟩
 | refine bodyPost_ret (results_ct rfl _ _ gb250 26 #[.slice Ao13 t251.length co13] (0, 0) _ rfl (sp BK250) Try.underlying26 rfl (by kernel_rfl)) rfl ?_
   exact ⟨_, se, by (with_reducible repeat (first | apply Kd.R_alloc | apply Kd.R_drewN | apply Kd.R_drew)); exact Kd.R_mono (Kd.R_far (p := ⟨gb250, 0, none⟩) (Kd.R_far (p := ⟨gb254, 0, none⟩) (Kd.R_types (Kd.R_types HO253.out BK254.out (by decide)) BK250.out (by decide)) (fun _ hk => hk.1.2) (.slice Ao13 t251.length co13)) (fun _ hk => hk.2) (.slice Ao13 t251.length co13)) (fun _ hk => trivial), sbw⟩) : P := h
theorem impl_PushPacket.calls (A0_0 : Option Addr) (c0_0 : Nat) (l0_0 : List (S28)) (a1_0 : Int) (a1_1 : Int) (a1_2 : Int) (a1_3 : Int) (a1_4 : Int) (a1_5 : Int) (r1 : List (S28)) (r2 : Bool) (w : World) (hr0_0 : Kd.C k28 w A0_0 l0_0.length l0_0) (hc0_0 : l0_0.length ≤ c0_0) (h : impl_PushPacket.f l0_0 a1_0 a1_1 a1_2 a1_3 a1_4 a1_5 = some (r1, r2)) :
    Calls Try.prog 6 #[.agg #[.slice A0_0 l0_0.length c0_0], .agg #[.int .i64 a1_0, .int .i64 a1_1, .int .i64 a1_2, .int .i64 a1_3, .int .i64 a1_4, .int .i64 a1_5]] w fun e w' => ∃ v0_ : Value, e = .returned (.tuple #[.agg #[v0_], .bool r2]) ∧ Kd.R k28 28 w' w.heap.size (fun _ => True) v0_ r1 ∧ Below w.heap.size w w' := by
 have hu26 := Try.underlying26
 have hu28 := Try.underlying28
 have HR0_0 := am hr0_0
 have HC0_0 := am hc0_0
 clear hr0_0 hc0_0
 have HB := am (Below.refl w.heap.size w)
 have H := h; unfold impl_PushPacket.f at H
 clear h
 obtain ⟨t251, A3, H⟩ := bnd H
 obtain ⟨c4, c4b0, H⟩ | ⟨c4, c4b0, H⟩ := ic_ H
 ·have c4b1 : decide (12 ≤ l0_0.length) = true := decide_eq_true (by omega)
  clear c4
  simp only [Option.some.injEq, Prod.mk.injEq] at H
  obtain ⟨rfl, rfl⟩ := H
  exact e3_1
 ·have c4b1 : decide (12 ≤ l0_0.length) = false := decide_eq_false (by omega)
  clear c4
  obtain ⟨t255, A21, H⟩ := bnd H
  obtain ⟨-, c22b0, H⟩ | ⟨-, c22b0, H⟩ := ic_ H
  ·simp only [Option.some.injEq, Prod.mk.injEq] at H
   obtain ⟨rfl, rfl⟩ := H
   exact e3_1
  ·obtain ⟨LMc42, H⟩ := il_ H
   obtain ⟨y256, hy256⟩ : ∃ y_ : List (S28), y_ = (t251 ++ [(⟨a1_0, a1_1, a1_2, a1_3, a1_4, a1_5⟩ : S28)]) := ⟨_, rfl⟩
   replace H : (some (y256, true)) = some (r1, r2) := ry hy256 H
   have Ny256 := am hy256
   clear hy256
   simp only [Option.some.injEq, Prod.mk.injEq] at H
   obtain ⟨rfl, rfl⟩ := H
   exact e3_1
def impl_OrderOf.l0 : Nat → List Int → List Int → List (S28) → Int → Int → Option (List Int)
  | 0, _, _, _, _, _ => none
  | k + 1, x3, x4, x10, x11, x12 => if x12 < x11 then (if 0 ≤ x12 then (if x12 < (x10.length : Int) then (if ((rd_T28 x10 x12).f5) = 1 then (if x3.length < 17592186044416 then (impl_OrderOf.l0 k (x3 ++ [x12]) x4 x10 x11 (wrap64 (x12 + 1))) else (none)) else (if x4.length < 17592186044416 then (impl_OrderOf.l0 k x3 (x4 ++ [x12]) x10 x11 (wrap64 (x12 + 1))) else (none))) else (none)) else (none)) else (if x3.length + x4.length < 17592186044416 then (some (x3 ++ x4)) else (none))
def impl_OrderOf.f (k : Nat) (l0_0 : List (S28)) : Option (List Int) := impl_OrderOf.l0 k (([] : List Int)) (([] : List Int)) l0_0 (l0_0.length : Int) 0
theorem impl_OrderOf.mono_l : ∀ k, (∀ y0 y1 y2 y3 y4, LeO (impl_OrderOf.l0 k y0 y1 y2 y3 y4) (impl_OrderOf.l0 (k + 1) y0 y1 y2 y3 y4))
  | 0 => fun _ _ _ _ _ r h => by simp [impl_OrderOf.l0] at h
  | k + 1 => by
    have ih0 := impl_OrderOf.mono_l k
    · intro y0 y1 y2 y3 y4
      unfold impl_OrderOf.l0
      exact mo
theorem impl_OrderOf.mono : ∀ a0 k, LeO (impl_OrderOf.f k a0) (impl_OrderOf.f (k + 1) a0) := by
  intro a0 k
  have ih0 := impl_OrderOf.mono_l k
  unfold impl_OrderOf.f
  exact mo
theorem e3_2 {P : Prop} (h : P := by
 go_wp2_with (first | (have _ := c9b0; (with_reducible refine gd 6 rfl ?_); refine bx 6 #[.int .i64 0, .int .i64 0, .int .i64 0, .int .i64 0, .int .i64 0, .int .i64 0] 28 ?_; intro gb267 hg w13 hbox hb; replace HO_3 := rb HO_3 hb; replace HO_4 := rb HO_4 hb; have GW267 := bzw w hg; have GE267 := bzw w hg; replace HB := bsw hb; have BK267 := am hbox; have NB259_267 := nl BK259 hg; have NB267_259 := ng BK259 hg; replace BK259 := bb BK259 hb; clear hb hbox hg; have hnb14 := NB267_259.out; have hnc14 := NB259_267.out; obtain ⟨hcz15_0, hcz15_1, hcz15_2, hcz15_3, hcz15_4, hcz15_5, hfz15_0, hfz15_1, hfz15_2, hfz15_3, hfz15_4, hfz15_5⟩ := cc6 BK267) | (have _ := y268; (with_reducible refine gate_builtin (b := .append) (xs := #[.tmp 20, .tmp 22]) rfl ?_); at_builtin; refine Kd.R_append (Kd.int .i64) (w0 := w) w.heap.size rfl (.tmp 20) (.tmp 22) 34 3 (.int .i64 0) 8 rfl Try.underlying34 info3 rfl (by decide) (by omega) u3 x3_1 x12_1 [.int .i64 x12_1] (fun k_ => some k_ ≠ (u4 : Value).ownBlock) (fun _ => False) rfl (by first | (go_simp; done) | (go_simp; rfl)) ?aP (fun _ hk => hk.elim) ?aF ?aO ?aB ?aS ?aL ?_; (case aP => exact rfl); (case aB => exact (sbw)); (case aF => exact (fun k_ hk => Kd.fresh' (Kd.R_lt (by (with_reducible repeat (first | apply Kd.R_alloc | apply Kd.R_drewN | apply Kd.R_drew)); exact (Kd.R_mono (Kd.R_far (p := ⟨gb267, 5, none⟩) (Kd.R_far (p := ⟨gb267, 4, none⟩) (Kd.R_far (p := ⟨gb267, 3, none⟩) (Kd.R_far (p := ⟨gb267, 2, none⟩) (Kd.R_far (p := ⟨gb267, 1, none⟩) (Kd.R_far (p := ⟨gb267, 0, none⟩) (Kd.R_types HO_4.out BK267.out (by decide)) (fun _ hk => hk.2) (.int .i64 ((rd_T28 l0_0 x12_1).f0))) (fun _ hk => hk.2) (.int .i64 ((rd_T28 l0_0 x12_1).f1))) (fun _ hk => hk.2) (.int .i64 ((rd_T28 l0_0 x12_1).f2))) (fun _ hk => hk.2) (.int .i64 ((rd_T28 l0_0 x12_1).f3))) (fun _ hk => hk.2) (.int .i64 ((rd_T28 l0_0 x12_1).f4))) (fun _ hk => hk.2) (.int .i64 ((rd_T28 l0_0 x12_1).f5))) (fun _ h_ => h_.1)))) k_ hk)); (case aO => exact (by (with_reducible repeat (first | apply Kd.R_alloc | apply Kd.R_drewN | apply Kd.R_drew)); exact Kd.R_mono (Kd.R_far (p := ⟨gb267, 5, none⟩) (Kd.R_far (p := ⟨gb267, 4, none⟩) (Kd.R_far (p := ⟨gb267, 3, none⟩) (Kd.R_far (p := ⟨gb267, 2, none⟩) (Kd.R_far (p := ⟨gb267, 1, none⟩) (Kd.R_far (p := ⟨gb267, 0, none⟩) (Kd.R_types HO_3.out BK267.out (by decide)) (fun _ hk => hk.2) (.int .i64 ((rd_T28 l0_0 x12_1).f0))) (fun _ hk => hk.2) (.int .i64 ((rd_T28 l0_0 x12_1).f1))) (fun _ hk => hk.2) (.int .i64 ((rd_T28 l0_0 x12_1).f2))) (fun _ hk => hk.2) (.int .i64 ((rd_T28 l0_0 x12_1).f3))) (fun _ hk => hk.2) (.int .i64 ((rd_T28 l0_0 x12_1).f4))) (fun _ hk => hk.2) (.int .i64 ((rd_T28 l0_0 x12_1).f5))) (fun _ hk => hk.1))); (case aS => exact (below_size (sbw))); (case aL => have := LMc12.out; omega); intro v269 w16 ho hb hg hat; rw [← Ny268.out] at ho; replace HO_4 := am (Kd.R_after (ok := (fun _ => True)) (by (with_reducible repeat (first | apply Kd.R_alloc | apply Kd.R_drewN | apply Kd.R_drew)); exact Kd.R_mono (Kd.R_far (p := ⟨gb267, 5, none⟩) (Kd.R_far (p := ⟨gb267, 4, none⟩) (Kd.R_far (p := ⟨gb267, 3, none⟩) (Kd.R_far (p := ⟨gb267, 2, none⟩) (Kd.R_far (p := ⟨gb267, 1, none⟩) (Kd.R_far (p := ⟨gb267, 0, none⟩) (Kd.R_types HO_4.out BK267.out (by decide)) (fun _ hk => hk.2) (.int .i64 ((rd_T28 l0_0 x12_1).f0))) (fun _ hk => hk.2) (.int .i64 ((rd_T28 l0_0 x12_1).f1))) (fun _ hk => hk.2) (.int .i64 ((rd_T28 l0_0 x12_1).f2))) (fun _ hk => hk.2) (.int .i64 ((rd_T28 l0_0 x12_1).f3))) (fun _ hk => hk.2) (.int .i64 ((rd_T28 l0_0 x12_1).f4))) (fun _ hk => hk.2) (.int .i64 ((rd_T28 l0_0 x12_1).f5))) (fun _ hk => ⟨trivial, hk.1⟩)) hg hat); replace BK259 := am (blk_grown (g := gb259) (o := .cells #[.slice (some ad266) l0_0.length c0_0] 26 (0, 0)) (sp BK259) hg (Kd.R_ne HO_3.out BK259.out (by decide))); replace BK267 := am (blk_grown (g := gb267) (o := .cells #[.int .i64 ((rd_T28 l0_0 x12_1).f0), .int .i64 ((rd_T28 l0_0 x12_1).f1), .int .i64 ((rd_T28 l0_0 x12_1).f2), .int .i64 ((rd_T28 l0_0 x12_1).f3), .int .i64 ((rd_T28 l0_0 x12_1).f4), .int .i64 ((rd_T28 l0_0 x12_1).f5)] 28 (0, 0)) (sp BK267) hg (Kd.R_ne HO_3.out BK267.out (by decide))); replace HB := am hb; have HO270 := am ho; clear HO_3; clear ho hb hg hat) | (have _ := c9b0; (with_reducible refine gate_builtin (b := .append) (xs := #[.tmp 24, .tmp 26]) rfl ?_); at_builtin; refine Kd.R_append (Kd.int .i64) (w0 := w) w.heap.size rfl (.tmp 24) (.tmp 26) 34 3 (.int .i64 0) 8 rfl Try.underlying34 info3 rfl (by decide) (by omega) u4 x4_1 x12_1 [.int .i64 x12_1] (fun k_ => some k_ ≠ (u3 : Value).ownBlock) (fun _ => False) rfl (by first | (go_simp; done) | (go_simp; rfl)) ?aP (fun _ hk => hk.elim) ?aF ?aO ?aB ?aS ?aL ?_; (case aP => exact rfl); (case aB => exact (sbw)); (case aF => exact (fun k_ hk => Kd.fresh' (Kd.R_lt (by (with_reducible repeat (first | apply Kd.R_alloc | apply Kd.R_drewN | apply Kd.R_drew)); exact (Kd.R_mono (Kd.R_far (p := ⟨gb267, 5, none⟩) (Kd.R_far (p := ⟨gb267, 4, none⟩) (Kd.R_far (p := ⟨gb267, 3, none⟩) (Kd.R_far (p := ⟨gb267, 2, none⟩) (Kd.R_far (p := ⟨gb267, 1, none⟩) (Kd.R_far (p := ⟨gb267, 0, none⟩) (Kd.R_types HO_3.out BK267.out (by decide)) (fun _ hk => hk.2) (.int .i64 ((rd_T28 l0_0 x12_1).f0))) (fun _ hk => hk.2) (.int .i64 ((rd_T28 l0_0 x12_1).f1))) (fun _ hk => hk.2) (.int .i64 ((rd_T28 l0_0 x12_1).f2))) (fun _ hk => hk.2) (.int .i64 ((rd_T28 l0_0 x12_1).f3))) (fun _ hk => hk.2) (.int .i64 ((rd_T28 l0_0 x12_1).f4))) (fun _ hk => hk.2) (.int .i64 ((rd_T28 l0_0 x12_1).f5))) (fun _ h_ => h_.1)))) k_ hk)); (case aO => exact (by (with_reducible repeat (first | apply Kd.R_alloc | apply Kd.R_drewN | apply Kd.R_drew)); exact Kd.R_mono (Kd.R_far (p := ⟨gb267, 5, none⟩) (Kd.R_far (p := ⟨gb267, 4, none⟩) (Kd.R_far (p := ⟨gb267, 3, none⟩) (Kd.R_far (p := ⟨gb267, 2, none⟩) (Kd.R_far (p := ⟨gb267, 1, none⟩) (Kd.R_far (p := ⟨gb267, 0, none⟩) (Kd.R_types HO_4.out BK267.out (by decide)) (fun _ hk => hk.2) (.int .i64 ((rd_T28 l0_0 x12_1).f0))) (fun _ hk => hk.2) (.int .i64 ((rd_T28 l0_0 x12_1).f1))) (fun _ hk => hk.2) (.int .i64 ((rd_T28 l0_0 x12_1).f2))) (fun _ hk => hk.2) (.int .i64 ((rd_T28 l0_0 x12_1).f3))) (fun _ hk => hk.2) (.int .i64 ((rd_T28 l0_0 x12_1).f4))) (fun _ hk => hk.2) (.int .i64 ((rd_T28 l0_0 x12_1).f5))) (fun _ hk => hk.1))); (case aS => exact (below_size (sbw))); (case aL => have := LMc17.out; omega); intro v272 w21 ho hb hg hat; rw [← Ny271.out] at ho; replace HO_3 := am (Kd.R_after (ok := (fun _ => True)) (by (with_reducible repeat (first | apply Kd.R_alloc | apply Kd.R_drewN | apply Kd.R_drew)); exact Kd.R_mono (Kd.R_far (p := ⟨gb267, 5, none⟩) (Kd.R_far (p := ⟨gb267, 4, none⟩) (Kd.R_far (p := ⟨gb267, 3, none⟩) (Kd.R_far (p := ⟨gb267, 2, none⟩) (Kd.R_far (p := ⟨gb267, 1, none⟩) (Kd.R_far (p := ⟨gb267, 0, none⟩) (Kd.R_types HO_3.out BK267.out (by decide)) (fun _ hk => hk.2) (.int .i64 ((rd_T28 l0_0 x12_1).f0))) (fun _ hk => hk.2) (.int .i64 ((rd_T28 l0_0 x12_1).f1))) (fun _ hk => hk.2) (.int .i64 ((rd_T28 l0_0 x12_1).f2))) (fun _ hk => hk.2) (.int .i64 ((rd_T28 l0_0 x12_1).f3))) (fun _ hk => hk.2) (.int .i64 ((rd_T28 l0_0 x12_1).f4))) (fun _ hk => hk.2) (.int .i64 ((rd_T28 l0_0 x12_1).f5))) (fun _ hk => ⟨trivial, hk.1⟩)) hg hat); replace BK259 := am (blk_grown (g := gb259) (o := .cells #[.slice (some ad266) l0_0.length c0_0] 26 (0, 0)) (sp BK259) hg (Kd.R_ne HO_4.out BK259.out (by decide))); replace BK267 := am (blk_grown (g := gb267) (o := .cells #[.int .i64 ((rd_T28 l0_0 x12_1).f0), .int .i64 ((rd_T28 l0_0 x12_1).f1), .int .i64 ((rd_T28 l0_0 x12_1).f2), .int .i64 ((rd_T28 l0_0 x12_1).f3), .int .i64 ((rd_T28 l0_0 x12_1).f4), .int .i64 ((rd_T28 l0_0 x12_1).f5)] 28 (0, 0)) (sp BK267) hg (Kd.R_ne HO_4.out BK267.out (by decide))); replace HB := am hb; have HO273 := am ho; clear HO_4; clear ho hb hg hat) | ((with_reducible refine gate_builtin (b := .append) (xs := #[.tmp 29, .tmp 30]) rfl ?_); at_builtin; refine Kd.R_append_rows (Kd.int .i64) (w0 := w) w.heap.size rfl (.tmp 29) (.tmp 30) 34 3 (.int .i64 0) 8 rfl Try.underlying34 info3 rfl (by decide) (by omega) u3 x3_1 x4_1 _ _ _ (fun k_ => some k_ ≠ (.slice Ao24 x4_1.length co24 : Value).ownBlock) (fun _ => False) rfl rfl ?aO ?aR (fun _ _ h => h) (fun _ h => h.elim) ?aF ?aB ?aS ?aL ?_; (case aR => repeat (first | exact (Kd.R_reads' HO_4.out).2.2 | (with_reducible refine Kd.C_alloc ?_ _) | (with_reducible refine Kd.C_drewN ?_ _) | (with_reducible refine Kd.C_drew ?_))); (case aB => exact (sbw)); (case aF => exact (fun k_ hk => Kd.fresh' (Kd.R_lt (sr HO_4)) k_ hk)); (case aO => exact (sr HO_3)); (case aS => exact (below_size (sbw))); (case aL => have := LMc22.out; omega); intro v275 w23 ho hb hg hat; rw [← Ny274.out] at ho; replace HO_4 := am (Kd.R_after (ok := (fun _ => True)) (by exact rm HO_4 (fun _ hk => ⟨trivial, hk⟩)) hg hat); replace BK259 := am (blk_grown (g := gb259) (o := .cells #[.slice A0_0 l0_0.length c0_0] 26 (0, 0)) (sk BK259) hg (Kd.R_ne HO_3.out BK259.out (by decide))); replace HB := am hb; have HO276 := am ho; clear HO_3; clear ho hb hg hat))
 first
 | have _ := y268
   go_roundg k1
   case measure => have := HK1.out; omega
   case rel => exact ⟨(y268), (x4_1), (wrap64 (x12_1 + 1)), sc, H', kk1, ⟨sr HO270⟩, ⟨by exact rm HO_4 (fun _ hk => hk.2)⟩, ⟨sk BK259⟩, ⟨sbw⟩⟩
 | have _ := c9b0
   go_roundg k1
   case measure => have := HK1.out; omega
   case rel => exact ⟨(x3_1), (y271), (wrap64 (x12_1 + 1)), sc, H', kk1, ⟨by exact rm HO_3 (fun _ hk => hk.2)⟩, ⟨sr HO273⟩, ⟨sk BK259⟩, ⟨sbw⟩⟩
 | go_ret
   exact ⟨_, se, by exact rm HO276 (fun _ hk => trivial), sbw⟩
   ) : P := h
theorem impl_OrderOf.calls (k : Nat) (A0_0 : Option Addr) (c0_0 : Nat) (l0_0 : List (S28)) (r : List Int) (w : World) (hr0_0 : Kd.C k28 w A0_0 l0_0.length l0_0) (hc0_0 : l0_0.length ≤ c0_0) (h : impl_OrderOf.f k l0_0 = some r) :
    Calls Try.prog 8 #[.agg #[.slice A0_0 l0_0.length c0_0]] w fun e w' => ∃ v0_ : Value, e = .returned (v0_) ∧ Kd.R (Kd.int .i64) 3 w' w.heap.size (fun _ => True) v0_ r ∧ Below w.heap.size w w' := by
 have hu26 := Try.underlying26
 have hu28 := Try.underlying28
 have HR0_0 := am hr0_0
 have HC0_0 := am hc0_0
 clear hr0_0 hc0_0
 have HB := am (Below.refl w.heap.size w)
 have H := h; unfold impl_OrderOf.f at H
 clear h
 obtain ⟨y260, hy260⟩ : ∃ y_ : List Int, y_ = (([] : List Int)) := ⟨_, rfl⟩
 replace H : (impl_OrderOf.l0 k y260 (([] : List Int)) l0_0 (l0_0.length : Int) 0) = some r := ry hy260 H
 have Ny260 := am hy260
 clear hy260
 obtain ⟨y263, hy263⟩ : ∃ y_ : List Int, y_ = (([] : List Int)) := ⟨_, rfl⟩
 replace H : (impl_OrderOf.l0 k y260 y263 l0_0 (l0_0.length : Int) 0) = some r := ry hy263 H
 have Ny263 := am hy263
 clear hy263
 have H' := am H
 clear H
 go_enter Try.func8, Try.ntmps8
 go_wp2_with (first | ((with_reducible refine gd 1 rfl ?_); refine bx 1 #[.slice A0_0 l0_0.length c0_0] 26 ?_; intro gb259 hg w2 hbox hb; have GW259 := bz w hg; have GE259 := bz w hg; replace HB := bs hb; have BK259 := am hbox; clear hb hbox hg) | ((with_reducible refine gd 7 rfl ?_); refine Kd.R_lit (Kd.int .i64) _ 3 ?hg (N := 7) ?hd (xs := ([] : List Int)) (inner := []) (ok := fun _ => True) (okp := fun _ => True) ?hr ?hp (fun _ hk => hk) trivial (Below.refl _ _) (Nat.le_refl _) (by simp) ?_; (case hd => rfl); (case hg => rfl); (case hr => first | (go_simp; done) | (go_simp; rfl)); (case hp => exact (Reps.none _ _)); intro v261 w3 ho4 hb hg_ hnew_; clear hg_ hnew_; (first | rw [← Ny260.out] at ho4 | (simp only [Int.reduceToNat] at ho4; rw [← Ny260.out] at ho4)); have HO262 := am (Kd.R_lower ho4 (below_size (sbw))); replace BK259 := bb BK259 hb; replace HB := bsw hb; clear hb ho4) | ((with_reducible refine gd 8 rfl ?_); refine Kd.R_lit (Kd.int .i64) _ 3 ?hg (N := 8) ?hd (xs := ([] : List Int)) (inner := []) (ok := fun _ => True) (okp := fun _ => True) ?hr ?hp (fun _ hk => hk) trivial (Below.refl _ _) (Nat.le_refl _) (by simp) ?_; (case hd => rfl); (case hg => rfl); (case hr => first | (go_simp; done) | (go_simp; rfl)); (case hp => exact (Reps.none _ _)); intro v264 w5 ho6 hb hg_ hnew_; clear hg_ hnew_; (first | rw [← Ny263.out] at ho6 | (simp only [Int.reduceToNat] at ho6; rw [← Ny263.out] at ho6)); have HO265 := am (Kd.R_lower (Kd.R_new' ho6 (Kd.R_lt (sr HO262))) (below_size (sbw))); replace HO262 := am (Kd.R_elder' (sr HO262) (Kd.R_base ho6) hb); replace BK259 := bb BK259 hb; replace HB := bsw hb; clear hb ho6; obtain ⟨hcz7_0, hfz7_0⟩ := cc1 BK259))
 go_loopg [3, 4, 12] k (fun kq v3 v4 v12 w' => ∃ (x3_1 : List Int) (x4_1 : List Int) (x12_1 : Int), v12 = .int .i64 x12_1 ∧ Aside0 (impl_OrderOf.l0 kq x3_1 x4_1 l0_0 (l0_0.length : Int) x12_1 = some r) ∧ Aside0 (kq ≤ k) ∧ Aside0 (Kd.R (Kd.int .i64) 3 w' w.heap.size (fun k_ => some k_ ≠ (v4 : Value).ownBlock) v3 x3_1) ∧ Aside0 (Kd.R (Kd.int .i64) 3 w' w.heap.size (fun k_ => some k_ ≠ (v3 : Value).ownBlock) v4 x4_1) ∧ Aside0 (w'.heap[gb259]? = some (.cells #[(.slice A0_0 l0_0.length c0_0)] 26 (0, 0))) ∧ Aside0 (Below w.heap.size w w'))
 case atStart => exact ⟨(y260), (y263), (0), sc, H', kk0, ⟨by exact rm HO262 (fun _ hk => hk.2)⟩, ⟨by exact rm HO265 (fun _ hk => hk.2)⟩, ⟨sk BK259⟩, ⟨sbw⟩⟩
 case round =>
  clear H'
  try clear hcz7_0
  try clear hfz7_0
  obtain ⟨x3_1, x4_1, x12_1, rfl, HA, HK1, HO_3, HO_4, BK259, HB⟩ := hrel
  cases gk with
  | zero => exact absurd HA.out (by simp [impl_OrderOf.l0])
  | succ k1 =>
   have H := HA.out
   clear HA
   simp only [impl_OrderOf.l0] at H
   obtain ⟨-, c8b0, H⟩ | ⟨-, c8b0, H⟩ := ic_ H
   ·obtain ⟨c9b0, H⟩ := id_ H
    obtain ⟨c10b0, H⟩ := id_ H
    obtain ⟨-, c11b0, c11b1, H⟩ | ⟨c11, c11b0, c11b1, H⟩ := ib_ H
    ·obtain ⟨LMc12, H⟩ := il_ H
     obtain ⟨y268, hy268⟩ : ∃ y_ : List Int, y_ = (x3_1 ++ [x12_1]) := ⟨_, rfl⟩
     replace H : (impl_OrderOf.l0 k1 y268 x4_1 l0_0 (l0_0.length : Int) (wrap64 (x12_1 + 1))) = some r := ry hy268 H
     have Ny268 := am hy268
     clear hy268
     have H' := am H
     clear H
     obtain ⟨p266, q266, ad266, e266, _, _, _, _, _, _, hx266_0, hx266_1, hx266_2, hx266_3, hx266_4, hx266_5⟩ := aT_T28 HR0_0 HB x12_1
     cases e266
     exact e3_2
    ·obtain ⟨LMc17, H⟩ := il_ H
     obtain ⟨y271, hy271⟩ : ∃ y_ : List Int, y_ = (x4_1 ++ [x12_1]) := ⟨_, rfl⟩
     replace H : (impl_OrderOf.l0 k1 x3_1 y271 l0_0 (l0_0.length : Int) (wrap64 (x12_1 + 1))) = some r := ry hy271 H
     have Ny271 := am hy271
     clear hy271
     have H' := am H
     clear H
     obtain ⟨p266, q266, ad266, e266, _, _, _, _, _, _, hx266_0, hx266_1, hx266_2, hx266_3, hx266_4, hx266_5⟩ := aT_T28 HR0_0 HB x12_1
     cases e266
     exact e3_2
   ·obtain ⟨LMc22, H⟩ := il_ H
    obtain ⟨y274, hy274⟩ : ∃ y_ : List Int, y_ = (x3_1 ++ x4_1) := ⟨_, rfl⟩
    replace H : (some y274) = some r := ry hy274 H
    have Ny274 := am hy274
    clear hy274
    obtain rfl := Option.some.inj H
    obtain ⟨Ao24, co24, eo24⟩ := Kd.R_slice HO_4.out
    subst eo24
    exact e3_2
end Go.Proofs.Yticepodaobpdlaa.QFnQueues
