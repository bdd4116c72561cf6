/- Printed by a program of the session. Conditions: none. (squeezed). -/
import Derived.Test.YtohbccekdmdmbaaVFnExactRepairHopSq2
import Derived.Test.YtohbccekdmdmbaaVFnExactRepairHopQFnExactRepairHopx1
namespace Go.Proofs.Ytohbccekdmdmbaa.QFnExactRepairHop
set_option maxHeartbeats 8000000
set_option maxRecDepth 100000
open Go.RowKit Go.Proofs.YtohbccekdmdmbaaW.PrintWords Go.Proofs.YtohbccekdmdmbaaW.PrintLast Go.Proofs.YtohbccekdmdmbaaW.PrintMore Go.Proofs.Ytohbccekdmdmbaa.Open Go.Proofs.Ytohbccekdmdmbaa.Sq
attribute [local go_sem] max2_int min2_int max_two min_two max_three min_three max_four min_four   -- for this text's walks alone
attribute [local go_sem] isSome_set
set_option linter.unusedVariables false
set_option linter.unusedSimpArgs false

theorem a4_1 {P : Prop} (h : P := by simp only [putAll, Act.put, List.setIfInBounds_toArray, List.set_cons_zero, List.set_cons_succ]) : P := h
theorem a4_0 {P : Prop} (h : P := by (with_reducible repeat (first | apply Kd.R_alloc | apply Kd.R_drewN | apply Kd.R_drew)); exact (Kd.R_mono (Kd.R_far (p := ⟨gb295, 1, none⟩) (Kd.R_far (p := ⟨gb295, 0, none⟩) (Kd.R_types HO_7.out BK295.out (by decide)) (fun _ hk => hk.2) (.int .i64 ((rd_T75 l0_3 x8_1).f0.f0))) (fun _ hk => hk.2) (.int .i64 ((rd_T75 l0_3 x8_1).f0.f1))) (fun _ h_ => h_.1))) : P := h
def spec_l15Copy.f (a0_0 : Int) (l0_1 : List Int) (l0_2 : List Int) : Option (Int × List Int × List Int) := (some (([] : List Int) : List Int)).bind fun y263 => (if y263.length + l0_1.length < 17592186044416 then ((some (([] : List Int) : List Int)).bind fun y269 => (if y269.length + l0_2.length < 17592186044416 then (some (a0_0, (y263 ++ l0_1), (y269 ++ l0_2))) else (none))) else (none))
def spec_l15Copy.T1 : Bool × List (List Nat × List Nat) := (true, [([], []), ([0], [0]), ([], []), ([], []), ([3], [3]), ([2, 4], [2, 4]), ([], []), ([], []), ([7], [7]), ([6, 8, 5], [6, 8]), ([1, 5, 9], [1, 5, 9]), ([10, 9, 0, 1, 2, 3, 4, 5, 6, 7, 8, 9, 10], [10])])
def spec_l15Copy.B1 : List Nat := [0, 1, 0, 0, 8, 28, 0, 0, 128, 508, 1023, 2047]
theorem spec_l15Copy.tab1 : rtab .any (opsOf Try.f58 1) = spec_l15Copy.T1 := by kernel_rfl
theorem spec_l15Copy.bits1 : waitsOk spec_l15Copy.T1.2 spec_l15Copy.B1 = true := by kernel_rfl
theorem spec_l15Copy.calls (a0_0 : Int) (A0_1 : Option Addr) (c0_1 : Nat) (l0_1 : List Int) (A0_2 : Option Addr) (c0_2 : Nat) (l0_2 : List Int) (r1 : Int) (r2 : List Int) (r3 : List Int) (w : World) (hr0_1 : Kd.C (Kd.int .i64) w A0_1 l0_1.length l0_1) (hc0_1 : l0_1.length ≤ c0_1) (hr0_2 : Kd.C (Kd.int .i64) w A0_2 l0_2.length l0_2) (hc0_2 : l0_2.length ≤ c0_2) (h : spec_l15Copy.f a0_0 l0_1 l0_2 = some (r1, r2, r3)) :
    Calls Try.prog 58 #[.agg #[.int .i64 a0_0, .slice A0_1 l0_1.length c0_1, .slice A0_2 l0_2.length c0_2]] w fun e w' => ∃ v1_ v2_ : Value, e = .returned (.agg #[.int .i64 r1, v1_, v2_]) ∧ Kd.R (Kd.int .i64) 3 w' w.heap.size (fun k_ => some k_ ≠ (v2_ : Value).ownBlock) v1_ r2 ∧ Kd.R (Kd.int .i64) 3 w' w.heap.size (fun k_ => some k_ ≠ (v1_ : Value).ownBlock) v2_ r3 ∧ Below w.heap.size w w' := by
 have hu29 := Try.underlying29
 have HR0_1 := am hr0_1
 have HC0_1 := am hc0_1
 clear hr0_1 hc0_1
 have HR0_2 := am hr0_2
 have HC0_2 := am hc0_2
 clear hr0_2 hc0_2
 have HB := am (Below.refl w.heap.size w)
 have H := h; unfold spec_l15Copy.f at H
 clear h
 obtain ⟨y263, Ny263, H⟩ := iy_ H
 obtain ⟨LMc2, H⟩ := il_ H
 obtain ⟨y266, hy266⟩ : ∃ y_ : List Int, y_ = (y263 ++ l0_1) := ⟨_, rfl⟩
 replace H : ((some (([] : List Int) : List Int)).bind fun y269 => (if y269.length + l0_2.length < 17592186044416 then (some (a0_0, y266, (y269 ++ l0_2))) else (none))) = some (r1, r2, r3) := ry hy266 H
 have Ny266 := am hy266
 clear hy266
 obtain ⟨y269, Ny269, H⟩ := iy_ H
 obtain ⟨LMc3, H⟩ := il_ H
 obtain ⟨y272, hy272⟩ : ∃ y_ : List Int, y_ = (y269 ++ l0_2) := ⟨_, rfl⟩
 replace H : (some (a0_0, y266, y272)) = some (r1, r2, r3) := ry hy272 H
 have Ny272 := am hy272
 clear hy272
 simp only [Option.some.injEq, Prod.mk.injEq] at H
 obtain ⟨rfl, rfl, rfl⟩ := H
 go_enter Try.func58, Try.ntmps58
 try go_wp2_with (first | ((with_reducible refine gd 1 rfl ?_); refine bx 1 #[.int .i64 a0_0, .slice A0_1 l0_1.length c0_1, .slice A0_2 l0_2.length c0_2] 29 ?_; intro gb261 hg w4 hbox hb; have GW261 := bz w hg; have GE261 := bz w hg; replace HB := bs hb; have BK261 := am hbox; clear hb hbox hg) | ((with_reducible refine gd 2 rfl ?_); refine bx 2 #[.int .i64 0, .slice none 0 0, .slice none 0 0] 29 ?_; intro gb262 hg w5 hbox hb; have GW262 := bzw w hg; have GE262 := bzw w hg; replace HB := bsw hb; have BK262 := am hbox; have NB261_262 := nl BK261 hg; have NB262_261 := ng BK261 hg; replace BK261 := bb BK261 hb; clear hb hbox hg))
 replace BK261 := am (blk_drew BK261.out)
 replace BK262 := am (blk_drew BK262.out)
 replace HB := am (below_drew1 HB.out)
 refine start_ (n := 12) (S := fun w' => w'.cell? ⟨gb261, 0, none⟩ = some (.int .i64 a0_0) ∧ w'.cell? ⟨gb261, 1, none⟩ = some (.slice A0_1 l0_1.length c0_1) ∧ w'.cell? ⟨gb261, 2, none⟩ = some (.slice A0_2 l0_2.length c0_2)) (ds := []) #[false, false, false, false, false, false, false, false, false, false, false, false] (by kernel_rfl) rfl rfl ⟨bc0 BK261, bc1 BK261, bc2 BK261⟩ (fun hHeld => ?_); refine with_tabW spec_l15Copy.tab1 spec_l15Copy.bits1 (fun HT_ HW_ => ?_)
 generalize w5.drew = w6 at BK261 BK262 HB hHeld ⊢
 refine put 0 3 (bt 12 1) HT_ ?_
 refine put 3 6 (bt 12 9) HT_ ?_
 refine put 7 10 (bt 12 137) HT_ ?_
 refine tat3 1 4 (bt 12 139) HT_ HW_ hHeld ?_
 refine tat3 4 7 (bt 12 155) HT_ HW_ hHeld ?_
 refine tat3 8 11 (bt 12 411) HT_ HW_ hHeld ?_
 refine join_ (σ := Value × Value × Value) 3 (bt 12 511) (fun s_ => [(5, s_.1), (8, s_.2.1), (9, s_.2.2)]) (fun s_ w' => (w'.cell? ⟨gb261, 0, none⟩ = some (.int .i64 a0_0) ∧ w'.cell? ⟨gb261, 1, none⟩ = some (.slice A0_1 l0_1.length c0_1) ∧ w'.cell? ⟨gb261, 2, none⟩ = some (.slice A0_2 l0_2.length c0_2)) ∧ (Kd.R (Kd.int .i64) 3 w' w.heap.size (fun k_ => some k_ ≠ (s_.2.2 : Value).ownBlock) s_.2.1 y266) ∧ (Kd.R (Kd.int .i64) 3 w' w.heap.size (fun k_ => some k_ ≠ (s_.2.1 : Value).ownBlock) s_.2.2 y269) ∧ (w'.heap[gb261]? = some (.cells #[.int .i64 a0_0, .slice A0_1 l0_1.length c0_1, .slice A0_2 l0_2.length c0_2] 29 (0, 0))) ∧ (w'.heap[gb262]? = some (.cells #[.int .i64 0, .slice none 0 0, .slice none 0 0] 29 (0, 0))) ∧ (Below w.heap.size w w')) ?_ ?_
 rotate_left
 ·intro hCont
  refine two_ (i := 2) (j := 6) (Ni := some 5) (Nj := some 9) (bt 12 415) (bt 12 475) rfl rfl rfl rfl (two_of HT_.out (by kernel_rfl)) (by decide) (by decide) (fun K hK => ?_) (fun K hK => ?_)
  ·skip
   refine Kd.R_lit_step (Kd.int .i64) _ 3 ?hg (N := 5) ?hd (xs := ([] : List Int)) (inner := []) (ok := fun _ => True) (okp := fun _ => True) ?hr ?hp (fun _ hk => hk) trivial (Below.refl _ _) (Nat.le_refl _) (by simp) ?_; (case hd => rfl); (case hg => rfl); (case hr => first | (go_simp; done) | (go_simp; rfl)); (case hp => exact (Reps.none _ _))
   intro v264 w7 ho8 hb hg_ hnew_
   clear hg_ hnew_
   (first | rw [← Ny263.out] at ho8 | (simp only [Int.reduceToNat] at ho8; rw [← Ny263.out] at ho8))
   have HO265 := am (Kd.R_lower ho8 (below_size (sbw)))
   replace BK261 := bb BK261 hb
   replace BK262 := bb BK262 hb
   replace HB := bsw hb
   clear hb ho8
   refine hK.out _ _ ⟨bc0 BK261, bc1 BK261, bc2 BK261⟩ (fun hHeld => ?_)
   clear hK K
   refine nm 5 ?_
   refine two_ (i := 5) (j := 6) (Ni := some 8) (Nj := some 9) (bt 12 447) (bt 12 479) rfl rfl rfl rfl (two_of HT_.out (by kernel_rfl)) (by decide) (by decide) (fun K hK => ?_) (fun K hK => ?_)
   ·skip
    refine Kd.R_append_rows_step (Kd.int .i64) (w0 := w) w.heap.size (by rfl) (.tmp 5) (.tmp 7) 22 3 (.int .i64 0) 8 rfl Try.underlying22 info3 rfl (by decide) (by omega) v264 y263 l0_1 _ _ _ (fun _ => True) (fun _ => False) rfl rfl ?aO ?aR (fun _ _ h => h) (fun _ h => h.elim) ?aF ?aB ?aS ?aL ?_
    (case aR => repeat (first | exact (Kd.C_below HR0_1.out HB.out) | (with_reducible refine Kd.C_alloc ?_ _) | (with_reducible refine Kd.C_drewN ?_ _) | (with_reducible refine Kd.C_drew ?_)))
    (case aB => exact (sbw))
    (case aF => exact (fun _ _ => trivial))
    (case aO => exact (sr HO265))
    (case aS => exact (below_size (sbw)))
    (case aL => have := LMc2.out; omega)
    intro v267 w9 ho hb hg hat
    rw [← Ny266.out] at ho
    replace BK261 := am (blk_grown (g := gb261) (o := .cells #[.int .i64 a0_0, .slice A0_1 l0_1.length c0_1, .slice A0_2 l0_2.length c0_2] 29 (0, 0)) (sk BK261) hg (Kd.R_ne HO265.out BK261.out (by decide)))
    replace BK262 := am (blk_grown (g := gb262) (o := .cells #[.int .i64 0, .slice none 0 0, .slice none 0 0] 29 (0, 0)) (sk BK262) hg (Kd.R_ne HO265.out BK262.out (by decide)))
    replace HB := am hb
    have HO268 := am ho
    clear HO265 ho hb hg hat
    refine hK.out _ _ ⟨bc0 BK261, bc1 BK261, bc2 BK261⟩ (fun hHeld => ?_)
    clear hK K
    refine nm 8 ?_
    refine on 6 9 (bt 12 511) HT_ (fun K hK => ?_)
    refine Kd.R_lit_step (Kd.int .i64) _ 3 ?hg (N := 9) ?hd (xs := ([] : List Int)) (inner := []) (ok := fun _ => True) (okp := fun _ => True) ?hr ?hp (fun _ hk => hk) trivial (Below.refl _ _) (Nat.le_refl _) (by simp) ?_; (case hd => rfl); (case hg => rfl); (case hr => first | (go_simp; done) | (go_simp; rfl)); (case hp => exact (Reps.none _ _))
    intro v270 w10 ho11 hb hg_ hnew_
    clear hg_ hnew_
    (first | rw [← Ny269.out] at ho11 | (simp only [Int.reduceToNat] at ho11; rw [← Ny269.out] at ho11))
    have HO271 := am (Kd.R_lower (Kd.R_new' ho11 (Kd.R_lt (sr HO268))) (below_size (sbw)))
    replace HO268 := am (Kd.R_elder' (sr HO268) (Kd.R_base ho11) hb)
    replace BK261 := bb BK261 hb
    replace BK262 := bb BK262 hb
    replace HB := bsw hb
    clear hb ho11
    refine hK.out _ _ ⟨bc0 BK261, bc1 BK261, bc2 BK261⟩ (fun hHeld => ?_)
    clear hK K
    refine nm 9 ?_
    exact norm_ a4_1 (hCont (v264, v267, v270) _ ⟨hHeld, (by exact rm HO268 (fun _ hk => hk.2)), (by exact rm HO271 (fun _ hk => hk.2)), (sk BK261), (sk BK262), (sbw)⟩)
   ·skip
    refine Kd.R_lit_step (Kd.int .i64) _ 3 ?hg (N := 9) ?hd (xs := ([] : List Int)) (inner := []) (ok := fun _ => True) (okp := fun _ => True) ?hr ?hp (fun _ hk => hk) trivial (Below.refl _ _) (Nat.le_refl _) (by simp) ?_; (case hd => rfl); (case hg => rfl); (case hr => first | (go_simp; done) | (go_simp; rfl)); (case hp => exact (Reps.none _ _))
    intro v270 w9 ho10 hb hg_ hnew_
    clear hg_ hnew_
    (first | rw [← Ny269.out] at ho10 | (simp only [Int.reduceToNat] at ho10; rw [← Ny269.out] at ho10))
    have HO271 := am (Kd.R_lower (Kd.R_new' ho10 (Kd.R_lt (sr HO265))) (below_size (sbw)))
    replace HO265 := am (Kd.R_elder' (sr HO265) (Kd.R_base ho10) hb)
    replace BK261 := bb BK261 hb
    replace BK262 := bb BK262 hb
    replace HB := bsw hb
    clear hb ho10
    refine hK.out _ _ ⟨bc0 BK261, bc1 BK261, bc2 BK261⟩ (fun hHeld => ?_)
    clear hK K
    refine nm 9 ?_
    refine on 5 8 (bt 12 511) HT_ (fun K hK => ?_)
    refine Kd.R_append_rows_step (Kd.int .i64) (w0 := w) w.heap.size (by rfl) (.tmp 5) (.tmp 7) 22 3 (.int .i64 0) 8 rfl Try.underlying22 info3 rfl (by decide) (by omega) v264 y263 l0_1 _ _ _ (fun k_ => some k_ ≠ (v270 : Value).ownBlock) (fun _ => False) rfl rfl ?aO ?aR (fun _ _ h => h) (fun _ h => h.elim) ?aF ?aB ?aS ?aL ?_
    (case aR => repeat (first | exact (Kd.C_below HR0_1.out HB.out) | (with_reducible refine Kd.C_alloc ?_ _) | (with_reducible refine Kd.C_drewN ?_ _) | (with_reducible refine Kd.C_drew ?_)))
    (case aB => exact (sbw))
    (case aF => exact (fun k_ hk => Kd.fresh' (Kd.R_lt (sr HO271)) k_ hk))
    (case aO => exact (by exact rm HO265 (fun _ hk => hk.2)))
    (case aS => exact (below_size (sbw)))
    (case aL => have := LMc2.out; omega)
    intro v267 w11 ho hb hg hat
    rw [← Ny266.out] at ho
    replace BK261 := am (blk_grown (g := gb261) (o := .cells #[.int .i64 a0_0, .slice A0_1 l0_1.length c0_1, .slice A0_2 l0_2.length c0_2] 29 (0, 0)) (sk BK261) hg (Kd.R_ne HO265.out BK261.out (by decide)))
    replace BK262 := am (blk_grown (g := gb262) (o := .cells #[.int .i64 0, .slice none 0 0, .slice none 0 0] 29 (0, 0)) (sk BK262) hg (Kd.R_ne HO265.out BK262.out (by decide)))
    replace HO271 := am (Kd.R_after (ok := (fun _ => True)) (sr HO271) hg hat)
    replace HB := am hb
    have HO268 := am ho
    clear HO265 ho hb hg hat
    refine hK.out _ _ ⟨bc0 BK261, bc1 BK261, bc2 BK261⟩ (fun hHeld => ?_)
    clear hK K
    refine nm 8 ?_
    exact norm_ a4_1 (hCont (v264, v267, v270) _ ⟨hHeld, (sr HO268), (by exact rm HO271 (fun _ hk => hk.2)), (sk BK261), (sk BK262), (sbw)⟩)
  ·skip
   refine Kd.R_lit_step (Kd.int .i64) _ 3 ?hg (N := 9) ?hd (xs := ([] : List Int)) (inner := []) (ok := fun _ => True) (okp := fun _ => True) ?hr ?hp (fun _ hk => hk) trivial (Below.refl _ _) (Nat.le_refl _) (by simp) ?_; (case hd => rfl); (case hg => rfl); (case hr => first | (go_simp; done) | (go_simp; rfl)); (case hp => exact (Reps.none _ _))
   intro v270 w7 ho8 hb hg_ hnew_
   clear hg_ hnew_
   (first | rw [← Ny269.out] at ho8 | (simp only [Int.reduceToNat] at ho8; rw [← Ny269.out] at ho8))
   have HO271 := am (Kd.R_lower ho8 (below_size (sbw)))
   replace BK261 := bb BK261 hb
   replace BK262 := bb BK262 hb
   replace HB := bsw hb
   clear hb ho8
   refine hK.out _ _ ⟨bc0 BK261, bc1 BK261, bc2 BK261⟩ (fun hHeld => ?_)
   clear hK K
   refine nm 9 ?_
   refine on 2 5 (bt 12 479) HT_ (fun K hK => ?_)
   refine Kd.R_lit_step (Kd.int .i64) _ 3 ?hg (N := 5) ?hd (xs := ([] : List Int)) (inner := []) (ok := fun _ => True) (okp := fun _ => True) ?hr ?hp (fun _ hk => hk) trivial (Below.refl _ _) (Nat.le_refl _) (by simp) ?_; (case hd => rfl); (case hg => rfl); (case hr => first | (go_simp; done) | (go_simp; rfl)); (case hp => exact (Reps.none _ _))
   intro v264 w9 ho10 hb hg_ hnew_
   clear hg_ hnew_
   (first | rw [← Ny263.out] at ho10 | (simp only [Int.reduceToNat] at ho10; rw [← Ny263.out] at ho10))
   have HO265 := am (Kd.R_lower (Kd.R_new' ho10 (Kd.R_lt (sr HO271))) (below_size (sbw)))
   replace HO271 := am (Kd.R_elder' (sr HO271) (Kd.R_base ho10) hb)
   replace BK261 := bb BK261 hb
   replace BK262 := bb BK262 hb
   replace HB := bsw hb
   clear hb ho10
   refine hK.out _ _ ⟨bc0 BK261, bc1 BK261, bc2 BK261⟩ (fun hHeld => ?_)
   clear hK K
   refine nm 5 ?_
   refine on 5 8 (bt 12 511) HT_ (fun K hK => ?_)
   refine Kd.R_append_rows_step (Kd.int .i64) (w0 := w) w.heap.size (by rfl) (.tmp 5) (.tmp 7) 22 3 (.int .i64 0) 8 rfl Try.underlying22 info3 rfl (by decide) (by omega) v264 y263 l0_1 _ _ _ (fun k_ => some k_ ≠ (v270 : Value).ownBlock) (fun _ => False) rfl rfl ?aO ?aR (fun _ _ h => h) (fun _ h => h.elim) ?aF ?aB ?aS ?aL ?_
   (case aR => repeat (first | exact (Kd.C_below HR0_1.out HB.out) | (with_reducible refine Kd.C_alloc ?_ _) | (with_reducible refine Kd.C_drewN ?_ _) | (with_reducible refine Kd.C_drew ?_)))
   (case aB => exact (sbw))
   (case aF => exact (fun k_ hk => Kd.fresh' (Kd.R_lt (sr HO271)) k_ hk))
   (case aO => exact (by exact rm HO265 (fun _ hk => hk.2)))
   (case aS => exact (below_size (sbw)))
   (case aL => have := LMc2.out; omega)
   intro v267 w11 ho hb hg hat
   rw [← Ny266.out] at ho
   replace BK261 := am (blk_grown (g := gb261) (o := .cells #[.int .i64 a0_0, .slice A0_1 l0_1.length c0_1, .slice A0_2 l0_2.length c0_2] 29 (0, 0)) (sk BK261) hg (Kd.R_ne HO265.out BK261.out (by decide)))
   replace BK262 := am (blk_grown (g := gb262) (o := .cells #[.int .i64 0, .slice none 0 0, .slice none 0 0] 29 (0, 0)) (sk BK262) hg (Kd.R_ne HO265.out BK262.out (by decide)))
   replace HO271 := am (Kd.R_after (ok := (fun _ => True)) (sr HO271) hg hat)
   replace HB := am hb
   have HO268 := am ho
   clear HO265 ho hb hg hat
   refine hK.out _ _ ⟨bc0 BK261, bc1 BK261, bc2 BK261⟩ (fun hHeld => ?_)
   clear hK K
   refine nm 8 ?_
   exact norm_ a4_1 (hCont (v264, v267, v270) _ ⟨hHeld, (sr HO268), (by exact rm HO271 (fun _ hk => hk.2)), (sk BK261), (sk BK262), (sbw)⟩)
 rintro ⟨v264, v267, v270⟩ w12 ⟨hS_, h0_, h1_, h2_, h3_, h4_⟩
 have HO268 : Aside0 (Kd.R (Kd.int .i64) 3 w12 w.heap.size (fun k_ => some k_ ≠ (v270 : Value).ownBlock) v267 y266) := ⟨h0_⟩
 have HO271 : Aside0 (Kd.R (Kd.int .i64) 3 w12 w.heap.size (fun k_ => some k_ ≠ (v267 : Value).ownBlock) v270 y269) := ⟨h1_⟩
 replace BK261 : Aside0 (w12.heap[gb261]? = some (.cells #[.int .i64 a0_0, .slice A0_1 l0_1.length c0_1, .slice A0_2 l0_2.length c0_2] 29 (0, 0))) := ⟨h2_⟩
 replace BK262 : Aside0 (w12.heap[gb262]? = some (.cells #[.int .i64 0, .slice none 0 0, .slice none 0 0] 29 (0, 0))) := ⟨h3_⟩
 replace HB : Aside0 (Below w.heap.size w w12) := ⟨h4_⟩
 clear h0_ h1_ h2_ h3_ h4_
 have hHeld : w12.cell? ⟨gb261, 0, none⟩ = some (.int .i64 a0_0) ∧ w12.cell? ⟨gb261, 1, none⟩ = some (.slice A0_1 l0_1.length c0_1) ∧ w12.cell? ⟨gb261, 2, none⟩ = some (.slice A0_2 l0_2.length c0_2) := hS_
 refine norm_ (a' := ?_) ?_ ?_
 rotate_left
 ·simp only [putAll, Act.put, List.setIfInBounds_toArray, List.set_cons_zero, List.set_cons_succ]
  rfl
 refine on 9 12 (bt 12 1023) HT_ (fun K hK => ?_)
 refine Kd.R_append_rows_step (Kd.int .i64) (w0 := w) w.heap.size (by rfl) (.tmp 9) (.tmp 11) 22 3 (.int .i64 0) 8 rfl Try.underlying22 info3 rfl (by decide) (by omega) v270 y269 l0_2 _ _ _ (fun k_ => some k_ ≠ (v267 : Value).ownBlock) (fun _ => False) rfl rfl ?aO ?aR (fun _ _ h => h) (fun _ h => h.elim) ?aF ?aB ?aS ?aL ?_
 (case aR => repeat (first | exact (Kd.C_below HR0_2.out HB.out) | (with_reducible refine Kd.C_alloc ?_ _) | (with_reducible refine Kd.C_drewN ?_ _) | (with_reducible refine Kd.C_drew ?_)))
 (case aB => exact (sbw))
 (case aF => exact (fun k_ hk => Kd.fresh' (Kd.R_lt (sr HO268)) k_ hk))
 (case aO => exact (sr HO271))
 (case aS => exact (below_size (sbw)))
 (case aL => have := LMc3.out; omega)
 intro v273 w13 ho hb hg hat
 rw [← Ny272.out] at ho
 replace BK261 := am (blk_grown (g := gb261) (o := .cells #[.int .i64 a0_0, .slice A0_1 l0_1.length c0_1, .slice A0_2 l0_2.length c0_2] 29 (0, 0)) (sk BK261) hg (Kd.R_ne HO271.out BK261.out (by decide)))
 replace BK262 := am (blk_grown (g := gb262) (o := .cells #[.int .i64 0, .slice none 0 0, .slice none 0 0] 29 (0, 0)) (sk BK262) hg (Kd.R_ne HO271.out BK262.out (by decide)))
 replace HO268 := am (Kd.R_after (ok := (fun _ => True)) (by exact rm HO268 (fun _ hk => ⟨trivial, hk⟩)) hg hat)
 replace HB := am hb
 have HO274 := am ho
 clear HO271 ho hb hg hat
 obtain ⟨Ao14, co14, eo14⟩ := Kd.R_slice HO274.out
 (first | subst eo14 | (injection eo14 with f1_ f2_ f3_; have f4_ := f1_.symm; have f5_ := f3_.symm; clear f1_ f2_ f3_; subst f4_; subst f5_))
 obtain ⟨Ao15, co15, eo15⟩ := Kd.R_slice HO268.out
 (first | subst eo15 | (injection eo15 with f1_ f2_ f3_; have f4_ := f1_.symm; have f5_ := f3_.symm; clear f1_ f2_ f3_; subst f4_; subst f5_))
 refine hK.out _ _ ⟨bc0 BK261, bc1 BK261, bc2 BK261⟩ (fun hHeld => ?_)
 clear hK K
 refine nm 12 ?_
 refine put 10 13 (bt 12 2047) HT_ ?_
 refine one_ (i := 11) (N := none) (bt 12 4095) rfl rfl (one_of HT_.out (by kernel_rfl)) (by decide) (fun K hK => ?_)
 obtain ⟨hs16, hfs16⟩ := cc1 BK262
 have hns16_0 := NB261_262.out
 have hms16_0 := NB262_261.out
 have hs17 := bc1 BK262
 have hfs17 := bf BK262 1
 have hns17_0 := NB261_262.out
 have hms17_0 := NB262_261.out
 have hs18 := bc2 BK262
 have hfs18 := bf BK262 2
 have hns18_0 := NB261_262.out
 have hms18_0 := NB262_261.out
 refine skip_ (w1 := ?_) (by rfl) rfl ?_ ?_
 rotate_left
 ·go_simp
  rfl
 refine hK.out _ _ ⟨((cell_far (p := ⟨gb262, _, none⟩) NB261_262.out _).trans (((cell_far (p := ⟨gb262, _, none⟩) NB261_262.out _).trans (((cell_far (p := ⟨gb262, _, none⟩) NB261_262.out _).trans (hHeld.1)))))), ((cell_far (p := ⟨gb262, _, none⟩) NB261_262.out _).trans (((cell_far (p := ⟨gb262, _, none⟩) NB261_262.out _).trans (((cell_far (p := ⟨gb262, _, none⟩) NB261_262.out _).trans (hHeld.2.1)))))), ((cell_far (p := ⟨gb262, _, none⟩) NB261_262.out _).trans (((cell_far (p := ⟨gb262, _, none⟩) NB261_262.out _).trans (((cell_far (p := ⟨gb262, _, none⟩) NB261_262.out _).trans (hHeld.2.2))))))⟩ (fun hHeld => ?_)
 clear hK K
 refine done_ (done_of HT_.out (by kernel_rfl)) ?_
 try go_wp2
 refine bodyPost_ret (results_cell_row rfl _ _ gb262 29 #[.int .i64 a0_0, .slice Ao15 y266.length co15, .slice Ao14 y272.length co14] (0, 0) _ rfl (sp BK262) Try.underlying29 rfl (by kernel_rfl)) rfl ?_
 exact ⟨_, _, se, by (with_reducible repeat (first | apply Kd.R_alloc | apply Kd.R_drewN | apply Kd.R_drew)); exact Kd.R_mono (h3 HO268 BK262) (fun _ hk => hk.1.2), by (with_reducible repeat (first | apply Kd.R_alloc | apply Kd.R_drewN | apply Kd.R_drew)); exact Kd.R_mono (h3 HO274 BK262) (fun _ hk => hk.1), sbw⟩

def spec_TableIn.f (a0_0 : Int) (a0_1 : Int) (a0_2 : Int) (l0_3 : List (S75)) (a1 : Int) (a2 : Int) : Option (Int × List Int × List Int × Bool) := (spec_l1In.f a1 0 (wrap64 ((l0_3.length : Int) - 1))).bind fun t277 => (if t277 = true then (if 0 ≤ a1 then (if a1 < (l0_3.length : Int) then ((spec_l1In.f a2 0 (wrap64 ((((rd_T75 l0_3 a1).f2).length : Int) - 1))).bind fun t279 => (if t279 = true then (if 0 ≤ a2 then (if a2 < (((rd_T75 l0_3 a1).f2).length : Int) then ((spec_l15Copy.f ((rd_T29 ((rd_T75 l0_3 a1).f2) a2).f0) ((rd_T29 ((rd_T75 l0_3 a1).f2) a2).f1) ((rd_T29 ((rd_T75 l0_3 a1).f2) a2).f2)).bind fun bt282 => (some (bt282.1, bt282.2.1, bt282.2.2, true))) else (none)) else (none)) else (some (0, ([] : List Int), ([] : List Int), false)))) else (none)) else (none)) else (some (0, ([] : List Int), ([] : List Int), false)))
theorem e4_0 {P : Prop} (h : P := by
 go_enter Try.func41, Try.ntmps41
 go_wp2_with (first | ((with_reducible refine gd 3 rfl ?_); (try (refine gate_guard (by rfl) ?_; dsimp only)); refine bx 3 #[.int .i64 a0_0, .int .i64 a0_1, .int .i64 a0_2, .slice A0_3 l0_3.length c0_3] 49 ?_; intro gb275 hg w13 hbox hb; have GW275 := bz w hg; have GE275 := bz w hg; replace HB := bs hb; have BK275 := am hbox; clear hb hbox hg) | ((with_reducible refine gd 6 rfl ?_); (try (refine gate_guard (by rfl) ?_; dsimp only)); refine bx 6 #[.int .i64 0, .slice none 0 0, .slice none 0 0] 29 ?_; intro gb276 hg w14 hbox hb; have GW276 := bzw w hg; have GE276 := bzw w hg; replace HB := bsw hb; have BK276 := am hbox; have NB275_276 := nl BK275 hg; have NB276_275 := ng BK275 hg; replace BK275 := bb BK275 hb; clear hb hbox hg; have hnb15 := NB275_276.out; have hnc15 := NB276_275.out; obtain ⟨hcz16_0, hcz16_1, hcz16_2, hcz16_3, hfz16_0, hfz16_1, hfz16_2, hfz16_3⟩ := cc4 BK275) | (have _ := A8; (with_reducible refine gc 30 rfl ?_); refine gL (some 13) Try.func30 #[.int .i64 a1, .int .i64 0, .int .i64 (wrap64 ((l0_3.length : Int) - 1))] ?_; (with_reducible refine (spec_l1In.calls a1 0 (wrap64 ((l0_3.length : Int) - 1)) true _ A4.out).mono ?_); rintro e w' ⟨rfl, ⟨nd, rfl⟩⟩; refine ⟨_, rfl, ?_⟩; obtain ⟨p278, q278, ad278, A278_2, c278_2, A278_3, c278_3, e278, _, _, _, _, hx278_0, hx278_1, hx278_2, hx278_3, HC278_2, HR278_2, HC278_3, HR278_3⟩ := aT_T75 HR0_3 HB a1; cases e278) | (have _ := A12; go_at_call 30; (try simp only [i64_w, i32_w]); (with_reducible refine (spec_l1In.calls a2 0 (wrap64 ((((rd_T75 l0_3 a1).f2).length : Int) - 1)) true _ A8.out).mono ?_); rintro e w' ⟨rfl, ⟨nd, rfl⟩⟩; obtain ⟨p280, q280, ad280, A280_2, c280_2, A280_3, c280_3, e280, _, _, _, _, hx280_0, hx280_1, hx280_2, hx280_3, HC280_2, HR280_2, HC280_3, HR280_3⟩ := aT_T75 HR0_3 HB a1; obtain rfl : ad278 = ad280 := (by injection e280); have ea_ := Option.some.inj (hx278_2.symm.trans hx280_2); injection ea_ with ea_ en_ ec_; subst ea_; subst ec_; clear en_; have ea_ := Option.some.inj (hx278_3.symm.trans hx280_3); injection ea_ with ea_ en_ ec_; subst ea_; subst ec_; clear en_; obtain ⟨p281, q281, ad281, A281_1, c281_1, A281_2, c281_2, e281, _, _, _, hx281_0, hx281_1, hx281_2, HC281_1, HR281_1, HC281_2, HR281_2⟩ := aT_T29 HR280_3 HB a2; cases e281) | (have _ := A12; (with_reducible refine gc 58 rfl ?_); refine gL (some 38) Try.func58 #[.agg #[.int .i64 ((rd_T29 ((rd_T75 l0_3 a1).f2) a2).f0), .slice A281_1 ((rd_T29 ((rd_T75 l0_3 a1).f2) a2).f1).length c281_1, .slice A281_2 ((rd_T29 ((rd_T75 l0_3 a1).f2) a2).f2).length c281_2]] ?_; (with_reducible refine (spec_l15Copy.calls ((rd_T29 ((rd_T75 l0_3 a1).f2) a2).f0) _ _ ((rd_T29 ((rd_T75 l0_3 a1).f2) a2).f1) _ _ ((rd_T29 ((rd_T75 l0_3 a1).f2) a2).f2) t282 t283 t286 _ ?side1 ?side2 ?side3 ?side4 A12.out).mono ?_); (case side1 => exact cb HR281_1); (case side2 => exact HC281_1.out); (case side3 => exact cb HR281_2); (case side4 => exact HC281_2.out); rintro e w17 ⟨v284, v287, rfl, ho0, ho1, hb⟩; refine ⟨_, rfl, ?_⟩; have HO285 := am (Kd.R_lower ho0 (below_size (sbw))); have HO288 := am (Kd.R_lower ho1 (below_size (sbw))); replace BK275 := bb BK275 hb; replace BK276 := bb BK276 hb; replace HB := bsw hb; (try clear hb); (try clear ho0); (try clear ho1); obtain ⟨hcz18_0, hcz18_1, hcz18_2, hfz18_0, hfz18_1, hfz18_2⟩ := cc3 BK276; obtain ⟨Ao19, co19, eo19⟩ := Kd.R_slice HO285.out; subst eo19; obtain ⟨Ao20, co20, eo20⟩ := Kd.R_slice HO288.out; subst eo20) | (have _ := A8; go_at_call 30; (try simp only [i64_w, i32_w]); (with_reducible refine (spec_l1In.calls a2 0 (wrap64 ((((rd_T75 l0_3 a1).f2).length : Int) - 1)) false _ A8.out).mono ?_); rintro e w' ⟨rfl, ⟨nd, rfl⟩⟩; obtain ⟨hcz25_0, hcz25_1, hcz25_2, hfz25_0, hfz25_1, hfz25_2⟩ := cc3 BK276) | ((with_reducible refine gc 30 rfl ?_); refine gL (some 13) Try.func30 #[.int .i64 a1, .int .i64 0, .int .i64 (wrap64 ((l0_3.length : Int) - 1))] ?_; (with_reducible refine (spec_l1In.calls a1 0 (wrap64 ((l0_3.length : Int) - 1)) false _ A4.out).mono ?_); rintro e w' ⟨rfl, ⟨nd, rfl⟩⟩; refine ⟨_, rfl, ?_⟩; obtain ⟨hcz30_0, hcz30_1, hcz30_2, hfz30_0, hfz30_1, hfz30_2⟩ := cc3 BK276))
 first
 | have _ := A12
   refine bodyPost_ret (results_ct rfl _ _ gb276 29 #[.int .i64 t282, .slice Ao19 t283.length co19, .slice Ao20 t286.length co20] (0, 0) _ rfl (sp BK276) Try.underlying29 rfl (by kernel_rfl)) rfl ?_
   exact ⟨_, _, se, by (with_reducible repeat (first | apply Kd.R_alloc | apply Kd.R_drewN | apply Kd.R_drew)); exact Kd.R_mono (h3 HO285 BK276) (fun _ hk => hk.1), by (with_reducible repeat (first | apply Kd.R_alloc | apply Kd.R_drewN | apply Kd.R_drew)); exact Kd.R_mono (h3 HO288 BK276) (fun _ hk => hk.1), sbw⟩
 | have _ := A8
   refine bodyPost_ret (results_ct rfl _ _ gb276 29 #[.int .i64 0, .slice none 0 0, .slice none 0 0] (0, 0) _ rfl (sp BK276) Try.underlying29 rfl (by kernel_rfl)) rfl ?_
   exact ⟨_, _, se, sn, sn, sbw⟩
 | refine bodyPost_ret (results_ct rfl _ _ gb276 29 #[.int .i64 0, .slice none 0 0, .slice none 0 0] (0, 0) _ rfl (sp BK276) Try.underlying29 rfl (by kernel_rfl)) rfl ?_
   exact ⟨_, _, se, sn, sn, sbw⟩
   ) : P := h
theorem spec_TableIn.calls (a0_0 : Int) (a0_1 : Int) (a0_2 : Int) (A0_3 : Option Addr) (c0_3 : Nat) (l0_3 : List (S75)) (a1 : Int) (a2 : Int) (r1 : Int) (r2 : List Int) (r3 : List Int) (r4 : Bool) (w : World) (hr0_3 : Kd.C k75 w A0_3 l0_3.length l0_3) (hc0_3 : l0_3.length ≤ c0_3) (h : spec_TableIn.f a0_0 a0_1 a0_2 l0_3 a1 a2 = some (r1, r2, r3, r4)) :
    Calls Try.prog 41 #[.agg #[.int .i64 a0_0, .int .i64 a0_1, .int .i64 a0_2, .slice A0_3 l0_3.length c0_3], .int .i64 a1, .int .i64 a2] w fun e w' => ∃ v1_ v2_ : Value, e = .returned (.tuple #[.agg #[.int .i64 r1, v1_, v2_], .bool r4]) ∧ Kd.R (Kd.int .i64) 3 w' w.heap.size (fun k_ => some k_ ≠ (v2_ : Value).ownBlock) v1_ r2 ∧ Kd.R (Kd.int .i64) 3 w' w.heap.size (fun k_ => some k_ ≠ (v1_ : Value).ownBlock) v2_ r3 ∧ Below w.heap.size w w' := by
 have hu49 := Try.underlying49
 have hu29 := Try.underlying29
 have HR0_3 := am hr0_3
 have HC0_3 := am hc0_3
 clear hr0_3 hc0_3
 have HB := am (Below.refl w.heap.size w)
 have H := h; unfold spec_TableIn.f at H
 clear h
 obtain ⟨t277, A4, H⟩ := bnd H
 obtain rfl | rfl := tt t277
 ·replace H := ip H
  obtain ⟨c6b0, H⟩ := id_ H
  obtain ⟨c7b0, H⟩ := id_ H
  obtain ⟨t279, A8, H⟩ := bnd H
  obtain rfl | rfl := tt t279
  ·replace H := ip H
   obtain ⟨c10b0, H⟩ := id_ H
   obtain ⟨c11b0, H⟩ := id_ H
   obtain ⟨⟨t282, t283, t286⟩, A12, H⟩ := bnd H
   try dsimp only at H
   simp only [Option.some.injEq, Prod.mk.injEq] at H
   obtain ⟨rfl, rfl, rfl, rfl⟩ := H
   exact e4_0
  ·replace H := im H
   simp only [Option.some.injEq, Prod.mk.injEq] at H
   obtain ⟨rfl, rfl, rfl, rfl⟩ := H
   exact e4_0
 ·replace H := im H
  simp only [Option.some.injEq, Prod.mk.injEq] at H
  obtain ⟨rfl, rfl, rfl, rfl⟩ := H
  exact e4_0
def spec_IsSpan.f (a0_0 : Int) (a0_1 : Int) : Option (Bool) := if a0_0 ≥ 0 then (if a0_1 ≤ 1000 then (some (decide (a0_0 < a0_1))) else (some false)) else (some false)
theorem e4_1 {P : Prop} (h : P := by
 obtain rfl := Option.some.inj H
 go_enter Try.func77, Try.ntmps77
 go_wp2_with (first | ((with_reducible refine gd 1 rfl ?_); refine bx 1 #[.int .i64 a0_0, .int .i64 a0_1] 72 ?_; intro gb289 hg w4 hbox hb; have GW289 := bz w hg; have GE289 := bz w hg; replace HB := bs hb; have BK289 := am hbox; clear hb hbox hg; obtain ⟨hcz5_0, hcz5_1, hfz5_0, hfz5_1⟩ := cc2 BK289))
 first
 | have _ := c3b0
   go_ret
   exact ⟨se, sbw⟩
 | go_ret
   exact ⟨se, sbw⟩
   ) : P := h
theorem spec_IsSpan.calls (a0_0 : Int) (a0_1 : Int) (r : Bool) (w : World) (h : spec_IsSpan.f a0_0 a0_1 = some r) :
    Calls Try.prog 77 #[.agg #[.int .i64 a0_0, .int .i64 a0_1]] w fun e w' => e = .returned (.bool r) ∧ Below w.heap.size w w' := by
 have hu72 := Try.underlying72
 have HB := am (Below.refl w.heap.size w)
 have H := h; unfold spec_IsSpan.f at H
 clear h
 obtain ⟨-, c2b0, H⟩ | ⟨-, c2b0, H⟩ := ic_ H
 ·obtain ⟨-, c3b0, H⟩ | ⟨-, c3b0, H⟩ := ic_ H
  ·exact e4_1
  ·exact e4_1
 ·exact e4_1
def spec_PiecesIn.l0 : Nat → Int → Int → List Int → Int → Int → Int → Int → List (S75) → Option (List Int)
  | 0, _, _, _, _, _, _, _, _ => none
  | k + 1, x1, x2, x7, x8, x291000, x291001, x291002, x291003 => if x8 < (x291003.length : Int) then (if 0 ≤ x8 then ((spec_IsSpan.f ((rd_T75 x291003 x8).f0.f0) ((rd_T75 x291003 x8).f0.f1)).bind fun t296 => (if t296 = true then (if x1 ≤ x2 then (if ((rd_T75 x291003 x8).f0.f0) ≤ x2 then (if x1 < ((rd_T75 x291003 x8).f0.f1) then (if x7.length < 17592186044416 then (spec_PiecesIn.l0 k x1 x2 (x7 ++ [x8]) (wrap64 (x8 + 1)) x291000 x291001 x291002 x291003) else (none)) else (spec_PiecesIn.l0 k x1 x2 x7 (wrap64 (x8 + 1)) x291000 x291001 x291002 x291003)) else (spec_PiecesIn.l0 k x1 x2 x7 (wrap64 (x8 + 1)) x291000 x291001 x291002 x291003)) else (spec_PiecesIn.l0 k x1 x2 x7 (wrap64 (x8 + 1)) x291000 x291001 x291002 x291003)) else (spec_PiecesIn.l0 k x1 x2 x7 (wrap64 (x8 + 1)) x291000 x291001 x291002 x291003))) else (none)) else (some x7)
def spec_PiecesIn.f (k : Nat) (a0_0 : Int) (a0_1 : Int) (a0_2 : Int) (l0_3 : List (S75)) (a1 : Int) (a2 : Int) : Option (List Int) := spec_PiecesIn.l0 k a1 a2 (([] : List Int)) 0 a0_0 a0_1 a0_2 l0_3
theorem spec_PiecesIn.mono_l : ∀ k, (∀ y0 y1 y2 y3 y4 y5 y6 y7, LeO (spec_PiecesIn.l0 k y0 y1 y2 y3 y4 y5 y6 y7) (spec_PiecesIn.l0 (k + 1) y0 y1 y2 y3 y4 y5 y6 y7))
  | 0 => fun _ _ _ _ _ _ _ _ r h => by simp [spec_PiecesIn.l0] at h
  | k + 1 => by
    have ih0 := spec_PiecesIn.mono_l k
    · intro y0 y1 y2 y3 y4 y5 y6 y7
      unfold spec_PiecesIn.l0
      exact mo
theorem spec_PiecesIn.mono : ∀ a0 a1 a2 a3 a4 a5 k, LeO (spec_PiecesIn.f k a0 a1 a2 a3 a4 a5) (spec_PiecesIn.f (k + 1) a0 a1 a2 a3 a4 a5) := by
  intro a0 a1 a2 a3 a4 a5 k
  have ih0 := spec_PiecesIn.mono_l k
  unfold spec_PiecesIn.f
  exact mo
theorem e4_2 {P : Prop} (h : P := by
 go_wp2_with (first | ((with_reducible refine gd 9 rfl ?_); refine bx 9 #[.int .i64 0, .int .i64 0] 72 ?_; intro gb295 hg w16 hbox hb; replace HO_7 := rb HO_7 hb; have GW295 := bzw w hg; have GE295 := bzw w hg; replace HB := bsw hb; have BK295 := am hbox; have NB290_295 := nl BK290 hg; have NB295_290 := ng BK290 hg; replace BK290 := bb BK290 hb; clear hb hbox hg; have hnb17 := NB295_290.out; have hnc17 := NB290_295.out; obtain ⟨hcz18_0, hcz18_1, hfz18_0, hfz18_1⟩ := cc2 BK295) | (have _ := c12b0; (with_reducible refine gc 77 rfl ?_); refine gL (some 25) Try.func77 #[.agg #[.int .i64 ((rd_T75 l0_3 x8_1).f0.f0), .int .i64 ((rd_T75 l0_3 x8_1).f0.f1)]] ?_; (with_reducible refine (spec_IsSpan.calls ((rd_T75 l0_3 x8_1).f0.f0) ((rd_T75 l0_3 x8_1).f0.f1) true _ A9.out).mono ?_); rintro e w19 ⟨rfl, hb⟩; refine ⟨_, rfl, ?_⟩; replace HO_7 := am (Kd.R_below a4_0 hb); replace BK290 := am (blk_below (g := gb290) (o := .cells #[.int .i64 a0_0, .int .i64 a0_1, .int .i64 a0_2, .slice (some ad294) l0_3.length c0_3] 49 (0, 0)) (sp BK290) hb); replace BK295 := am (blk_below (g := gb295) (o := .cells #[.int .i64 ((rd_T75 l0_3 x8_1).f0.f0), .int .i64 ((rd_T75 l0_3 x8_1).f0.f1)] 72 (0, 0)) (sp BK295) hb); replace HB := bsw hb; (try clear hb); (try clear hk); obtain ⟨hcz20_0, hcz20_1, hfz20_0, hfz20_1⟩ := cc2 BK295) | (have _ := c12b0; (with_reducible refine gate_builtin (b := .append) (xs := #[.tmp 43, .tmp 45]) rfl ?_); at_builtin; refine Kd.R_append (Kd.int .i64) (w0 := w) w.heap.size rfl (.tmp 43) (.tmp 45) 22 3 (.int .i64 0) 8 rfl Try.underlying22 info3 rfl (by decide) (by omega) u7 x7_1 x8_1 [.int .i64 x8_1] (fun _ => True) (fun _ => False) rfl rfl ?aP (fun _ hk => hk.elim) ?aF ?aO ?aB ?aS ?aL ?_; (case aP => exact rfl); (case aB => exact (sbw)); (case aF => exact (fun _ _ => trivial)); (case aO => exact (sr HO_7)); (case aS => exact (below_size (sbw))); (case aL => have := LMc14.out; omega); intro v298 w21 ho hb hg hat; rw [← Ny297.out] at ho; replace BK290 := am (blk_grown (g := gb290) (o := .cells #[.int .i64 a0_0, .int .i64 a0_1, .int .i64 a0_2, .slice (some ad294) l0_3.length c0_3] 49 (0, 0)) (sk BK290) hg (Kd.R_ne HO_7.out BK290.out (by decide))); replace BK295 := am (blk_grown (g := gb295) (o := .cells #[.int .i64 ((rd_T75 l0_3 x8_1).f0.f0), .int .i64 ((rd_T75 l0_3 x8_1).f0.f1)] 72 (0, 0)) (sk BK295) hg (Kd.R_ne HO_7.out BK295.out (by decide))); replace HB := am hb; have HO299 := am ho; clear HO_7; clear ho hb hg hat) | (have _ := c11b0; (with_reducible refine gc 77 rfl ?_); refine gL (some 25) Try.func77 #[.agg #[.int .i64 ((rd_T75 l0_3 x8_1).f0.f0), .int .i64 ((rd_T75 l0_3 x8_1).f0.f1)]] ?_; (with_reducible refine (spec_IsSpan.calls ((rd_T75 l0_3 x8_1).f0.f0) ((rd_T75 l0_3 x8_1).f0.f1) true _ A9.out).mono ?_); rintro e w38 ⟨rfl, hb⟩; refine ⟨_, rfl, ?_⟩; replace HO_7 := am (Kd.R_below a4_0 hb); replace BK290 := am (blk_below (g := gb290) (o := .cells #[.int .i64 a0_0, .int .i64 a0_1, .int .i64 a0_2, .slice (some ad294) l0_3.length c0_3] 49 (0, 0)) (sp BK290) hb); replace BK295 := am (blk_below (g := gb295) (o := .cells #[.int .i64 ((rd_T75 l0_3 x8_1).f0.f0), .int .i64 ((rd_T75 l0_3 x8_1).f0.f1)] 72 (0, 0)) (sp BK295) hb); replace HB := bsw hb; (try clear hb); (try clear hk)) | ((with_reducible refine gc 77 rfl ?_); refine gL (some 25) Try.func77 #[.agg #[.int .i64 ((rd_T75 l0_3 x8_1).f0.f0), .int .i64 ((rd_T75 l0_3 x8_1).f0.f1)]] ?_; (with_reducible refine (spec_IsSpan.calls ((rd_T75 l0_3 x8_1).f0.f0) ((rd_T75 l0_3 x8_1).f0.f1) false _ A9.out).mono ?_); rintro e w43 ⟨rfl, hb⟩; refine ⟨_, rfl, ?_⟩; replace HO_7 := am (Kd.R_below a4_0 hb); replace BK290 := am (blk_below (g := gb290) (o := .cells #[.int .i64 a0_0, .int .i64 a0_1, .int .i64 a0_2, .slice (some ad294) l0_3.length c0_3] 49 (0, 0)) (sp BK290) hb); replace BK295 := am (blk_below (g := gb295) (o := .cells #[.int .i64 ((rd_T75 l0_3 x8_1).f0.f0), .int .i64 ((rd_T75 l0_3 x8_1).f0.f1)] 72 (0, 0)) (sp BK295) hb); replace HB := bsw hb; (try clear hb); (try clear hk)))
 first
 | have _ := y297
   go_roundg k1
   case measure => have := HK1.out; omega
   case rel => exact ⟨(y297), (wrap64 (x8_1 + 1)), sc, H', kk1, ⟨sr HO299⟩, ⟨sk BK290⟩, ⟨sbw⟩⟩
 | go_roundg k1
   case measure => have := HK1.out; omega
   case rel => exact ⟨(x7_1), (wrap64 (x8_1 + 1)), sc, H', kk1, ⟨sr HO_7⟩, ⟨sk BK290⟩, ⟨sbw⟩⟩) : P := h
theorem spec_PiecesIn.calls (k : Nat) (a0_0 : Int) (a0_1 : Int) (a0_2 : Int) (A0_3 : Option Addr) (c0_3 : Nat) (l0_3 : List (S75)) (a1 : Int) (a2 : Int) (r : List Int) (w : World) (hr0_3 : Kd.C k75 w A0_3 l0_3.length l0_3) (hc0_3 : l0_3.length ≤ c0_3) (h : spec_PiecesIn.f k a0_0 a0_1 a0_2 l0_3 a1 a2 = some r) :
    Calls Try.prog 59 #[.agg #[.int .i64 a0_0, .int .i64 a0_1, .int .i64 a0_2, .slice A0_3 l0_3.length c0_3], .int .i64 a1, .int .i64 a2] w fun e w' => ∃ v0_ : Value, e = .returned (v0_) ∧ Kd.R (Kd.int .i64) 3 w' w.heap.size (fun _ => True) v0_ r ∧ Below w.heap.size w w' := by
 have hu49 := Try.underlying49
 have hu72 := Try.underlying72
 have HR0_3 := am hr0_3
 have HC0_3 := am hc0_3
 clear hr0_3 hc0_3
 have HB := am (Below.refl w.heap.size w)
 have H := h; unfold spec_PiecesIn.f at H
 clear h
 obtain ⟨y291, hy291⟩ : ∃ y_ : List Int, y_ = (([] : List Int)) := ⟨_, rfl⟩
 replace H : (spec_PiecesIn.l0 k a1 a2 y291 0 a0_0 a0_1 a0_2 l0_3) = some r := ry hy291 H
 have Ny291 := am hy291
 clear hy291
 have H' := am H
 clear H
 go_enter Try.func59, Try.ntmps59
 go_wp2_with (first | ((with_reducible refine gd 3 rfl ?_); refine bx 3 #[.int .i64 a0_0, .int .i64 a0_1, .int .i64 a0_2, .slice A0_3 l0_3.length c0_3] 49 ?_; intro gb290 hg w4 hbox hb; have GW290 := bz w hg; have GE290 := bz w hg; replace HB := bs hb; have BK290 := am hbox; clear hb hbox hg) | ((with_reducible refine gd 10 rfl ?_); refine Kd.R_lit (Kd.int .i64) _ 3 ?hg (N := 10) ?hd (xs := ([] : List Int)) (inner := []) (ok := fun _ => True) (okp := fun _ => True) ?hr ?hp (fun _ hk => hk) trivial (Below.refl _ _) (Nat.le_refl _) (by simp) ?_; (case hd => rfl); (case hg => rfl); (case hr => first | (go_simp; done) | (go_simp; rfl)); (case hp => exact (Reps.none _ _)); intro v292 w5 ho6 hb hg_ hnew_; clear hg_ hnew_; (first | rw [← Ny291.out] at ho6 | (simp only [Int.reduceToNat] at ho6; rw [← Ny291.out] at ho6)); have HO293 := am (Kd.R_lower ho6 (below_size (sbw))); replace BK290 := bb BK290 hb; replace HB := bsw hb; clear hb ho6))
 go_loopg [7, 8] k (fun kq v7 v8 w' => ∃ (x7_1 : List Int) (x8_1 : Int), v8 = .int .i64 x8_1 ∧ Aside0 (spec_PiecesIn.l0 kq a1 a2 x7_1 x8_1 a0_0 a0_1 a0_2 l0_3 = some r) ∧ Aside0 (kq ≤ k) ∧ Aside0 (Kd.R (Kd.int .i64) 3 w' w.heap.size (fun _ => True) v7 x7_1) ∧ Aside0 (w'.heap[gb290]? = some (.cells #[.int .i64 a0_0, .int .i64 a0_1, .int .i64 a0_2, (.slice A0_3 l0_3.length c0_3)] 49 (0, 0))) ∧ Aside0 (Below w.heap.size w w'))
 case atStart => exact ⟨(y291), (0), sc, H', kk0, ⟨sr HO293⟩, ⟨sk BK290⟩, ⟨sbw⟩⟩
 case round =>
  clear H'
  obtain ⟨x7_1, x8_1, rfl, HA, HK1, HO_7, BK290, HB⟩ := hrel
  cases gk with
  | zero => exact absurd HA.out (by simp [spec_PiecesIn.l0])
  | succ k1 =>
   have H := HA.out
   clear HA
   simp only [spec_PiecesIn.l0] at H
   obtain ⟨-, c7b0, H⟩ | ⟨-, c7b0, H⟩ := ic_ H
   ·obtain ⟨c8b0, H⟩ := id_ H
    obtain ⟨t296, A9, H⟩ := bnd H
    obtain rfl | rfl := tt t296
    ·replace H := ip H
     obtain ⟨-, c11b0, H⟩ | ⟨-, c11b0, H⟩ := ic_ H
     ·obtain ⟨-, c12b0, H⟩ | ⟨-, c12b0, H⟩ := ic_ H
      ·obtain ⟨-, c13b0, H⟩ | ⟨-, c13b0, H⟩ := ic_ H
       ·obtain ⟨LMc14, H⟩ := il_ H
        obtain ⟨y297, hy297⟩ : ∃ y_ : List Int, y_ = (x7_1 ++ [x8_1]) := ⟨_, rfl⟩
        replace H : (spec_PiecesIn.l0 k1 a1 a2 y297 (wrap64 (x8_1 + 1)) a0_0 a0_1 a0_2 l0_3) = some r := ry hy297 H
        have Ny297 := am hy297
        clear hy297
        have H' := am H
        clear H
        obtain ⟨hcz15_0, hcz15_1, hcz15_2, hcz15_3, hfz15_0, hfz15_1, hfz15_2, hfz15_3⟩ := cc4 BK290
        obtain ⟨p294, q294, ad294, A294_2, c294_2, A294_3, c294_3, e294, _, _, _, _, hx294_0, hx294_1, hx294_2, hx294_3, HC294_2, HR294_2, HC294_3, HR294_3⟩ := aT_T75 HR0_3 HB x8_1
        cases e294
        exact e4_2
       ·have H' := am H
        clear H
        obtain ⟨hcz22_0, hcz22_1, hcz22_2, hcz22_3, hfz22_0, hfz22_1, hfz22_2, hfz22_3⟩ := cc4 BK290
        obtain ⟨p294, q294, ad294, A294_2, c294_2, A294_3, c294_3, e294, _, _, _, _, hx294_0, hx294_1, hx294_2, hx294_3, HC294_2, HR294_2, HC294_3, HR294_3⟩ := aT_T75 HR0_3 HB x8_1
        cases e294
        exact e4_2
      ·have H' := am H
       clear H
       obtain ⟨hcz28_0, hcz28_1, hcz28_2, hcz28_3, hfz28_0, hfz28_1, hfz28_2, hfz28_3⟩ := cc4 BK290
       obtain ⟨p294, q294, ad294, A294_2, c294_2, A294_3, c294_3, e294, _, _, _, _, hx294_0, hx294_1, hx294_2, hx294_3, HC294_2, HR294_2, HC294_3, HR294_3⟩ := aT_T75 HR0_3 HB x8_1
       cases e294
       exact e4_2
     ·have H' := am H
      clear H
      obtain ⟨hcz34_0, hcz34_1, hcz34_2, hcz34_3, hfz34_0, hfz34_1, hfz34_2, hfz34_3⟩ := cc4 BK290
      obtain ⟨p294, q294, ad294, A294_2, c294_2, A294_3, c294_3, e294, _, _, _, _, hx294_0, hx294_1, hx294_2, hx294_3, HC294_2, HR294_2, HC294_3, HR294_3⟩ := aT_T75 HR0_3 HB x8_1
      cases e294
      exact e4_2
    ·replace H := im H
     have H' := am H
     clear H
     obtain ⟨hcz39_0, hcz39_1, hcz39_2, hcz39_3, hfz39_0, hfz39_1, hfz39_2, hfz39_3⟩ := cc4 BK290
     obtain ⟨p294, q294, ad294, A294_2, c294_2, A294_3, c294_3, e294, _, _, _, _, hx294_0, hx294_1, hx294_2, hx294_3, HC294_2, HR294_2, HC294_3, HR294_3⟩ := aT_T75 HR0_3 HB x8_1
     cases e294
     exact e4_2
   ·obtain rfl := Option.some.inj H
    obtain ⟨hcz44_0, hcz44_1, hcz44_2, hcz44_3, hfz44_0, hfz44_1, hfz44_2, hfz44_3⟩ := cc4 BK290
    go_wp2
    go_ret
    exact ⟨_, se, sr HO_7, sbw⟩

end Go.Proofs.Ytohbccekdmdmbaa.QFnExactRepairHop
