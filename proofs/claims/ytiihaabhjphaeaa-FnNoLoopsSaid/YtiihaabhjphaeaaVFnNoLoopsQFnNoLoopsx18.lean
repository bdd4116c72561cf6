/- Printed by a program of the session. Conditions: none. (squeezed). -/
import Derived.Test.YtiihaabhjphaeaaVFnNoLoopsQFnNoLoopsx7
namespace Go.Proofs.Ytiihaabhjphaeaa.QFnNoLoops
set_option maxHeartbeats 8000000
set_option maxRecDepth 100000
open Go.RowKit Go.Proofs.YtiihaabhjphaeaaW.PrintWords Go.Proofs.YtiihaabhjphaeaaW.PrintLast Go.Proofs.YtiihaabhjphaeaaW.PrintMore Go.Proofs.Ytiihaabhjphaeaa.Open Go.Proofs.Ytiihaabhjphaeaa.Sq
attribute [local go_sem] max2_int min2_int max_two min_two max_three min_three max_four min_four   -- for this text's walks alone
attribute [local go_sem] isSome_set
set_option linter.unusedVariables false
set_option linter.unusedSimpArgs false

theorem a18_0 {P : Prop} (h : P := by simp only [putAll, Act.put, List.setIfInBounds_toArray, List.set_cons_zero, List.set_cons_succ]) : P := h
def spec_l15Copy.f (a0_0 : Int) (l0_1 : List Int) (l0_2 : List Int) : Option (Int × List Int × List Int) := (some (([] : List Int) : List Int)).bind fun y627 => (if y627.length + l0_1.length < 17592186044416 then ((some (([] : List Int) : List Int)).bind fun y633 => (if y633.length + l0_2.length < 17592186044416 then (some (a0_0, (y627 ++ l0_1), (y633 ++ l0_2))) else (none))) else (none))
def spec_l15Copy.T1 : Bool × List (List Nat × List Nat) := (true, [([], []), ([0], [0]), ([], []), ([], []), ([3], [3]), ([2, 4], [2, 4]), ([], []), ([], []), ([7], [7]), ([6, 8, 5], [6, 8]), ([1, 5, 9], [1, 5, 9]), ([10, 9, 0, 1, 2, 3, 4, 5, 6, 7, 8, 9, 10], [10])])
def spec_l15Copy.B1 : List Nat := [0, 1, 0, 0, 8, 28, 0, 0, 128, 508, 1023, 2047]
theorem spec_l15Copy.tab1 : rtab .any (opsOf Try.f202 1) = spec_l15Copy.T1 := by kernel_rfl
theorem spec_l15Copy.bits1 : waitsOk spec_l15Copy.T1.2 spec_l15Copy.B1 = true := by kernel_rfl
theorem spec_l15Copy.calls (a0_0 : Int) (A0_1 : Option Addr) (c0_1 : Nat) (l0_1 : List Int) (A0_2 : Option Addr) (c0_2 : Nat) (l0_2 : List Int) (r1 : Int) (r2 : List Int) (r3 : List Int) (w : World) (hr0_1 : Kd.C (Kd.int .i64) w A0_1 l0_1.length l0_1) (hc0_1 : l0_1.length ≤ c0_1) (hr0_2 : Kd.C (Kd.int .i64) w A0_2 l0_2.length l0_2) (hc0_2 : l0_2.length ≤ c0_2) (h : spec_l15Copy.f a0_0 l0_1 l0_2 = some (r1, r2, r3)) :
    Calls Try.prog 202 #[.agg #[.int .i64 a0_0, .slice A0_1 l0_1.length c0_1, .slice A0_2 l0_2.length c0_2]] w fun e w' => ∃ v1_ v2_ : Value, e = .returned (.agg #[.int .i64 r1, v1_, v2_]) ∧ Kd.R (Kd.int .i64) 3 w' w.heap.size (fun k_ => some k_ ≠ (v2_ : Value).ownBlock) v1_ r2 ∧ Kd.R (Kd.int .i64) 3 w' w.heap.size (fun k_ => some k_ ≠ (v1_ : Value).ownBlock) v2_ r3 ∧ Below w.heap.size w w' := by
 have hu55 := Try.underlying55
 have HR0_1 := am hr0_1
 have HC0_1 := am hc0_1
 clear hr0_1 hc0_1
 have HR0_2 := am hr0_2
 have HC0_2 := am hc0_2
 clear hr0_2 hc0_2
 have HB := am (Below.refl w.heap.size w)
 have H := h; unfold spec_l15Copy.f at H
 clear h
 obtain ⟨y627, Ny627, H⟩ := iy_ H
 obtain ⟨LMc2, H⟩ := il_ H
 obtain ⟨y630, hy630⟩ : ∃ y_ : List Int, y_ = (y627 ++ l0_1) := ⟨_, rfl⟩
 replace H : ((some (([] : List Int) : List Int)).bind fun y633 => (if y633.length + l0_2.length < 17592186044416 then (some (a0_0, y630, (y633 ++ l0_2))) else (none))) = some (r1, r2, r3) := ry hy630 H
 have Ny630 := am hy630
 clear hy630
 obtain ⟨y633, Ny633, H⟩ := iy_ H
 obtain ⟨LMc3, H⟩ := il_ H
 obtain ⟨y636, hy636⟩ : ∃ y_ : List Int, y_ = (y633 ++ l0_2) := ⟨_, rfl⟩
 replace H : (some (a0_0, y630, y636)) = some (r1, r2, r3) := ry hy636 H
 have Ny636 := am hy636
 clear hy636
 simp only [Option.some.injEq, Prod.mk.injEq] at H
 obtain ⟨rfl, rfl, rfl⟩ := H
 go_enter Try.func202, Try.ntmps202
 try go_wp2_with (first | ((with_reducible refine gd 1 rfl ?_); refine bx 1 #[.int .i64 a0_0, .slice A0_1 l0_1.length c0_1, .slice A0_2 l0_2.length c0_2] 55 ?_; intro gb625 hg w4 hbox hb; have GW625 := bz w hg; have GE625 := bz w hg; replace HB := bs hb; have BK625 := am hbox; clear hb hbox hg) | ((with_reducible refine gd 2 rfl ?_); refine bx 2 #[.int .i64 0, .slice none 0 0, .slice none 0 0] 55 ?_; intro gb626 hg w5 hbox hb; have GW626 := bzw w hg; have GE626 := bzw w hg; replace HB := bsw hb; have BK626 := am hbox; have NB625_626 := nl BK625 hg; have NB626_625 := ng BK625 hg; replace BK625 := bb BK625 hb; clear hb hbox hg))
 replace BK625 := am (blk_drew BK625.out)
 replace BK626 := am (blk_drew BK626.out)
 replace HB := am (below_drew1 HB.out)
 refine start_ (n := 12) (S := fun w' => w'.cell? ⟨gb625, 0, none⟩ = some (.int .i64 a0_0) ∧ w'.cell? ⟨gb625, 1, none⟩ = some (.slice A0_1 l0_1.length c0_1) ∧ w'.cell? ⟨gb625, 2, none⟩ = some (.slice A0_2 l0_2.length c0_2)) (ds := []) #[false, false, false, false, false, false, false, false, false, false, false, false] (by kernel_rfl) rfl rfl ⟨bc0 BK625, bc1 BK625, bc2 BK625⟩ (fun hHeld => ?_); refine with_tabW spec_l15Copy.tab1 spec_l15Copy.bits1 (fun HT_ HW_ => ?_)
 generalize w5.drew = w6 at BK625 BK626 HB hHeld ⊢
 refine put 0 3 (bt 12 1) HT_ ?_
 refine put 3 6 (bt 12 9) HT_ ?_
 refine put 7 10 (bt 12 137) HT_ ?_
 refine tat3 1 4 (bt 12 139) HT_ HW_ hHeld ?_
 refine tat3 4 7 (bt 12 155) HT_ HW_ hHeld ?_
 refine tat3 8 11 (bt 12 411) HT_ HW_ hHeld ?_
 refine join_ (σ := Value × Value × Value) 3 (bt 12 511) (fun s_ => [(5, s_.1), (8, s_.2.1), (9, s_.2.2)]) (fun s_ w' => (w'.cell? ⟨gb625, 0, none⟩ = some (.int .i64 a0_0) ∧ w'.cell? ⟨gb625, 1, none⟩ = some (.slice A0_1 l0_1.length c0_1) ∧ w'.cell? ⟨gb625, 2, none⟩ = some (.slice A0_2 l0_2.length c0_2)) ∧ (Kd.R (Kd.int .i64) 3 w' w.heap.size (fun k_ => some k_ ≠ (s_.2.2 : Value).ownBlock) s_.2.1 y630) ∧ (Kd.R (Kd.int .i64) 3 w' w.heap.size (fun k_ => some k_ ≠ (s_.2.1 : Value).ownBlock) s_.2.2 y633) ∧ (w'.heap[gb625]? = some (.cells #[.int .i64 a0_0, .slice A0_1 l0_1.length c0_1, .slice A0_2 l0_2.length c0_2] 55 (0, 0))) ∧ (w'.heap[gb626]? = some (.cells #[.int .i64 0, .slice none 0 0, .slice none 0 0] 55 (0, 0))) ∧ (Below w.heap.size w w')) ?_ ?_
 rotate_left
 ·intro hCont
  refine two_ (i := 2) (j := 6) (Ni := some 5) (Nj := some 9) (bt 12 415) (bt 12 475) rfl rfl rfl rfl (two_of HT_.out (by kernel_rfl)) (by decide) (by decide) (fun K hK => ?_) (fun K hK => ?_)
  ·skip
   refine Kd.R_lit_step (Kd.int .i64) _ 3 ?hg (N := 5) ?hd (xs := ([] : List Int)) (inner := []) (ok := fun _ => True) (okp := fun _ => True) ?hr ?hp (fun _ hk => hk) trivial (Below.refl _ _) (Nat.le_refl _) (by simp) ?_; (case hd => rfl); (case hg => rfl); (case hr => first | (go_simp; done) | (go_simp; rfl)); (case hp => exact (Reps.none _ _))
   intro v628 w7 ho8 hb hg_ hnew_
   clear hg_ hnew_
   (first | rw [← Ny627.out] at ho8 | (simp only [Int.reduceToNat] at ho8; rw [← Ny627.out] at ho8))
   have HO629 := am (Kd.R_lower ho8 (below_size (sbw)))
   replace BK625 := bb BK625 hb
   replace BK626 := bb BK626 hb
   replace HB := bsw hb
   clear hb ho8
   refine hK.out _ _ ⟨bc0 BK625, bc1 BK625, bc2 BK625⟩ (fun hHeld => ?_)
   clear hK K
   refine nm 5 ?_
   refine two_ (i := 5) (j := 6) (Ni := some 8) (Nj := some 9) (bt 12 447) (bt 12 479) rfl rfl rfl rfl (two_of HT_.out (by kernel_rfl)) (by decide) (by decide) (fun K hK => ?_) (fun K hK => ?_)
   ·skip
    refine Kd.R_append_rows_step (Kd.int .i64) (w0 := w) w.heap.size (by rfl) (.tmp 5) (.tmp 7) 28 3 (.int .i64 0) 8 rfl Try.underlying28 info3 rfl (by decide) (by omega) v628 y627 l0_1 _ _ _ (fun _ => True) (fun _ => False) rfl rfl ?aO ?aR (fun _ _ h => h) (fun _ h => h.elim) ?aF ?aB ?aS ?aL ?_
    (case aR => repeat (first | exact (Kd.C_below HR0_1.out HB.out) | (with_reducible refine Kd.C_alloc ?_ _) | (with_reducible refine Kd.C_drewN ?_ _) | (with_reducible refine Kd.C_drew ?_)))
    (case aB => exact (sbw))
    (case aF => exact (fun _ _ => trivial))
    (case aO => exact (sr HO629))
    (case aS => exact (below_size (sbw)))
    (case aL => have := LMc2.out; omega)
    intro v631 w9 ho hb hg hat
    rw [← Ny630.out] at ho
    replace BK625 := am (blk_grown (g := gb625) (o := .cells #[.int .i64 a0_0, .slice A0_1 l0_1.length c0_1, .slice A0_2 l0_2.length c0_2] 55 (0, 0)) (sk BK625) hg (Kd.R_ne HO629.out BK625.out (by decide)))
    replace BK626 := am (blk_grown (g := gb626) (o := .cells #[.int .i64 0, .slice none 0 0, .slice none 0 0] 55 (0, 0)) (sk BK626) hg (Kd.R_ne HO629.out BK626.out (by decide)))
    replace HB := am hb
    have HO632 := am ho
    clear HO629 ho hb hg hat
    refine hK.out _ _ ⟨bc0 BK625, bc1 BK625, bc2 BK625⟩ (fun hHeld => ?_)
    clear hK K
    refine nm 8 ?_
    refine on 6 9 (bt 12 511) HT_ (fun K hK => ?_)
    refine Kd.R_lit_step (Kd.int .i64) _ 3 ?hg (N := 9) ?hd (xs := ([] : List Int)) (inner := []) (ok := fun _ => True) (okp := fun _ => True) ?hr ?hp (fun _ hk => hk) trivial (Below.refl _ _) (Nat.le_refl _) (by simp) ?_; (case hd => rfl); (case hg => rfl); (case hr => first | (go_simp; done) | (go_simp; rfl)); (case hp => exact (Reps.none _ _))
    intro v634 w10 ho11 hb hg_ hnew_
    clear hg_ hnew_
    (first | rw [← Ny633.out] at ho11 | (simp only [Int.reduceToNat] at ho11; rw [← Ny633.out] at ho11))
    have HO635 := am (Kd.R_lower (Kd.R_new' ho11 (Kd.R_lt (sr HO632))) (below_size (sbw)))
    replace HO632 := am (Kd.R_elder' (sr HO632) (Kd.R_base ho11) hb)
    replace BK625 := bb BK625 hb
    replace BK626 := bb BK626 hb
    replace HB := bsw hb
    clear hb ho11
    refine hK.out _ _ ⟨bc0 BK625, bc1 BK625, bc2 BK625⟩ (fun hHeld => ?_)
    clear hK K
    refine nm 9 ?_
    exact norm_ a18_0 (hCont (v628, v631, v634) _ ⟨hHeld, (by exact rm HO632 (fun _ hk => hk.2)), (by exact rm HO635 (fun _ hk => hk.2)), (sk BK625), (sk BK626), (sbw)⟩)
   ·skip
    refine Kd.R_lit_step (Kd.int .i64) _ 3 ?hg (N := 9) ?hd (xs := ([] : List Int)) (inner := []) (ok := fun _ => True) (okp := fun _ => True) ?hr ?hp (fun _ hk => hk) trivial (Below.refl _ _) (Nat.le_refl _) (by simp) ?_; (case hd => rfl); (case hg => rfl); (case hr => first | (go_simp; done) | (go_simp; rfl)); (case hp => exact (Reps.none _ _))
    intro v634 w9 ho10 hb hg_ hnew_
    clear hg_ hnew_
    (first | rw [← Ny633.out] at ho10 | (simp only [Int.reduceToNat] at ho10; rw [← Ny633.out] at ho10))
    have HO635 := am (Kd.R_lower (Kd.R_new' ho10 (Kd.R_lt (sr HO629))) (below_size (sbw)))
    replace HO629 := am (Kd.R_elder' (sr HO629) (Kd.R_base ho10) hb)
    replace BK625 := bb BK625 hb
    replace BK626 := bb BK626 hb
    replace HB := bsw hb
    clear hb ho10
    refine hK.out _ _ ⟨bc0 BK625, bc1 BK625, bc2 BK625⟩ (fun hHeld => ?_)
    clear hK K
    refine nm 9 ?_
    refine on 5 8 (bt 12 511) HT_ (fun K hK => ?_)
    refine Kd.R_append_rows_step (Kd.int .i64) (w0 := w) w.heap.size (by rfl) (.tmp 5) (.tmp 7) 28 3 (.int .i64 0) 8 rfl Try.underlying28 info3 rfl (by decide) (by omega) v628 y627 l0_1 _ _ _ (fun k_ => some k_ ≠ (v634 : Value).ownBlock) (fun _ => False) rfl rfl ?aO ?aR (fun _ _ h => h) (fun _ h => h.elim) ?aF ?aB ?aS ?aL ?_
    (case aR => repeat (first | exact (Kd.C_below HR0_1.out HB.out) | (with_reducible refine Kd.C_alloc ?_ _) | (with_reducible refine Kd.C_drewN ?_ _) | (with_reducible refine Kd.C_drew ?_)))
    (case aB => exact (sbw))
    (case aF => exact (fun k_ hk => Kd.fresh' (Kd.R_lt (sr HO635)) k_ hk))
    (case aO => exact (by exact rm HO629 (fun _ hk => hk.2)))
    (case aS => exact (below_size (sbw)))
    (case aL => have := LMc2.out; omega)
    intro v631 w11 ho hb hg hat
    rw [← Ny630.out] at ho
    replace BK625 := am (blk_grown (g := gb625) (o := .cells #[.int .i64 a0_0, .slice A0_1 l0_1.length c0_1, .slice A0_2 l0_2.length c0_2] 55 (0, 0)) (sk BK625) hg (Kd.R_ne HO629.out BK625.out (by decide)))
    replace BK626 := am (blk_grown (g := gb626) (o := .cells #[.int .i64 0, .slice none 0 0, .slice none 0 0] 55 (0, 0)) (sk BK626) hg (Kd.R_ne HO629.out BK626.out (by decide)))
    replace HO635 := am (Kd.R_after (ok := (fun _ => True)) (sr HO635) hg hat)
    replace HB := am hb
    have HO632 := am ho
    clear HO629 ho hb hg hat
    refine hK.out _ _ ⟨bc0 BK625, bc1 BK625, bc2 BK625⟩ (fun hHeld => ?_)
    clear hK K
    refine nm 8 ?_
    exact norm_ a18_0 (hCont (v628, v631, v634) _ ⟨hHeld, (sr HO632), (by exact rm HO635 (fun _ hk => hk.2)), (sk BK625), (sk BK626), (sbw)⟩)
  ·skip
   refine Kd.R_lit_step (Kd.int .i64) _ 3 ?hg (N := 9) ?hd (xs := ([] : List Int)) (inner := []) (ok := fun _ => True) (okp := fun _ => True) ?hr ?hp (fun _ hk => hk) trivial (Below.refl _ _) (Nat.le_refl _) (by simp) ?_; (case hd => rfl); (case hg => rfl); (case hr => first | (go_simp; done) | (go_simp; rfl)); (case hp => exact (Reps.none _ _))
   intro v634 w7 ho8 hb hg_ hnew_
   clear hg_ hnew_
   (first | rw [← Ny633.out] at ho8 | (simp only [Int.reduceToNat] at ho8; rw [← Ny633.out] at ho8))
   have HO635 := am (Kd.R_lower ho8 (below_size (sbw)))
   replace BK625 := bb BK625 hb
   replace BK626 := bb BK626 hb
   replace HB := bsw hb
   clear hb ho8
   refine hK.out _ _ ⟨bc0 BK625, bc1 BK625, bc2 BK625⟩ (fun hHeld => ?_)
   clear hK K
   refine nm 9 ?_
   refine on 2 5 (bt 12 479) HT_ (fun K hK => ?_)
   refine Kd.R_lit_step (Kd.int .i64) _ 3 ?hg (N := 5) ?hd (xs := ([] : List Int)) (inner := []) (ok := fun _ => True) (okp := fun _ => True) ?hr ?hp (fun _ hk => hk) trivial (Below.refl _ _) (Nat.le_refl _) (by simp) ?_; (case hd => rfl); (case hg => rfl); (case hr => first | (go_simp; done) | (go_simp; rfl)); (case hp => exact (Reps.none _ _))
   intro v628 w9 ho10 hb hg_ hnew_
   clear hg_ hnew_
   (first | rw [← Ny627.out] at ho10 | (simp only [Int.reduceToNat] at ho10; rw [← Ny627.out] at ho10))
   have HO629 := am (Kd.R_lower (Kd.R_new' ho10 (Kd.R_lt (sr HO635))) (below_size (sbw)))
   replace HO635 := am (Kd.R_elder' (sr HO635) (Kd.R_base ho10) hb)
   replace BK625 := bb BK625 hb
   replace BK626 := bb BK626 hb
   replace HB := bsw hb
   clear hb ho10
   refine hK.out _ _ ⟨bc0 BK625, bc1 BK625, bc2 BK625⟩ (fun hHeld => ?_)
   clear hK K
   refine nm 5 ?_
   refine on 5 8 (bt 12 511) HT_ (fun K hK => ?_)
   refine Kd.R_append_rows_step (Kd.int .i64) (w0 := w) w.heap.size (by rfl) (.tmp 5) (.tmp 7) 28 3 (.int .i64 0) 8 rfl Try.underlying28 info3 rfl (by decide) (by omega) v628 y627 l0_1 _ _ _ (fun k_ => some k_ ≠ (v634 : Value).ownBlock) (fun _ => False) rfl rfl ?aO ?aR (fun _ _ h => h) (fun _ h => h.elim) ?aF ?aB ?aS ?aL ?_
   (case aR => repeat (first | exact (Kd.C_below HR0_1.out HB.out) | (with_reducible refine Kd.C_alloc ?_ _) | (with_reducible refine Kd.C_drewN ?_ _) | (with_reducible refine Kd.C_drew ?_)))
   (case aB => exact (sbw))
   (case aF => exact (fun k_ hk => Kd.fresh' (Kd.R_lt (sr HO635)) k_ hk))
   (case aO => exact (by exact rm HO629 (fun _ hk => hk.2)))
   (case aS => exact (below_size (sbw)))
   (case aL => have := LMc2.out; omega)
   intro v631 w11 ho hb hg hat
   rw [← Ny630.out] at ho
   replace BK625 := am (blk_grown (g := gb625) (o := .cells #[.int .i64 a0_0, .slice A0_1 l0_1.length c0_1, .slice A0_2 l0_2.length c0_2] 55 (0, 0)) (sk BK625) hg (Kd.R_ne HO629.out BK625.out (by decide)))
   replace BK626 := am (blk_grown (g := gb626) (o := .cells #[.int .i64 0, .slice none 0 0, .slice none 0 0] 55 (0, 0)) (sk BK626) hg (Kd.R_ne HO629.out BK626.out (by decide)))
   replace HO635 := am (Kd.R_after (ok := (fun _ => True)) (sr HO635) hg hat)
   replace HB := am hb
   have HO632 := am ho
   clear HO629 ho hb hg hat
   refine hK.out _ _ ⟨bc0 BK625, bc1 BK625, bc2 BK625⟩ (fun hHeld => ?_)
   clear hK K
   refine nm 8 ?_
   exact norm_ a18_0 (hCont (v628, v631, v634) _ ⟨hHeld, (sr HO632), (by exact rm HO635 (fun _ hk => hk.2)), (sk BK625), (sk BK626), (sbw)⟩)
 rintro ⟨v628, v631, v634⟩ w12 ⟨hS_, h0_, h1_, h2_, h3_, h4_⟩
 have HO632 : Aside0 (Kd.R (Kd.int .i64) 3 w12 w.heap.size (fun k_ => some k_ ≠ (v634 : Value).ownBlock) v631 y630) := ⟨h0_⟩
 have HO635 : Aside0 (Kd.R (Kd.int .i64) 3 w12 w.heap.size (fun k_ => some k_ ≠ (v631 : Value).ownBlock) v634 y633) := ⟨h1_⟩
 replace BK625 : Aside0 (w12.heap[gb625]? = some (.cells #[.int .i64 a0_0, .slice A0_1 l0_1.length c0_1, .slice A0_2 l0_2.length c0_2] 55 (0, 0))) := ⟨h2_⟩
 replace BK626 : Aside0 (w12.heap[gb626]? = some (.cells #[.int .i64 0, .slice none 0 0, .slice none 0 0] 55 (0, 0))) := ⟨h3_⟩
 replace HB : Aside0 (Below w.heap.size w w12) := ⟨h4_⟩
 clear h0_ h1_ h2_ h3_ h4_
 have hHeld : w12.cell? ⟨gb625, 0, none⟩ = some (.int .i64 a0_0) ∧ w12.cell? ⟨gb625, 1, none⟩ = some (.slice A0_1 l0_1.length c0_1) ∧ w12.cell? ⟨gb625, 2, none⟩ = some (.slice A0_2 l0_2.length c0_2) := hS_
 refine norm_ (a' := ?_) ?_ ?_
 rotate_left
 ·simp only [putAll, Act.put, List.setIfInBounds_toArray, List.set_cons_zero, List.set_cons_succ]
  rfl
 refine on 9 12 (bt 12 1023) HT_ (fun K hK => ?_)
 refine Kd.R_append_rows_step (Kd.int .i64) (w0 := w) w.heap.size (by rfl) (.tmp 9) (.tmp 11) 28 3 (.int .i64 0) 8 rfl Try.underlying28 info3 rfl (by decide) (by omega) v634 y633 l0_2 _ _ _ (fun k_ => some k_ ≠ (v631 : Value).ownBlock) (fun _ => False) rfl rfl ?aO ?aR (fun _ _ h => h) (fun _ h => h.elim) ?aF ?aB ?aS ?aL ?_
 (case aR => repeat (first | exact (Kd.C_below HR0_2.out HB.out) | (with_reducible refine Kd.C_alloc ?_ _) | (with_reducible refine Kd.C_drewN ?_ _) | (with_reducible refine Kd.C_drew ?_)))
 (case aB => exact (sbw))
 (case aF => exact (fun k_ hk => Kd.fresh' (Kd.R_lt (sr HO632)) k_ hk))
 (case aO => exact (sr HO635))
 (case aS => exact (below_size (sbw)))
 (case aL => have := LMc3.out; omega)
 intro v637 w13 ho hb hg hat
 rw [← Ny636.out] at ho
 replace BK625 := am (blk_grown (g := gb625) (o := .cells #[.int .i64 a0_0, .slice A0_1 l0_1.length c0_1, .slice A0_2 l0_2.length c0_2] 55 (0, 0)) (sk BK625) hg (Kd.R_ne HO635.out BK625.out (by decide)))
 replace BK626 := am (blk_grown (g := gb626) (o := .cells #[.int .i64 0, .slice none 0 0, .slice none 0 0] 55 (0, 0)) (sk BK626) hg (Kd.R_ne HO635.out BK626.out (by decide)))
 replace HO632 := am (Kd.R_after (ok := (fun _ => True)) (by exact rm HO632 (fun _ hk => ⟨trivial, hk⟩)) hg hat)
 replace HB := am hb
 have HO638 := am ho
 clear HO635 ho hb hg hat
 obtain ⟨Ao14, co14, eo14⟩ := Kd.R_slice HO638.out
 (first | subst eo14 | (injection eo14 with f1_ f2_ f3_; have f4_ := f1_.symm; have f5_ := f3_.symm; clear f1_ f2_ f3_; subst f4_; subst f5_))
 obtain ⟨Ao15, co15, eo15⟩ := Kd.R_slice HO632.out
 (first | subst eo15 | (injection eo15 with f1_ f2_ f3_; have f4_ := f1_.symm; have f5_ := f3_.symm; clear f1_ f2_ f3_; subst f4_; subst f5_))
 refine hK.out _ _ ⟨bc0 BK625, bc1 BK625, bc2 BK625⟩ (fun hHeld => ?_)
 clear hK K
 refine nm 12 ?_
 refine put 10 13 (bt 12 2047) HT_ ?_
 refine one_ (i := 11) (N := none) (bt 12 4095) rfl rfl (one_of HT_.out (by kernel_rfl)) (by decide) (fun K hK => ?_)
 obtain ⟨hs16, hfs16⟩ := cc1 BK626
 have hns16_0 := NB625_626.out
 have hms16_0 := NB626_625.out
 have hs17 := bc1 BK626
 have hfs17 := bf BK626 1
 have hns17_0 := NB625_626.out
 have hms17_0 := NB626_625.out
 have hs18 := bc2 BK626
 have hfs18 := bf BK626 2
 have hns18_0 := NB625_626.out
 have hms18_0 := NB626_625.out
 refine skip_ (w1 := ?_) (by rfl) rfl ?_ ?_
 rotate_left
 ·go_simp
  rfl
 refine hK.out _ _ ⟨((cell_far (p := ⟨gb626, _, none⟩) NB625_626.out _).trans (((cell_far (p := ⟨gb626, _, none⟩) NB625_626.out _).trans (((cell_far (p := ⟨gb626, _, none⟩) NB625_626.out _).trans (hHeld.1)))))), ((cell_far (p := ⟨gb626, _, none⟩) NB625_626.out _).trans (((cell_far (p := ⟨gb626, _, none⟩) NB625_626.out _).trans (((cell_far (p := ⟨gb626, _, none⟩) NB625_626.out _).trans (hHeld.2.1)))))), ((cell_far (p := ⟨gb626, _, none⟩) NB625_626.out _).trans (((cell_far (p := ⟨gb626, _, none⟩) NB625_626.out _).trans (((cell_far (p := ⟨gb626, _, none⟩) NB625_626.out _).trans (hHeld.2.2))))))⟩ (fun hHeld => ?_)
 clear hK K
 refine done_ (done_of HT_.out (by kernel_rfl)) ?_
 try go_wp2
 refine bodyPost_ret (results_cell_row rfl _ _ gb626 55 #[.int .i64 a0_0, .slice Ao15 y630.length co15, .slice Ao14 y636.length co14] (0, 0) _ rfl (sp BK626) Try.underlying55 rfl (by kernel_rfl)) rfl ?_
 exact ⟨_, _, se, by (with_reducible repeat (first | apply Kd.R_alloc | apply Kd.R_drewN | apply Kd.R_drew)); exact Kd.R_mono (h3 HO632 BK626) (fun _ hk => hk.1.2), by (with_reducible repeat (first | apply Kd.R_alloc | apply Kd.R_drewN | apply Kd.R_drew)); exact Kd.R_mono (h3 HO638 BK626) (fun _ hk => hk.1), sbw⟩

def spec_TableIn.f (a0_0 : Int) (a0_1 : Int) (a0_2 : Int) (l0_3 : List (S105)) (a1 : Int) (a2 : Int) : Option (Int × List Int × List Int × Bool) := (spec_l1In.f a1 0 (wrap64 ((l0_3.length : Int) - 1))).bind fun t641 => (if t641 = true then (if 0 ≤ a1 then (if a1 < (l0_3.length : Int) then ((spec_l1In.f a2 0 (wrap64 ((((rd_T105 l0_3 a1).f2).length : Int) - 1))).bind fun t643 => (if t643 = true then (if 0 ≤ a2 then (if a2 < (((rd_T105 l0_3 a1).f2).length : Int) then ((spec_l15Copy.f ((rd_T55 ((rd_T105 l0_3 a1).f2) a2).f0) ((rd_T55 ((rd_T105 l0_3 a1).f2) a2).f1) ((rd_T55 ((rd_T105 l0_3 a1).f2) a2).f2)).bind fun bt646 => (some (bt646.1, bt646.2.1, bt646.2.2, true))) else (none)) else (none)) else (some (0, ([] : List Int), ([] : List Int), false)))) else (none)) else (none)) else (some (0, ([] : List Int), ([] : List Int), false)))
theorem e18_0 {P : Prop} (h : P := by
 go_enter Try.func173, Try.ntmps173
 go_wp2_with (first | ((with_reducible refine gd 3 rfl ?_); (try (refine gate_guard (by rfl) ?_; dsimp only)); refine bx 3 #[.int .i64 a0_0, .int .i64 a0_1, .int .i64 a0_2, .slice A0_3 l0_3.length c0_3] 31 ?_; intro gb639 hg w13 hbox hb; have GW639 := bz w hg; have GE639 := bz w hg; replace HB := bs hb; have BK639 := am hbox; clear hb hbox hg) | ((with_reducible refine gd 6 rfl ?_); (try (refine gate_guard (by rfl) ?_; dsimp only)); refine bx 6 #[.int .i64 0, .slice none 0 0, .slice none 0 0] 55 ?_; intro gb640 hg w14 hbox hb; have GW640 := bzw w hg; have GE640 := bzw w hg; replace HB := bsw hb; have BK640 := am hbox; have NB639_640 := nl BK639 hg; have NB640_639 := ng BK639 hg; replace BK639 := bb BK639 hb; clear hb hbox hg; have hnb15 := NB639_640.out; have hnc15 := NB640_639.out; obtain ⟨hcz16_0, hcz16_1, hcz16_2, hcz16_3, hfz16_0, hfz16_1, hfz16_2, hfz16_3⟩ := cc4 BK639) | (have _ := A8; (with_reducible refine gc 85 rfl ?_); refine gL (some 13) Try.func85 #[.int .i64 a1, .int .i64 0, .int .i64 (wrap64 ((l0_3.length : Int) - 1))] ?_; (with_reducible refine (spec_l1In.calls a1 0 (wrap64 ((l0_3.length : Int) - 1)) true _ A4.out).mono ?_); rintro e w' ⟨rfl, ⟨nd, rfl⟩⟩; refine ⟨_, rfl, ?_⟩; obtain ⟨p642, q642, ad642, A642_2, c642_2, A642_3, c642_3, e642, _, _, _, _, hx642_0, hx642_1, hx642_2, hx642_3, HC642_2, HR642_2, HC642_3, HR642_3⟩ := aT_T105 HR0_3 HB a1; cases e642) | (have _ := A12; go_at_call 85; (try simp only [i64_w, i32_w]); (with_reducible refine (spec_l1In.calls a2 0 (wrap64 ((((rd_T105 l0_3 a1).f2).length : Int) - 1)) true _ A8.out).mono ?_); rintro e w' ⟨rfl, ⟨nd, rfl⟩⟩; obtain ⟨p644, q644, ad644, A644_2, c644_2, A644_3, c644_3, e644, _, _, _, _, hx644_0, hx644_1, hx644_2, hx644_3, HC644_2, HR644_2, HC644_3, HR644_3⟩ := aT_T105 HR0_3 HB a1; obtain rfl : ad642 = ad644 := (by injection e644); have ea_ := Option.some.inj (hx642_2.symm.trans hx644_2); injection ea_ with ea_ en_ ec_; subst ea_; subst ec_; clear en_; have ea_ := Option.some.inj (hx642_3.symm.trans hx644_3); injection ea_ with ea_ en_ ec_; subst ea_; subst ec_; clear en_; obtain ⟨p645, q645, ad645, A645_1, c645_1, A645_2, c645_2, e645, _, _, _, hx645_0, hx645_1, hx645_2, HC645_1, HR645_1, HC645_2, HR645_2⟩ := aT_T55 HR644_3 HB a2; cases e645) | (have _ := A12; (with_reducible refine gc 202 rfl ?_); refine gL (some 38) Try.func202 #[.agg #[.int .i64 ((rd_T55 ((rd_T105 l0_3 a1).f2) a2).f0), .slice A645_1 ((rd_T55 ((rd_T105 l0_3 a1).f2) a2).f1).length c645_1, .slice A645_2 ((rd_T55 ((rd_T105 l0_3 a1).f2) a2).f2).length c645_2]] ?_; (with_reducible refine (spec_l15Copy.calls ((rd_T55 ((rd_T105 l0_3 a1).f2) a2).f0) _ _ ((rd_T55 ((rd_T105 l0_3 a1).f2) a2).f1) _ _ ((rd_T55 ((rd_T105 l0_3 a1).f2) a2).f2) t646 t647 t650 _ ?side1 ?side2 ?side3 ?side4 A12.out).mono ?_); (case side1 => exact cb HR645_1); (case side2 => exact HC645_1.out); (case side3 => exact cb HR645_2); (case side4 => exact HC645_2.out); rintro e w17 ⟨v648, v651, rfl, ho0, ho1, hb⟩; refine ⟨_, rfl, ?_⟩; have HO649 := am (Kd.R_lower ho0 (below_size (sbw))); have HO652 := am (Kd.R_lower ho1 (below_size (sbw))); replace BK639 := bb BK639 hb; replace BK640 := bb BK640 hb; replace HB := bsw hb; (try clear hb); (try clear ho0); (try clear ho1); obtain ⟨hcz18_0, hcz18_1, hcz18_2, hfz18_0, hfz18_1, hfz18_2⟩ := cc3 BK640; obtain ⟨Ao19, co19, eo19⟩ := Kd.R_slice HO649.out; subst eo19; obtain ⟨Ao20, co20, eo20⟩ := Kd.R_slice HO652.out; subst eo20) | (have _ := A8; go_at_call 85; (try simp only [i64_w, i32_w]); (with_reducible refine (spec_l1In.calls a2 0 (wrap64 ((((rd_T105 l0_3 a1).f2).length : Int) - 1)) false _ A8.out).mono ?_); rintro e w' ⟨rfl, ⟨nd, rfl⟩⟩; obtain ⟨hcz25_0, hcz25_1, hcz25_2, hfz25_0, hfz25_1, hfz25_2⟩ := cc3 BK640) | ((with_reducible refine gc 85 rfl ?_); refine gL (some 13) Try.func85 #[.int .i64 a1, .int .i64 0, .int .i64 (wrap64 ((l0_3.length : Int) - 1))] ?_; (with_reducible refine (spec_l1In.calls a1 0 (wrap64 ((l0_3.length : Int) - 1)) false _ A4.out).mono ?_); rintro e w' ⟨rfl, ⟨nd, rfl⟩⟩; refine ⟨_, rfl, ?_⟩; obtain ⟨hcz30_0, hcz30_1, hcz30_2, hfz30_0, hfz30_1, hfz30_2⟩ := cc3 BK640))
 first
 | have _ := A12
   refine bodyPost_ret (results_ct rfl _ _ gb640 55 #[.int .i64 t646, .slice Ao19 t647.length co19, .slice Ao20 t650.length co20] (0, 0) _ rfl (sp BK640) Try.underlying55 rfl (by kernel_rfl)) rfl ?_
   exact ⟨_, _, se, by (with_reducible repeat (first | apply Kd.R_alloc | apply Kd.R_drewN | apply Kd.R_drew)); exact Kd.R_mono (h3 HO649 BK640) (fun _ hk => hk.1), by (with_reducible repeat (first | apply Kd.R_alloc | apply Kd.R_drewN | apply Kd.R_drew)); exact Kd.R_mono (h3 HO652 BK640) (fun _ hk => hk.1), sbw⟩
 | have _ := A8
   refine bodyPost_ret (results_ct rfl _ _ gb640 55 #[.int .i64 0, .slice none 0 0, .slice none 0 0] (0, 0) _ rfl (sp BK640) Try.underlying55 rfl (by kernel_rfl)) rfl ?_
   exact ⟨_, _, se, sn, sn, sbw⟩
 | refine bodyPost_ret (results_ct rfl _ _ gb640 55 #[.int .i64 0, .slice none 0 0, .slice none 0 0] (0, 0) _ rfl (sp BK640) Try.underlying55 rfl (by kernel_rfl)) rfl ?_
   exact ⟨_, _, se, sn, sn, sbw⟩
   ) : P := h
theorem spec_TableIn.calls (a0_0 : Int) (a0_1 : Int) (a0_2 : Int) (A0_3 : Option Addr) (c0_3 : Nat) (l0_3 : List (S105)) (a1 : Int) (a2 : Int) (r1 : Int) (r2 : List Int) (r3 : List Int) (r4 : Bool) (w : World) (hr0_3 : Kd.C k105 w A0_3 l0_3.length l0_3) (hc0_3 : l0_3.length ≤ c0_3) (h : spec_TableIn.f a0_0 a0_1 a0_2 l0_3 a1 a2 = some (r1, r2, r3, r4)) :
    Calls Try.prog 173 #[.agg #[.int .i64 a0_0, .int .i64 a0_1, .int .i64 a0_2, .slice A0_3 l0_3.length c0_3], .int .i64 a1, .int .i64 a2] w fun e w' => ∃ v1_ v2_ : Value, e = .returned (.tuple #[.agg #[.int .i64 r1, v1_, v2_], .bool r4]) ∧ Kd.R (Kd.int .i64) 3 w' w.heap.size (fun k_ => some k_ ≠ (v2_ : Value).ownBlock) v1_ r2 ∧ Kd.R (Kd.int .i64) 3 w' w.heap.size (fun k_ => some k_ ≠ (v1_ : Value).ownBlock) v2_ r3 ∧ Below w.heap.size w w' := by
 have hu31 := Try.underlying31
 have hu55 := Try.underlying55
 have HR0_3 := am hr0_3
 have HC0_3 := am hc0_3
 clear hr0_3 hc0_3
 have HB := am (Below.refl w.heap.size w)
 have H := h; unfold spec_TableIn.f at H
 clear h
 obtain ⟨t641, A4, H⟩ := bnd H
 obtain rfl | rfl := tt t641
 ·replace H := ip H
  obtain ⟨c6b0, H⟩ := id_ H
  obtain ⟨c7b0, H⟩ := id_ H
  obtain ⟨t643, A8, H⟩ := bnd H
  obtain rfl | rfl := tt t643
  ·replace H := ip H
   obtain ⟨c10b0, H⟩ := id_ H
   obtain ⟨c11b0, H⟩ := id_ H
   obtain ⟨⟨t646, t647, t650⟩, A12, H⟩ := bnd H
   try dsimp only at H
   simp only [Option.some.injEq, Prod.mk.injEq] at H
   obtain ⟨rfl, rfl, rfl, rfl⟩ := H
   exact e18_0
  ·replace H := im H
   simp only [Option.some.injEq, Prod.mk.injEq] at H
   obtain ⟨rfl, rfl, rfl, rfl⟩ := H
   exact e18_0
 ·replace H := im H
  simp only [Option.some.injEq, Prod.mk.injEq] at H
  obtain ⟨rfl, rfl, rfl, rfl⟩ := H
  exact e18_0
def spec_l18Size.l0 : Nat → List (List Int) → Int → Int → Option (Int)
  | 0, _, _, _ => none
  | k + 1, x0, x3, x4 => if x4 < (x0.length : Int) then (if 0 ≤ x4 then ((spec_Max.f x3 ((rd_L2 x0 x4).length : Int)).bind fun t654 => (spec_l18Size.l0 k x0 t654 (wrap64 (x4 + 1)))) else (none)) else (some x3)
def spec_l18Size.f (k : Nat) (l0 : List (List Int)) : Option (Int) := spec_l18Size.l0 k l0 0 0
theorem spec_l18Size.mono_l : ∀ k, (∀ y0 y1 y2, LeO (spec_l18Size.l0 k y0 y1 y2) (spec_l18Size.l0 (k + 1) y0 y1 y2))
  | 0 => fun _ _ _ r h => by simp [spec_l18Size.l0] at h
  | k + 1 => by
    have ih0 := spec_l18Size.mono_l k
    · intro y0 y1 y2
      unfold spec_l18Size.l0
      exact mo
theorem spec_l18Size.mono : ∀ a0 k, LeO (spec_l18Size.f k a0) (spec_l18Size.f (k + 1) a0) := by
  intro a0 k
  have ih0 := spec_l18Size.mono_l k
  unfold spec_l18Size.f
  exact mo
theorem spec_l18Size.calls (k : Nat) (A0 : Option Addr) (c0 : Nat) (l0 : List (List Int)) (r : Int) (w : World) (hr0 : Kd.C (Kd.slice 3 (Kd.int .i64)) w A0 l0.length l0) (hc0 : l0.length ≤ c0) (h : spec_l18Size.f k l0 = some r) :
    Calls Try.prog 203 #[.slice A0 l0.length c0] w fun e w' => e = .returned (.int .i64 r) ∧ Drawn0 w w' := by
 have HR0 := am hr0
 have HC0 := am hc0
 clear hr0 hc0
 have H := h; unfold spec_l18Size.f at H
 clear h
 have H' := am H
 clear H
 go_enter Try.func203, Try.ntmps203
 go_wp2
 go_loopg [3, 4] k (fun kq v3 v4 w' => ∃ (x3_1 : Int) (x4_1 : Int), v3 = .int .i64 x3_1 ∧ v4 = .int .i64 x4_1 ∧ Aside0 (spec_l18Size.l0 kq l0 x3_1 x4_1 = some r) ∧ Aside0 (kq ≤ k) ∧ Drawn0 w w')
 case atStart => exact ⟨(0), (0), sc, sc, H', kk0, sd⟩
 case round =>
  clear H'
  obtain ⟨x3_1, x4_1, rfl, rfl, HA, HK1, ⟨m1, rfl⟩⟩ := hrel
  cases gk with
  | zero => exact absurd HA.out (by simp [spec_l18Size.l0])
  | succ k1 =>
   have H := HA.out
   clear HA
   simp only [spec_l18Size.l0] at H
   obtain ⟨-, c2b0, H⟩ | ⟨-, c2b0, H⟩ := ic_ H
   ·obtain ⟨c3b0, H⟩ := id_ H
    obtain ⟨t654, A4, H⟩ := bnd H
    have H' := am H
    clear H
    have p653 : 0 ≤ (x4_1 : Int) := sa
    have q653 : x4_1 < (l0.length : Int) := sa
    obtain ⟨ad653, A653_0, c653_0, e653, hx653_0, hl653_0, hi653_0⟩ := at_L2 HR0.out x4_1 p653 q653
    cases e653
    have HR653_0 := am hi653_0
    have HC653_0 := am hl653_0
    clear hi653_0 hl653_0
    replace p653 := eq_true p653
    replace q653 := eq_true q653
    go_wp2_with (first | ((with_reducible refine gc 138 rfl ?_); refine gL (some 17) Try.func138 #[.int .i64 x3_1, .int .i64 ((rd_L2 l0 x4_1).length : Int)] ?_; (with_reducible refine (spec_Max.calls x3_1 ((rd_L2 l0 x4_1).length : Int) t654 _ A4.out).mono ?_); rintro e w' ⟨rfl, ⟨nd, rfl⟩⟩; refine ⟨_, rfl, ?_⟩))
    go_roundg k1
    case measure => have := HK1.out; omega
    case rel => exact ⟨(t654), (wrap64 (x4_1 + 1)), sc, sc, H', kk1, sd⟩
   ·obtain rfl := Option.some.inj H
    go_wp2
    go_ret
    exact ⟨sc, sd⟩

def spec_l15Has.l0 : Nat → List Int → Int → Int → Option (Bool)
  | 0, _, _, _ => none
  | k + 1, x0, x1, x5 => if x5 < (x0.length : Int) then (if 0 ≤ x5 then (if (rd x0 x5) = x1 then (some true) else (spec_l15Has.l0 k x0 x1 (wrap64 (x5 + 1)))) else (none)) else (some false)
def spec_l15Has.f (k : Nat) (l0 : List Int) (a1 : Int) : Option (Bool) := spec_l15Has.l0 k l0 a1 0
theorem spec_l15Has.mono_l : ∀ k, (∀ y0 y1 y2, LeO (spec_l15Has.l0 k y0 y1 y2) (spec_l15Has.l0 (k + 1) y0 y1 y2))
  | 0 => fun _ _ _ r h => by simp [spec_l15Has.l0] at h
  | k + 1 => by
    have ih0 := spec_l15Has.mono_l k
    · intro y0 y1 y2
      unfold spec_l15Has.l0
      exact mo
theorem spec_l15Has.mono : ∀ a0 a1 k, LeO (spec_l15Has.f k a0 a1) (spec_l15Has.f (k + 1) a0 a1) := by
  intro a0 a1 k
  have ih0 := spec_l15Has.mono_l k
  unfold spec_l15Has.f
  exact mo
theorem spec_l15Has.calls (k : Nat) (A0 : Option Addr) (c0 : Nat) (l0 : List Int) (a1 : Int) (r : Bool) (w : World) (hr0 : Kd.C (Kd.int .i64) w A0 l0.length l0) (hc0 : l0.length ≤ c0) (h : spec_l15Has.f k l0 a1 = some r) :
    Calls Try.prog 205 #[.slice A0 l0.length c0, .int .i64 a1] w fun e w' => e = .returned (.bool r) ∧ Drawn0 w w' := by
 have HR0 := am hr0
 have HC0 := am hc0
 clear hr0 hc0
 have H := h; unfold spec_l15Has.f at H
 clear h
 have H' := am H
 clear H
 go_enter Try.func205, Try.ntmps205
 go_wp2
 go_loopg [5] k (fun kq v5 w' => ∃ (x5_1 : Int), v5 = .int .i64 x5_1 ∧ Aside0 (spec_l15Has.l0 kq l0 a1 x5_1 = some r) ∧ Aside0 (kq ≤ k) ∧ Drawn0 w w')
 case atStart => exact ⟨(0), sc, H', kk0, sd⟩
 case round =>
  clear H'
  obtain ⟨x5_1, rfl, HA, HK1, ⟨m1, rfl⟩⟩ := hrel
  cases gk with
  | zero => exact absurd HA.out (by simp [spec_l15Has.l0])
  | succ k1 =>
   have H := HA.out
   clear HA
   simp only [spec_l15Has.l0] at H
   obtain ⟨-, c3b0, H⟩ | ⟨-, c3b0, H⟩ := ic_ H
   ·obtain ⟨c4b0, H⟩ := id_ H
    obtain ⟨-, c5b0, c5b1, H⟩ | ⟨c5, c5b0, c5b1, H⟩ := ib_ H
    ·obtain rfl := Option.some.inj H
     have p655 : 0 ≤ (x5_1 : Int) := sa
     have q655 : x5_1 < (l0.length : Int) := sa
     obtain ⟨ad655, e655, hx655_0⟩ := Kd.at_int HR0.out x5_1 p655 q655
     cases e655
     replace p655 := eq_true p655
     replace q655 := eq_true q655
     go_wp2
     go_ret
     exact ⟨sc, sd⟩
    ·have H' := am H
     clear H
     have p655 : 0 ≤ (x5_1 : Int) := sa
     have q655 : x5_1 < (l0.length : Int) := sa
     obtain ⟨ad655, e655, hx655_0⟩ := Kd.at_int HR0.out x5_1 p655 q655
     cases e655
     replace p655 := eq_true p655
     replace q655 := eq_true q655
     go_wp2
     go_roundg k1
     case measure => have := HK1.out; omega
     case rel => exact ⟨(wrap64 (x5_1 + 1)), sc, H', kk1, sd⟩
   ·obtain rfl := Option.some.inj H
    go_wp2
    go_ret
    exact ⟨sc, sd⟩

end Go.Proofs.Ytiihaabhjphaeaa.QFnNoLoops
