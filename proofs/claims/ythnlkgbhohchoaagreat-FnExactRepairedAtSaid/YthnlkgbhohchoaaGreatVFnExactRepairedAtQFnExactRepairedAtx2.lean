/- Printed by a program of the session. Conditions: none. (squeezed). -/
import Derived.Test.YthnlkgbhohchoaaGreatVFnExactRepairedAtSq2
import Derived.Test.YthnlkgbhohchoaaGreatVFnExactRepairedAtQFnExactRepairedAtx1
namespace Go.Proofs.YthnlkgbhohchoaaGreat.QFnExactRepairedAt
set_option maxHeartbeats 8000000
set_option maxRecDepth 100000
open Go.RowKit Go.Proofs.YthnlkgbhohchoaaGreatW.PrintWords Go.Proofs.YthnlkgbhohchoaaGreatW.PrintLast Go.Proofs.YthnlkgbhohchoaaGreatW.PrintMore Go.Proofs.YthnlkgbhohchoaaGreat.Open Go.Proofs.YthnlkgbhohchoaaGreat.Sq
attribute [local go_sem] max2_int min2_int max_two min_two max_three min_three max_four min_four   -- for this text's walks alone
attribute [local go_sem] isSome_set
set_option linter.unusedVariables false
set_option linter.unusedSimpArgs false

theorem a2_1 {P : Prop} (h : P := by simp only [putAll, Act.put, List.setIfInBounds_toArray, List.set_cons_zero, List.set_cons_succ]) : P := h
theorem a2_0 {P : Prop} (h : P := by (with_reducible repeat (first | apply Kd.R_alloc | apply Kd.R_drewN | apply Kd.R_drew)); exact (Kd.R_mono (Kd.R_far (p := ⟨gb153, 1, none⟩) (Kd.R_far (p := ⟨gb153, 0, none⟩) (Kd.R_types HO_7.out BK153.out (by decide)) (fun _ hk => hk.2) (.int .i64 ((rd_T76 l0_3 x8_1).f0.f0))) (fun _ hk => hk.2) (.int .i64 ((rd_T76 l0_3 x8_1).f0.f1))) (fun _ h_ => h_.1))) : P := h
def spec_l15Copy.f (a0_0 : Int) (l0_1 : List Int) (l0_2 : List Int) : Option (Int × List Int × List Int) := (some (([] : List Int) : List Int)).bind fun y121 => (if y121.length + l0_1.length < 17592186044416 then ((some (([] : List Int) : List Int)).bind fun y127 => (if y127.length + l0_2.length < 17592186044416 then (some (a0_0, (y121 ++ l0_1), (y127 ++ l0_2))) else (none))) else (none))
def spec_l15Copy.T1 : Bool × List (List Nat × List Nat) := (true, [([], []), ([0], [0]), ([], []), ([], []), ([3], [3]), ([2, 4], [2, 4]), ([], []), ([], []), ([7], [7]), ([6, 8, 5], [6, 8]), ([1, 5, 9], [1, 5, 9]), ([10, 9, 0, 1, 2, 3, 4, 5, 6, 7, 8, 9, 10], [10])])
def spec_l15Copy.B1 : List Nat := [0, 1, 0, 0, 8, 28, 0, 0, 128, 508, 1023, 2047]
theorem spec_l15Copy.tab1 : rtab .any (opsOf Tryz.f100 1) = spec_l15Copy.T1 := by kernel_rfl
theorem spec_l15Copy.bits1 : waitsOk spec_l15Copy.T1.2 spec_l15Copy.B1 = true := by kernel_rfl
theorem spec_l15Copy.calls (a0_0 : Int) (A0_1 : Option Addr) (c0_1 : Nat) (l0_1 : List Int) (A0_2 : Option Addr) (c0_2 : Nat) (l0_2 : List Int) (r1 : Int) (r2 : List Int) (r3 : List Int) (w : World) (hr0_1 : Kd.C (Kd.int .i64) w A0_1 l0_1.length l0_1) (hc0_1 : l0_1.length ≤ c0_1) (hr0_2 : Kd.C (Kd.int .i64) w A0_2 l0_2.length l0_2) (hc0_2 : l0_2.length ≤ c0_2) (h : spec_l15Copy.f a0_0 l0_1 l0_2 = some (r1, r2, r3)) :
    Calls Tryz.prog 100 #[.agg #[.int .i64 a0_0, .slice A0_1 l0_1.length c0_1, .slice A0_2 l0_2.length c0_2]] w fun e w' => ∃ v1_ v2_ : Value, e = .returned (.agg #[.int .i64 r1, v1_, v2_]) ∧ Kd.R (Kd.int .i64) 3 w' w.heap.size (fun k_ => some k_ ≠ (v2_ : Value).ownBlock) v1_ r2 ∧ Kd.R (Kd.int .i64) 3 w' w.heap.size (fun k_ => some k_ ≠ (v1_ : Value).ownBlock) v2_ r3 ∧ Below w.heap.size w w' := by
 have hu50 := Tryz.underlying50
 have HR0_1 := am hr0_1
 have HC0_1 := am hc0_1
 clear hr0_1 hc0_1
 have HR0_2 := am hr0_2
 have HC0_2 := am hc0_2
 clear hr0_2 hc0_2
 have HB := am (Below.refl w.heap.size w)
 have H := h; unfold spec_l15Copy.f at H
 clear h
 obtain ⟨y121, Ny121, H⟩ := iy_ H
 obtain ⟨LMc2, H⟩ := il_ H
 obtain ⟨y124, hy124⟩ : ∃ y_ : List Int, y_ = (y121 ++ l0_1) := ⟨_, rfl⟩
 replace H : ((some (([] : List Int) : List Int)).bind fun y127 => (if y127.length + l0_2.length < 17592186044416 then (some (a0_0, y124, (y127 ++ l0_2))) else (none))) = some (r1, r2, r3) := ry hy124 H
 have Ny124 := am hy124
 clear hy124
 obtain ⟨y127, Ny127, H⟩ := iy_ H
 obtain ⟨LMc3, H⟩ := il_ H
 obtain ⟨y130, hy130⟩ : ∃ y_ : List Int, y_ = (y127 ++ l0_2) := ⟨_, rfl⟩
 replace H : (some (a0_0, y124, y130)) = some (r1, r2, r3) := ry hy130 H
 have Ny130 := am hy130
 clear hy130
 simp only [Option.some.injEq, Prod.mk.injEq] at H
 obtain ⟨rfl, rfl, rfl⟩ := H
 go_enter Tryz.func100, Tryz.ntmps100
 try go_wp2_with (first | ((with_reducible refine gd 1 rfl ?_); refine bx 1 #[.int .i64 a0_0, .slice A0_1 l0_1.length c0_1, .slice A0_2 l0_2.length c0_2] 50 ?_; intro gb119 hg w4 hbox hb; have GW119 := bz w hg; have GE119 := bz w hg; replace HB := bs hb; have BK119 := am hbox; clear hb hbox hg) | ((with_reducible refine gd 2 rfl ?_); refine bx 2 #[.int .i64 0, .slice none 0 0, .slice none 0 0] 50 ?_; intro gb120 hg w5 hbox hb; have GW120 := bzw w hg; have GE120 := bzw w hg; replace HB := bsw hb; have BK120 := am hbox; have NB119_120 := nl BK119 hg; have NB120_119 := ng BK119 hg; replace BK119 := bb BK119 hb; clear hb hbox hg))
 replace BK119 := am (blk_drew BK119.out)
 replace BK120 := am (blk_drew BK120.out)
 replace HB := am (below_drew1 HB.out)
 refine start_ (n := 12) (S := fun w' => w'.cell? ⟨gb119, 0, none⟩ = some (.int .i64 a0_0) ∧ w'.cell? ⟨gb119, 1, none⟩ = some (.slice A0_1 l0_1.length c0_1) ∧ w'.cell? ⟨gb119, 2, none⟩ = some (.slice A0_2 l0_2.length c0_2)) (ds := []) (bt 12 0) (by kernel_rfl) rfl (by kernel_rfl) ⟨bc0 BK119, bc1 BK119, bc2 BK119⟩ (fun hHeld => ?_); refine with_tabW spec_l15Copy.tab1 spec_l15Copy.bits1 (fun HT_ HW_ => ?_)
 generalize w5.drew = w6 at BK119 BK120 HB hHeld ⊢
 refine r3_ 0 3 7 ?_
 refine tv_ 1 ?_
 refine tv_ 4 ?_
 refine tv_ 8 ?_
 refine join_ (σ := Value × Value × Value) 3 (bt 12 511) (fun s_ => [(5, s_.1), (8, s_.2.1), (9, s_.2.2)]) (fun s_ w' => (w'.cell? ⟨gb119, 0, none⟩ = some (.int .i64 a0_0) ∧ w'.cell? ⟨gb119, 1, none⟩ = some (.slice A0_1 l0_1.length c0_1) ∧ w'.cell? ⟨gb119, 2, none⟩ = some (.slice A0_2 l0_2.length c0_2)) ∧ (Kd.R (Kd.int .i64) 3 w' w.heap.size (fun k_ => some k_ ≠ (s_.2.2 : Value).ownBlock) s_.2.1 y124) ∧ (Kd.R (Kd.int .i64) 3 w' w.heap.size (fun k_ => some k_ ≠ (s_.2.1 : Value).ownBlock) s_.2.2 y127) ∧ (w'.heap[gb119]? = some (.cells #[.int .i64 a0_0, .slice A0_1 l0_1.length c0_1, .slice A0_2 l0_2.length c0_2] 50 (0, 0))) ∧ (w'.heap[gb120]? = some (.cells #[.int .i64 0, .slice none 0 0, .slice none 0 0] 50 (0, 0))) ∧ (Below w.heap.size w w')) ?_ ?_
 rotate_left
 ·intro hCont
  refine tw_ 2 6 (fun K hK => ?_) (fun K hK => ?_)
  ·skip
   refine Kd.R_lit_step (Kd.int .i64) _ 3 ?hg (N := 5) ?hd (xs := ([] : List Int)) (inner := []) (ok := fun _ => True) (okp := fun _ => True) ?hr ?hp (fun _ hk => hk) trivial (Below.refl _ _) (Nat.le_refl _) (by simp) ?_; (case hd => rfl); (case hg => rfl); (case hr => first | (go_simp; done) | (go_simp; rfl)); (case hp => exact (Reps.none _ _))
   intro v122 w7 ho8 hb hg_ hnew_
   clear hg_ hnew_
   (first | rw [← Ny121.out] at ho8 | (simp only [Int.reduceToNat] at ho8; rw [← Ny121.out] at ho8))
   have HO123 := am (Kd.R_lower ho8 (below_size (sbw)))
   replace BK119 := bb BK119 hb
   replace BK120 := bb BK120 hb
   replace HB := bsw hb
   clear hb ho8
   refine hw_ hK ⟨bc0 BK119, bc1 BK119, bc2 BK119⟩ (fun hHeld => ?_)
   clear hK K
   refine tw_ 5 6 (fun K hK => ?_) (fun K hK => ?_)
   ·skip
    refine Kd.R_append_rows_step (Kd.int .i64) (w0 := w) w.heap.size (by rfl) (.tmp 5) (.tmp 7) 25 3 (.int .i64 0) 8 rfl Tryz.underlying25 info3 rfl (by decide) (by omega) v122 y121 l0_1 _ _ _ (fun _ => True) (fun _ => False) rfl rfl ?aO ?aR (fun _ _ h => h) (fun _ h => h.elim) ?aF ?aB ?aS ?aL ?_
    (case aR => repeat (first | exact (Kd.C_below HR0_1.out HB.out) | (with_reducible refine Kd.C_alloc ?_ _) | (with_reducible refine Kd.C_drewN ?_ _) | (with_reducible refine Kd.C_drew ?_)))
    (case aB => exact (sbw))
    (case aF => exact (fun _ _ => trivial))
    (case aO => exact (sr HO123))
    (case aS => exact (below_size (sbw)))
    (case aL => have := LMc2.out; omega)
    intro v125 w9 ho hb hg hat
    rw [← Ny124.out] at ho
    replace BK119 := am (blk_grown (g := gb119) (o := .cells #[.int .i64 a0_0, .slice A0_1 l0_1.length c0_1, .slice A0_2 l0_2.length c0_2] 50 (0, 0)) (sk BK119) hg (Kd.R_ne HO123.out BK119.out (by decide)))
    replace BK120 := am (blk_grown (g := gb120) (o := .cells #[.int .i64 0, .slice none 0 0, .slice none 0 0] 50 (0, 0)) (sk BK120) hg (Kd.R_ne HO123.out BK120.out (by decide)))
    replace HB := am hb
    have HO126 := am ho
    clear HO123 ho hb hg hat
    refine hw_ hK ⟨bc0 BK119, bc1 BK119, bc2 BK119⟩ (fun hHeld => ?_)
    clear hK K
    refine ow_ 6 (fun K hK => ?_)
    refine Kd.R_lit_step (Kd.int .i64) _ 3 ?hg (N := 9) ?hd (xs := ([] : List Int)) (inner := []) (ok := fun _ => True) (okp := fun _ => True) ?hr ?hp (fun _ hk => hk) trivial (Below.refl _ _) (Nat.le_refl _) (by simp) ?_; (case hd => rfl); (case hg => rfl); (case hr => first | (go_simp; done) | (go_simp; rfl)); (case hp => exact (Reps.none _ _))
    intro v128 w10 ho11 hb hg_ hnew_
    clear hg_ hnew_
    (first | rw [← Ny127.out] at ho11 | (simp only [Int.reduceToNat] at ho11; rw [← Ny127.out] at ho11))
    have HO129 := am (Kd.R_lower (Kd.R_new' ho11 (Kd.R_lt (sr HO126))) (below_size (sbw)))
    replace HO126 := am (Kd.R_elder' (sr HO126) (Kd.R_base ho11) hb)
    replace BK119 := bb BK119 hb
    replace BK120 := bb BK120 hb
    replace HB := bsw hb
    clear hb ho11
    refine hw_ hK ⟨bc0 BK119, bc1 BK119, bc2 BK119⟩ (fun hHeld => ?_)
    clear hK K
    exact norm_ a2_1 (hCont (v122, v125, v128) _ ⟨hHeld, (by exact rm HO126 (fun _ hk => hk.2)), (by exact rm HO129 (fun _ hk => hk.2)), (sk BK119), (sk BK120), (sbw)⟩)
   ·skip
    refine Kd.R_lit_step (Kd.int .i64) _ 3 ?hg (N := 9) ?hd (xs := ([] : List Int)) (inner := []) (ok := fun _ => True) (okp := fun _ => True) ?hr ?hp (fun _ hk => hk) trivial (Below.refl _ _) (Nat.le_refl _) (by simp) ?_; (case hd => rfl); (case hg => rfl); (case hr => first | (go_simp; done) | (go_simp; rfl)); (case hp => exact (Reps.none _ _))
    intro v128 w9 ho10 hb hg_ hnew_
    clear hg_ hnew_
    (first | rw [← Ny127.out] at ho10 | (simp only [Int.reduceToNat] at ho10; rw [← Ny127.out] at ho10))
    have HO129 := am (Kd.R_lower (Kd.R_new' ho10 (Kd.R_lt (sr HO123))) (below_size (sbw)))
    replace HO123 := am (Kd.R_elder' (sr HO123) (Kd.R_base ho10) hb)
    replace BK119 := bb BK119 hb
    replace BK120 := bb BK120 hb
    replace HB := bsw hb
    clear hb ho10
    refine hw_ hK ⟨bc0 BK119, bc1 BK119, bc2 BK119⟩ (fun hHeld => ?_)
    clear hK K
    refine ow_ 5 (fun K hK => ?_)
    refine Kd.R_append_rows_step (Kd.int .i64) (w0 := w) w.heap.size (by rfl) (.tmp 5) (.tmp 7) 25 3 (.int .i64 0) 8 rfl Tryz.underlying25 info3 rfl (by decide) (by omega) v122 y121 l0_1 _ _ _ (fun k_ => some k_ ≠ (v128 : Value).ownBlock) (fun _ => False) rfl rfl ?aO ?aR (fun _ _ h => h) (fun _ h => h.elim) ?aF ?aB ?aS ?aL ?_
    (case aR => repeat (first | exact (Kd.C_below HR0_1.out HB.out) | (with_reducible refine Kd.C_alloc ?_ _) | (with_reducible refine Kd.C_drewN ?_ _) | (with_reducible refine Kd.C_drew ?_)))
    (case aB => exact (sbw))
    (case aF => exact (fun k_ hk => Kd.fresh' (Kd.R_lt (sr HO129)) k_ hk))
    (case aO => exact (by exact rm HO123 (fun _ hk => hk.2)))
    (case aS => exact (below_size (sbw)))
    (case aL => have := LMc2.out; omega)
    intro v125 w11 ho hb hg hat
    rw [← Ny124.out] at ho
    replace BK119 := am (blk_grown (g := gb119) (o := .cells #[.int .i64 a0_0, .slice A0_1 l0_1.length c0_1, .slice A0_2 l0_2.length c0_2] 50 (0, 0)) (sk BK119) hg (Kd.R_ne HO123.out BK119.out (by decide)))
    replace BK120 := am (blk_grown (g := gb120) (o := .cells #[.int .i64 0, .slice none 0 0, .slice none 0 0] 50 (0, 0)) (sk BK120) hg (Kd.R_ne HO123.out BK120.out (by decide)))
    replace HO129 := am (Kd.R_after (ok := (fun _ => True)) (sr HO129) hg hat)
    replace HB := am hb
    have HO126 := am ho
    clear HO123 ho hb hg hat
    refine hw_ hK ⟨bc0 BK119, bc1 BK119, bc2 BK119⟩ (fun hHeld => ?_)
    clear hK K
    exact norm_ a2_1 (hCont (v122, v125, v128) _ ⟨hHeld, (sr HO126), (by exact rm HO129 (fun _ hk => hk.2)), (sk BK119), (sk BK120), (sbw)⟩)
  ·skip
   refine Kd.R_lit_step (Kd.int .i64) _ 3 ?hg (N := 9) ?hd (xs := ([] : List Int)) (inner := []) (ok := fun _ => True) (okp := fun _ => True) ?hr ?hp (fun _ hk => hk) trivial (Below.refl _ _) (Nat.le_refl _) (by simp) ?_; (case hd => rfl); (case hg => rfl); (case hr => first | (go_simp; done) | (go_simp; rfl)); (case hp => exact (Reps.none _ _))
   intro v128 w7 ho8 hb hg_ hnew_
   clear hg_ hnew_
   (first | rw [← Ny127.out] at ho8 | (simp only [Int.reduceToNat] at ho8; rw [← Ny127.out] at ho8))
   have HO129 := am (Kd.R_lower ho8 (below_size (sbw)))
   replace BK119 := bb BK119 hb
   replace BK120 := bb BK120 hb
   replace HB := bsw hb
   clear hb ho8
   refine hw_ hK ⟨bc0 BK119, bc1 BK119, bc2 BK119⟩ (fun hHeld => ?_)
   clear hK K
   refine ow_ 2 (fun K hK => ?_)
   refine Kd.R_lit_step (Kd.int .i64) _ 3 ?hg (N := 5) ?hd (xs := ([] : List Int)) (inner := []) (ok := fun _ => True) (okp := fun _ => True) ?hr ?hp (fun _ hk => hk) trivial (Below.refl _ _) (Nat.le_refl _) (by simp) ?_; (case hd => rfl); (case hg => rfl); (case hr => first | (go_simp; done) | (go_simp; rfl)); (case hp => exact (Reps.none _ _))
   intro v122 w9 ho10 hb hg_ hnew_
   clear hg_ hnew_
   (first | rw [← Ny121.out] at ho10 | (simp only [Int.reduceToNat] at ho10; rw [← Ny121.out] at ho10))
   have HO123 := am (Kd.R_lower (Kd.R_new' ho10 (Kd.R_lt (sr HO129))) (below_size (sbw)))
   replace HO129 := am (Kd.R_elder' (sr HO129) (Kd.R_base ho10) hb)
   replace BK119 := bb BK119 hb
   replace BK120 := bb BK120 hb
   replace HB := bsw hb
   clear hb ho10
   refine hw_ hK ⟨bc0 BK119, bc1 BK119, bc2 BK119⟩ (fun hHeld => ?_)
   clear hK K
   refine ow_ 5 (fun K hK => ?_)
   refine Kd.R_append_rows_step (Kd.int .i64) (w0 := w) w.heap.size (by rfl) (.tmp 5) (.tmp 7) 25 3 (.int .i64 0) 8 rfl Tryz.underlying25 info3 rfl (by decide) (by omega) v122 y121 l0_1 _ _ _ (fun k_ => some k_ ≠ (v128 : Value).ownBlock) (fun _ => False) rfl rfl ?aO ?aR (fun _ _ h => h) (fun _ h => h.elim) ?aF ?aB ?aS ?aL ?_
   (case aR => repeat (first | exact (Kd.C_below HR0_1.out HB.out) | (with_reducible refine Kd.C_alloc ?_ _) | (with_reducible refine Kd.C_drewN ?_ _) | (with_reducible refine Kd.C_drew ?_)))
   (case aB => exact (sbw))
   (case aF => exact (fun k_ hk => Kd.fresh' (Kd.R_lt (sr HO129)) k_ hk))
   (case aO => exact (by exact rm HO123 (fun _ hk => hk.2)))
   (case aS => exact (below_size (sbw)))
   (case aL => have := LMc2.out; omega)
   intro v125 w11 ho hb hg hat
   rw [← Ny124.out] at ho
   replace BK119 := am (blk_grown (g := gb119) (o := .cells #[.int .i64 a0_0, .slice A0_1 l0_1.length c0_1, .slice A0_2 l0_2.length c0_2] 50 (0, 0)) (sk BK119) hg (Kd.R_ne HO123.out BK119.out (by decide)))
   replace BK120 := am (blk_grown (g := gb120) (o := .cells #[.int .i64 0, .slice none 0 0, .slice none 0 0] 50 (0, 0)) (sk BK120) hg (Kd.R_ne HO123.out BK120.out (by decide)))
   replace HO129 := am (Kd.R_after (ok := (fun _ => True)) (sr HO129) hg hat)
   replace HB := am hb
   have HO126 := am ho
   clear HO123 ho hb hg hat
   refine hw_ hK ⟨bc0 BK119, bc1 BK119, bc2 BK119⟩ (fun hHeld => ?_)
   clear hK K
   exact norm_ a2_1 (hCont (v122, v125, v128) _ ⟨hHeld, (sr HO126), (by exact rm HO129 (fun _ hk => hk.2)), (sk BK119), (sk BK120), (sbw)⟩)
 rintro ⟨v122, v125, v128⟩ w12 ⟨hS_, h0_, h1_, h2_, h3_, h4_⟩
 have HO126 : Aside0 (Kd.R (Kd.int .i64) 3 w12 w.heap.size (fun k_ => some k_ ≠ (v128 : Value).ownBlock) v125 y124) := ⟨h0_⟩
 have HO129 : Aside0 (Kd.R (Kd.int .i64) 3 w12 w.heap.size (fun k_ => some k_ ≠ (v125 : Value).ownBlock) v128 y127) := ⟨h1_⟩
 replace BK119 : Aside0 (w12.heap[gb119]? = some (.cells #[.int .i64 a0_0, .slice A0_1 l0_1.length c0_1, .slice A0_2 l0_2.length c0_2] 50 (0, 0))) := ⟨h2_⟩
 replace BK120 : Aside0 (w12.heap[gb120]? = some (.cells #[.int .i64 0, .slice none 0 0, .slice none 0 0] 50 (0, 0))) := ⟨h3_⟩
 replace HB : Aside0 (Below w.heap.size w w12) := ⟨h4_⟩
 clear h0_ h1_ h2_ h3_ h4_
 have hHeld : w12.cell? ⟨gb119, 0, none⟩ = some (.int .i64 a0_0) ∧ w12.cell? ⟨gb119, 1, none⟩ = some (.slice A0_1 l0_1.length c0_1) ∧ w12.cell? ⟨gb119, 2, none⟩ = some (.slice A0_2 l0_2.length c0_2) := hS_
 refine norm_ (a' := ?_) ?_ ?_
 rotate_left
 ·simp only [putAll, Act.put, List.setIfInBounds_toArray, List.set_cons_zero, List.set_cons_succ]
  rfl
 refine ow_ 9 (fun K hK => ?_)
 refine Kd.R_append_rows_step (Kd.int .i64) (w0 := w) w.heap.size (by rfl) (.tmp 9) (.tmp 11) 25 3 (.int .i64 0) 8 rfl Tryz.underlying25 info3 rfl (by decide) (by omega) v128 y127 l0_2 _ _ _ (fun k_ => some k_ ≠ (v125 : Value).ownBlock) (fun _ => False) rfl rfl ?aO ?aR (fun _ _ h => h) (fun _ h => h.elim) ?aF ?aB ?aS ?aL ?_
 (case aR => repeat (first | exact (Kd.C_below HR0_2.out HB.out) | (with_reducible refine Kd.C_alloc ?_ _) | (with_reducible refine Kd.C_drewN ?_ _) | (with_reducible refine Kd.C_drew ?_)))
 (case aB => exact (sbw))
 (case aF => exact (fun k_ hk => Kd.fresh' (Kd.R_lt (sr HO126)) k_ hk))
 (case aO => exact (sr HO129))
 (case aS => exact (below_size (sbw)))
 (case aL => have := LMc3.out; omega)
 intro v131 w13 ho hb hg hat
 rw [← Ny130.out] at ho
 replace BK119 := am (blk_grown (g := gb119) (o := .cells #[.int .i64 a0_0, .slice A0_1 l0_1.length c0_1, .slice A0_2 l0_2.length c0_2] 50 (0, 0)) (sk BK119) hg (Kd.R_ne HO129.out BK119.out (by decide)))
 replace BK120 := am (blk_grown (g := gb120) (o := .cells #[.int .i64 0, .slice none 0 0, .slice none 0 0] 50 (0, 0)) (sk BK120) hg (Kd.R_ne HO129.out BK120.out (by decide)))
 replace HO126 := am (Kd.R_after (ok := (fun _ => True)) (by exact rm HO126 (fun _ hk => ⟨trivial, hk⟩)) hg hat)
 replace HB := am hb
 have HO132 := am ho
 clear HO129 ho hb hg hat
 obtain ⟨Ao14, co14, eo14⟩ := Kd.R_slice HO132.out
 (first | subst eo14 | (injection eo14 with f1_ f2_ f3_; have f4_ := f1_.symm; have f5_ := f3_.symm; clear f1_ f2_ f3_; subst f4_; subst f5_))
 obtain ⟨Ao15, co15, eo15⟩ := Kd.R_slice HO126.out
 (first | subst eo15 | (injection eo15 with f1_ f2_ f3_; have f4_ := f1_.symm; have f5_ := f3_.symm; clear f1_ f2_ f3_; subst f4_; subst f5_))
 refine hw_ hK ⟨bc0 BK119, bc1 BK119, bc2 BK119⟩ (fun hHeld => ?_)
 clear hK K
 refine r1_ 10 ?_
 refine one_ (i := 11) (N := none) (bt 12 4095) rfl rfl (one_of HT_.out (by kernel_rfl)) (by decide) (fun K hK => ?_)
 obtain ⟨hs16, hfs16⟩ := cc1 BK120
 have hns16_0 := NB119_120.out
 have hms16_0 := NB120_119.out
 have hs17 := bc1 BK120
 have hfs17 := bf BK120 1
 have hns17_0 := NB119_120.out
 have hms17_0 := NB120_119.out
 have hs18 := bc2 BK120
 have hfs18 := bf BK120 2
 have hns18_0 := NB119_120.out
 have hms18_0 := NB120_119.out
 refine skip_ (w1 := ?_) (by rfl) rfl ?_ ?_
 rotate_left
 ·go_simp
  rfl
 refine hK.out _ _ ⟨((cell_far (p := ⟨gb120, _, none⟩) NB119_120.out _).trans (((cell_far (p := ⟨gb120, _, none⟩) NB119_120.out _).trans (((cell_far (p := ⟨gb120, _, none⟩) NB119_120.out _).trans (hHeld.1)))))), ((cell_far (p := ⟨gb120, _, none⟩) NB119_120.out _).trans (((cell_far (p := ⟨gb120, _, none⟩) NB119_120.out _).trans (((cell_far (p := ⟨gb120, _, none⟩) NB119_120.out _).trans (hHeld.2.1)))))), ((cell_far (p := ⟨gb120, _, none⟩) NB119_120.out _).trans (((cell_far (p := ⟨gb120, _, none⟩) NB119_120.out _).trans (((cell_far (p := ⟨gb120, _, none⟩) NB119_120.out _).trans (hHeld.2.2))))))⟩ (fun hHeld => ?_)
 clear hK K
 refine done_ (done_of HT_.out (by kernel_rfl)) ?_
 try go_wp2
 refine bodyPost_ret (results_cell_row rfl _ _ gb120 50 #[.int .i64 a0_0, .slice Ao15 y124.length co15, .slice Ao14 y130.length co14] (0, 0) _ rfl (sp BK120) Tryz.underlying50 rfl (by kernel_rfl)) rfl ?_
 exact ⟨_, _, se, by (with_reducible repeat (first | apply Kd.R_alloc | apply Kd.R_drewN | apply Kd.R_drew)); exact Kd.R_mono (h3 HO126 BK120) (fun _ hk => hk.1.2), by (with_reducible repeat (first | apply Kd.R_alloc | apply Kd.R_drewN | apply Kd.R_drew)); exact Kd.R_mono (h3 HO132 BK120) (fun _ hk => hk.1), sbw⟩

def spec_TableIn.f (a0_0 : Int) (a0_1 : Int) (a0_2 : Int) (l0_3 : List (S76)) (a1 : Int) (a2 : Int) : Option (Int × List Int × List Int × Bool) := (spec_l1In.f a1 0 (wrap64 ((l0_3.length : Int) - 1))).bind fun t135 => (if t135 = true then (if 0 ≤ a1 then (if a1 < (l0_3.length : Int) then ((spec_l1In.f a2 0 (wrap64 ((((rd_T76 l0_3 a1).f2).length : Int) - 1))).bind fun t137 => (if t137 = true then (if 0 ≤ a2 then (if a2 < (((rd_T76 l0_3 a1).f2).length : Int) then ((spec_l15Copy.f ((rd_T50 ((rd_T76 l0_3 a1).f2) a2).f0) ((rd_T50 ((rd_T76 l0_3 a1).f2) a2).f1) ((rd_T50 ((rd_T76 l0_3 a1).f2) a2).f2)).bind fun bt140 => (some (bt140.1, bt140.2.1, bt140.2.2, true))) else (none)) else (none)) else (some (0, ([] : List Int), ([] : List Int), false)))) else (none)) else (none)) else (some (0, ([] : List Int), ([] : List Int), false)))
theorem e2_0 {P : Prop} (h : P := by
 go_enter Tryz.func65, Tryz.ntmps65
 go_wp2_with (first | ((with_reducible refine gd 3 rfl ?_); (try (refine gate_guard (by rfl) ?_; dsimp only)); refine bx 3 #[.int .i64 a0_0, .int .i64 a0_1, .int .i64 a0_2, .slice A0_3 l0_3.length c0_3] 32 ?_; intro gb133 hg w13 hbox hb; have GW133 := bz w hg; have GE133 := bz w hg; replace HB := bs hb; have BK133 := am hbox; clear hb hbox hg) | ((with_reducible refine gd 6 rfl ?_); (try (refine gate_guard (by rfl) ?_; dsimp only)); refine bx 6 #[.int .i64 0, .slice none 0 0, .slice none 0 0] 50 ?_; intro gb134 hg w14 hbox hb; have GW134 := bzw w hg; have GE134 := bzw w hg; replace HB := bsw hb; have BK134 := am hbox; have NB133_134 := nl BK133 hg; have NB134_133 := ng BK133 hg; replace BK133 := bb BK133 hb; clear hb hbox hg; have hnb15 := NB133_134.out; have hnc15 := NB134_133.out; obtain ⟨_, _, _, _, _, _, _, _⟩ := cc4 BK133) | (have _ := A8; (with_reducible refine gc 31 rfl ?_); refine gL (some 13) Tryz.func31 #[.int .i64 a1, .int .i64 0, .int .i64 (wrap64 ((l0_3.length : Int) - 1))] ?_; (with_reducible refine (spec_l1In.calls a1 0 (wrap64 ((l0_3.length : Int) - 1)) true _ A4.out).mono ?_); rintro e w' ⟨rfl, ⟨nd, rfl⟩⟩; refine ⟨_, rfl, ?_⟩; obtain ⟨p136, q136, ad136, A136_2, c136_2, A136_3, c136_3, e136, _, _, _, _, hx136_0, hx136_1, hx136_2, hx136_3, HC136_2, HR136_2, HC136_3, HR136_3⟩ := aT_T76 HR0_3 HB a1; cases e136) | (have _ := A12; go_at_call 31; (try simp only [i64_w, i32_w]); (with_reducible refine (spec_l1In.calls a2 0 (wrap64 ((((rd_T76 l0_3 a1).f2).length : Int) - 1)) true _ A8.out).mono ?_); rintro e w' ⟨rfl, ⟨nd, rfl⟩⟩; obtain ⟨p138, q138, ad138, A138_2, c138_2, A138_3, c138_3, e138, _, _, _, _, hx138_0, hx138_1, hx138_2, hx138_3, HC138_2, HR138_2, HC138_3, HR138_3⟩ := aT_T76 HR0_3 HB a1; obtain rfl : ad136 = ad138 := (by injection e138); have ea_ := Option.some.inj (hx136_2.symm.trans hx138_2); injection ea_ with ea_ en_ ec_; subst ea_; subst ec_; clear en_; have ea_ := Option.some.inj (hx136_3.symm.trans hx138_3); injection ea_ with ea_ en_ ec_; subst ea_; subst ec_; clear en_; obtain ⟨p139, q139, ad139, A139_1, c139_1, A139_2, c139_2, e139, _, _, _, hx139_0, hx139_1, hx139_2, HC139_1, HR139_1, HC139_2, HR139_2⟩ := aT_T50 HR138_3 HB a2; cases e139) | (have _ := A12; (with_reducible refine gc 100 rfl ?_); refine gL (some 38) Tryz.func100 #[.agg #[.int .i64 ((rd_T50 ((rd_T76 l0_3 a1).f2) a2).f0), .slice A139_1 ((rd_T50 ((rd_T76 l0_3 a1).f2) a2).f1).length c139_1, .slice A139_2 ((rd_T50 ((rd_T76 l0_3 a1).f2) a2).f2).length c139_2]] ?_; (with_reducible refine (spec_l15Copy.calls ((rd_T50 ((rd_T76 l0_3 a1).f2) a2).f0) _ _ ((rd_T50 ((rd_T76 l0_3 a1).f2) a2).f1) _ _ ((rd_T50 ((rd_T76 l0_3 a1).f2) a2).f2) t140 t141 t144 _ ?side1 ?side2 ?side3 ?side4 A12.out).mono ?_); (case side1 => exact cb HR139_1); (case side2 => exact HC139_1.out); (case side3 => exact cb HR139_2); (case side4 => exact HC139_2.out); rintro e w17 ⟨v142, v145, rfl, ho0, ho1, hb⟩; refine ⟨_, rfl, ?_⟩; have HO143 := am (Kd.R_lower ho0 (below_size (sbw))); have HO146 := am (Kd.R_lower ho1 (below_size (sbw))); replace BK133 := bb BK133 hb; replace BK134 := bb BK134 hb; replace HB := bsw hb; (try clear hb); (try clear ho0); (try clear ho1); obtain ⟨_, _, _, _, _, _⟩ := cc3 BK134; obtain ⟨Ao19, co19, eo19⟩ := Kd.R_slice HO143.out; subst eo19; obtain ⟨Ao20, co20, eo20⟩ := Kd.R_slice HO146.out; subst eo20) | (have _ := A8; go_at_call 31; (try simp only [i64_w, i32_w]); (with_reducible refine (spec_l1In.calls a2 0 (wrap64 ((((rd_T76 l0_3 a1).f2).length : Int) - 1)) false _ A8.out).mono ?_); rintro e w' ⟨rfl, ⟨nd, rfl⟩⟩; obtain ⟨_, _, _, _, _, _⟩ := cc3 BK134) | ((with_reducible refine gc 31 rfl ?_); refine gL (some 13) Tryz.func31 #[.int .i64 a1, .int .i64 0, .int .i64 (wrap64 ((l0_3.length : Int) - 1))] ?_; (with_reducible refine (spec_l1In.calls a1 0 (wrap64 ((l0_3.length : Int) - 1)) false _ A4.out).mono ?_); rintro e w' ⟨rfl, ⟨nd, rfl⟩⟩; refine ⟨_, rfl, ?_⟩; obtain ⟨_, _, _, _, _, _⟩ := cc3 BK134))
 first
 | have _ := A12
   refine bodyPost_ret (results_ct rfl _ _ gb134 50 #[.int .i64 t140, .slice Ao19 t141.length co19, .slice Ao20 t144.length co20] (0, 0) _ rfl (sp BK134) Tryz.underlying50 rfl (by kernel_rfl)) rfl ?_
   exact ⟨_, _, se, by (with_reducible repeat (first | apply Kd.R_alloc | apply Kd.R_drewN | apply Kd.R_drew)); exact Kd.R_mono (h3 HO143 BK134) (fun _ hk => hk.1), by (with_reducible repeat (first | apply Kd.R_alloc | apply Kd.R_drewN | apply Kd.R_drew)); exact Kd.R_mono (h3 HO146 BK134) (fun _ hk => hk.1), sbw⟩
 | have _ := A8
   refine bodyPost_ret (results_ct rfl _ _ gb134 50 #[.int .i64 0, .slice none 0 0, .slice none 0 0] (0, 0) _ rfl (sp BK134) Tryz.underlying50 rfl (by kernel_rfl)) rfl ?_
   exact ⟨_, _, se, sn, sn, sbw⟩
 | refine bodyPost_ret (results_ct rfl _ _ gb134 50 #[.int .i64 0, .slice none 0 0, .slice none 0 0] (0, 0) _ rfl (sp BK134) Tryz.underlying50 rfl (by kernel_rfl)) rfl ?_
   exact ⟨_, _, se, sn, sn, sbw⟩
   ) : P := h
theorem spec_TableIn.calls (a0_0 : Int) (a0_1 : Int) (a0_2 : Int) (A0_3 : Option Addr) (c0_3 : Nat) (l0_3 : List (S76)) (a1 : Int) (a2 : Int) (r1 : Int) (r2 : List Int) (r3 : List Int) (r4 : Bool) (w : World) (hr0_3 : Kd.C k76 w A0_3 l0_3.length l0_3) (hc0_3 : l0_3.length ≤ c0_3) (h : spec_TableIn.f a0_0 a0_1 a0_2 l0_3 a1 a2 = some (r1, r2, r3, r4)) :
    Calls Tryz.prog 65 #[.agg #[.int .i64 a0_0, .int .i64 a0_1, .int .i64 a0_2, .slice A0_3 l0_3.length c0_3], .int .i64 a1, .int .i64 a2] w fun e w' => ∃ v1_ v2_ : Value, e = .returned (.tuple #[.agg #[.int .i64 r1, v1_, v2_], .bool r4]) ∧ Kd.R (Kd.int .i64) 3 w' w.heap.size (fun k_ => some k_ ≠ (v2_ : Value).ownBlock) v1_ r2 ∧ Kd.R (Kd.int .i64) 3 w' w.heap.size (fun k_ => some k_ ≠ (v1_ : Value).ownBlock) v2_ r3 ∧ Below w.heap.size w w' := by
 have hu32 := Tryz.underlying32
 have hu50 := Tryz.underlying50
 have HR0_3 := am hr0_3
 have HC0_3 := am hc0_3
 clear hr0_3 hc0_3
 have HB := am (Below.refl w.heap.size w)
 have H := h; unfold spec_TableIn.f at H
 clear h
 obtain ⟨t135, A4, H⟩ := bnd H
 obtain rfl | rfl := tt t135
 ·replace H := ip H
  obtain ⟨c6b0, H⟩ := id_ H
  obtain ⟨c7b0, H⟩ := id_ H
  obtain ⟨t137, A8, H⟩ := bnd H
  obtain rfl | rfl := tt t137
  ·replace H := ip H
   obtain ⟨c10b0, H⟩ := id_ H
   obtain ⟨c11b0, H⟩ := id_ H
   obtain ⟨⟨t140, t141, t144⟩, A12, H⟩ := bnd H
   try dsimp only at H
   simp only [Option.some.injEq, Prod.mk.injEq] at H
   obtain ⟨rfl, rfl, rfl, rfl⟩ := H
   exact e2_0
  ·replace H := im H
   simp only [Option.some.injEq, Prod.mk.injEq] at H
   obtain ⟨rfl, rfl, rfl, rfl⟩ := H
   exact e2_0
 ·replace H := im H
  simp only [Option.some.injEq, Prod.mk.injEq] at H
  obtain ⟨rfl, rfl, rfl, rfl⟩ := H
  exact e2_0
def spec_IsSpan.f (a0_0 : Int) (a0_1 : Int) : Option (Bool) := if a0_0 ≥ 0 then (if a0_1 ≤ 1000 then (some (decide (a0_0 < a0_1))) else (some false)) else (some false)
theorem e2_1 {P : Prop} (h : P := by
 obtain rfl := Option.some.inj H
 go_enter Tryz.func121, Tryz.ntmps121
 go_wp2_with (first | ((with_reducible refine gd 1 rfl ?_); refine bx 1 #[.int .i64 a0_0, .int .i64 a0_1] 73 ?_; intro gb147 hg w4 hbox hb; have GW147 := bz w hg; have GE147 := bz w hg; replace HB := bs hb; have BK147 := am hbox; clear hb hbox hg; obtain ⟨_, _, _, _⟩ := cc2 BK147))
 first
 | have _ := c3b0
   go_ret
   exact ⟨se, sbw⟩
 | go_ret
   exact ⟨se, sbw⟩
   ) : P := h
theorem spec_IsSpan.calls (a0_0 : Int) (a0_1 : Int) (r : Bool) (w : World) (h : spec_IsSpan.f a0_0 a0_1 = some r) :
    Calls Tryz.prog 121 #[.agg #[.int .i64 a0_0, .int .i64 a0_1]] w fun e w' => e = .returned (.bool r) ∧ Below w.heap.size w w' := by
 have hu73 := Tryz.underlying73
 have HB := am (Below.refl w.heap.size w)
 have H := h; unfold spec_IsSpan.f at H
 clear h
 obtain ⟨-, c2b0, H⟩ | ⟨-, c2b0, H⟩ := ic_ H
 ·obtain ⟨-, c3b0, H⟩ | ⟨-, c3b0, H⟩ := ic_ H
  ·exact e2_1
  ·exact e2_1
 ·exact e2_1
def spec_PiecesIn.l0 : Nat → Int → Int → List Int → Int → Int → Int → Int → List (S76) → Option (List Int)
  | 0, _, _, _, _, _, _, _, _ => none
  | k + 1, x1, x2, x7, x8, x149000, x149001, x149002, x149003 => if x8 < (x149003.length : Int) then (if 0 ≤ x8 then ((spec_IsSpan.f ((rd_T76 x149003 x8).f0.f0) ((rd_T76 x149003 x8).f0.f1)).bind fun t154 => (if t154 = true then (if x1 ≤ x2 then (if ((rd_T76 x149003 x8).f0.f0) ≤ x2 then (if x1 < ((rd_T76 x149003 x8).f0.f1) then (if x7.length < 17592186044416 then (spec_PiecesIn.l0 k x1 x2 (x7 ++ [x8]) (wrap64 (x8 + 1)) x149000 x149001 x149002 x149003) else (none)) else (spec_PiecesIn.l0 k x1 x2 x7 (wrap64 (x8 + 1)) x149000 x149001 x149002 x149003)) else (spec_PiecesIn.l0 k x1 x2 x7 (wrap64 (x8 + 1)) x149000 x149001 x149002 x149003)) else (spec_PiecesIn.l0 k x1 x2 x7 (wrap64 (x8 + 1)) x149000 x149001 x149002 x149003)) else (spec_PiecesIn.l0 k x1 x2 x7 (wrap64 (x8 + 1)) x149000 x149001 x149002 x149003))) else (none)) else (some x7)
def spec_PiecesIn.f (k : Nat) (a0_0 : Int) (a0_1 : Int) (a0_2 : Int) (l0_3 : List (S76)) (a1 : Int) (a2 : Int) : Option (List Int) := spec_PiecesIn.l0 k a1 a2 (([] : List Int)) 0 a0_0 a0_1 a0_2 l0_3
theorem spec_PiecesIn.mono_l : ∀ k, (∀ y0 y1 y2 y3 y4 y5 y6 y7, LeO (spec_PiecesIn.l0 k y0 y1 y2 y3 y4 y5 y6 y7) (spec_PiecesIn.l0 (k + 1) y0 y1 y2 y3 y4 y5 y6 y7))
  | 0 => fun _ _ _ _ _ _ _ _ r h => by simp [spec_PiecesIn.l0] at h
  | k + 1 => by
    have ih0 := spec_PiecesIn.mono_l k
    · intro y0 y1 y2 y3 y4 y5 y6 y7
      unfold spec_PiecesIn.l0
      exact mo
theorem spec_PiecesIn.mono : ∀ a0 a1 a2 a3 a4 a5 k, LeO (spec_PiecesIn.f k a0 a1 a2 a3 a4 a5) (spec_PiecesIn.f (k + 1) a0 a1 a2 a3 a4 a5) := by
  intro a0 a1 a2 a3 a4 a5 k
  have ih0 := spec_PiecesIn.mono_l k
  unfold spec_PiecesIn.f
  exact mo
theorem e2_2 {P : Prop} (h : P := by
 go_wp2_with (first | ((with_reducible refine gd 9 rfl ?_); refine bx 9 #[.int .i64 0, .int .i64 0] 73 ?_; intro gb153 hg w16 hbox hb; replace HO_7 := rb HO_7 hb; have GW153 := bzw w hg; have GE153 := bzw w hg; replace HB := bsw hb; have BK153 := am hbox; have NB148_153 := nl BK148 hg; have NB153_148 := ng BK148 hg; replace BK148 := bb BK148 hb; clear hb hbox hg; have hnb17 := NB153_148.out; have hnc17 := NB148_153.out; obtain ⟨_, _, _, _⟩ := cc2 BK153) | (have _ := c12b0; (with_reducible refine gc 121 rfl ?_); refine gL (some 25) Tryz.func121 #[.agg #[.int .i64 ((rd_T76 l0_3 x8_1).f0.f0), .int .i64 ((rd_T76 l0_3 x8_1).f0.f1)]] ?_; (with_reducible refine (spec_IsSpan.calls ((rd_T76 l0_3 x8_1).f0.f0) ((rd_T76 l0_3 x8_1).f0.f1) true _ A9.out).mono ?_); rintro e w19 ⟨rfl, hb⟩; refine ⟨_, rfl, ?_⟩; replace HO_7 := am (Kd.R_below a2_0 hb); replace BK148 := am (blk_below (g := gb148) (o := .cells #[.int .i64 a0_0, .int .i64 a0_1, .int .i64 a0_2, .slice (some ad152) l0_3.length c0_3] 32 (0, 0)) (sp BK148) hb); replace BK153 := am (blk_below (g := gb153) (o := .cells #[.int .i64 ((rd_T76 l0_3 x8_1).f0.f0), .int .i64 ((rd_T76 l0_3 x8_1).f0.f1)] 73 (0, 0)) (sp BK153) hb); replace HB := bsw hb; (try clear hb); (try clear hk); obtain ⟨_, _, _, _⟩ := cc2 BK153) | (have _ := c12b0; (with_reducible refine gate_builtin (b := .append) (xs := #[.tmp 43, .tmp 45]) rfl ?_); at_builtin; refine Kd.R_append (Kd.int .i64) (w0 := w) w.heap.size rfl (.tmp 43) (.tmp 45) 25 3 (.int .i64 0) 8 rfl Tryz.underlying25 info3 rfl (by decide) (by omega) u7 x7_1 x8_1 [.int .i64 x8_1] (fun _ => True) (fun _ => False) rfl rfl ?aP (fun _ hk => hk.elim) ?aF ?aO ?aB ?aS ?aL ?_; (case aP => exact rfl); (case aB => exact (sbw)); (case aF => exact (fun _ _ => trivial)); (case aO => exact (sr HO_7)); (case aS => exact (below_size (sbw))); (case aL => have := LMc14.out; omega); intro v156 w21 ho hb hg hat; rw [← Ny155.out] at ho; replace BK148 := am (blk_grown (g := gb148) (o := .cells #[.int .i64 a0_0, .int .i64 a0_1, .int .i64 a0_2, .slice (some ad152) l0_3.length c0_3] 32 (0, 0)) (sk BK148) hg (Kd.R_ne HO_7.out BK148.out (by decide))); replace BK153 := am (blk_grown (g := gb153) (o := .cells #[.int .i64 ((rd_T76 l0_3 x8_1).f0.f0), .int .i64 ((rd_T76 l0_3 x8_1).f0.f1)] 73 (0, 0)) (sk BK153) hg (Kd.R_ne HO_7.out BK153.out (by decide))); replace HB := am hb; have HO157 := am ho; clear HO_7; clear ho hb hg hat) | (have _ := c11b0; (with_reducible refine gc 121 rfl ?_); refine gL (some 25) Tryz.func121 #[.agg #[.int .i64 ((rd_T76 l0_3 x8_1).f0.f0), .int .i64 ((rd_T76 l0_3 x8_1).f0.f1)]] ?_; (with_reducible refine (spec_IsSpan.calls ((rd_T76 l0_3 x8_1).f0.f0) ((rd_T76 l0_3 x8_1).f0.f1) true _ A9.out).mono ?_); rintro e w38 ⟨rfl, hb⟩; refine ⟨_, rfl, ?_⟩; replace HO_7 := am (Kd.R_below a2_0 hb); replace BK148 := am (blk_below (g := gb148) (o := .cells #[.int .i64 a0_0, .int .i64 a0_1, .int .i64 a0_2, .slice (some ad152) l0_3.length c0_3] 32 (0, 0)) (sp BK148) hb); replace BK153 := am (blk_below (g := gb153) (o := .cells #[.int .i64 ((rd_T76 l0_3 x8_1).f0.f0), .int .i64 ((rd_T76 l0_3 x8_1).f0.f1)] 73 (0, 0)) (sp BK153) hb); replace HB := bsw hb; (try clear hb); (try clear hk)) | ((with_reducible refine gc 121 rfl ?_); refine gL (some 25) Tryz.func121 #[.agg #[.int .i64 ((rd_T76 l0_3 x8_1).f0.f0), .int .i64 ((rd_T76 l0_3 x8_1).f0.f1)]] ?_; (with_reducible refine (spec_IsSpan.calls ((rd_T76 l0_3 x8_1).f0.f0) ((rd_T76 l0_3 x8_1).f0.f1) false _ A9.out).mono ?_); rintro e w43 ⟨rfl, hb⟩; refine ⟨_, rfl, ?_⟩; replace HO_7 := am (Kd.R_below a2_0 hb); replace BK148 := am (blk_below (g := gb148) (o := .cells #[.int .i64 a0_0, .int .i64 a0_1, .int .i64 a0_2, .slice (some ad152) l0_3.length c0_3] 32 (0, 0)) (sp BK148) hb); replace BK153 := am (blk_below (g := gb153) (o := .cells #[.int .i64 ((rd_T76 l0_3 x8_1).f0.f0), .int .i64 ((rd_T76 l0_3 x8_1).f0.f1)] 73 (0, 0)) (sp BK153) hb); replace HB := bsw hb; (try clear hb); (try clear hk)))
 first
 | have _ := y155
   go_roundg k1
   case measure => have := HK1.out; omega
   case rel => exact ⟨(y155), (wrap64 (x8_1 + 1)), sc, H', kk1, ⟨sr HO157⟩, ⟨sk BK148⟩, ⟨sbw⟩⟩
 | go_roundg k1
   case measure => have := HK1.out; omega
   case rel => exact ⟨(x7_1), (wrap64 (x8_1 + 1)), sc, H', kk1, ⟨sr HO_7⟩, ⟨sk BK148⟩, ⟨sbw⟩⟩) : P := h
theorem spec_PiecesIn.calls (k : Nat) (a0_0 : Int) (a0_1 : Int) (a0_2 : Int) (A0_3 : Option Addr) (c0_3 : Nat) (l0_3 : List (S76)) (a1 : Int) (a2 : Int) (r : List Int) (w : World) (hr0_3 : Kd.C k76 w A0_3 l0_3.length l0_3) (hc0_3 : l0_3.length ≤ c0_3) (h : spec_PiecesIn.f k a0_0 a0_1 a0_2 l0_3 a1 a2 = some r) :
    Calls Tryz.prog 101 #[.agg #[.int .i64 a0_0, .int .i64 a0_1, .int .i64 a0_2, .slice A0_3 l0_3.length c0_3], .int .i64 a1, .int .i64 a2] w fun e w' => ∃ v0_ : Value, e = .returned (v0_) ∧ Kd.R (Kd.int .i64) 3 w' w.heap.size (fun _ => True) v0_ r ∧ Below w.heap.size w w' := by
 have hu32 := Tryz.underlying32
 have hu73 := Tryz.underlying73
 have HR0_3 := am hr0_3
 have HC0_3 := am hc0_3
 clear hr0_3 hc0_3
 have HB := am (Below.refl w.heap.size w)
 have H := h; unfold spec_PiecesIn.f at H
 clear h
 obtain ⟨y149, hy149⟩ : ∃ y_ : List Int, y_ = (([] : List Int)) := ⟨_, rfl⟩
 replace H : (spec_PiecesIn.l0 k a1 a2 y149 0 a0_0 a0_1 a0_2 l0_3) = some r := ry hy149 H
 have Ny149 := am hy149
 clear hy149
 have H' := am H
 clear H
 go_enter Tryz.func101, Tryz.ntmps101
 go_wp2_with (first | ((with_reducible refine gd 3 rfl ?_); refine bx 3 #[.int .i64 a0_0, .int .i64 a0_1, .int .i64 a0_2, .slice A0_3 l0_3.length c0_3] 32 ?_; intro gb148 hg w4 hbox hb; have GW148 := bz w hg; have GE148 := bz w hg; replace HB := bs hb; have BK148 := am hbox; clear hb hbox hg) | ((with_reducible refine gd 10 rfl ?_); refine rl_ (Kd.int .i64) 3 10 ?_; intro v150 w5 ho6 hb; (first | rw [← Ny149.out] at ho6 | (simp only [Int.reduceToNat] at ho6; rw [← Ny149.out] at ho6)); have HO151 := am (Kd.R_lower ho6 (below_size (sbw))); replace BK148 := bb BK148 hb; replace HB := bsw hb; clear hb ho6))
 go_loopg [7, 8] k (fun kq v7 v8 w' => ∃ (x7_1 : List Int) (x8_1 : Int), v8 = .int .i64 x8_1 ∧ Aside0 (spec_PiecesIn.l0 kq a1 a2 x7_1 x8_1 a0_0 a0_1 a0_2 l0_3 = some r) ∧ Aside0 (kq ≤ k) ∧ Aside0 (Kd.R (Kd.int .i64) 3 w' w.heap.size (fun _ => True) v7 x7_1) ∧ Aside0 (w'.heap[gb148]? = some (.cells #[.int .i64 a0_0, .int .i64 a0_1, .int .i64 a0_2, (.slice A0_3 l0_3.length c0_3)] 32 (0, 0))) ∧ Aside0 (Below w.heap.size w w'))
 case atStart => exact ⟨(y149), (0), sc, H', kk0, ⟨sr HO151⟩, ⟨sk BK148⟩, ⟨sbw⟩⟩
 case round =>
  clear H'
  obtain ⟨x7_1, x8_1, rfl, HA, HK1, HO_7, BK148, HB⟩ := hrel
  cases gk with
  | zero => exact absurd HA.out (by simp [spec_PiecesIn.l0])
  | succ k1 =>
   have H := HA.out
   clear HA
   simp only [spec_PiecesIn.l0] at H
   obtain ⟨-, c7b0, H⟩ | ⟨-, c7b0, H⟩ := ic_ H
   ·obtain ⟨c8b0, H⟩ := id_ H
    obtain ⟨t154, A9, H⟩ := bnd H
    obtain rfl | rfl := tt t154
    ·replace H := ip H
     obtain ⟨-, c11b0, H⟩ | ⟨-, c11b0, H⟩ := ic_ H
     ·obtain ⟨-, c12b0, H⟩ | ⟨-, c12b0, H⟩ := ic_ H
      ·obtain ⟨-, c13b0, H⟩ | ⟨-, c13b0, H⟩ := ic_ H
       ·obtain ⟨LMc14, H⟩ := il_ H
        obtain ⟨y155, hy155⟩ : ∃ y_ : List Int, y_ = (x7_1 ++ [x8_1]) := ⟨_, rfl⟩
        replace H : (spec_PiecesIn.l0 k1 a1 a2 y155 (wrap64 (x8_1 + 1)) a0_0 a0_1 a0_2 l0_3) = some r := ry hy155 H
        have Ny155 := am hy155
        clear hy155
        have H' := am H
        clear H
        obtain ⟨_, _, _, _, _, _, _, _⟩ := cc4 BK148
        obtain ⟨p152, q152, ad152, A152_2, c152_2, A152_3, c152_3, e152, _, _, _, _, hx152_0, hx152_1, hx152_2, hx152_3, HC152_2, HR152_2, HC152_3, HR152_3⟩ := aT_T76 HR0_3 HB x8_1
        cases e152
        exact e2_2
       ·have H' := am H
        clear H
        obtain ⟨_, _, _, _, _, _, _, _⟩ := cc4 BK148
        obtain ⟨p152, q152, ad152, A152_2, c152_2, A152_3, c152_3, e152, _, _, _, _, hx152_0, hx152_1, hx152_2, hx152_3, HC152_2, HR152_2, HC152_3, HR152_3⟩ := aT_T76 HR0_3 HB x8_1
        cases e152
        exact e2_2
      ·have H' := am H
       clear H
       obtain ⟨_, _, _, _, _, _, _, _⟩ := cc4 BK148
       obtain ⟨p152, q152, ad152, A152_2, c152_2, A152_3, c152_3, e152, _, _, _, _, hx152_0, hx152_1, hx152_2, hx152_3, HC152_2, HR152_2, HC152_3, HR152_3⟩ := aT_T76 HR0_3 HB x8_1
       cases e152
       exact e2_2
     ·have H' := am H
      clear H
      obtain ⟨_, _, _, _, _, _, _, _⟩ := cc4 BK148
      obtain ⟨p152, q152, ad152, A152_2, c152_2, A152_3, c152_3, e152, _, _, _, _, hx152_0, hx152_1, hx152_2, hx152_3, HC152_2, HR152_2, HC152_3, HR152_3⟩ := aT_T76 HR0_3 HB x8_1
      cases e152
      exact e2_2
    ·replace H := im H
     have H' := am H
     clear H
     obtain ⟨_, _, _, _, _, _, _, _⟩ := cc4 BK148
     obtain ⟨p152, q152, ad152, A152_2, c152_2, A152_3, c152_3, e152, _, _, _, _, hx152_0, hx152_1, hx152_2, hx152_3, HC152_2, HR152_2, HC152_3, HR152_3⟩ := aT_T76 HR0_3 HB x8_1
     cases e152
     exact e2_2
   ·obtain rfl := Option.some.inj H
    obtain ⟨_, _, _, _, _, _, _, _⟩ := cc4 BK148
    go_wp2
    go_ret
    exact ⟨_, se, sr HO_7, sbw⟩

end Go.Proofs.YthnlkgbhohchoaaGreat.QFnExactRepairedAt
