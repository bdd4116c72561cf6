/- What the Go functions of the law FnExactHeldAt come to, as Lean functions, and that they do: by a program of the session, out of the kit's printer. Conditions: none. (squeezed). -/
import Derived.Test.YtlakjlolahjphaaSq
import Derived.Test.YtlakjlolahjphaaQFnExactHeldAtx0
import Derived.Test.YtlakjlolahjphaaQFnExactHeldAtx4
namespace Go.Proofs.Ytlakjlolahjphaa.QFnExactHeldAt
open Go.RowKit Go.Proofs.YtlakjlolahjphaaW.PrintWords Go.Proofs.YtlakjlolahjphaaW.PrintLast Go.Proofs.YtlakjlolahjphaaW.PrintMore Go.Proofs.Ytlakjlolahjphaa.Open Go.Proofs.Ytlakjlolahjphaa.Sq
attribute [local go_sem] max2_int min2_int max_two min_two max_three min_three max_four min_four   -- for this text's walks alone
attribute [local go_sem] isSome_set
set_option linter.unusedVariables false
set_option linter.unusedSimpArgs false

/-! ### spec_l15Copy: function 148 -/
def spec_l15Copy.f (a0_0 : Int) (l0_1 : List Int) (l0_2 : List Int) : Option (Int × List Int × List Int) := (some (([] : List Int) : List Int)).bind fun y211 => (if y211.length + l0_1.length < 17592186044416 then ((some (([] : List Int) : List Int)).bind fun y217 => (if y217.length + l0_2.length < 17592186044416 then (some (a0_0, (y211 ++ l0_1), (y217 ++ l0_2))) else (none))) else (none))
def spec_l15Copy.T1 : Bool × List (List Nat × List Nat) := (true, [([], []), ([0], [0]), ([], []), ([], []), ([3], [3]), ([2, 4], [2, 4]), ([], []), ([], []), ([7], [7]), ([6, 8, 5], [6, 8]), ([1, 5, 9], [1, 5, 9]), ([10, 9, 0, 1, 2, 3, 4, 5, 6, 7, 8, 9, 10], [10])])
def spec_l15Copy.B1 : List Nat := [0, 1, 0, 0, 8, 28, 0, 0, 128, 508, 1023, 2047]
theorem spec_l15Copy.tab1 : rtab .any (opsOf Try.f148 1) = spec_l15Copy.T1 := by kernel_rfl
theorem spec_l15Copy.bits1 : waitsOk spec_l15Copy.T1.2 spec_l15Copy.B1 = true := by kernel_rfl
set_option maxHeartbeats 8000000 in
set_option maxRecDepth 100000 in
theorem spec_l15Copy.calls (a0_0 : Int) (A0_1 : Option Addr) (c0_1 : Nat) (l0_1 : List Int) (A0_2 : Option Addr) (c0_2 : Nat) (l0_2 : List Int) (r1 : Int) (r2 : List Int) (r3 : List Int) (w : World) (hr0_1 : Kd.C (Kd.int .i64) w A0_1 l0_1.length l0_1) (hc0_1 : l0_1.length ≤ c0_1) (hr0_2 : Kd.C (Kd.int .i64) w A0_2 l0_2.length l0_2) (hc0_2 : l0_2.length ≤ c0_2) (h : spec_l15Copy.f a0_0 l0_1 l0_2 = some (r1, r2, r3)) :
    Calls Try.prog 148 #[.agg #[.int .i64 a0_0, .slice A0_1 l0_1.length c0_1, .slice A0_2 l0_2.length c0_2]] w fun e w' => ∃ v1_ v2_ : Value, e = .returned (.agg #[.int .i64 r1, v1_, v2_]) ∧ Kd.R (Kd.int .i64) 3 w' w.heap.size (fun k_ => some k_ ≠ (v2_ : Value).ownBlock) v1_ r2 ∧ Kd.R (Kd.int .i64) 3 w' w.heap.size (fun k_ => some k_ ≠ (v1_ : Value).ownBlock) v2_ r3 ∧ Below w.heap.size w w' := by
 have hu65 := Try.underlying65
 have HR0_1 := Aside0.mk hr0_1
 have HC0_1 := Aside0.mk hc0_1
 clear hr0_1 hc0_1
 have HR0_2 := Aside0.mk hr0_2
 have HC0_2 := Aside0.mk hc0_2
 clear hr0_2 hc0_2
 have HB := Aside0.mk (Below.refl w.heap.size w)
 have H : ((some (([] : List Int) : List Int)).bind fun y211 => (if y211.length + l0_1.length < 17592186044416 then ((some (([] : List Int) : List Int)).bind fun y217 => (if y217.length + l0_2.length < 17592186044416 then (some (a0_0, (y211 ++ l0_1), (y217 ++ l0_2))) else (none))) else (none))) = some (r1, r2, r3) := h
 clear h
 obtain ⟨y211, hy211⟩ : ∃ y_ : List Int, y_ = (([] : List Int)) := ⟨_, rfl⟩
 replace H : (if y211.length + l0_1.length < 17592186044416 then ((some (([] : List Int) : List Int)).bind fun y217 => (if y217.length + l0_2.length < 17592186044416 then (some (a0_0, (y211 ++ l0_1), (y217 ++ l0_2))) else (none))) else (none)) = some (r1, r2, r3) := by first | (rw [hy211]; with_reducible exact H) | (have H2_ := (Option.bind_some _ _).symm.trans H; rw [hy211]; with_reducible exact H2_) | (have H2_ := (Option.bind_some _ _).symm.trans H; with_reducible exact H2_) | with_reducible exact H | (rw [hy211]; exact H) | exact H
 have Ny211 := Aside0.mk hy211
 clear hy211
 obtain ⟨LMc2, H⟩ := il_ H
 obtain ⟨y214, hy214⟩ : ∃ y_ : List Int, y_ = (y211 ++ l0_1) := ⟨_, rfl⟩
 replace H : ((some (([] : List Int) : List Int)).bind fun y217 => (if y217.length + l0_2.length < 17592186044416 then (some (a0_0, y214, (y217 ++ l0_2))) else (none))) = some (r1, r2, r3) := by first | (rw [hy214]; with_reducible exact H) | (have H2_ := (Option.bind_some _ _).symm.trans H; rw [hy214]; with_reducible exact H2_) | (have H2_ := (Option.bind_some _ _).symm.trans H; with_reducible exact H2_) | with_reducible exact H | (rw [hy214]; exact H) | exact H
 have Ny214 := Aside0.mk hy214
 clear hy214
 obtain ⟨y217, hy217⟩ : ∃ y_ : List Int, y_ = (([] : List Int)) := ⟨_, rfl⟩
 replace H : (if y217.length + l0_2.length < 17592186044416 then (some (a0_0, y214, (y217 ++ l0_2))) else (none)) = some (r1, r2, r3) := by first | (rw [hy217]; with_reducible exact H) | (have H2_ := (Option.bind_some _ _).symm.trans H; rw [hy217]; with_reducible exact H2_) | (have H2_ := (Option.bind_some _ _).symm.trans H; with_reducible exact H2_) | with_reducible exact H | (rw [hy217]; exact H) | exact H
 have Ny217 := Aside0.mk hy217
 clear hy217
 obtain ⟨LMc3, H⟩ := il_ H
 obtain ⟨y220, hy220⟩ : ∃ y_ : List Int, y_ = (y217 ++ l0_2) := ⟨_, rfl⟩
 replace H : (some (a0_0, y214, y220)) = some (r1, r2, r3) := by first | (rw [hy220]; with_reducible exact H) | (have H2_ := (Option.bind_some _ _).symm.trans H; rw [hy220]; with_reducible exact H2_) | (have H2_ := (Option.bind_some _ _).symm.trans H; with_reducible exact H2_) | with_reducible exact H | (rw [hy220]; exact H) | exact H
 have Ny220 := Aside0.mk hy220
 clear hy220
 simp only [Option.some.injEq, Prod.mk.injEq] at H
 obtain ⟨rfl, rfl, rfl⟩ := H
 go_enter Try.func148, Try.ntmps148
 try go_wp2_with (first | ((with_reducible refine gate_dst (N := 1) rfl ?_); refine bx 1 #[.int .i64 a0_0, .slice A0_1 l0_1.length c0_1, .slice A0_2 l0_2.length c0_2] 65 ?_; intro gb209 hg w4 hbox hb; have BK209 := Aside0.mk hbox; have GW209 := bz w hg; have GE209 := bz w hg; replace HB := bs hb; clear hb hbox hg) | ((with_reducible refine gate_dst (N := 2) rfl ?_); refine bx 2 #[.int .i64 0, .slice none 0 0, .slice none 0 0] 65 ?_; intro gb210 hg w5 hbox hb; have BK210 := Aside0.mk hbox; have GW210 := bzw w hg; have GE210 := bzw w hg; replace HB := bsw hb; have NB209_210 := nl BK209 hg; have NB210_209 := ng BK209 hg; replace BK209 := bb BK209 hb; clear hb hbox hg))
 replace BK209 := Aside0.mk (blk_drew BK209.out)
 replace BK210 := Aside0.mk (blk_drew BK210.out)
 replace HB := Aside0.mk (below_drew1 HB.out)
 refine start_ (n := 12) (S := fun w' => w'.cell? ⟨gb209, 0, none⟩ = some (.int .i64 a0_0) ∧ w'.cell? ⟨gb209, 1, none⟩ = some (.slice A0_1 l0_1.length c0_1) ∧ w'.cell? ⟨gb209, 2, none⟩ = some (.slice A0_2 l0_2.length c0_2)) (ds := []) #[false, false, false, false, false, false, false, false, false, false, false, false] (by kernel_rfl) rfl rfl ⟨bc0 BK209, bc1 BK209, bc2 BK209⟩ (fun hHeld => ?_); refine with_tabW spec_l15Copy.tab1 spec_l15Copy.bits1 (fun HT_ HW_ => ?_)
 generalize w5.drew = w6 at BK209 BK210 HB hHeld ⊢
 refine put 0 3 #[true, false, false, false, false, false, false, false, false, false, false, false] HT_ ?_
 refine put 3 6 #[true, false, false, true, false, false, false, false, false, false, false, false] HT_ ?_
 refine put 7 10 #[true, false, false, true, false, false, false, true, false, false, false, false] HT_ ?_
 refine tat3 1 4 #[true, true, false, true, false, false, false, true, false, false, false, false] HT_ HW_ hHeld ?_
 refine tat3 4 7 #[true, true, false, true, true, false, false, true, false, false, false, false] HT_ HW_ hHeld ?_
 refine tat3 8 11 #[true, true, false, true, true, false, false, true, true, false, false, false] HT_ HW_ hHeld ?_
 refine join_ (σ := Value × Value × Value) 3 #[true, true, true, true, true, true, true, true, true, false, false, false] (fun s_ => [(5, s_.1), (8, s_.2.1), (9, s_.2.2)]) (fun s_ w' => (w'.cell? ⟨gb209, 0, none⟩ = some (.int .i64 a0_0) ∧ w'.cell? ⟨gb209, 1, none⟩ = some (.slice A0_1 l0_1.length c0_1) ∧ w'.cell? ⟨gb209, 2, none⟩ = some (.slice A0_2 l0_2.length c0_2)) ∧ (Kd.R (Kd.int .i64) 3 w' w.heap.size (fun k_ => some k_ ≠ (s_.2.2 : Value).ownBlock) s_.2.1 y214) ∧ (Kd.R (Kd.int .i64) 3 w' w.heap.size (fun k_ => some k_ ≠ (s_.2.1 : Value).ownBlock) s_.2.2 y217) ∧ (w'.heap[gb209]? = some (.cells #[.int .i64 a0_0, .slice A0_1 l0_1.length c0_1, .slice A0_2 l0_2.length c0_2] 65 (0, 0))) ∧ (w'.heap[gb210]? = some (.cells #[.int .i64 0, .slice none 0 0, .slice none 0 0] 65 (0, 0))) ∧ (Below w.heap.size w w')) ?_ ?_
 rotate_left
 ·intro hCont
  refine two_ (i := 2) (j := 6) (Ni := some 5) (Nj := some 9) #[true, true, true, true, true, false, false, true, true, false, false, false] #[true, true, false, true, true, false, true, true, true, false, false, false] rfl rfl rfl rfl (two_of HT_.out (by kernel_rfl)) (by decide) (by decide) (fun K hK => ?_) (fun K hK => ?_)
  ·skip
   refine Kd.R_lit_step (Kd.int .i64) _ 3 ?hg (N := 5) ?hd (xs := ([] : List Int)) (inner := []) (ok := fun _ => True) (okp := fun _ => True) ?hr ?hp (fun _ hk => hk) trivial (Below.refl _ _) (Nat.le_refl _) (by simp) ?_; (case hd => rfl); (case hg => rfl); (case hr => first | (go_simp; done) | (go_simp; rfl)); (case hp => exact (Reps.none _ _))
   intro v212 w7 ho8 hb hg_ hnew_
   clear hg_ hnew_
   (first | rw [← Ny211.out] at ho8 | (simp only [Int.reduceToNat] at ho8; rw [← Ny211.out] at ho8))
   have HO213 := Aside0.mk (Kd.R_lower ho8 (below_size (sbw)))
   replace BK209 := bb BK209 hb
   replace BK210 := bb BK210 hb
   replace HB := bsw hb
   clear hb ho8
   refine hK.out _ _ ⟨bc0 BK209, bc1 BK209, bc2 BK209⟩ (fun hHeld => ?_)
   clear hK K
   refine norm_ (a' := ?_) ?_ ?_
   rotate_left
   ·show Act.put _ (some 5) _ = _
    simp only [Act.put, List.setIfInBounds_toArray, List.set_cons_zero, List.set_cons_succ, i64_w, i32_w]
    rfl
   refine two_ (i := 5) (j := 6) (Ni := some 8) (Nj := some 9) #[true, true, true, true, true, true, false, true, true, false, false, false] #[true, true, true, true, true, false, true, true, true, false, false, false] rfl rfl rfl rfl (two_of HT_.out (by kernel_rfl)) (by decide) (by decide) (fun K hK => ?_) (fun K hK => ?_)
   ·skip
    refine Kd.R_append_rows_step (Kd.int .i64) (w0 := w) w.heap.size (by rfl) (.tmp 5) (.tmp 7) 40 3 (.int .i64 0) 8 rfl Try.underlying40 info3 rfl (by decide) (by omega) v212 y211 l0_1 _ _ _ (fun _ => True) (fun _ => False) rfl rfl ?aO ?aR (fun _ _ h => h) (fun _ h => h.elim) ?aF ?aB ?aS ?aL ?_
    (case aR => repeat (first | exact (Kd.C_below HR0_1.out HB.out) | (with_reducible refine Kd.C_alloc ?_ _) | (with_reducible refine Kd.C_drewN ?_ _) | (with_reducible refine Kd.C_drew ?_)))
    (case aB => exact (sbw))
    (case aF => exact (fun _ _ => trivial))
    (case aO => exact (sr HO213))
    (case aS => exact (below_size (sbw)))
    (case aL => have := LMc2.out; omega)
    intro v215 w9 ho hb hg hat
    rw [← Ny214.out] at ho
    replace BK209 := Aside0.mk (blk_grown (g := gb209) (o := .cells #[.int .i64 a0_0, .slice A0_1 l0_1.length c0_1, .slice A0_2 l0_2.length c0_2] 65 (0, 0)) (sk BK209) hg (Kd.R_ne HO213.out BK209.out (by decide)))
    replace BK210 := Aside0.mk (blk_grown (g := gb210) (o := .cells #[.int .i64 0, .slice none 0 0, .slice none 0 0] 65 (0, 0)) (sk BK210) hg (Kd.R_ne HO213.out BK210.out (by decide)))
    replace HB := Aside0.mk hb
    have HO216 := Aside0.mk ho
    clear HO213 ho hb hg hat
    refine hK.out _ _ ⟨bc0 BK209, bc1 BK209, bc2 BK209⟩ (fun hHeld => ?_)
    clear hK K
    refine norm_ (a' := ?_) ?_ ?_
    rotate_left
    ·show Act.put _ (some 8) _ = _
     simp only [Act.put, List.setIfInBounds_toArray, List.set_cons_zero, List.set_cons_succ, i64_w, i32_w]
     rfl
    refine one_ (i := 6) (N := some 9) #[true, true, true, true, true, true, true, true, true, false, false, false] rfl rfl (one_of HT_.out (by kernel_rfl)) (by decide) (fun K hK => ?_)
    refine Kd.R_lit_step (Kd.int .i64) _ 3 ?hg (N := 9) ?hd (xs := ([] : List Int)) (inner := []) (ok := fun _ => True) (okp := fun _ => True) ?hr ?hp (fun _ hk => hk) trivial (Below.refl _ _) (Nat.le_refl _) (by simp) ?_; (case hd => rfl); (case hg => rfl); (case hr => first | (go_simp; done) | (go_simp; rfl)); (case hp => exact (Reps.none _ _))
    intro v218 w10 ho11 hb hg_ hnew_
    clear hg_ hnew_
    (first | rw [← Ny217.out] at ho11 | (simp only [Int.reduceToNat] at ho11; rw [← Ny217.out] at ho11))
    have HO219 := Aside0.mk (Kd.R_lower (Kd.R_new' ho11 (Kd.R_lt (sr HO216))) (below_size (sbw)))
    replace HO216 := Aside0.mk (Kd.R_elder' (sr HO216) (Kd.R_base ho11) hb)
    replace BK209 := bb BK209 hb
    replace BK210 := bb BK210 hb
    replace HB := bsw hb
    clear hb ho11
    refine hK.out _ _ ⟨bc0 BK209, bc1 BK209, bc2 BK209⟩ (fun hHeld => ?_)
    clear hK K
    refine norm_ (a' := ?_) ?_ ?_
    rotate_left
    ·show Act.put _ (some 9) _ = _
     simp only [Act.put, List.setIfInBounds_toArray, List.set_cons_zero, List.set_cons_succ, i64_w, i32_w]
     rfl
    exact norm_ (by simp only [putAll, Act.put, List.setIfInBounds_toArray, List.set_cons_zero, List.set_cons_succ]) (hCont (v212, v215, v218) _ ⟨hHeld, (by (with_reducible repeat (first | apply Kd.R_alloc | apply Kd.R_drewN | apply Kd.R_drew)); exact Kd.R_mono HO216.out (fun _ hk => hk.2)), (by (with_reducible repeat (first | apply Kd.R_alloc | apply Kd.R_drewN | apply Kd.R_drew)); exact Kd.R_mono HO219.out (fun _ hk => hk.2)), (sk BK209), (sk BK210), (sbw)⟩)
   ·skip
    refine Kd.R_lit_step (Kd.int .i64) _ 3 ?hg (N := 9) ?hd (xs := ([] : List Int)) (inner := []) (ok := fun _ => True) (okp := fun _ => True) ?hr ?hp (fun _ hk => hk) trivial (Below.refl _ _) (Nat.le_refl _) (by simp) ?_; (case hd => rfl); (case hg => rfl); (case hr => first | (go_simp; done) | (go_simp; rfl)); (case hp => exact (Reps.none _ _))
    intro v218 w9 ho10 hb hg_ hnew_
    clear hg_ hnew_
    (first | rw [← Ny217.out] at ho10 | (simp only [Int.reduceToNat] at ho10; rw [← Ny217.out] at ho10))
    have HO219 := Aside0.mk (Kd.R_lower (Kd.R_new' ho10 (Kd.R_lt (sr HO213))) (below_size (sbw)))
    replace HO213 := Aside0.mk (Kd.R_elder' (sr HO213) (Kd.R_base ho10) hb)
    replace BK209 := bb BK209 hb
    replace BK210 := bb BK210 hb
    replace HB := bsw hb
    clear hb ho10
    refine hK.out _ _ ⟨bc0 BK209, bc1 BK209, bc2 BK209⟩ (fun hHeld => ?_)
    clear hK K
    refine norm_ (a' := ?_) ?_ ?_
    rotate_left
    ·show Act.put _ (some 9) _ = _
     simp only [Act.put, List.setIfInBounds_toArray, List.set_cons_zero, List.set_cons_succ, i64_w, i32_w]
     rfl
    refine one_ (i := 5) (N := some 8) #[true, true, true, true, true, true, true, true, true, false, false, false] rfl rfl (one_of HT_.out (by kernel_rfl)) (by decide) (fun K hK => ?_)
    refine Kd.R_append_rows_step (Kd.int .i64) (w0 := w) w.heap.size (by rfl) (.tmp 5) (.tmp 7) 40 3 (.int .i64 0) 8 rfl Try.underlying40 info3 rfl (by decide) (by omega) v212 y211 l0_1 _ _ _ (fun k_ => some k_ ≠ (v218 : Value).ownBlock) (fun _ => False) rfl rfl ?aO ?aR (fun _ _ h => h) (fun _ h => h.elim) ?aF ?aB ?aS ?aL ?_
    (case aR => repeat (first | exact (Kd.C_below HR0_1.out HB.out) | (with_reducible refine Kd.C_alloc ?_ _) | (with_reducible refine Kd.C_drewN ?_ _) | (with_reducible refine Kd.C_drew ?_)))
    (case aB => exact (sbw))
    (case aF => exact (fun k_ hk => Kd.fresh' (Kd.R_lt (sr HO219)) k_ hk))
    (case aO => exact (by (with_reducible repeat (first | apply Kd.R_alloc | apply Kd.R_drewN | apply Kd.R_drew)); exact Kd.R_mono HO213.out (fun _ hk => hk.2)))
    (case aS => exact (below_size (sbw)))
    (case aL => have := LMc2.out; omega)
    intro v215 w11 ho hb hg hat
    rw [← Ny214.out] at ho
    replace BK209 := Aside0.mk (blk_grown (g := gb209) (o := .cells #[.int .i64 a0_0, .slice A0_1 l0_1.length c0_1, .slice A0_2 l0_2.length c0_2] 65 (0, 0)) (sk BK209) hg (Kd.R_ne HO213.out BK209.out (by decide)))
    replace BK210 := Aside0.mk (blk_grown (g := gb210) (o := .cells #[.int .i64 0, .slice none 0 0, .slice none 0 0] 65 (0, 0)) (sk BK210) hg (Kd.R_ne HO213.out BK210.out (by decide)))
    replace HO219 := Aside0.mk (Kd.R_after (ok := (fun _ => True)) (sr HO219) hg hat)
    replace HB := Aside0.mk hb
    have HO216 := Aside0.mk ho
    clear HO213 ho hb hg hat
    refine hK.out _ _ ⟨bc0 BK209, bc1 BK209, bc2 BK209⟩ (fun hHeld => ?_)
    clear hK K
    refine norm_ (a' := ?_) ?_ ?_
    rotate_left
    ·show Act.put _ (some 8) _ = _
     simp only [Act.put, List.setIfInBounds_toArray, List.set_cons_zero, List.set_cons_succ, i64_w, i32_w]
     rfl
    exact norm_ (by simp only [putAll, Act.put, List.setIfInBounds_toArray, List.set_cons_zero, List.set_cons_succ]) (hCont (v212, v215, v218) _ ⟨hHeld, (sr HO216), (by (with_reducible repeat (first | apply Kd.R_alloc | apply Kd.R_drewN | apply Kd.R_drew)); exact Kd.R_mono HO219.out (fun _ hk => hk.2)), (sk BK209), (sk BK210), (sbw)⟩)
  ·skip
   refine Kd.R_lit_step (Kd.int .i64) _ 3 ?hg (N := 9) ?hd (xs := ([] : List Int)) (inner := []) (ok := fun _ => True) (okp := fun _ => True) ?hr ?hp (fun _ hk => hk) trivial (Below.refl _ _) (Nat.le_refl _) (by simp) ?_; (case hd => rfl); (case hg => rfl); (case hr => first | (go_simp; done) | (go_simp; rfl)); (case hp => exact (Reps.none _ _))
   intro v218 w7 ho8 hb hg_ hnew_
   clear hg_ hnew_
   (first | rw [← Ny217.out] at ho8 | (simp only [Int.reduceToNat] at ho8; rw [← Ny217.out] at ho8))
   have HO219 := Aside0.mk (Kd.R_lower ho8 (below_size (sbw)))
   replace BK209 := bb BK209 hb
   replace BK210 := bb BK210 hb
   replace HB := bsw hb
   clear hb ho8
   refine hK.out _ _ ⟨bc0 BK209, bc1 BK209, bc2 BK209⟩ (fun hHeld => ?_)
   clear hK K
   refine norm_ (a' := ?_) ?_ ?_
   rotate_left
   ·show Act.put _ (some 9) _ = _
    simp only [Act.put, List.setIfInBounds_toArray, List.set_cons_zero, List.set_cons_succ, i64_w, i32_w]
    rfl
   refine one_ (i := 2) (N := some 5) #[true, true, true, true, true, false, true, true, true, false, false, false] rfl rfl (one_of HT_.out (by kernel_rfl)) (by decide) (fun K hK => ?_)
   refine Kd.R_lit_step (Kd.int .i64) _ 3 ?hg (N := 5) ?hd (xs := ([] : List Int)) (inner := []) (ok := fun _ => True) (okp := fun _ => True) ?hr ?hp (fun _ hk => hk) trivial (Below.refl _ _) (Nat.le_refl _) (by simp) ?_; (case hd => rfl); (case hg => rfl); (case hr => first | (go_simp; done) | (go_simp; rfl)); (case hp => exact (Reps.none _ _))
   intro v212 w9 ho10 hb hg_ hnew_
   clear hg_ hnew_
   (first | rw [← Ny211.out] at ho10 | (simp only [Int.reduceToNat] at ho10; rw [← Ny211.out] at ho10))
   have HO213 := Aside0.mk (Kd.R_lower (Kd.R_new' ho10 (Kd.R_lt (sr HO219))) (below_size (sbw)))
   replace HO219 := Aside0.mk (Kd.R_elder' (sr HO219) (Kd.R_base ho10) hb)
   replace BK209 := bb BK209 hb
   replace BK210 := bb BK210 hb
   replace HB := bsw hb
   clear hb ho10
   refine hK.out _ _ ⟨bc0 BK209, bc1 BK209, bc2 BK209⟩ (fun hHeld => ?_)
   clear hK K
   refine norm_ (a' := ?_) ?_ ?_
   rotate_left
   ·show Act.put _ (some 5) _ = _
    simp only [Act.put, List.setIfInBounds_toArray, List.set_cons_zero, List.set_cons_succ, i64_w, i32_w]
    rfl
   refine one_ (i := 5) (N := some 8) #[true, true, true, true, true, true, true, true, true, false, false, false] rfl rfl (one_of HT_.out (by kernel_rfl)) (by decide) (fun K hK => ?_)
   refine Kd.R_append_rows_step (Kd.int .i64) (w0 := w) w.heap.size (by rfl) (.tmp 5) (.tmp 7) 40 3 (.int .i64 0) 8 rfl Try.underlying40 info3 rfl (by decide) (by omega) v212 y211 l0_1 _ _ _ (fun k_ => some k_ ≠ (v218 : Value).ownBlock) (fun _ => False) rfl rfl ?aO ?aR (fun _ _ h => h) (fun _ h => h.elim) ?aF ?aB ?aS ?aL ?_
   (case aR => repeat (first | exact (Kd.C_below HR0_1.out HB.out) | (with_reducible refine Kd.C_alloc ?_ _) | (with_reducible refine Kd.C_drewN ?_ _) | (with_reducible refine Kd.C_drew ?_)))
   (case aB => exact (sbw))
   (case aF => exact (fun k_ hk => Kd.fresh' (Kd.R_lt (sr HO219)) k_ hk))
   (case aO => exact (by (with_reducible repeat (first | apply Kd.R_alloc | apply Kd.R_drewN | apply Kd.R_drew)); exact Kd.R_mono HO213.out (fun _ hk => hk.2)))
   (case aS => exact (below_size (sbw)))
   (case aL => have := LMc2.out; omega)
   intro v215 w11 ho hb hg hat
   rw [← Ny214.out] at ho
   replace BK209 := Aside0.mk (blk_grown (g := gb209) (o := .cells #[.int .i64 a0_0, .slice A0_1 l0_1.length c0_1, .slice A0_2 l0_2.length c0_2] 65 (0, 0)) (sk BK209) hg (Kd.R_ne HO213.out BK209.out (by decide)))
   replace BK210 := Aside0.mk (blk_grown (g := gb210) (o := .cells #[.int .i64 0, .slice none 0 0, .slice none 0 0] 65 (0, 0)) (sk BK210) hg (Kd.R_ne HO213.out BK210.out (by decide)))
   replace HO219 := Aside0.mk (Kd.R_after (ok := (fun _ => True)) (sr HO219) hg hat)
   replace HB := Aside0.mk hb
   have HO216 := Aside0.mk ho
   clear HO213 ho hb hg hat
   refine hK.out _ _ ⟨bc0 BK209, bc1 BK209, bc2 BK209⟩ (fun hHeld => ?_)
   clear hK K
   refine norm_ (a' := ?_) ?_ ?_
   rotate_left
   ·show Act.put _ (some 8) _ = _
    simp only [Act.put, List.setIfInBounds_toArray, List.set_cons_zero, List.set_cons_succ, i64_w, i32_w]
    rfl
   exact norm_ (by simp only [putAll, Act.put, List.setIfInBounds_toArray, List.set_cons_zero, List.set_cons_succ]) (hCont (v212, v215, v218) _ ⟨hHeld, (sr HO216), (by (with_reducible repeat (first | apply Kd.R_alloc | apply Kd.R_drewN | apply Kd.R_drew)); exact Kd.R_mono HO219.out (fun _ hk => hk.2)), (sk BK209), (sk BK210), (sbw)⟩)
 rintro ⟨v212, v215, v218⟩ w12 ⟨hS_, h0_, h1_, h2_, h3_, h4_⟩
 have HO216 : Aside0 (Kd.R (Kd.int .i64) 3 w12 w.heap.size (fun k_ => some k_ ≠ (v218 : Value).ownBlock) v215 y214) := ⟨h0_⟩
 have HO219 : Aside0 (Kd.R (Kd.int .i64) 3 w12 w.heap.size (fun k_ => some k_ ≠ (v215 : Value).ownBlock) v218 y217) := ⟨h1_⟩
 replace BK209 : Aside0 (w12.heap[gb209]? = some (.cells #[.int .i64 a0_0, .slice A0_1 l0_1.length c0_1, .slice A0_2 l0_2.length c0_2] 65 (0, 0))) := ⟨h2_⟩
 replace BK210 : Aside0 (w12.heap[gb210]? = some (.cells #[.int .i64 0, .slice none 0 0, .slice none 0 0] 65 (0, 0))) := ⟨h3_⟩
 replace HB : Aside0 (Below w.heap.size w w12) := ⟨h4_⟩
 clear h0_ h1_ h2_ h3_ h4_
 have hHeld : w12.cell? ⟨gb209, 0, none⟩ = some (.int .i64 a0_0) ∧ w12.cell? ⟨gb209, 1, none⟩ = some (.slice A0_1 l0_1.length c0_1) ∧ w12.cell? ⟨gb209, 2, none⟩ = some (.slice A0_2 l0_2.length c0_2) := hS_
 refine norm_ (a' := ?_) ?_ ?_
 rotate_left
 ·simp only [putAll, Act.put, List.setIfInBounds_toArray, List.set_cons_zero, List.set_cons_succ]
  rfl
 refine one_ (i := 9) (N := some 12) #[true, true, true, true, true, true, true, true, true, true, false, false] rfl rfl (one_of HT_.out (by kernel_rfl)) (by decide) (fun K hK => ?_)
 refine Kd.R_append_rows_step (Kd.int .i64) (w0 := w) w.heap.size (by rfl) (.tmp 9) (.tmp 11) 40 3 (.int .i64 0) 8 rfl Try.underlying40 info3 rfl (by decide) (by omega) v218 y217 l0_2 _ _ _ (fun k_ => some k_ ≠ (v215 : Value).ownBlock) (fun _ => False) rfl rfl ?aO ?aR (fun _ _ h => h) (fun _ h => h.elim) ?aF ?aB ?aS ?aL ?_
 (case aR => repeat (first | exact (Kd.C_below HR0_2.out HB.out) | (with_reducible refine Kd.C_alloc ?_ _) | (with_reducible refine Kd.C_drewN ?_ _) | (with_reducible refine Kd.C_drew ?_)))
 (case aB => exact (sbw))
 (case aF => exact (fun k_ hk => Kd.fresh' (Kd.R_lt (sr HO216)) k_ hk))
 (case aO => exact (sr HO219))
 (case aS => exact (below_size (sbw)))
 (case aL => have := LMc3.out; omega)
 intro v221 w13 ho hb hg hat
 rw [← Ny220.out] at ho
 replace BK209 := Aside0.mk (blk_grown (g := gb209) (o := .cells #[.int .i64 a0_0, .slice A0_1 l0_1.length c0_1, .slice A0_2 l0_2.length c0_2] 65 (0, 0)) (sk BK209) hg (Kd.R_ne HO219.out BK209.out (by decide)))
 replace BK210 := Aside0.mk (blk_grown (g := gb210) (o := .cells #[.int .i64 0, .slice none 0 0, .slice none 0 0] 65 (0, 0)) (sk BK210) hg (Kd.R_ne HO219.out BK210.out (by decide)))
 replace HO216 := Aside0.mk (Kd.R_after (ok := (fun _ => True)) (by (with_reducible repeat (first | apply Kd.R_alloc | apply Kd.R_drewN | apply Kd.R_drew)); exact Kd.R_mono HO216.out (fun _ hk => ⟨trivial, hk⟩)) hg hat)
 replace HB := Aside0.mk hb
 have HO222 := Aside0.mk ho
 clear HO219 ho hb hg hat
 obtain ⟨Ao14, co14, eo14⟩ := Kd.R_slice HO222.out
 (first | subst eo14 | (injection eo14 with f1_ f2_ f3_; have f4_ := f1_.symm; have f5_ := f3_.symm; clear f1_ f2_ f3_; subst f4_; subst f5_))
 obtain ⟨Ao15, co15, eo15⟩ := Kd.R_slice HO216.out
 (first | subst eo15 | (injection eo15 with f1_ f2_ f3_; have f4_ := f1_.symm; have f5_ := f3_.symm; clear f1_ f2_ f3_; subst f4_; subst f5_))
 refine hK.out _ _ ⟨bc0 BK209, bc1 BK209, bc2 BK209⟩ (fun hHeld => ?_)
 clear hK K
 refine norm_ (a' := ?_) ?_ ?_
 rotate_left
 ·show Act.put _ (some 12) _ = _
  simp only [Act.put, List.setIfInBounds_toArray, List.set_cons_zero, List.set_cons_succ, i64_w, i32_w]
  rfl
 refine put 10 13 #[true, true, true, true, true, true, true, true, true, true, true, false] HT_ ?_
 refine one_ (i := 11) (N := none) #[true, true, true, true, true, true, true, true, true, true, true, true] rfl rfl (one_of HT_.out (by kernel_rfl)) (by decide) (fun K hK => ?_)
 obtain ⟨hs16, hfs16⟩ := cc1 BK210
 have hns16_0 := NB209_210.out
 have hms16_0 := NB210_209.out
 have hs17 := bc1 BK210
 have hfs17 := bf BK210 1
 have hns17_0 := NB209_210.out
 have hms17_0 := NB210_209.out
 have hs18 := bc2 BK210
 have hfs18 := bf BK210 2
 have hns18_0 := NB209_210.out
 have hms18_0 := NB210_209.out
 refine skip_ (w1 := ?_) (by rfl) rfl ?_ ?_
 rotate_left
 ·go_simp
  rfl
 refine hK.out _ _ ⟨((cell_far (p := ⟨gb210, _, none⟩) NB209_210.out _).trans (((cell_far (p := ⟨gb210, _, none⟩) NB209_210.out _).trans (((cell_far (p := ⟨gb210, _, none⟩) NB209_210.out _).trans (hHeld.1)))))), ((cell_far (p := ⟨gb210, _, none⟩) NB209_210.out _).trans (((cell_far (p := ⟨gb210, _, none⟩) NB209_210.out _).trans (((cell_far (p := ⟨gb210, _, none⟩) NB209_210.out _).trans (hHeld.2.1)))))), ((cell_far (p := ⟨gb210, _, none⟩) NB209_210.out _).trans (((cell_far (p := ⟨gb210, _, none⟩) NB209_210.out _).trans (((cell_far (p := ⟨gb210, _, none⟩) NB209_210.out _).trans (hHeld.2.2))))))⟩ (fun hHeld => ?_)
 clear hK K
 refine done_ (done_of HT_.out (by kernel_rfl)) ?_
 try go_wp2
 refine bodyPost_ret (results_cell_row rfl _ _ gb210 65 #[.int .i64 a0_0, .slice Ao15 y214.length co15, .slice Ao14 y220.length co14] (0, 0) _ rfl (sp BK210) Try.underlying65 rfl (by kernel_rfl)) rfl ?_
 exact ⟨_, _, se, by (with_reducible repeat (first | apply Kd.R_alloc | apply Kd.R_drewN | apply Kd.R_drew)); exact Kd.R_mono (Kd.R_far (p := ⟨gb210, 2, none⟩) (Kd.R_far (p := ⟨gb210, 1, none⟩) (Kd.R_far (p := ⟨gb210, 0, none⟩) (Kd.R_types HO216.out BK210.out (by decide)) (fun _ hk => hk.2) (.int .i64 a0_0)) (fun _ hk => hk.2) (.slice Ao15 y214.length co15)) (fun _ hk => hk.2) (.slice Ao14 y220.length co14)) (fun _ hk => hk.1.2), by (with_reducible repeat (first | apply Kd.R_alloc | apply Kd.R_drewN | apply Kd.R_drew)); exact Kd.R_mono (Kd.R_far (p := ⟨gb210, 2, none⟩) (Kd.R_far (p := ⟨gb210, 1, none⟩) (Kd.R_far (p := ⟨gb210, 0, none⟩) (Kd.R_types HO222.out BK210.out (by decide)) (fun _ hk => hk.2) (.int .i64 a0_0)) (fun _ hk => hk.2) (.slice Ao15 y214.length co15)) (fun _ hk => hk.2) (.slice Ao14 y220.length co14)) (fun _ hk => hk.1), sbw⟩

/-! ### spec_TableIn: function 104 -/
def spec_TableIn.f (a0_0 : Int) (a0_1 : Int) (a0_2 : Int) (l0_3 : List (S106)) (a1 : Int) (a2 : Int) : Option (Int × List Int × List Int × Bool) := (spec_l1In.f a1 0 (wrap64 ((l0_3.length : Int) - 1))).bind fun t225 => (if t225 = true then (if 0 ≤ a1 then (if a1 < (l0_3.length : Int) then ((spec_l1In.f a2 0 (wrap64 ((((rd_T106 l0_3 a1).f2).length : Int) - 1))).bind fun t227 => (if t227 = true then (if 0 ≤ a2 then (if a2 < (((rd_T106 l0_3 a1).f2).length : Int) then ((spec_l15Copy.f ((rd_T65 ((rd_T106 l0_3 a1).f2) a2).f0) ((rd_T65 ((rd_T106 l0_3 a1).f2) a2).f1) ((rd_T65 ((rd_T106 l0_3 a1).f2) a2).f2)).bind fun bt230 => (some (bt230.1, bt230.2.1, bt230.2.2, true))) else (none)) else (none)) else (some (0, ([] : List Int), ([] : List Int), false)))) else (none)) else (none)) else (some (0, ([] : List Int), ([] : List Int), false)))
set_option maxHeartbeats 8000000 in
set_option maxRecDepth 100000 in
theorem spec_TableIn.calls (a0_0 : Int) (a0_1 : Int) (a0_2 : Int) (A0_3 : Option Addr) (c0_3 : Nat) (l0_3 : List (S106)) (a1 : Int) (a2 : Int) (r1 : Int) (r2 : List Int) (r3 : List Int) (r4 : Bool) (w : World) (hr0_3 : Kd.C k106 w A0_3 l0_3.length l0_3) (hc0_3 : l0_3.length ≤ c0_3) (h : spec_TableIn.f a0_0 a0_1 a0_2 l0_3 a1 a2 = some (r1, r2, r3, r4)) :
    Calls Try.prog 104 #[.agg #[.int .i64 a0_0, .int .i64 a0_1, .int .i64 a0_2, .slice A0_3 l0_3.length c0_3], .int .i64 a1, .int .i64 a2] w fun e w' => ∃ v1_ v2_ : Value, e = .returned (.tuple #[.agg #[.int .i64 r1, v1_, v2_], .bool r4]) ∧ Kd.R (Kd.int .i64) 3 w' w.heap.size (fun k_ => some k_ ≠ (v2_ : Value).ownBlock) v1_ r2 ∧ Kd.R (Kd.int .i64) 3 w' w.heap.size (fun k_ => some k_ ≠ (v1_ : Value).ownBlock) v2_ r3 ∧ Below w.heap.size w w' := by
 have hu29 := Try.underlying29
 have hu65 := Try.underlying65
 have HR0_3 := Aside0.mk hr0_3
 have HC0_3 := Aside0.mk hc0_3
 clear hr0_3 hc0_3
 have HB := Aside0.mk (Below.refl w.heap.size w)
 have H : ((spec_l1In.f a1 0 (wrap64 ((l0_3.length : Int) - 1))).bind fun t225 => (if t225 = true then (if 0 ≤ a1 then (if a1 < (l0_3.length : Int) then ((spec_l1In.f a2 0 (wrap64 ((((rd_T106 l0_3 a1).f2).length : Int) - 1))).bind fun t227 => (if t227 = true then (if 0 ≤ a2 then (if a2 < (((rd_T106 l0_3 a1).f2).length : Int) then ((spec_l15Copy.f ((rd_T65 ((rd_T106 l0_3 a1).f2) a2).f0) ((rd_T65 ((rd_T106 l0_3 a1).f2) a2).f1) ((rd_T65 ((rd_T106 l0_3 a1).f2) a2).f2)).bind fun bt230 => (some (bt230.1, bt230.2.1, bt230.2.2, true))) else (none)) else (none)) else (some (0, ([] : List Int), ([] : List Int), false)))) else (none)) else (none)) else (some (0, ([] : List Int), ([] : List Int), false)))) = some (r1, r2, r3, r4) := h
 clear h
 obtain ⟨t225, A4, H⟩ := bnd H
 obtain rfl | rfl := tt t225
 ·replace H := ip H
  obtain ⟨c6b0, H⟩ := id_ H
  obtain ⟨c7b0, H⟩ := id_ H
  obtain ⟨t227, A8, H⟩ := bnd H
  obtain rfl | rfl := tt t227
  ·replace H := ip H
   obtain ⟨c10b0, H⟩ := id_ H
   obtain ⟨c11b0, H⟩ := id_ H
   obtain ⟨⟨t230, t231, t234⟩, A12, H⟩ := bnd H
   replace H : (some (t230, t231, t234, true)) = some (r1, r2, r3, r4) := H
   simp only [Option.some.injEq, Prod.mk.injEq] at H
   obtain ⟨rfl, rfl, rfl, rfl⟩ := H
   go_enter Try.func104, Try.ntmps104
   go_wp2_with (first | ((with_reducible refine gate_dst (N := 3) rfl ?_); (try (refine gate_guard (by rfl) ?_; dsimp only)); refine bx 3 #[.int .i64 a0_0, .int .i64 a0_1, .int .i64 a0_2, .slice A0_3 l0_3.length c0_3] 29 ?_; intro gb223 hg w13 hbox hb; have BK223 := Aside0.mk hbox; have GW223 := bz w hg; have GE223 := bz w hg; replace HB := bs hb; clear hb hbox hg) | ((with_reducible refine gate_dst (N := 6) rfl ?_); (try (refine gate_guard (by rfl) ?_; dsimp only)); refine bx 6 #[.int .i64 0, .slice none 0 0, .slice none 0 0] 65 ?_; intro gb224 hg w14 hbox hb; have BK224 := Aside0.mk hbox; have GW224 := bzw w hg; have GE224 := bzw w hg; replace HB := bsw hb; have NB223_224 := nl BK223 hg; have NB224_223 := ng BK223 hg; replace BK223 := bb BK223 hb; clear hb hbox hg; have hnb15 := NB223_224.out; have hnc15 := NB224_223.out; obtain ⟨hcz16_0, hcz16_1, hcz16_2, hcz16_3, hfz16_0, hfz16_1, hfz16_2, hfz16_3⟩ := cc4 BK223) | ((with_reducible refine gate_callee (f := 63) rfl ?_); refine gL (some 13) Try.func63 #[.int .i64 a1, .int .i64 0, .int .i64 (wrap64 ((l0_3.length : Int) - 1))] ?_; (with_reducible refine (spec_l1In.calls a1 0 (wrap64 ((l0_3.length : Int) - 1)) true _ A4.out).mono ?_); rintro e w' ⟨rfl, ⟨nd, rfl⟩⟩; refine ⟨_, rfl, ?_⟩; obtain ⟨p226, q226, ad226, A226_2, c226_2, A226_3, c226_3, e226, _, _, _, _, hx226_0, hx226_1, hx226_2, hx226_3, HC226_2, HR226_2, HC226_3, HR226_3⟩ := aT_T106 HR0_3 HB a1; cases e226) | (go_at_call 63; (try simp only [i64_w, i32_w]); (with_reducible refine (spec_l1In.calls a2 0 (wrap64 ((((rd_T106 l0_3 a1).f2).length : Int) - 1)) true _ A8.out).mono ?_); rintro e w' ⟨rfl, ⟨nd, rfl⟩⟩; obtain ⟨p228, q228, ad228, A228_2, c228_2, A228_3, c228_3, e228, _, _, _, _, hx228_0, hx228_1, hx228_2, hx228_3, HC228_2, HR228_2, HC228_3, HR228_3⟩ := aT_T106 HR0_3 HB a1; obtain rfl : ad226 = ad228 := (by injection e228); have ea_ := Option.some.inj (hx226_2.symm.trans hx228_2); injection ea_ with ea_ en_ ec_; subst ea_; subst ec_; clear en_; have ea_ := Option.some.inj (hx226_3.symm.trans hx228_3); injection ea_ with ea_ en_ ec_; subst ea_; subst ec_; clear en_; obtain ⟨p229, q229, ad229, A229_1, c229_1, A229_2, c229_2, e229, _, _, _, hx229_0, hx229_1, hx229_2, HC229_1, HR229_1, HC229_2, HR229_2⟩ := aT_T65 HR228_3 HB a2; cases e229) | ((with_reducible refine gate_callee (f := 148) rfl ?_); refine gL (some 38) Try.func148 #[.agg #[.int .i64 ((rd_T65 ((rd_T106 l0_3 a1).f2) a2).f0), .slice A229_1 ((rd_T65 ((rd_T106 l0_3 a1).f2) a2).f1).length c229_1, .slice A229_2 ((rd_T65 ((rd_T106 l0_3 a1).f2) a2).f2).length c229_2]] ?_; (with_reducible refine (spec_l15Copy.calls ((rd_T65 ((rd_T106 l0_3 a1).f2) a2).f0) _ _ ((rd_T65 ((rd_T106 l0_3 a1).f2) a2).f1) _ _ ((rd_T65 ((rd_T106 l0_3 a1).f2) a2).f2) t230 t231 t234 _ ?side1 ?side2 ?side3 ?side4 A12.out).mono ?_); (case side1 => exact cb HR229_1); (case side2 => exact HC229_1.out); (case side3 => exact cb HR229_2); (case side4 => exact HC229_2.out); rintro e w17 ⟨v232, v235, rfl, ho0, ho1, hb⟩; refine ⟨_, rfl, ?_⟩; have HO233 := Aside0.mk (Kd.R_lower ho0 (below_size (sbw))); have HO236 := Aside0.mk (Kd.R_lower ho1 (below_size (sbw))); replace BK223 := bb BK223 hb; replace BK224 := bb BK224 hb; replace HB := bsw hb; (try clear hb); (try clear hb2); (try clear hk); (try clear hi); (try clear ho0); (try clear ho1); obtain ⟨hcz18_0, hcz18_1, hcz18_2, hfz18_0, hfz18_1, hfz18_2⟩ := cc3 BK224; obtain ⟨Ao19, co19, eo19⟩ := Kd.R_slice HO233.out; subst eo19; obtain ⟨Ao20, co20, eo20⟩ := Kd.R_slice HO236.out; subst eo20))
   refine bodyPost_ret (results_ct rfl _ _ gb224 65 #[.int .i64 t230, .slice Ao19 t231.length co19, .slice Ao20 t234.length co20] (0, 0) _ rfl (sp BK224) Try.underlying65 rfl (by kernel_rfl)) rfl ?_
   exact ⟨_, _, se, by (with_reducible repeat (first | apply Kd.R_alloc | apply Kd.R_drewN | apply Kd.R_drew)); exact Kd.R_mono (Kd.R_far (p := ⟨gb224, 2, none⟩) (Kd.R_far (p := ⟨gb224, 1, none⟩) (Kd.R_far (p := ⟨gb224, 0, none⟩) (Kd.R_types HO233.out BK224.out (by decide)) (fun _ hk => hk.2) (.int .i64 t230)) (fun _ hk => hk.2) (.slice Ao19 t231.length co19)) (fun _ hk => hk.2) (.slice Ao20 t234.length co20)) (fun _ hk => hk.1), by (with_reducible repeat (first | apply Kd.R_alloc | apply Kd.R_drewN | apply Kd.R_drew)); exact Kd.R_mono (Kd.R_far (p := ⟨gb224, 2, none⟩) (Kd.R_far (p := ⟨gb224, 1, none⟩) (Kd.R_far (p := ⟨gb224, 0, none⟩) (Kd.R_types HO236.out BK224.out (by decide)) (fun _ hk => hk.2) (.int .i64 t230)) (fun _ hk => hk.2) (.slice Ao19 t231.length co19)) (fun _ hk => hk.2) (.slice Ao20 t234.length co20)) (fun _ hk => hk.1), sbw⟩
  ·replace H := im H
   simp only [Option.some.injEq, Prod.mk.injEq] at H
   obtain ⟨rfl, rfl, rfl, rfl⟩ := H
   go_enter Try.func104, Try.ntmps104
   go_wp2_with (first | ((with_reducible refine gate_dst (N := 3) rfl ?_); (try (refine gate_guard (by rfl) ?_; dsimp only)); refine bx 3 #[.int .i64 a0_0, .int .i64 a0_1, .int .i64 a0_2, .slice A0_3 l0_3.length c0_3] 29 ?_; intro gb223 hg w21 hbox hb; have BK223 := Aside0.mk hbox; have GW223 := bz w hg; have GE223 := bz w hg; replace HB := bs hb; clear hb hbox hg) | ((with_reducible refine gate_dst (N := 6) rfl ?_); (try (refine gate_guard (by rfl) ?_; dsimp only)); refine bx 6 #[.int .i64 0, .slice none 0 0, .slice none 0 0] 65 ?_; intro gb224 hg w22 hbox hb; have BK224 := Aside0.mk hbox; have GW224 := bzw w hg; have GE224 := bzw w hg; replace HB := bsw hb; have NB223_224 := nl BK223 hg; have NB224_223 := ng BK223 hg; replace BK223 := bb BK223 hb; clear hb hbox hg; have hnb23 := NB223_224.out; have hnc23 := NB224_223.out; obtain ⟨hcz24_0, hcz24_1, hcz24_2, hcz24_3, hfz24_0, hfz24_1, hfz24_2, hfz24_3⟩ := cc4 BK223) | ((with_reducible refine gate_callee (f := 63) rfl ?_); refine gL (some 13) Try.func63 #[.int .i64 a1, .int .i64 0, .int .i64 (wrap64 ((l0_3.length : Int) - 1))] ?_; (with_reducible refine (spec_l1In.calls a1 0 (wrap64 ((l0_3.length : Int) - 1)) true _ A4.out).mono ?_); rintro e w' ⟨rfl, ⟨nd, rfl⟩⟩; refine ⟨_, rfl, ?_⟩; obtain ⟨p226, q226, ad226, A226_2, c226_2, A226_3, c226_3, e226, _, _, _, _, hx226_0, hx226_1, hx226_2, hx226_3, HC226_2, HR226_2, HC226_3, HR226_3⟩ := aT_T106 HR0_3 HB a1; cases e226) | (go_at_call 63; (try simp only [i64_w, i32_w]); (with_reducible refine (spec_l1In.calls a2 0 (wrap64 ((((rd_T106 l0_3 a1).f2).length : Int) - 1)) false _ A8.out).mono ?_); rintro e w' ⟨rfl, ⟨nd, rfl⟩⟩; obtain ⟨hcz25_0, hcz25_1, hcz25_2, hfz25_0, hfz25_1, hfz25_2⟩ := cc3 BK224))
   refine bodyPost_ret (results_ct rfl _ _ gb224 65 #[.int .i64 0, .slice none 0 0, .slice none 0 0] (0, 0) _ rfl (sp BK224) Try.underlying65 rfl (by kernel_rfl)) rfl ?_
   exact ⟨_, _, se, sn, sn, sbw⟩
 ·replace H := im H
  simp only [Option.some.injEq, Prod.mk.injEq] at H
  obtain ⟨rfl, rfl, rfl, rfl⟩ := H
  go_enter Try.func104, Try.ntmps104
  go_wp2_with (first | ((with_reducible refine gate_dst (N := 3) rfl ?_); (try (refine gate_guard (by rfl) ?_; dsimp only)); refine bx 3 #[.int .i64 a0_0, .int .i64 a0_1, .int .i64 a0_2, .slice A0_3 l0_3.length c0_3] 29 ?_; intro gb223 hg w26 hbox hb; have BK223 := Aside0.mk hbox; have GW223 := bz w hg; have GE223 := bz w hg; replace HB := bs hb; clear hb hbox hg) | ((with_reducible refine gate_dst (N := 6) rfl ?_); (try (refine gate_guard (by rfl) ?_; dsimp only)); refine bx 6 #[.int .i64 0, .slice none 0 0, .slice none 0 0] 65 ?_; intro gb224 hg w27 hbox hb; have BK224 := Aside0.mk hbox; have GW224 := bzw w hg; have GE224 := bzw w hg; replace HB := bsw hb; have NB223_224 := nl BK223 hg; have NB224_223 := ng BK223 hg; replace BK223 := bb BK223 hb; clear hb hbox hg; have hnb28 := NB223_224.out; have hnc28 := NB224_223.out; obtain ⟨hcz29_0, hcz29_1, hcz29_2, hcz29_3, hfz29_0, hfz29_1, hfz29_2, hfz29_3⟩ := cc4 BK223) | ((with_reducible refine gate_callee (f := 63) rfl ?_); refine gL (some 13) Try.func63 #[.int .i64 a1, .int .i64 0, .int .i64 (wrap64 ((l0_3.length : Int) - 1))] ?_; (with_reducible refine (spec_l1In.calls a1 0 (wrap64 ((l0_3.length : Int) - 1)) false _ A4.out).mono ?_); rintro e w' ⟨rfl, ⟨nd, rfl⟩⟩; refine ⟨_, rfl, ?_⟩; obtain ⟨hcz30_0, hcz30_1, hcz30_2, hfz30_0, hfz30_1, hfz30_2⟩ := cc3 BK224))
  refine bodyPost_ret (results_ct rfl _ _ gb224 65 #[.int .i64 0, .slice none 0 0, .slice none 0 0] (0, 0) _ rfl (sp BK224) Try.underlying65 rfl (by kernel_rfl)) rfl ?_
  exact ⟨_, _, se, sn, sn, sbw⟩

/-! ### spec_IsSpan: function 143 -/
def spec_IsSpan.f (a0_0 : Int) (a0_1 : Int) : Option (Bool) := if a0_0 ≥ 0 then (if a0_1 ≤ 1000 then (some (decide (a0_0 < a0_1))) else (some false)) else (some false)
set_option maxHeartbeats 8000000 in
set_option maxRecDepth 100000 in
theorem spec_IsSpan.calls (a0_0 : Int) (a0_1 : Int) (r : Bool) (w : World) (h : spec_IsSpan.f a0_0 a0_1 = some r) :
    Calls Try.prog 143 #[.agg #[.int .i64 a0_0, .int .i64 a0_1]] w fun e w' => e = .returned (.bool r) ∧ Below w.heap.size w w' := by
 have hu91 := Try.underlying91
 have HB := Aside0.mk (Below.refl w.heap.size w)
 have H : (if a0_0 ≥ 0 then (if a0_1 ≤ 1000 then (some (decide (a0_0 < a0_1))) else (some false)) else (some false)) = some r := h
 clear h
 obtain ⟨c2, H⟩ | ⟨c2, H⟩ := ie_ H
 ·have c2b0 := decide_eq_true c2
  clear c2
  obtain ⟨c3, H⟩ | ⟨c3, H⟩ := ie_ H
  ·have c3b0 := decide_eq_true c3
   clear c3
   obtain rfl := Option.some.inj H
   go_enter Try.func143, Try.ntmps143
   go_wp2_with (first | ((with_reducible refine gate_dst (N := 1) rfl ?_); refine bx 1 #[.int .i64 a0_0, .int .i64 a0_1] 91 ?_; intro gb237 hg w4 hbox hb; have BK237 := Aside0.mk hbox; have GW237 := bz w hg; have GE237 := bz w hg; replace HB := bs hb; clear hb hbox hg; obtain ⟨hcz5_0, hcz5_1, hfz5_0, hfz5_1⟩ := cc2 BK237))
   go_ret
   exact ⟨se, sbw⟩
  ·have c3b0 := decide_eq_false c3
   clear c3
   obtain rfl := Option.some.inj H
   go_enter Try.func143, Try.ntmps143
   go_wp2_with (first | ((with_reducible refine gate_dst (N := 1) rfl ?_); refine bx 1 #[.int .i64 a0_0, .int .i64 a0_1] 91 ?_; intro gb237 hg w6 hbox hb; have BK237 := Aside0.mk hbox; have GW237 := bz w hg; have GE237 := bz w hg; replace HB := bs hb; clear hb hbox hg; obtain ⟨hcz7_0, hcz7_1, hfz7_0, hfz7_1⟩ := cc2 BK237))
   go_ret
   exact ⟨se, sbw⟩
 ·have c2b0 := decide_eq_false c2
  clear c2
  obtain rfl := Option.some.inj H
  go_enter Try.func143, Try.ntmps143
  go_wp2_with (first | ((with_reducible refine gate_dst (N := 1) rfl ?_); refine bx 1 #[.int .i64 a0_0, .int .i64 a0_1] 91 ?_; intro gb237 hg w8 hbox hb; have BK237 := Aside0.mk hbox; have GW237 := bz w hg; have GE237 := bz w hg; replace HB := bs hb; clear hb hbox hg; obtain ⟨hcz9_0, hcz9_1, hfz9_0, hfz9_1⟩ := cc2 BK237))
  go_ret
  exact ⟨se, sbw⟩

/-! ### spec_PiecesIn: function 127 -/
def spec_PiecesIn.l0 : Nat → Int → Int → List Int → Int → Int → Int → Int → List (S106) → Option (List Int)
  | 0, _, _, _, _, _, _, _, _ => none
  | k + 1, x1, x2, x7, x8, x239000, x239001, x239002, x239003 => if x8 < (x239003.length : Int) then (if 0 ≤ x8 then ((spec_IsSpan.f ((rd_T106 x239003 x8).f0.f0) ((rd_T106 x239003 x8).f0.f1)).bind fun t244 => (if t244 = true then (if x1 ≤ x2 then (if ((rd_T106 x239003 x8).f0.f0) ≤ x2 then (if x1 < ((rd_T106 x239003 x8).f0.f1) then (if x7.length < 17592186044416 then (spec_PiecesIn.l0 k x1 x2 (x7 ++ [x8]) (wrap64 (x8 + 1)) x239000 x239001 x239002 x239003) else (none)) else (spec_PiecesIn.l0 k x1 x2 x7 (wrap64 (x8 + 1)) x239000 x239001 x239002 x239003)) else (spec_PiecesIn.l0 k x1 x2 x7 (wrap64 (x8 + 1)) x239000 x239001 x239002 x239003)) else (spec_PiecesIn.l0 k x1 x2 x7 (wrap64 (x8 + 1)) x239000 x239001 x239002 x239003)) else (spec_PiecesIn.l0 k x1 x2 x7 (wrap64 (x8 + 1)) x239000 x239001 x239002 x239003))) else (none)) else (some x7)
def spec_PiecesIn.f (k : Nat) (a0_0 : Int) (a0_1 : Int) (a0_2 : Int) (l0_3 : List (S106)) (a1 : Int) (a2 : Int) : Option (List Int) := spec_PiecesIn.l0 k a1 a2 (([] : List Int)) 0 a0_0 a0_1 a0_2 l0_3
theorem spec_PiecesIn.mono_l : ∀ k, (∀ y0 y1 y2 y3 y4 y5 y6 y7, LeO (spec_PiecesIn.l0 k y0 y1 y2 y3 y4 y5 y6 y7) (spec_PiecesIn.l0 (k + 1) y0 y1 y2 y3 y4 y5 y6 y7))
  | 0 => fun _ _ _ _ _ _ _ _ r h => by simp [spec_PiecesIn.l0] at h
  | k + 1 => by
    have ih0 := spec_PiecesIn.mono_l k
    · intro y0 y1 y2 y3 y4 y5 y6 y7
      unfold spec_PiecesIn.l0
      exact mo
theorem spec_PiecesIn.mono : ∀ a0 a1 a2 a3 a4 a5 k, LeO (spec_PiecesIn.f k a0 a1 a2 a3 a4 a5) (spec_PiecesIn.f (k + 1) a0 a1 a2 a3 a4 a5) := by
  intro a0 a1 a2 a3 a4 a5 k
  have ih0 := spec_PiecesIn.mono_l k
  unfold spec_PiecesIn.f
  exact mo
set_option maxHeartbeats 8000000 in
set_option maxRecDepth 100000 in
theorem spec_PiecesIn.calls (k : Nat) (a0_0 : Int) (a0_1 : Int) (a0_2 : Int) (A0_3 : Option Addr) (c0_3 : Nat) (l0_3 : List (S106)) (a1 : Int) (a2 : Int) (r : List Int) (w : World) (hr0_3 : Kd.C k106 w A0_3 l0_3.length l0_3) (hc0_3 : l0_3.length ≤ c0_3) (h : spec_PiecesIn.f k a0_0 a0_1 a0_2 l0_3 a1 a2 = some r) :
    Calls Try.prog 127 #[.agg #[.int .i64 a0_0, .int .i64 a0_1, .int .i64 a0_2, .slice A0_3 l0_3.length c0_3], .int .i64 a1, .int .i64 a2] w fun e w' => ∃ v0_ : Value, e = .returned (v0_) ∧ Kd.R (Kd.int .i64) 3 w' w.heap.size (fun _ => True) v0_ r ∧ Below w.heap.size w w' := by
 have hu29 := Try.underlying29
 have hu91 := Try.underlying91
 have HR0_3 := Aside0.mk hr0_3
 have HC0_3 := Aside0.mk hc0_3
 clear hr0_3 hc0_3
 have HB := Aside0.mk (Below.refl w.heap.size w)
 have H : (spec_PiecesIn.l0 k a1 a2 (([] : List Int)) 0 a0_0 a0_1 a0_2 l0_3) = some r := h
 clear h
 obtain ⟨y239, hy239⟩ : ∃ y_ : List Int, y_ = (([] : List Int)) := ⟨_, rfl⟩
 replace H : (spec_PiecesIn.l0 k a1 a2 y239 0 a0_0 a0_1 a0_2 l0_3) = some r := by first | (rw [hy239]; with_reducible exact H) | (have H2_ := (Option.bind_some _ _).symm.trans H; rw [hy239]; with_reducible exact H2_) | (have H2_ := (Option.bind_some _ _).symm.trans H; with_reducible exact H2_) | with_reducible exact H | (rw [hy239]; exact H) | exact H
 have Ny239 := Aside0.mk hy239
 clear hy239
 have H' := Aside0.mk H
 clear H
 go_enter Try.func127, Try.ntmps127
 go_wp2_with (first | ((with_reducible refine gate_dst (N := 3) rfl ?_); refine bx 3 #[.int .i64 a0_0, .int .i64 a0_1, .int .i64 a0_2, .slice A0_3 l0_3.length c0_3] 29 ?_; intro gb238 hg w4 hbox hb; have BK238 := Aside0.mk hbox; have GW238 := bz w hg; have GE238 := bz w hg; replace HB := bs hb; clear hb hbox hg) | ((with_reducible refine gate_dst (N := 10) rfl ?_); refine Kd.R_lit (Kd.int .i64) _ 3 ?hg (N := 10) ?hd (xs := ([] : List Int)) (inner := []) (ok := fun _ => True) (okp := fun _ => True) ?hr ?hp (fun _ hk => hk) trivial (Below.refl _ _) (Nat.le_refl _) (by simp) ?_; (case hd => rfl); (case hg => rfl); (case hr => first | (go_simp; done) | (go_simp; rfl)); (case hp => exact (Reps.none _ _)); intro v240 w5 ho6 hb hg_ hnew_; clear hg_ hnew_; (first | rw [← Ny239.out] at ho6 | (simp only [Int.reduceToNat] at ho6; rw [← Ny239.out] at ho6)); have HO241 := Aside0.mk (Kd.R_lower ho6 (below_size (sbw))); replace BK238 := bb BK238 hb; replace HB := bsw hb; clear hb ho6))
 go_loopg [7, 8] k (fun kq v7 v8 w' => ∃ (x7_1 : List Int) (x8_1 : Int), v8 = .int .i64 x8_1 ∧ Aside0 (spec_PiecesIn.l0 kq a1 a2 x7_1 x8_1 a0_0 a0_1 a0_2 l0_3 = some r) ∧ Aside0 (kq ≤ k) ∧ Aside0 (Kd.R (Kd.int .i64) 3 w' w.heap.size (fun _ => True) v7 x7_1) ∧ Aside0 (w'.heap[gb238]? = some (.cells #[.int .i64 a0_0, .int .i64 a0_1, .int .i64 a0_2, (.slice A0_3 l0_3.length c0_3)] 29 (0, 0))) ∧ Aside0 (Below w.heap.size w w'))
 case atStart => exact ⟨(y239), (0), sc, H', kk0, ⟨sr HO241⟩, ⟨sk BK238⟩, ⟨sbw⟩⟩
 case round =>
  clear H'
  obtain ⟨x7_1, x8_1, rfl, HA, HK1, HO_7, BK238, HB⟩ := hrel
  cases gk with
  | zero => exact absurd HA.out (by simp [spec_PiecesIn.l0])
  | succ k1 =>
   have H := HA.out
   clear HA
   simp only [spec_PiecesIn.l0] at H
   obtain ⟨c7, H⟩ | ⟨c7, H⟩ := ie_ H
   ·have c7b0 := decide_eq_true c7
    clear c7
    obtain ⟨c8b0, H⟩ := id_ H
    obtain ⟨t244, A9, H⟩ := bnd H
    obtain rfl | rfl := tt t244
    ·replace H := ip H
     obtain ⟨c11, H⟩ | ⟨c11, H⟩ := ie_ H
     ·have c11b0 := decide_eq_true c11
      clear c11
      obtain ⟨c12, H⟩ | ⟨c12, H⟩ := ie_ H
      ·have c12b0 := decide_eq_true c12
       clear c12
       obtain ⟨c13, H⟩ | ⟨c13, H⟩ := ie_ H
       ·have c13b0 := decide_eq_true c13
        clear c13
        obtain ⟨LMc14, H⟩ := il_ H
        obtain ⟨y245, hy245⟩ : ∃ y_ : List Int, y_ = (x7_1 ++ [x8_1]) := ⟨_, rfl⟩
        replace H : (spec_PiecesIn.l0 k1 a1 a2 y245 (wrap64 (x8_1 + 1)) a0_0 a0_1 a0_2 l0_3) = some r := by first | (rw [hy245]; with_reducible exact H) | (have H2_ := (Option.bind_some _ _).symm.trans H; rw [hy245]; with_reducible exact H2_) | (have H2_ := (Option.bind_some _ _).symm.trans H; with_reducible exact H2_) | with_reducible exact H | (rw [hy245]; exact H) | exact H
        have Ny245 := Aside0.mk hy245
        clear hy245
        have H' := Aside0.mk H
        clear H
        obtain ⟨hcz15_0, hcz15_1, hcz15_2, hcz15_3, hfz15_0, hfz15_1, hfz15_2, hfz15_3⟩ := cc4 BK238
        obtain ⟨p242, q242, ad242, A242_2, c242_2, A242_3, c242_3, e242, _, _, _, _, hx242_0, hx242_1, hx242_2, hx242_3, HC242_2, HR242_2, HC242_3, HR242_3⟩ := aT_T106 HR0_3 HB x8_1
        cases e242
        go_wp2_with (first | ((with_reducible refine gate_dst (N := 9) rfl ?_); refine bx 9 #[.int .i64 0, .int .i64 0] 91 ?_; intro gb243 hg w16 hbox hb; replace HO_7 := Aside0.mk (Kd.R_below (sr HO_7) hb); have BK243 := Aside0.mk hbox; have GW243 := bzw w hg; have GE243 := bzw w hg; replace HB := bsw hb; have NB238_243 := nl BK238 hg; have NB243_238 := ng BK238 hg; replace BK238 := bb BK238 hb; clear hb hbox hg; have hnb17 := NB243_238.out; have hnc17 := NB238_243.out; obtain ⟨hcz18_0, hcz18_1, hfz18_0, hfz18_1⟩ := cc2 BK243) | ((with_reducible refine gate_callee (f := 143) rfl ?_); refine gL (some 25) Try.func143 #[.agg #[.int .i64 ((rd_T106 l0_3 x8_1).f0.f0), .int .i64 ((rd_T106 l0_3 x8_1).f0.f1)]] ?_; (with_reducible refine (spec_IsSpan.calls ((rd_T106 l0_3 x8_1).f0.f0) ((rd_T106 l0_3 x8_1).f0.f1) true _ A9.out).mono ?_); rintro e w19 ⟨rfl, hb⟩; refine ⟨_, rfl, ?_⟩; replace HO_7 := Aside0.mk (Kd.R_below (by (with_reducible repeat (first | apply Kd.R_alloc | apply Kd.R_drewN | apply Kd.R_drew)); exact (Kd.R_mono (Kd.R_far (p := ⟨gb243, 1, none⟩) (Kd.R_far (p := ⟨gb243, 0, none⟩) (Kd.R_types HO_7.out BK243.out (by decide)) (fun _ hk => hk.2) (.int .i64 ((rd_T106 l0_3 x8_1).f0.f0))) (fun _ hk => hk.2) (.int .i64 ((rd_T106 l0_3 x8_1).f0.f1))) (fun _ h_ => h_.1))) hb); replace BK238 := Aside0.mk (blk_below (g := gb238) (o := .cells #[.int .i64 a0_0, .int .i64 a0_1, .int .i64 a0_2, .slice (some ad242) l0_3.length c0_3] 29 (0, 0)) (sp BK238) hb); replace BK243 := Aside0.mk (blk_below (g := gb243) (o := .cells #[.int .i64 ((rd_T106 l0_3 x8_1).f0.f0), .int .i64 ((rd_T106 l0_3 x8_1).f0.f1)] 91 (0, 0)) (sp BK243) hb); replace HB := bsw hb; (try clear hb); (try clear hb2); (try clear hk); (try clear hi); obtain ⟨hcz20_0, hcz20_1, hfz20_0, hfz20_1⟩ := cc2 BK243) | ((with_reducible refine gate_builtin (b := .append) (xs := #[.tmp 43, .tmp 45]) rfl ?_); at_builtin; refine Kd.R_append (Kd.int .i64) (w0 := w) w.heap.size rfl (.tmp 43) (.tmp 45) 40 3 (.int .i64 0) 8 rfl Try.underlying40 info3 rfl (by decide) (by omega) u7 x7_1 x8_1 [.int .i64 x8_1] (fun _ => True) (fun _ => False) rfl rfl ?aP (fun _ hk => hk.elim) ?aF ?aO ?aB ?aS ?aL ?_; (case aP => exact rfl); (case aB => exact (sbw)); (case aF => exact (fun _ _ => trivial)); (case aO => exact (sr HO_7)); (case aS => exact (below_size (sbw))); (case aL => have := LMc14.out; omega); intro v246 w21 ho hb hg hat; rw [← Ny245.out] at ho; replace BK238 := Aside0.mk (blk_grown (g := gb238) (o := .cells #[.int .i64 a0_0, .int .i64 a0_1, .int .i64 a0_2, .slice (some ad242) l0_3.length c0_3] 29 (0, 0)) (sk BK238) hg (Kd.R_ne HO_7.out BK238.out (by decide))); replace BK243 := Aside0.mk (blk_grown (g := gb243) (o := .cells #[.int .i64 ((rd_T106 l0_3 x8_1).f0.f0), .int .i64 ((rd_T106 l0_3 x8_1).f0.f1)] 91 (0, 0)) (sk BK243) hg (Kd.R_ne HO_7.out BK243.out (by decide))); replace HB := Aside0.mk hb; have HO247 := Aside0.mk ho; clear HO_7; clear ho hb hg hat))
        go_roundg k1
        case measure => have := HK1.out; omega
        case rel => exact ⟨(y245), (wrap64 (x8_1 + 1)), sc, H', kk1, ⟨sr HO247⟩, ⟨sk BK238⟩, ⟨sbw⟩⟩
       ·have c13b0 := decide_eq_false c13
        clear c13
        have H' := Aside0.mk H
        clear H
        obtain ⟨hcz22_0, hcz22_1, hcz22_2, hcz22_3, hfz22_0, hfz22_1, hfz22_2, hfz22_3⟩ := cc4 BK238
        obtain ⟨p242, q242, ad242, A242_2, c242_2, A242_3, c242_3, e242, _, _, _, _, hx242_0, hx242_1, hx242_2, hx242_3, HC242_2, HR242_2, HC242_3, HR242_3⟩ := aT_T106 HR0_3 HB x8_1
        cases e242
        go_wp2_with (first | ((with_reducible refine gate_dst (N := 9) rfl ?_); refine bx 9 #[.int .i64 0, .int .i64 0] 91 ?_; intro gb243 hg w23 hbox hb; replace HO_7 := Aside0.mk (Kd.R_below (sr HO_7) hb); have BK243 := Aside0.mk hbox; have GW243 := bzw w hg; have GE243 := bzw w hg; replace HB := bsw hb; have NB238_243 := nl BK238 hg; have NB243_238 := ng BK238 hg; replace BK238 := bb BK238 hb; clear hb hbox hg; have hnb24 := NB243_238.out; have hnc24 := NB238_243.out; obtain ⟨hcz25_0, hcz25_1, hfz25_0, hfz25_1⟩ := cc2 BK243) | ((with_reducible refine gate_callee (f := 143) rfl ?_); refine gL (some 25) Try.func143 #[.agg #[.int .i64 ((rd_T106 l0_3 x8_1).f0.f0), .int .i64 ((rd_T106 l0_3 x8_1).f0.f1)]] ?_; (with_reducible refine (spec_IsSpan.calls ((rd_T106 l0_3 x8_1).f0.f0) ((rd_T106 l0_3 x8_1).f0.f1) true _ A9.out).mono ?_); rintro e w26 ⟨rfl, hb⟩; refine ⟨_, rfl, ?_⟩; replace HO_7 := Aside0.mk (Kd.R_below (by (with_reducible repeat (first | apply Kd.R_alloc | apply Kd.R_drewN | apply Kd.R_drew)); exact (Kd.R_mono (Kd.R_far (p := ⟨gb243, 1, none⟩) (Kd.R_far (p := ⟨gb243, 0, none⟩) (Kd.R_types HO_7.out BK243.out (by decide)) (fun _ hk => hk.2) (.int .i64 ((rd_T106 l0_3 x8_1).f0.f0))) (fun _ hk => hk.2) (.int .i64 ((rd_T106 l0_3 x8_1).f0.f1))) (fun _ h_ => h_.1))) hb); replace BK238 := Aside0.mk (blk_below (g := gb238) (o := .cells #[.int .i64 a0_0, .int .i64 a0_1, .int .i64 a0_2, .slice (some ad242) l0_3.length c0_3] 29 (0, 0)) (sp BK238) hb); replace BK243 := Aside0.mk (blk_below (g := gb243) (o := .cells #[.int .i64 ((rd_T106 l0_3 x8_1).f0.f0), .int .i64 ((rd_T106 l0_3 x8_1).f0.f1)] 91 (0, 0)) (sp BK243) hb); replace HB := bsw hb; (try clear hb); (try clear hb2); (try clear hk); (try clear hi); obtain ⟨hcz27_0, hcz27_1, hfz27_0, hfz27_1⟩ := cc2 BK243))
        go_roundg k1
        case measure => have := HK1.out; omega
        case rel => exact ⟨(x7_1), (wrap64 (x8_1 + 1)), sc, H', kk1, ⟨sr HO_7⟩, ⟨sk BK238⟩, ⟨sbw⟩⟩
      ·have c12b0 := decide_eq_false c12
       clear c12
       have H' := Aside0.mk H
       clear H
       obtain ⟨hcz28_0, hcz28_1, hcz28_2, hcz28_3, hfz28_0, hfz28_1, hfz28_2, hfz28_3⟩ := cc4 BK238
       obtain ⟨p242, q242, ad242, A242_2, c242_2, A242_3, c242_3, e242, _, _, _, _, hx242_0, hx242_1, hx242_2, hx242_3, HC242_2, HR242_2, HC242_3, HR242_3⟩ := aT_T106 HR0_3 HB x8_1
       cases e242
       go_wp2_with (first | ((with_reducible refine gate_dst (N := 9) rfl ?_); refine bx 9 #[.int .i64 0, .int .i64 0] 91 ?_; intro gb243 hg w29 hbox hb; replace HO_7 := Aside0.mk (Kd.R_below (sr HO_7) hb); have BK243 := Aside0.mk hbox; have GW243 := bzw w hg; have GE243 := bzw w hg; replace HB := bsw hb; have NB238_243 := nl BK238 hg; have NB243_238 := ng BK238 hg; replace BK238 := bb BK238 hb; clear hb hbox hg; have hnb30 := NB243_238.out; have hnc30 := NB238_243.out; obtain ⟨hcz31_0, hcz31_1, hfz31_0, hfz31_1⟩ := cc2 BK243) | ((with_reducible refine gate_callee (f := 143) rfl ?_); refine gL (some 25) Try.func143 #[.agg #[.int .i64 ((rd_T106 l0_3 x8_1).f0.f0), .int .i64 ((rd_T106 l0_3 x8_1).f0.f1)]] ?_; (with_reducible refine (spec_IsSpan.calls ((rd_T106 l0_3 x8_1).f0.f0) ((rd_T106 l0_3 x8_1).f0.f1) true _ A9.out).mono ?_); rintro e w32 ⟨rfl, hb⟩; refine ⟨_, rfl, ?_⟩; replace HO_7 := Aside0.mk (Kd.R_below (by (with_reducible repeat (first | apply Kd.R_alloc | apply Kd.R_drewN | apply Kd.R_drew)); exact (Kd.R_mono (Kd.R_far (p := ⟨gb243, 1, none⟩) (Kd.R_far (p := ⟨gb243, 0, none⟩) (Kd.R_types HO_7.out BK243.out (by decide)) (fun _ hk => hk.2) (.int .i64 ((rd_T106 l0_3 x8_1).f0.f0))) (fun _ hk => hk.2) (.int .i64 ((rd_T106 l0_3 x8_1).f0.f1))) (fun _ h_ => h_.1))) hb); replace BK238 := Aside0.mk (blk_below (g := gb238) (o := .cells #[.int .i64 a0_0, .int .i64 a0_1, .int .i64 a0_2, .slice (some ad242) l0_3.length c0_3] 29 (0, 0)) (sp BK238) hb); replace BK243 := Aside0.mk (blk_below (g := gb243) (o := .cells #[.int .i64 ((rd_T106 l0_3 x8_1).f0.f0), .int .i64 ((rd_T106 l0_3 x8_1).f0.f1)] 91 (0, 0)) (sp BK243) hb); replace HB := bsw hb; (try clear hb); (try clear hb2); (try clear hk); (try clear hi); obtain ⟨hcz33_0, hcz33_1, hfz33_0, hfz33_1⟩ := cc2 BK243))
       go_roundg k1
       case measure => have := HK1.out; omega
       case rel => exact ⟨(x7_1), (wrap64 (x8_1 + 1)), sc, H', kk1, ⟨sr HO_7⟩, ⟨sk BK238⟩, ⟨sbw⟩⟩
     ·have c11b0 := decide_eq_false c11
      clear c11
      have H' := Aside0.mk H
      clear H
      obtain ⟨hcz34_0, hcz34_1, hcz34_2, hcz34_3, hfz34_0, hfz34_1, hfz34_2, hfz34_3⟩ := cc4 BK238
      obtain ⟨p242, q242, ad242, A242_2, c242_2, A242_3, c242_3, e242, _, _, _, _, hx242_0, hx242_1, hx242_2, hx242_3, HC242_2, HR242_2, HC242_3, HR242_3⟩ := aT_T106 HR0_3 HB x8_1
      cases e242
      go_wp2_with (first | ((with_reducible refine gate_dst (N := 9) rfl ?_); refine bx 9 #[.int .i64 0, .int .i64 0] 91 ?_; intro gb243 hg w35 hbox hb; replace HO_7 := Aside0.mk (Kd.R_below (sr HO_7) hb); have BK243 := Aside0.mk hbox; have GW243 := bzw w hg; have GE243 := bzw w hg; replace HB := bsw hb; have NB238_243 := nl BK238 hg; have NB243_238 := ng BK238 hg; replace BK238 := bb BK238 hb; clear hb hbox hg; have hnb36 := NB243_238.out; have hnc36 := NB238_243.out; obtain ⟨hcz37_0, hcz37_1, hfz37_0, hfz37_1⟩ := cc2 BK243) | ((with_reducible refine gate_callee (f := 143) rfl ?_); refine gL (some 25) Try.func143 #[.agg #[.int .i64 ((rd_T106 l0_3 x8_1).f0.f0), .int .i64 ((rd_T106 l0_3 x8_1).f0.f1)]] ?_; (with_reducible refine (spec_IsSpan.calls ((rd_T106 l0_3 x8_1).f0.f0) ((rd_T106 l0_3 x8_1).f0.f1) true _ A9.out).mono ?_); rintro e w38 ⟨rfl, hb⟩; refine ⟨_, rfl, ?_⟩; replace HO_7 := Aside0.mk (Kd.R_below (by (with_reducible repeat (first | apply Kd.R_alloc | apply Kd.R_drewN | apply Kd.R_drew)); exact (Kd.R_mono (Kd.R_far (p := ⟨gb243, 1, none⟩) (Kd.R_far (p := ⟨gb243, 0, none⟩) (Kd.R_types HO_7.out BK243.out (by decide)) (fun _ hk => hk.2) (.int .i64 ((rd_T106 l0_3 x8_1).f0.f0))) (fun _ hk => hk.2) (.int .i64 ((rd_T106 l0_3 x8_1).f0.f1))) (fun _ h_ => h_.1))) hb); replace BK238 := Aside0.mk (blk_below (g := gb238) (o := .cells #[.int .i64 a0_0, .int .i64 a0_1, .int .i64 a0_2, .slice (some ad242) l0_3.length c0_3] 29 (0, 0)) (sp BK238) hb); replace BK243 := Aside0.mk (blk_below (g := gb243) (o := .cells #[.int .i64 ((rd_T106 l0_3 x8_1).f0.f0), .int .i64 ((rd_T106 l0_3 x8_1).f0.f1)] 91 (0, 0)) (sp BK243) hb); replace HB := bsw hb; (try clear hb); (try clear hb2); (try clear hk); (try clear hi)))
      go_roundg k1
      case measure => have := HK1.out; omega
      case rel => exact ⟨(x7_1), (wrap64 (x8_1 + 1)), sc, H', kk1, ⟨sr HO_7⟩, ⟨sk BK238⟩, ⟨sbw⟩⟩
    ·replace H := im H
     have H' := Aside0.mk H
     clear H
     obtain ⟨hcz39_0, hcz39_1, hcz39_2, hcz39_3, hfz39_0, hfz39_1, hfz39_2, hfz39_3⟩ := cc4 BK238
     obtain ⟨p242, q242, ad242, A242_2, c242_2, A242_3, c242_3, e242, _, _, _, _, hx242_0, hx242_1, hx242_2, hx242_3, HC242_2, HR242_2, HC242_3, HR242_3⟩ := aT_T106 HR0_3 HB x8_1
     cases e242
     go_wp2_with (first | ((with_reducible refine gate_dst (N := 9) rfl ?_); refine bx 9 #[.int .i64 0, .int .i64 0] 91 ?_; intro gb243 hg w40 hbox hb; replace HO_7 := Aside0.mk (Kd.R_below (sr HO_7) hb); have BK243 := Aside0.mk hbox; have GW243 := bzw w hg; have GE243 := bzw w hg; replace HB := bsw hb; have NB238_243 := nl BK238 hg; have NB243_238 := ng BK238 hg; replace BK238 := bb BK238 hb; clear hb hbox hg; have hnb41 := NB243_238.out; have hnc41 := NB238_243.out; obtain ⟨hcz42_0, hcz42_1, hfz42_0, hfz42_1⟩ := cc2 BK243) | ((with_reducible refine gate_callee (f := 143) rfl ?_); refine gL (some 25) Try.func143 #[.agg #[.int .i64 ((rd_T106 l0_3 x8_1).f0.f0), .int .i64 ((rd_T106 l0_3 x8_1).f0.f1)]] ?_; (with_reducible refine (spec_IsSpan.calls ((rd_T106 l0_3 x8_1).f0.f0) ((rd_T106 l0_3 x8_1).f0.f1) false _ A9.out).mono ?_); rintro e w43 ⟨rfl, hb⟩; refine ⟨_, rfl, ?_⟩; replace HO_7 := Aside0.mk (Kd.R_below (by (with_reducible repeat (first | apply Kd.R_alloc | apply Kd.R_drewN | apply Kd.R_drew)); exact (Kd.R_mono (Kd.R_far (p := ⟨gb243, 1, none⟩) (Kd.R_far (p := ⟨gb243, 0, none⟩) (Kd.R_types HO_7.out BK243.out (by decide)) (fun _ hk => hk.2) (.int .i64 ((rd_T106 l0_3 x8_1).f0.f0))) (fun _ hk => hk.2) (.int .i64 ((rd_T106 l0_3 x8_1).f0.f1))) (fun _ h_ => h_.1))) hb); replace BK238 := Aside0.mk (blk_below (g := gb238) (o := .cells #[.int .i64 a0_0, .int .i64 a0_1, .int .i64 a0_2, .slice (some ad242) l0_3.length c0_3] 29 (0, 0)) (sp BK238) hb); replace BK243 := Aside0.mk (blk_below (g := gb243) (o := .cells #[.int .i64 ((rd_T106 l0_3 x8_1).f0.f0), .int .i64 ((rd_T106 l0_3 x8_1).f0.f1)] 91 (0, 0)) (sp BK243) hb); replace HB := bsw hb; (try clear hb); (try clear hb2); (try clear hk); (try clear hi)))
     go_roundg k1
     case measure => have := HK1.out; omega
     case rel => exact ⟨(x7_1), (wrap64 (x8_1 + 1)), sc, H', kk1, ⟨sr HO_7⟩, ⟨sk BK238⟩, ⟨sbw⟩⟩
   ·have c7b0 := decide_eq_false c7
    clear c7
    obtain rfl := Option.some.inj H
    obtain ⟨hcz44_0, hcz44_1, hcz44_2, hcz44_3, hfz44_0, hfz44_1, hfz44_2, hfz44_3⟩ := cc4 BK238
    go_wp2
    go_ret
    exact ⟨_, se, sr HO_7, sbw⟩

end Go.Proofs.Ytlakjlolahjphaa.QFnExactHeldAt
