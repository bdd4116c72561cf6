/- What the Go functions of the law FnExactMixOf come to, as Lean functions, and that they do: by a program of the session, out of the kit's printer. Conditions: none. (squeezed). -/
import Derived.Test.YtadpbpocbfjboaaSq
import Derived.Test.YtadpbpocbfjboaaQFnExactMixOfx0
import Derived.Test.YtadpbpocbfjboaaQFnExactMixOfx5
namespace Go.Proofs.Ytadpbpocbfjboaa.QFnExactMixOf
open Go.RowKit Go.Proofs.YtadpbpocbfjboaaW.PrintWords Go.Proofs.YtadpbpocbfjboaaW.PrintLast Go.Proofs.YtadpbpocbfjboaaW.PrintMore Go.Proofs.Ytadpbpocbfjboaa.Open Go.Proofs.Ytadpbpocbfjboaa.Sq
attribute [local go_sem] max2_int min2_int max_two min_two max_three min_three max_four min_four   -- for this text's walks alone
attribute [local go_sem] isSome_set
set_option linter.unusedVariables false
set_option linter.unusedSimpArgs false

/-! ### spec_MixOf: function 39 -/
def spec_MixOf.l0 : Nat → Int → List Int → List Int → Int → Int → Int → Int → List (S69) → Option (List Int)
  | 0, _, _, _, _, _, _, _, _ => none
  | k + 1, x1, x2, x7, x8, x243000, x243001, x243002, x243003 => if x8 < (x2.length : Int) then (if 0 ≤ x8 then ((spec_TableIn.f x243000 x243001 x243002 x243003 (rd x2 x8) x1).bind fun bt247 => (if bt247.2.2.2 = true then (if x8 < (bt247.2.2.1.length : Int) then (if x7.length < 17592186044416 then (spec_MixOf.l0 k x1 x2 (x7 ++ [rd bt247.2.2.1 x8]) (wrap64 (x8 + 1)) x243000 x243001 x243002 x243003) else (none)) else (if x7.length < 17592186044416 then (spec_MixOf.l0 k x1 x2 (x7 ++ [(-1)]) (wrap64 (x8 + 1)) x243000 x243001 x243002 x243003) else (none))) else (if x7.length < 17592186044416 then (spec_MixOf.l0 k x1 x2 (x7 ++ [(-1)]) (wrap64 (x8 + 1)) x243000 x243001 x243002 x243003) else (none)))) else (none)) else (some x7)
def spec_MixOf.f (k : Nat) (a0_0 : Int) (a0_1 : Int) (a0_2 : Int) (l0_3 : List (S69)) (a1 : Int) (l2 : List Int) : Option (List Int) := spec_MixOf.l0 k a1 l2 (([] : List Int)) 0 a0_0 a0_1 a0_2 l0_3
theorem spec_MixOf.mono_l : ∀ k, (∀ y0 y1 y2 y3 y4 y5 y6 y7, LeO (spec_MixOf.l0 k y0 y1 y2 y3 y4 y5 y6 y7) (spec_MixOf.l0 (k + 1) y0 y1 y2 y3 y4 y5 y6 y7))
  | 0 => fun _ _ _ _ _ _ _ _ r h => by simp [spec_MixOf.l0] at h
  | k + 1 => by
    have ih0 := spec_MixOf.mono_l k
    · intro y0 y1 y2 y3 y4 y5 y6 y7
      unfold spec_MixOf.l0
      exact mo
theorem spec_MixOf.mono : ∀ a0 a1 a2 a3 a4 a5 k, LeO (spec_MixOf.f k a0 a1 a2 a3 a4 a5) (spec_MixOf.f (k + 1) a0 a1 a2 a3 a4 a5) := by
  intro a0 a1 a2 a3 a4 a5 k
  have ih0 := spec_MixOf.mono_l k
  unfold spec_MixOf.f
  exact mo
def spec_MixOf.T5 : Bool × List (List Nat × List Nat) := (true, [([], []), ([], []), ([], []), ([1, 2], [1, 2]), ([3], [3]), ([], []), ([0, 4, 5], [0, 4, 5]), ([6], [6]), ([7], [7]), ([7], [7]), ([], []), ([10, 8, 6, 0, 1, 2, 3, 4, 5, 6, 7, 8, 10], [8, 10]), ([9, 11, 0, 1, 2, 3, 4, 5, 6, 7, 8, 9, 10, 11], [9])])
def spec_MixOf.B5 : List Nat := [0, 0, 0, 6, 14, 0, 63, 127, 255, 255, 0, 1535, 4095]
theorem spec_MixOf.tab5 : rtab .any (opsOf Try.f39 5) = spec_MixOf.T5 := by kernel_rfl
theorem spec_MixOf.bits5 : waitsOk spec_MixOf.T5.2 spec_MixOf.B5 = true := by kernel_rfl
set_option maxHeartbeats 8000000 in
set_option maxRecDepth 100000 in
theorem spec_MixOf.calls (k : Nat) (a0_0 : Int) (a0_1 : Int) (a0_2 : Int) (A0_3 : Option Addr) (c0_3 : Nat) (l0_3 : List (S69)) (a1 : Int) (A2 : Option Addr) (c2 : Nat) (l2 : List Int) (r : List Int) (w : World) (hr0_3 : Kd.C k69 w A0_3 l0_3.length l0_3) (hc0_3 : l0_3.length ≤ c0_3) (hr2 : Kd.C (Kd.int .i64) w A2 l2.length l2) (hc2 : l2.length ≤ c2) (h : spec_MixOf.f k a0_0 a0_1 a0_2 l0_3 a1 l2 = some r) :
    Calls Try.prog 39 #[.agg #[.int .i64 a0_0, .int .i64 a0_1, .int .i64 a0_2, .slice A0_3 l0_3.length c0_3], .int .i64 a1, .slice A2 l2.length c2] w fun e w' => ∃ v0_ : Value, e = .returned (v0_) ∧ Kd.R (Kd.int .i64) 3 w' w.heap.size (fun _ => True) v0_ r ∧ Below w.heap.size w w' := by
 have hu29 := Try.underlying29
 have hu44 := Try.underlying44
 have HR0_3 := Aside0.mk hr0_3
 have HC0_3 := Aside0.mk hc0_3
 clear hr0_3 hc0_3
 have HR2 := Aside0.mk hr2
 have HC2 := Aside0.mk hc2
 clear hr2 hc2
 have HB := Aside0.mk (Below.refl w.heap.size w)
 have H : (spec_MixOf.l0 k a1 l2 (([] : List Int)) 0 a0_0 a0_1 a0_2 l0_3) = some r := h
 clear h
 obtain ⟨y243, hy243⟩ : ∃ y_ : List Int, y_ = (([] : List Int)) := ⟨_, rfl⟩
 replace H : (spec_MixOf.l0 k a1 l2 y243 0 a0_0 a0_1 a0_2 l0_3) = some r := by first | (rw [hy243]; with_reducible exact H) | (have H2_ := (Option.bind_some _ _).symm.trans H; rw [hy243]; with_reducible exact H2_) | (have H2_ := (Option.bind_some _ _).symm.trans H; with_reducible exact H2_) | with_reducible exact H | (rw [hy243]; exact H) | exact H
 have Ny243 := Aside0.mk hy243
 clear hy243
 have H' := Aside0.mk H
 clear H
 go_enter Try.func39, Try.ntmps39
 go_wp2_with (first | ((with_reducible refine gate_dst (N := 3) rfl ?_); (try (refine gate_guard (by rfl) ?_; dsimp only)); refine bx 3 #[.int .i64 a0_0, .int .i64 a0_1, .int .i64 a0_2, .slice A0_3 l0_3.length c0_3] 29 ?_; intro gb242 hg w4 hbox hb; have BK242 := Aside0.mk hbox; have GW242 := bz w hg; have GE242 := bz w hg; replace HB := bs hb; clear hb hbox hg) | ((with_reducible refine gate_dst (N := 11) rfl ?_); (try (refine gate_guard (by rfl) ?_; dsimp only)); refine Kd.R_lit (Kd.int .i64) _ 3 ?hg (N := 11) ?hd (xs := ([] : List Int)) (inner := []) (ok := fun _ => True) (okp := fun _ => True) ?hr ?hp (fun _ hk => hk) trivial (Below.refl _ _) (Nat.le_refl _) (by simp) ?_; (case hd => rfl); (case hg => rfl); (case hr => first | (go_simp; done) | (go_simp; rfl)); (case hp => exact (Reps.none _ _)); intro v244 w5 ho6 hb hg_ hnew_; clear hg_ hnew_; (first | rw [← Ny243.out] at ho6 | (simp only [Int.reduceToNat] at ho6; rw [← Ny243.out] at ho6)); have HO245 := Aside0.mk (Kd.R_lower ho6 (below_size (sbw))); replace BK242 := bb BK242 hb; replace HB := bsw hb; clear hb ho6))
 go_loopg [7, 8] k (fun kq v7 v8 w' => ∃ (x7_1 : List Int) (x8_1 : Int), v8 = .int .i64 x8_1 ∧ Aside0 (spec_MixOf.l0 kq a1 l2 x7_1 x8_1 a0_0 a0_1 a0_2 l0_3 = some r) ∧ Aside0 (kq ≤ k) ∧ Aside0 (Kd.R (Kd.int .i64) 3 w' w.heap.size (fun _ => True) v7 x7_1) ∧ Aside0 (w'.heap[gb242]? = some (.cells #[.int .i64 a0_0, .int .i64 a0_1, .int .i64 a0_2, (.slice A0_3 l0_3.length c0_3)] 29 (0, 0))) ∧ Aside0 (Below w.heap.size w w'))
 case atStart => exact ⟨(y243), (0), sc, H', kk0, ⟨sr HO245⟩, ⟨sk BK242⟩, ⟨sbw⟩⟩
 case round =>
  clear H'
  obtain ⟨x7_1, x8_1, rfl, HA, HK1, HO_7, BK242, HB⟩ := hrel
  cases gk with
  | zero => exact absurd HA.out (by simp [spec_MixOf.l0])
  | succ k1 =>
   have H := HA.out
   clear HA
   simp only [spec_MixOf.l0] at H
   obtain ⟨c7, H⟩ | ⟨c7, H⟩ := ie_ H
   ·have c7b0 := decide_eq_true c7
    clear c7
    obtain ⟨c8b0, H⟩ := id_ H
    obtain ⟨⟨t247, t248, t251, t254⟩, A9, H⟩ := bnd H
    replace H : (if t254 = true then (if x8_1 < (t251.length : Int) then (if x7_1.length < 17592186044416 then (spec_MixOf.l0 k1 a1 l2 (x7_1 ++ [rd t251 x8_1]) (wrap64 (x8_1 + 1)) a0_0 a0_1 a0_2 l0_3) else (none)) else (if x7_1.length < 17592186044416 then (spec_MixOf.l0 k1 a1 l2 (x7_1 ++ [(-1)]) (wrap64 (x8_1 + 1)) a0_0 a0_1 a0_2 l0_3) else (none))) else (if x7_1.length < 17592186044416 then (spec_MixOf.l0 k1 a1 l2 (x7_1 ++ [(-1)]) (wrap64 (x8_1 + 1)) a0_0 a0_1 a0_2 l0_3) else (none))) = some r := H
    obtain rfl | rfl := tt t254
    ·replace H := ip H
     obtain ⟨c11, H⟩ | ⟨c11, H⟩ := ie_ H
     ·have c11b0 := decide_eq_true c11
      clear c11
      obtain ⟨LMc12, H⟩ := il_ H
      obtain ⟨y257, hy257⟩ : ∃ y_ : List Int, y_ = (x7_1 ++ [rd t251 x8_1]) := ⟨_, rfl⟩
      replace H : (spec_MixOf.l0 k1 a1 l2 y257 (wrap64 (x8_1 + 1)) a0_0 a0_1 a0_2 l0_3) = some r := by first | (rw [hy257]; with_reducible exact H) | (have H2_ := (Option.bind_some _ _).symm.trans H; rw [hy257]; with_reducible exact H2_) | (have H2_ := (Option.bind_some _ _).symm.trans H; with_reducible exact H2_) | with_reducible exact H | (rw [hy257]; exact H) | exact H
      have Ny257 := Aside0.mk hy257
      clear hy257
      have H' := Aside0.mk H
      clear H
      try go_wp2
      replace HO_7 := Aside0.mk (Kd.R_drew HO_7.out)
      replace BK242 := Aside0.mk (blk_drew BK242.out)
      replace HB := Aside0.mk (below_drew1 HB.out)
      obtain ⟨p246, q246, ad246, e246, hw246_0, hx246_0⟩ := at_i HR2 HB x8_1
      cases e246
      refine start_ (n := 13) (S := fun w' => w'.cell? ⟨gb242, 0, none⟩ = some (.int .i64 a0_0) ∧ w'.cell? ⟨gb242, 1, none⟩ = some (.int .i64 a0_1) ∧ w'.cell? ⟨gb242, 2, none⟩ = some (.int .i64 a0_2) ∧ w'.cell? ⟨gb242, 3, none⟩ = some (.slice A0_3 l0_3.length c0_3) ∧ w'.cell? (ad246.add (x8_1).toNat) = some (.int .i64 (rd l2 x8_1))) (ds := []) #[false, false, false, false, false, false, false, false, false, false, false, false, false] (by kernel_rfl) rfl rfl ⟨bc0 BK242, bc1 BK242, bc2 BK242, bc3 BK242, (hb_ HB hw246_0)⟩ (fun hHeld => ?_); refine with_tabW spec_MixOf.tab5 spec_MixOf.bits5 (fun HT_ HW_ => ?_)
      generalize wr.drew = w13 at HO_7 BK242 HB hx246_0 hHeld ⊢
      refine put 1 20 #[false, true, false, false, false, false, false, false, false, false, false, false, false] HT_ ?_
      refine put 2 21 #[false, true, true, false, false, false, false, false, false, false, false, false, false] HT_ ?_
      refine put 3 22 #[false, true, true, true, false, false, false, false, false, false, false, false, false] HT_ ?_
      refine put 5 24 #[false, true, true, true, false, true, false, false, false, false, false, false, false] HT_ ?_
      refine tat5 0 19 #[true, true, true, true, false, true, false, false, false, false, false, false, false] HT_ HW_ hHeld ?_
      refine tat5 4 23 #[true, true, true, true, true, true, false, false, false, false, false, false, false] HT_ HW_ hHeld ?_
      refine join_ (σ := Value × Value × Nat) 2 #[true, true, true, true, true, true, true, true, true, true, true, false, false] (fun s_ => [(25, .tuple #[.agg #[.int .i64 t247, s_.1, s_.2.1], .bool true]), (9, .pointer (some ⟨s_.2.2, 0, none⟩)), (18, .tuple #[.agg #[.int .i64 t247, s_.1, s_.2.1], .bool true]), (26, .agg #[.int .i64 t247, s_.1, s_.2.1]), (27, .bool true)]) (fun s_ w' => (w'.cell? ⟨gb242, 0, none⟩ = some (.int .i64 a0_0) ∧ w'.cell? ⟨gb242, 1, none⟩ = some (.int .i64 a0_1) ∧ w'.cell? ⟨gb242, 2, none⟩ = some (.int .i64 a0_2) ∧ w'.cell? ⟨gb242, 3, none⟩ = some (.slice A0_3 l0_3.length c0_3) ∧ w'.cell? (ad246.add (x8_1).toNat) = some (.int .i64 (rd l2 x8_1))) ∧ (Kd.R (Kd.int .i64) 3 w' w.heap.size (fun k_ => some k_ ≠ (s_.2.1 : Value).ownBlock ∧ some k_ ≠ (u7 : Value).ownBlock) s_.1 t248) ∧ (Kd.R (Kd.int .i64) 3 w' w.heap.size (fun k_ => some k_ ≠ (s_.1 : Value).ownBlock ∧ some k_ ≠ (u7 : Value).ownBlock) s_.2.1 t251) ∧ (Kd.R (Kd.int .i64) 3 w' w.heap.size (fun k_ => some k_ ≠ (s_.1 : Value).ownBlock ∧ some k_ ≠ (s_.2.1 : Value).ownBlock) u7 x7_1) ∧ (w'.heap[gb242]? = some (.cells #[.int .i64 a0_0, .int .i64 a0_1, .int .i64 a0_2, .slice A0_3 l0_3.length c0_3] 29 (0, 0))) ∧ (w'.heap[s_.2.2]? = some (.cells #[.int .i64 0, .slice none 0 0, .slice none 0 0] 44 (0, 0))) ∧ (w.heap.size ≤ s_.2.2) ∧ (w.heap.size ≤ s_.2.2) ∧ (gb242 ≠ s_.2.2) ∧ (s_.2.2 ≠ gb242) ∧ (Below w.heap.size w w')) ?_ ?_
      rotate_left
      ·intro hCont
       refine two_ (i := 6) (j := 10) (Ni := some 25) (Nj := some 9) #[true, true, true, true, true, true, true, false, false, false, false, false, false] #[true, true, true, true, true, true, false, false, false, false, true, false, false] rfl rfl rfl rfl (two_of HT_.out (by kernel_rfl)) (by decide) (by decide) (fun K hK => ?_) (fun K hK => ?_)
       ·skip
        refine goes_ Try.func34 (by kernel_rfl) rfl #[.agg #[.int .i64 a0_0, .int .i64 a0_1, .int .i64 a0_2, .slice A0_3 l0_3.length c0_3], .int .i64 (rd l2 x8_1), .int .i64 a1] (by rfl) rfl rfl sl ?_
        with_reducible refine (spec_TableIn.calls a0_0 a0_1 a0_2 _ _ l0_3 (rd l2 x8_1) a1 t247 t248 t251 true _ ?side1 ?side2 A9.out).mono ?_
        (case side1 => exact cb HR0_3)
        (case side2 => exact HC0_3.out)
        rintro e w14 ⟨v249, v252, rfl, ho0, ho1, hb⟩
        refine ⟨_, rfl, ?_⟩
        have HO250 := Aside0.mk (Kd.R_lower (Kd.R_new' ho0 (Kd.R_lt (sr HO_7))) (below_size (sbw)))
        have HO253 := Aside0.mk (Kd.R_lower (Kd.R_new' ho1 (Kd.R_lt (sr HO_7))) (below_size (sbw)))
        replace HO_7 := Aside0.mk (Kd.R_mono (Kd.R_told (Kd.R_told (Kd.R_old (sr HO_7) hb) (Kd.R_base ho0)) (Kd.R_base ho1)) (fun _ h_ => h_.1))
        replace BK242 := bb BK242 hb
        replace HB := bsw hb
        (try clear hb)
        (try clear hb2)
        (try clear hk)
        (try clear hi)
        (try clear ho0)
        (try clear ho1)
        refine hK.out _ _ ⟨bc0 BK242, bc1 BK242, bc2 BK242, bc3 BK242, (hb_ HB hw246_0)⟩ (fun hHeld => ?_)
        clear hK K
        refine norm_ (a' := ?_) ?_ ?_
        rotate_left
        ·show Act.put _ (some 25) _ = _
         simp only [Act.put, List.setIfInBounds_toArray, List.set_cons_zero, List.set_cons_succ, i64_w, i32_w]
         rfl
        refine put 7 18 #[true, true, true, true, true, true, true, true, false, false, false, false, false] HT_ ?_
        refine put 8 26 #[true, true, true, true, true, true, true, true, true, false, false, false, false] HT_ ?_
        refine put 9 27 #[true, true, true, true, true, true, true, true, true, true, false, false, false] HT_ ?_
        refine one_ (i := 10) (N := some 9) #[true, true, true, true, true, true, true, true, true, true, true, false, false] rfl rfl (one_of HT_.out (by kernel_rfl)) (by decide) (fun K hK => ?_)
        refine box_step ?hg (N := 9) ?hd (cs := #[.int .i64 0, .slice none 0 0, .slice none 0 0]) (t := 44) ?hr ?_; (case hd => rfl); (case hg => rfl); (case hr => first | (go_simp; done) | (go_simp; rfl))
        intro gb255 hg w15 hbox hb
        replace HO_7 := Aside0.mk (Kd.R_below (sr HO_7) hb)
        replace HO250 := Aside0.mk (Kd.R_below (sr HO250) hb)
        replace HO253 := Aside0.mk (Kd.R_below (sr HO253) hb)
        have BK255 := Aside0.mk hbox
        have GW255 := bzw w hg
        have GE255 := bzw w hg
        replace HB := bsw hb
        have NB242_255 := nl BK242 hg
        have NB255_242 := ng BK242 hg
        replace BK242 := bb BK242 hb
        clear hb hbox hg
        refine hK.out _ _ ⟨bc0 BK242, bc1 BK242, bc2 BK242, bc3 BK242, (hb_ HB hw246_0)⟩ (fun hHeld => ?_)
        clear hK K
        refine norm_ (a' := ?_) ?_ ?_
        rotate_left
        ·show Act.put _ (some 9) _ = _
         simp only [Act.put, List.setIfInBounds_toArray, List.set_cons_zero, List.set_cons_succ, i64_w, i32_w]
         rfl
        exact norm_ (by simp only [putAll, Act.put, List.setIfInBounds_toArray, List.set_cons_zero, List.set_cons_succ]) (hCont (v249, v252, gb255) _ ⟨hHeld, (sr HO250), (sr HO253), (by (with_reducible repeat (first | apply Kd.R_alloc | apply Kd.R_drewN | apply Kd.R_drew)); exact Kd.R_mono HO_7.out (fun _ hk => ⟨hk.1.2, hk.2⟩)), (sk BK242), (sk BK255), GW255.out, GE255.out, NB242_255.out, NB255_242.out, (sbw)⟩)
       ·skip
        refine box_step ?hg (N := 9) ?hd (cs := #[.int .i64 0, .slice none 0 0, .slice none 0 0]) (t := 44) ?hr ?_; (case hd => rfl); (case hg => rfl); (case hr => first | (go_simp; done) | (go_simp; rfl))
        intro gb255 hg w14 hbox hb
        replace HO_7 := Aside0.mk (Kd.R_below (sr HO_7) hb)
        have BK255 := Aside0.mk hbox
        have GW255 := bzw w hg
        have GE255 := bzw w hg
        replace HB := bsw hb
        have NB242_255 := nl BK242 hg
        have NB255_242 := ng BK242 hg
        replace BK242 := bb BK242 hb
        clear hb hbox hg
        refine hK.out _ _ ⟨bc0 BK242, bc1 BK242, bc2 BK242, bc3 BK242, (hb_ HB hw246_0)⟩ (fun hHeld => ?_)
        clear hK K
        refine norm_ (a' := ?_) ?_ ?_
        rotate_left
        ·show Act.put _ (some 9) _ = _
         simp only [Act.put, List.setIfInBounds_toArray, List.set_cons_zero, List.set_cons_succ, i64_w, i32_w]
         rfl
        refine one_ (i := 6) (N := some 25) #[true, true, true, true, true, true, true, false, false, false, true, false, false] rfl rfl (one_of HT_.out (by kernel_rfl)) (by decide) (fun K hK => ?_)
        refine goes_ Try.func34 (by kernel_rfl) rfl #[.agg #[.int .i64 a0_0, .int .i64 a0_1, .int .i64 a0_2, .slice A0_3 l0_3.length c0_3], .int .i64 (rd l2 x8_1), .int .i64 a1] (by rfl) rfl rfl sl ?_
        with_reducible refine (spec_TableIn.calls a0_0 a0_1 a0_2 _ _ l0_3 (rd l2 x8_1) a1 t247 t248 t251 true _ ?side1 ?side2 A9.out).mono ?_
        (case side1 => exact cb HR0_3)
        (case side2 => exact HC0_3.out)
        rintro e w15 ⟨v249, v252, rfl, ho0, ho1, hb⟩
        refine ⟨_, rfl, ?_⟩
        have HO250 := Aside0.mk (Kd.R_lower (Kd.R_new' ho0 (Kd.R_lt (sr HO_7))) (below_size (sbw)))
        have HO253 := Aside0.mk (Kd.R_lower (Kd.R_new' ho1 (Kd.R_lt (sr HO_7))) (below_size (sbw)))
        replace HO_7 := Aside0.mk (Kd.R_mono (Kd.R_told (Kd.R_told (Kd.R_old (sr HO_7) hb) (Kd.R_base ho0)) (Kd.R_base ho1)) (fun _ h_ => h_.1))
        replace BK242 := bb BK242 hb
        replace BK255 := bb BK255 hb
        replace HB := bsw hb
        (try clear hb)
        (try clear hb2)
        (try clear hk)
        (try clear hi)
        (try clear ho0)
        (try clear ho1)
        refine hK.out _ _ ⟨bc0 BK242, bc1 BK242, bc2 BK242, bc3 BK242, (hb_ HB hw246_0)⟩ (fun hHeld => ?_)
        clear hK K
        refine norm_ (a' := ?_) ?_ ?_
        rotate_left
        ·show Act.put _ (some 25) _ = _
         simp only [Act.put, List.setIfInBounds_toArray, List.set_cons_zero, List.set_cons_succ, i64_w, i32_w]
         rfl
        refine put 7 18 #[true, true, true, true, true, true, true, true, false, false, true, false, false] HT_ ?_
        refine put 8 26 #[true, true, true, true, true, true, true, true, true, false, true, false, false] HT_ ?_
        refine put 9 27 #[true, true, true, true, true, true, true, true, true, true, true, false, false] HT_ ?_
        exact norm_ (by simp only [putAll, Act.put, List.setIfInBounds_toArray, List.set_cons_zero, List.set_cons_succ]) (hCont (v249, v252, gb255) _ ⟨hHeld, (sr HO250), (sr HO253), (by (with_reducible repeat (first | apply Kd.R_alloc | apply Kd.R_drewN | apply Kd.R_drew)); exact Kd.R_mono HO_7.out (fun _ hk => ⟨hk.1.2, hk.2⟩)), (sk BK242), (sk BK255), GW255.out, GE255.out, NB242_255.out, NB255_242.out, (sbw)⟩)
      rintro ⟨v249, v252, gb255⟩ w16 ⟨hS_, h0_, h1_, h2_, h3_, h4_, h5_, h6_, h7_, h8_, h9_⟩
      have HO250 : Aside0 (Kd.R (Kd.int .i64) 3 w16 w.heap.size (fun k_ => some k_ ≠ (v252 : Value).ownBlock ∧ some k_ ≠ (u7 : Value).ownBlock) v249 t248) := ⟨h0_⟩
      have HO253 : Aside0 (Kd.R (Kd.int .i64) 3 w16 w.heap.size (fun k_ => some k_ ≠ (v249 : Value).ownBlock ∧ some k_ ≠ (u7 : Value).ownBlock) v252 t251) := ⟨h1_⟩
      replace HO_7 : Aside0 (Kd.R (Kd.int .i64) 3 w16 w.heap.size (fun k_ => some k_ ≠ (v249 : Value).ownBlock ∧ some k_ ≠ (v252 : Value).ownBlock) u7 x7_1) := ⟨h2_⟩
      replace BK242 : Aside0 (w16.heap[gb242]? = some (.cells #[.int .i64 a0_0, .int .i64 a0_1, .int .i64 a0_2, .slice A0_3 l0_3.length c0_3] 29 (0, 0))) := ⟨h3_⟩
      have BK255 : Aside0 (w16.heap[gb255]? = some (.cells #[.int .i64 0, .slice none 0 0, .slice none 0 0] 44 (0, 0))) := ⟨h4_⟩
      have GW255 : Aside0 (w.heap.size ≤ gb255) := ⟨h5_⟩
      have GE255 : Aside0 (w.heap.size ≤ gb255) := ⟨h6_⟩
      have NB242_255 : Aside0 (gb242 ≠ gb255) := ⟨h7_⟩
      have NB255_242 : Aside0 (gb255 ≠ gb242) := ⟨h8_⟩
      replace HB : Aside0 (Below w.heap.size w w16) := ⟨h9_⟩
      clear h0_ h1_ h2_ h3_ h4_ h5_ h6_ h7_ h8_ h9_
      have hHeld : w16.cell? ⟨gb242, 0, none⟩ = some (.int .i64 a0_0) ∧ w16.cell? ⟨gb242, 1, none⟩ = some (.int .i64 a0_1) ∧ w16.cell? ⟨gb242, 2, none⟩ = some (.int .i64 a0_2) ∧ w16.cell? ⟨gb242, 3, none⟩ = some (.slice A0_3 l0_3.length c0_3) ∧ w16.cell? (ad246.add (x8_1).toNat) = some (.int .i64 (rd l2 x8_1)) := hS_
      obtain ⟨Ao18, co18, eo18⟩ := Kd.R_slice HO250.out
      (first | subst eo18 | (injection eo18 with f1_ f2_ f3_; have f4_ := f1_.symm; have f5_ := f3_.symm; clear f1_ f2_ f3_; subst f4_; subst f5_))
      obtain ⟨Ao20, co20, eo20⟩ := Kd.R_slice HO253.out
      (first | subst eo20 | (injection eo20 with f1_ f2_ f3_; have f4_ := f1_.symm; have f5_ := f3_.symm; clear f1_ f2_ f3_; subst f4_; subst f5_))
      refine norm_ (a' := ?_) ?_ ?_
      rotate_left
      ·simp only [putAll, Act.put, List.setIfInBounds_toArray, List.set_cons_zero, List.set_cons_succ]
       rfl
      refine one_ (i := 11) (N := none) #[true, true, true, true, true, true, true, true, true, true, true, true, false] rfl rfl (one_of HT_.out (by kernel_rfl)) (by decide) (fun K hK => ?_)
      obtain ⟨hs17, hfs17⟩ := cc1 BK255
      have hns17_0 := NB242_255.out
      have hms17_0 := NB255_242.out
      have hs19 := bc1 BK255
      have hfs19 := bf BK255 1
      have hns19_0 := NB242_255.out
      have hms19_0 := NB255_242.out
      have hs21 := bc2 BK255
      have hfs21 := bf BK255 2
      have hns21_0 := NB242_255.out
      have hms21_0 := NB255_242.out
      refine skip_ (w1 := ?_) (by rfl) rfl ?_ ?_
      rotate_left
      ·go_simp
       rfl
      refine hK.out _ _ ⟨((cell_far (p := ⟨gb255, _, none⟩) NB242_255.out _).trans (((cell_far (p := ⟨gb255, _, none⟩) NB242_255.out _).trans (((cell_far (p := ⟨gb255, _, none⟩) NB242_255.out _).trans (hHeld.1)))))), ((cell_far (p := ⟨gb255, _, none⟩) NB242_255.out _).trans (((cell_far (p := ⟨gb255, _, none⟩) NB242_255.out _).trans (((cell_far (p := ⟨gb255, _, none⟩) NB242_255.out _).trans (hHeld.2.1)))))), ((cell_far (p := ⟨gb255, _, none⟩) NB242_255.out _).trans (((cell_far (p := ⟨gb255, _, none⟩) NB242_255.out _).trans (((cell_far (p := ⟨gb255, _, none⟩) NB242_255.out _).trans (hHeld.2.2.1)))))), ((cell_far (p := ⟨gb255, _, none⟩) NB242_255.out _).trans (((cell_far (p := ⟨gb255, _, none⟩) NB242_255.out _).trans (((cell_far (p := ⟨gb255, _, none⟩) NB242_255.out _).trans (hHeld.2.2.2.1)))))), ((cell_far (p := ⟨gb255, _, none⟩) (by first | exact Nat.ne_of_lt (Nat.lt_of_lt_of_le (by have := World.block_lt_of_cell? _ _ hw246_0; first | rwa [add_block] at this | exact this) GW255.out) | (rw [add_block]; exact Nat.ne_of_lt (Nat.lt_of_lt_of_le (by have := World.block_lt_of_cell? _ _ hw246_0; first | rwa [add_block] at this | exact this) GW255.out)) | (show (Addr.add _ _).block ≠ _; rw [add_block]; exact Nat.ne_of_lt (Nat.lt_of_lt_of_le (by have := World.block_lt_of_cell? _ _ hw246_0; first | rwa [add_block] at this | exact this) GW255.out)) | (dsimp only; exact Nat.ne_of_lt (Nat.lt_of_lt_of_le (by have := World.block_lt_of_cell? _ _ hw246_0; first | rwa [add_block] at this | exact this) GW255.out))) _).trans (((cell_far (p := ⟨gb255, _, none⟩) (by first | exact Nat.ne_of_lt (Nat.lt_of_lt_of_le (by have := World.block_lt_of_cell? _ _ hw246_0; first | rwa [add_block] at this | exact this) GW255.out) | (rw [add_block]; exact Nat.ne_of_lt (Nat.lt_of_lt_of_le (by have := World.block_lt_of_cell? _ _ hw246_0; first | rwa [add_block] at this | exact this) GW255.out)) | (show (Addr.add _ _).block ≠ _; rw [add_block]; exact Nat.ne_of_lt (Nat.lt_of_lt_of_le (by have := World.block_lt_of_cell? _ _ hw246_0; first | rwa [add_block] at this | exact this) GW255.out)) | (dsimp only; exact Nat.ne_of_lt (Nat.lt_of_lt_of_le (by have := World.block_lt_of_cell? _ _ hw246_0; first | rwa [add_block] at this | exact this) GW255.out))) _).trans (((cell_far (p := ⟨gb255, _, none⟩) (by first | exact Nat.ne_of_lt (Nat.lt_of_lt_of_le (by have := World.block_lt_of_cell? _ _ hw246_0; first | rwa [add_block] at this | exact this) GW255.out) | (rw [add_block]; exact Nat.ne_of_lt (Nat.lt_of_lt_of_le (by have := World.block_lt_of_cell? _ _ hw246_0; first | rwa [add_block] at this | exact this) GW255.out)) | (show (Addr.add _ _).block ≠ _; rw [add_block]; exact Nat.ne_of_lt (Nat.lt_of_lt_of_le (by have := World.block_lt_of_cell? _ _ hw246_0; first | rwa [add_block] at this | exact this) GW255.out)) | (dsimp only; exact Nat.ne_of_lt (Nat.lt_of_lt_of_le (by have := World.block_lt_of_cell? _ _ hw246_0; first | rwa [add_block] at this | exact this) GW255.out))) _).trans (hHeld.2.2.2.2))))))⟩ (fun hHeld => ?_)
      clear hK K
      refine put 12 10 #[true, true, true, true, true, true, true, true, true, true, true, true, true] HT_ ?_
      refine done_ (done_of HT_.out (by kernel_rfl)) ?_
      have hnb22 := NB255_242.out
      have hnc22 := NB242_255.out
      obtain ⟨hcz23_0, hcz23_1, hcz23_2, hfz23_0, hfz23_1, hfz23_2⟩ := cc3 BK255
      have p256 : 0 ≤ (x8_1 : Int) := sa
      have q256 : x8_1 < (t251.length : Int) := sa
      obtain ⟨ad256, e256, hx256_0⟩ := Kd.at_int (Kd.R_reads' HO253.out).2.2 x8_1 p256 q256
      cases e256
      have hn256_0 : ad256.block ≠ gb255 := Kd.own_blk (Kd.R_ne HO253.out BK255.out (by decide))
      have hn256_1 : ad256.block ≠ gb255 := Kd.own_blk (Kd.R_ne HO253.out BK255.out (by decide))
      have hn256_2 : ad256.block ≠ gb255 := Kd.own_blk (Kd.R_ne HO253.out BK255.out (by decide))
      replace hx256_0 := (cell_far (p := ⟨gb255, 0, none⟩) (by first | (rw [add_block]; exact hn256_0) | (show (Addr.add _ _).block ≠ _; rw [add_block]; exact hn256_0) | exact hn256_0) (.int .i64 t247)).trans hx256_0
      replace hx256_0 := (cell_far (p := ⟨gb255, 1, none⟩) (by first | (rw [add_block]; exact hn256_1) | (show (Addr.add _ _).block ≠ _; rw [add_block]; exact hn256_1) | exact hn256_1) (.slice Ao18 t248.length co18)).trans hx256_0
      replace hx256_0 := (cell_far (p := ⟨gb255, 2, none⟩) (by first | (rw [add_block]; exact hn256_2) | (show (Addr.add _ _).block ≠ _; rw [add_block]; exact hn256_2) | exact hn256_2) (.slice (some ad256) t251.length co20)).trans hx256_0
      clear hn256_0 hn256_1 hn256_2
      replace p256 := eq_true p256
      replace q256 := eq_true q256
      try go_wp2_with (first | ((with_reducible refine gate_builtin (b := .append) (xs := #[.tmp 36, .tmp 42]) rfl ?_); (try (refine gate_guard (by rfl) ?_; dsimp only)); at_builtin; refine Kd.R_append (Kd.int .i64) (w0 := w) w.heap.size rfl (.tmp 36) (.tmp 42) 37 3 (.int .i64 0) 8 rfl Try.underlying37 info3 rfl (by decide) (by omega) u7 x7_1 (rd t251 x8_1) [.int .i64 (rd t251 x8_1)] (fun k_ => some k_ ≠ (.slice Ao18 t248.length co18 : Value).ownBlock ∧ some k_ ≠ (.slice (some ad256) t251.length co20 : Value).ownBlock) (fun _ => False) rfl (by first | (go_simp; done) | (go_simp; rfl)) ?aP (fun _ hk => hk.elim) ?aF ?aO ?aB ?aS ?aL ?_; (case aP => exact rfl); (case aB => exact (sbw)); (case aF => exact (fun k_ hk => ⟨Kd.fresh' (Kd.R_lt (by (with_reducible repeat (first | apply Kd.R_alloc | apply Kd.R_drewN | apply Kd.R_drew)); exact (Kd.R_mono (Kd.R_far (p := ⟨gb255, 2, none⟩) (Kd.R_far (p := ⟨gb255, 1, none⟩) (Kd.R_far (p := ⟨gb255, 0, none⟩) (Kd.R_types HO250.out BK255.out (by decide)) (fun _ hk => hk.2) (.int .i64 t247)) (fun _ hk => hk.2) (.slice Ao18 t248.length co18)) (fun _ hk => hk.2) (.slice (some ad256) t251.length co20)) (fun _ h_ => h_.1)))) k_ hk, Kd.fresh' (Kd.R_lt (by (with_reducible repeat (first | apply Kd.R_alloc | apply Kd.R_drewN | apply Kd.R_drew)); exact (Kd.R_mono (Kd.R_far (p := ⟨gb255, 2, none⟩) (Kd.R_far (p := ⟨gb255, 1, none⟩) (Kd.R_far (p := ⟨gb255, 0, none⟩) (Kd.R_types HO253.out BK255.out (by decide)) (fun _ hk => hk.2) (.int .i64 t247)) (fun _ hk => hk.2) (.slice Ao18 t248.length co18)) (fun _ hk => hk.2) (.slice (some ad256) t251.length co20)) (fun _ h_ => h_.1)))) k_ hk⟩)); (case aO => exact (by (with_reducible repeat (first | apply Kd.R_alloc | apply Kd.R_drewN | apply Kd.R_drew)); exact Kd.R_mono (Kd.R_far (p := ⟨gb255, 2, none⟩) (Kd.R_far (p := ⟨gb255, 1, none⟩) (Kd.R_far (p := ⟨gb255, 0, none⟩) (Kd.R_types HO_7.out BK255.out (by decide)) (fun _ hk => hk.2) (.int .i64 t247)) (fun _ hk => hk.2) (.slice Ao18 t248.length co18)) (fun _ hk => hk.2) (.slice (some ad256) t251.length co20)) (fun _ hk => ⟨hk.1.1, hk.1.2⟩))); (case aS => exact (below_size (sbw))); (case aL => have := LMc12.out; omega); intro v258 w24 ho hb hg hat; rw [← Ny257.out] at ho; replace BK242 := Aside0.mk (blk_grown (g := gb242) (o := .cells #[.int .i64 a0_0, .int .i64 a0_1, .int .i64 a0_2, .slice A0_3 l0_3.length c0_3] 29 (0, 0)) (sp BK242) hg (Kd.R_ne HO_7.out BK242.out (by decide))); replace HO250 := Aside0.mk (Kd.R_after (ok := (fun k_ => some k_ ≠ (.slice (some ad256) t251.length co20 : Value).ownBlock)) (by (with_reducible repeat (first | apply Kd.R_alloc | apply Kd.R_drewN | apply Kd.R_drew)); exact Kd.R_mono (Kd.R_far (p := ⟨gb255, 2, none⟩) (Kd.R_far (p := ⟨gb255, 1, none⟩) (Kd.R_far (p := ⟨gb255, 0, none⟩) (Kd.R_types HO250.out BK255.out (by decide)) (fun _ hk => hk.2) (.int .i64 t247)) (fun _ hk => hk.2) (.slice Ao18 t248.length co18)) (fun _ hk => hk.2) (.slice (some ad256) t251.length co20)) (fun _ hk => ⟨hk.1.1, hk.1.2⟩)) hg hat); replace HO253 := Aside0.mk (Kd.R_after (ok := (fun k_ => some k_ ≠ (.slice Ao18 t248.length co18 : Value).ownBlock)) (by (with_reducible repeat (first | apply Kd.R_alloc | apply Kd.R_drewN | apply Kd.R_drew)); exact Kd.R_mono (Kd.R_far (p := ⟨gb255, 2, none⟩) (Kd.R_far (p := ⟨gb255, 1, none⟩) (Kd.R_far (p := ⟨gb255, 0, none⟩) (Kd.R_types HO253.out BK255.out (by decide)) (fun _ hk => hk.2) (.int .i64 t247)) (fun _ hk => hk.2) (.slice Ao18 t248.length co18)) (fun _ hk => hk.2) (.slice (some ad256) t251.length co20)) (fun _ hk => ⟨hk.1.1, hk.1.2⟩)) hg hat); replace BK255 := Aside0.mk (blk_grown (g := gb255) (o := .cells #[.int .i64 t247, .slice Ao18 t248.length co18, .slice (some ad256) t251.length co20] 44 (0, 0)) (sp BK255) hg (Kd.R_ne HO_7.out BK255.out (by decide))); replace HB := Aside0.mk hb; have HO259 := Aside0.mk ho; clear HO_7; clear ho hb hg hat))
      go_roundg k1
      case measure => have := HK1.out; omega
      case rel => exact ⟨(y257), (wrap64 (x8_1 + 1)), sc, H', kk1, ⟨by (with_reducible repeat (first | apply Kd.R_alloc | apply Kd.R_drewN | apply Kd.R_drew)); exact Kd.R_mono HO259.out (fun _ hk => trivial)⟩, ⟨sk BK242⟩, ⟨sbw⟩⟩
     ·have c11b0 := decide_eq_false c11
      clear c11
      obtain ⟨LMc25, H⟩ := il_ H
      obtain ⟨y260, hy260⟩ : ∃ y_ : List Int, y_ = (x7_1 ++ [(-1)]) := ⟨_, rfl⟩
      replace H : (spec_MixOf.l0 k1 a1 l2 y260 (wrap64 (x8_1 + 1)) a0_0 a0_1 a0_2 l0_3) = some r := by first | (rw [hy260]; with_reducible exact H) | (have H2_ := (Option.bind_some _ _).symm.trans H; rw [hy260]; with_reducible exact H2_) | (have H2_ := (Option.bind_some _ _).symm.trans H; with_reducible exact H2_) | with_reducible exact H | (rw [hy260]; exact H) | exact H
      have Ny260 := Aside0.mk hy260
      clear hy260
      have H' := Aside0.mk H
      clear H
      try go_wp2
      replace HO_7 := Aside0.mk (Kd.R_drew HO_7.out)
      replace BK242 := Aside0.mk (blk_drew BK242.out)
      replace HB := Aside0.mk (below_drew1 HB.out)
      obtain ⟨p246, q246, ad246, e246, hw246_0, hx246_0⟩ := at_i HR2 HB x8_1
      cases e246
      refine start_ (n := 13) (S := fun w' => w'.cell? ⟨gb242, 0, none⟩ = some (.int .i64 a0_0) ∧ w'.cell? ⟨gb242, 1, none⟩ = some (.int .i64 a0_1) ∧ w'.cell? ⟨gb242, 2, none⟩ = some (.int .i64 a0_2) ∧ w'.cell? ⟨gb242, 3, none⟩ = some (.slice A0_3 l0_3.length c0_3) ∧ w'.cell? (ad246.add (x8_1).toNat) = some (.int .i64 (rd l2 x8_1))) (ds := []) #[false, false, false, false, false, false, false, false, false, false, false, false, false] (by kernel_rfl) rfl rfl ⟨bc0 BK242, bc1 BK242, bc2 BK242, bc3 BK242, (hb_ HB hw246_0)⟩ (fun hHeld => ?_); refine with_tabW spec_MixOf.tab5 spec_MixOf.bits5 (fun HT_ HW_ => ?_)
      generalize wr.drew = w26 at HO_7 BK242 HB hx246_0 hHeld ⊢
      refine put 1 20 #[false, true, false, false, false, false, false, false, false, false, false, false, false] HT_ ?_
      refine put 2 21 #[false, true, true, false, false, false, false, false, false, false, false, false, false] HT_ ?_
      refine put 3 22 #[false, true, true, true, false, false, false, false, false, false, false, false, false] HT_ ?_
      refine put 5 24 #[false, true, true, true, false, true, false, false, false, false, false, false, false] HT_ ?_
      refine tat5 0 19 #[true, true, true, true, false, true, false, false, false, false, false, false, false] HT_ HW_ hHeld ?_
      refine tat5 4 23 #[true, true, true, true, true, true, false, false, false, false, false, false, false] HT_ HW_ hHeld ?_
      refine join_ (σ := Value × Value × Nat) 2 #[true, true, true, true, true, true, true, true, true, true, true, false, false] (fun s_ => [(25, .tuple #[.agg #[.int .i64 t247, s_.1, s_.2.1], .bool true]), (9, .pointer (some ⟨s_.2.2, 0, none⟩)), (18, .tuple #[.agg #[.int .i64 t247, s_.1, s_.2.1], .bool true]), (26, .agg #[.int .i64 t247, s_.1, s_.2.1]), (27, .bool true)]) (fun s_ w' => (w'.cell? ⟨gb242, 0, none⟩ = some (.int .i64 a0_0) ∧ w'.cell? ⟨gb242, 1, none⟩ = some (.int .i64 a0_1) ∧ w'.cell? ⟨gb242, 2, none⟩ = some (.int .i64 a0_2) ∧ w'.cell? ⟨gb242, 3, none⟩ = some (.slice A0_3 l0_3.length c0_3) ∧ w'.cell? (ad246.add (x8_1).toNat) = some (.int .i64 (rd l2 x8_1))) ∧ (Kd.R (Kd.int .i64) 3 w' w.heap.size (fun k_ => some k_ ≠ (s_.2.1 : Value).ownBlock ∧ some k_ ≠ (u7 : Value).ownBlock) s_.1 t248) ∧ (Kd.R (Kd.int .i64) 3 w' w.heap.size (fun k_ => some k_ ≠ (s_.1 : Value).ownBlock ∧ some k_ ≠ (u7 : Value).ownBlock) s_.2.1 t251) ∧ (Kd.R (Kd.int .i64) 3 w' w.heap.size (fun k_ => some k_ ≠ (s_.1 : Value).ownBlock ∧ some k_ ≠ (s_.2.1 : Value).ownBlock) u7 x7_1) ∧ (w'.heap[gb242]? = some (.cells #[.int .i64 a0_0, .int .i64 a0_1, .int .i64 a0_2, .slice A0_3 l0_3.length c0_3] 29 (0, 0))) ∧ (w'.heap[s_.2.2]? = some (.cells #[.int .i64 0, .slice none 0 0, .slice none 0 0] 44 (0, 0))) ∧ (w.heap.size ≤ s_.2.2) ∧ (w.heap.size ≤ s_.2.2) ∧ (gb242 ≠ s_.2.2) ∧ (s_.2.2 ≠ gb242) ∧ (Below w.heap.size w w')) ?_ ?_
      rotate_left
      ·intro hCont
       refine two_ (i := 6) (j := 10) (Ni := some 25) (Nj := some 9) #[true, true, true, true, true, true, true, false, false, false, false, false, false] #[true, true, true, true, true, true, false, false, false, false, true, false, false] rfl rfl rfl rfl (two_of HT_.out (by kernel_rfl)) (by decide) (by decide) (fun K hK => ?_) (fun K hK => ?_)
       ·skip
        refine goes_ Try.func34 (by kernel_rfl) rfl #[.agg #[.int .i64 a0_0, .int .i64 a0_1, .int .i64 a0_2, .slice A0_3 l0_3.length c0_3], .int .i64 (rd l2 x8_1), .int .i64 a1] (by rfl) rfl rfl sl ?_
        with_reducible refine (spec_TableIn.calls a0_0 a0_1 a0_2 _ _ l0_3 (rd l2 x8_1) a1 t247 t248 t251 true _ ?side1 ?side2 A9.out).mono ?_
        (case side1 => exact cb HR0_3)
        (case side2 => exact HC0_3.out)
        rintro e w27 ⟨v249, v252, rfl, ho0, ho1, hb⟩
        refine ⟨_, rfl, ?_⟩
        have HO250 := Aside0.mk (Kd.R_lower (Kd.R_new' ho0 (Kd.R_lt (sr HO_7))) (below_size (sbw)))
        have HO253 := Aside0.mk (Kd.R_lower (Kd.R_new' ho1 (Kd.R_lt (sr HO_7))) (below_size (sbw)))
        replace HO_7 := Aside0.mk (Kd.R_mono (Kd.R_told (Kd.R_told (Kd.R_old (sr HO_7) hb) (Kd.R_base ho0)) (Kd.R_base ho1)) (fun _ h_ => h_.1))
        replace BK242 := bb BK242 hb
        replace HB := bsw hb
        (try clear hb)
        (try clear hb2)
        (try clear hk)
        (try clear hi)
        (try clear ho0)
        (try clear ho1)
        refine hK.out _ _ ⟨bc0 BK242, bc1 BK242, bc2 BK242, bc3 BK242, (hb_ HB hw246_0)⟩ (fun hHeld => ?_)
        clear hK K
        refine norm_ (a' := ?_) ?_ ?_
        rotate_left
        ·show Act.put _ (some 25) _ = _
         simp only [Act.put, List.setIfInBounds_toArray, List.set_cons_zero, List.set_cons_succ, i64_w, i32_w]
         rfl
        refine put 7 18 #[true, true, true, true, true, true, true, true, false, false, false, false, false] HT_ ?_
        refine put 8 26 #[true, true, true, true, true, true, true, true, true, false, false, false, false] HT_ ?_
        refine put 9 27 #[true, true, true, true, true, true, true, true, true, true, false, false, false] HT_ ?_
        refine one_ (i := 10) (N := some 9) #[true, true, true, true, true, true, true, true, true, true, true, false, false] rfl rfl (one_of HT_.out (by kernel_rfl)) (by decide) (fun K hK => ?_)
        refine box_step ?hg (N := 9) ?hd (cs := #[.int .i64 0, .slice none 0 0, .slice none 0 0]) (t := 44) ?hr ?_; (case hd => rfl); (case hg => rfl); (case hr => first | (go_simp; done) | (go_simp; rfl))
        intro gb255 hg w28 hbox hb
        replace HO_7 := Aside0.mk (Kd.R_below (sr HO_7) hb)
        replace HO250 := Aside0.mk (Kd.R_below (sr HO250) hb)
        replace HO253 := Aside0.mk (Kd.R_below (sr HO253) hb)
        have BK255 := Aside0.mk hbox
        have GW255 := bzw w hg
        have GE255 := bzw w hg
        replace HB := bsw hb
        have NB242_255 := nl BK242 hg
        have NB255_242 := ng BK242 hg
        replace BK242 := bb BK242 hb
        clear hb hbox hg
        refine hK.out _ _ ⟨bc0 BK242, bc1 BK242, bc2 BK242, bc3 BK242, (hb_ HB hw246_0)⟩ (fun hHeld => ?_)
        clear hK K
        refine norm_ (a' := ?_) ?_ ?_
        rotate_left
        ·show Act.put _ (some 9) _ = _
         simp only [Act.put, List.setIfInBounds_toArray, List.set_cons_zero, List.set_cons_succ, i64_w, i32_w]
         rfl
        exact norm_ (by simp only [putAll, Act.put, List.setIfInBounds_toArray, List.set_cons_zero, List.set_cons_succ]) (hCont (v249, v252, gb255) _ ⟨hHeld, (sr HO250), (sr HO253), (by (with_reducible repeat (first | apply Kd.R_alloc | apply Kd.R_drewN | apply Kd.R_drew)); exact Kd.R_mono HO_7.out (fun _ hk => ⟨hk.1.2, hk.2⟩)), (sk BK242), (sk BK255), GW255.out, GE255.out, NB242_255.out, NB255_242.out, (sbw)⟩)
       ·skip
        refine box_step ?hg (N := 9) ?hd (cs := #[.int .i64 0, .slice none 0 0, .slice none 0 0]) (t := 44) ?hr ?_; (case hd => rfl); (case hg => rfl); (case hr => first | (go_simp; done) | (go_simp; rfl))
        intro gb255 hg w27 hbox hb
        replace HO_7 := Aside0.mk (Kd.R_below (sr HO_7) hb)
        have BK255 := Aside0.mk hbox
        have GW255 := bzw w hg
        have GE255 := bzw w hg
        replace HB := bsw hb
        have NB242_255 := nl BK242 hg
        have NB255_242 := ng BK242 hg
        replace BK242 := bb BK242 hb
        clear hb hbox hg
        refine hK.out _ _ ⟨bc0 BK242, bc1 BK242, bc2 BK242, bc3 BK242, (hb_ HB hw246_0)⟩ (fun hHeld => ?_)
        clear hK K
        refine norm_ (a' := ?_) ?_ ?_
        rotate_left
        ·show Act.put _ (some 9) _ = _
         simp only [Act.put, List.setIfInBounds_toArray, List.set_cons_zero, List.set_cons_succ, i64_w, i32_w]
         rfl
        refine one_ (i := 6) (N := some 25) #[true, true, true, true, true, true, true, false, false, false, true, false, false] rfl rfl (one_of HT_.out (by kernel_rfl)) (by decide) (fun K hK => ?_)
        refine goes_ Try.func34 (by kernel_rfl) rfl #[.agg #[.int .i64 a0_0, .int .i64 a0_1, .int .i64 a0_2, .slice A0_3 l0_3.length c0_3], .int .i64 (rd l2 x8_1), .int .i64 a1] (by rfl) rfl rfl sl ?_
        with_reducible refine (spec_TableIn.calls a0_0 a0_1 a0_2 _ _ l0_3 (rd l2 x8_1) a1 t247 t248 t251 true _ ?side1 ?side2 A9.out).mono ?_
        (case side1 => exact cb HR0_3)
        (case side2 => exact HC0_3.out)
        rintro e w28 ⟨v249, v252, rfl, ho0, ho1, hb⟩
        refine ⟨_, rfl, ?_⟩
        have HO250 := Aside0.mk (Kd.R_lower (Kd.R_new' ho0 (Kd.R_lt (sr HO_7))) (below_size (sbw)))
        have HO253 := Aside0.mk (Kd.R_lower (Kd.R_new' ho1 (Kd.R_lt (sr HO_7))) (below_size (sbw)))
        replace HO_7 := Aside0.mk (Kd.R_mono (Kd.R_told (Kd.R_told (Kd.R_old (sr HO_7) hb) (Kd.R_base ho0)) (Kd.R_base ho1)) (fun _ h_ => h_.1))
        replace BK242 := bb BK242 hb
        replace BK255 := bb BK255 hb
        replace HB := bsw hb
        (try clear hb)
        (try clear hb2)
        (try clear hk)
        (try clear hi)
        (try clear ho0)
        (try clear ho1)
        refine hK.out _ _ ⟨bc0 BK242, bc1 BK242, bc2 BK242, bc3 BK242, (hb_ HB hw246_0)⟩ (fun hHeld => ?_)
        clear hK K
        refine norm_ (a' := ?_) ?_ ?_
        rotate_left
        ·show Act.put _ (some 25) _ = _
         simp only [Act.put, List.setIfInBounds_toArray, List.set_cons_zero, List.set_cons_succ, i64_w, i32_w]
         rfl
        refine put 7 18 #[true, true, true, true, true, true, true, true, false, false, true, false, false] HT_ ?_
        refine put 8 26 #[true, true, true, true, true, true, true, true, true, false, true, false, false] HT_ ?_
        refine put 9 27 #[true, true, true, true, true, true, true, true, true, true, true, false, false] HT_ ?_
        exact norm_ (by simp only [putAll, Act.put, List.setIfInBounds_toArray, List.set_cons_zero, List.set_cons_succ]) (hCont (v249, v252, gb255) _ ⟨hHeld, (sr HO250), (sr HO253), (by (with_reducible repeat (first | apply Kd.R_alloc | apply Kd.R_drewN | apply Kd.R_drew)); exact Kd.R_mono HO_7.out (fun _ hk => ⟨hk.1.2, hk.2⟩)), (sk BK242), (sk BK255), GW255.out, GE255.out, NB242_255.out, NB255_242.out, (sbw)⟩)
      rintro ⟨v249, v252, gb255⟩ w29 ⟨hS_, h0_, h1_, h2_, h3_, h4_, h5_, h6_, h7_, h8_, h9_⟩
      have HO250 : Aside0 (Kd.R (Kd.int .i64) 3 w29 w.heap.size (fun k_ => some k_ ≠ (v252 : Value).ownBlock ∧ some k_ ≠ (u7 : Value).ownBlock) v249 t248) := ⟨h0_⟩
      have HO253 : Aside0 (Kd.R (Kd.int .i64) 3 w29 w.heap.size (fun k_ => some k_ ≠ (v249 : Value).ownBlock ∧ some k_ ≠ (u7 : Value).ownBlock) v252 t251) := ⟨h1_⟩
      replace HO_7 : Aside0 (Kd.R (Kd.int .i64) 3 w29 w.heap.size (fun k_ => some k_ ≠ (v249 : Value).ownBlock ∧ some k_ ≠ (v252 : Value).ownBlock) u7 x7_1) := ⟨h2_⟩
      replace BK242 : Aside0 (w29.heap[gb242]? = some (.cells #[.int .i64 a0_0, .int .i64 a0_1, .int .i64 a0_2, .slice A0_3 l0_3.length c0_3] 29 (0, 0))) := ⟨h3_⟩
      have BK255 : Aside0 (w29.heap[gb255]? = some (.cells #[.int .i64 0, .slice none 0 0, .slice none 0 0] 44 (0, 0))) := ⟨h4_⟩
      have GW255 : Aside0 (w.heap.size ≤ gb255) := ⟨h5_⟩
      have GE255 : Aside0 (w.heap.size ≤ gb255) := ⟨h6_⟩
      have NB242_255 : Aside0 (gb242 ≠ gb255) := ⟨h7_⟩
      have NB255_242 : Aside0 (gb255 ≠ gb242) := ⟨h8_⟩
      replace HB : Aside0 (Below w.heap.size w w29) := ⟨h9_⟩
      clear h0_ h1_ h2_ h3_ h4_ h5_ h6_ h7_ h8_ h9_
      have hHeld : w29.cell? ⟨gb242, 0, none⟩ = some (.int .i64 a0_0) ∧ w29.cell? ⟨gb242, 1, none⟩ = some (.int .i64 a0_1) ∧ w29.cell? ⟨gb242, 2, none⟩ = some (.int .i64 a0_2) ∧ w29.cell? ⟨gb242, 3, none⟩ = some (.slice A0_3 l0_3.length c0_3) ∧ w29.cell? (ad246.add (x8_1).toNat) = some (.int .i64 (rd l2 x8_1)) := hS_
      obtain ⟨Ao31, co31, eo31⟩ := Kd.R_slice HO250.out
      (first | subst eo31 | (injection eo31 with f1_ f2_ f3_; have f4_ := f1_.symm; have f5_ := f3_.symm; clear f1_ f2_ f3_; subst f4_; subst f5_))
      obtain ⟨Ao33, co33, eo33⟩ := Kd.R_slice HO253.out
      (first | subst eo33 | (injection eo33 with f1_ f2_ f3_; have f4_ := f1_.symm; have f5_ := f3_.symm; clear f1_ f2_ f3_; subst f4_; subst f5_))
      refine norm_ (a' := ?_) ?_ ?_
      rotate_left
      ·simp only [putAll, Act.put, List.setIfInBounds_toArray, List.set_cons_zero, List.set_cons_succ]
       rfl
      refine one_ (i := 11) (N := none) #[true, true, true, true, true, true, true, true, true, true, true, true, false] rfl rfl (one_of HT_.out (by kernel_rfl)) (by decide) (fun K hK => ?_)
      obtain ⟨hs30, hfs30⟩ := cc1 BK255
      have hns30_0 := NB242_255.out
      have hms30_0 := NB255_242.out
      have hs32 := bc1 BK255
      have hfs32 := bf BK255 1
      have hns32_0 := NB242_255.out
      have hms32_0 := NB255_242.out
      have hs34 := bc2 BK255
      have hfs34 := bf BK255 2
      have hns34_0 := NB242_255.out
      have hms34_0 := NB255_242.out
      refine skip_ (w1 := ?_) (by rfl) rfl ?_ ?_
      rotate_left
      ·go_simp
       rfl
      refine hK.out _ _ ⟨((cell_far (p := ⟨gb255, _, none⟩) NB242_255.out _).trans (((cell_far (p := ⟨gb255, _, none⟩) NB242_255.out _).trans (((cell_far (p := ⟨gb255, _, none⟩) NB242_255.out _).trans (hHeld.1)))))), ((cell_far (p := ⟨gb255, _, none⟩) NB242_255.out _).trans (((cell_far (p := ⟨gb255, _, none⟩) NB242_255.out _).trans (((cell_far (p := ⟨gb255, _, none⟩) NB242_255.out _).trans (hHeld.2.1)))))), ((cell_far (p := ⟨gb255, _, none⟩) NB242_255.out _).trans (((cell_far (p := ⟨gb255, _, none⟩) NB242_255.out _).trans (((cell_far (p := ⟨gb255, _, none⟩) NB242_255.out _).trans (hHeld.2.2.1)))))), ((cell_far (p := ⟨gb255, _, none⟩) NB242_255.out _).trans (((cell_far (p := ⟨gb255, _, none⟩) NB242_255.out _).trans (((cell_far (p := ⟨gb255, _, none⟩) NB242_255.out _).trans (hHeld.2.2.2.1)))))), ((cell_far (p := ⟨gb255, _, none⟩) (by first | exact Nat.ne_of_lt (Nat.lt_of_lt_of_le (by have := World.block_lt_of_cell? _ _ hw246_0; first | rwa [add_block] at this | exact this) GW255.out) | (rw [add_block]; exact Nat.ne_of_lt (Nat.lt_of_lt_of_le (by have := World.block_lt_of_cell? _ _ hw246_0; first | rwa [add_block] at this | exact this) GW255.out)) | (show (Addr.add _ _).block ≠ _; rw [add_block]; exact Nat.ne_of_lt (Nat.lt_of_lt_of_le (by have := World.block_lt_of_cell? _ _ hw246_0; first | rwa [add_block] at this | exact this) GW255.out)) | (dsimp only; exact Nat.ne_of_lt (Nat.lt_of_lt_of_le (by have := World.block_lt_of_cell? _ _ hw246_0; first | rwa [add_block] at this | exact this) GW255.out))) _).trans (((cell_far (p := ⟨gb255, _, none⟩) (by first | exact Nat.ne_of_lt (Nat.lt_of_lt_of_le (by have := World.block_lt_of_cell? _ _ hw246_0; first | rwa [add_block] at this | exact this) GW255.out) | (rw [add_block]; exact Nat.ne_of_lt (Nat.lt_of_lt_of_le (by have := World.block_lt_of_cell? _ _ hw246_0; first | rwa [add_block] at this | exact this) GW255.out)) | (show (Addr.add _ _).block ≠ _; rw [add_block]; exact Nat.ne_of_lt (Nat.lt_of_lt_of_le (by have := World.block_lt_of_cell? _ _ hw246_0; first | rwa [add_block] at this | exact this) GW255.out)) | (dsimp only; exact Nat.ne_of_lt (Nat.lt_of_lt_of_le (by have := World.block_lt_of_cell? _ _ hw246_0; first | rwa [add_block] at this | exact this) GW255.out))) _).trans (((cell_far (p := ⟨gb255, _, none⟩) (by first | exact Nat.ne_of_lt (Nat.lt_of_lt_of_le (by have := World.block_lt_of_cell? _ _ hw246_0; first | rwa [add_block] at this | exact this) GW255.out) | (rw [add_block]; exact Nat.ne_of_lt (Nat.lt_of_lt_of_le (by have := World.block_lt_of_cell? _ _ hw246_0; first | rwa [add_block] at this | exact this) GW255.out)) | (show (Addr.add _ _).block ≠ _; rw [add_block]; exact Nat.ne_of_lt (Nat.lt_of_lt_of_le (by have := World.block_lt_of_cell? _ _ hw246_0; first | rwa [add_block] at this | exact this) GW255.out)) | (dsimp only; exact Nat.ne_of_lt (Nat.lt_of_lt_of_le (by have := World.block_lt_of_cell? _ _ hw246_0; first | rwa [add_block] at this | exact this) GW255.out))) _).trans (hHeld.2.2.2.2))))))⟩ (fun hHeld => ?_)
      clear hK K
      refine put 12 10 #[true, true, true, true, true, true, true, true, true, true, true, true, true] HT_ ?_
      refine done_ (done_of HT_.out (by kernel_rfl)) ?_
      have hnb35 := NB255_242.out
      have hnc35 := NB242_255.out
      obtain ⟨hcz36_0, hcz36_1, hcz36_2, hfz36_0, hfz36_1, hfz36_2⟩ := cc3 BK255
      try go_wp2_with (first | ((with_reducible refine gate_builtin (b := .append) (xs := #[.tmp 44, .tmp 45]) rfl ?_); (try (refine gate_guard (by rfl) ?_; dsimp only)); at_builtin; refine Kd.R_append (Kd.int .i64) (w0 := w) w.heap.size rfl (.tmp 44) (.tmp 45) 37 3 (.int .i64 0) 8 rfl Try.underlying37 info3 rfl (by decide) (by omega) u7 x7_1 (-1) [.int .i64 (-1)] (fun k_ => some k_ ≠ (.slice Ao31 t248.length co31 : Value).ownBlock ∧ some k_ ≠ (.slice Ao33 t251.length co33 : Value).ownBlock) (fun _ => False) rfl (by first | (go_simp; done) | (go_simp; rfl)) ?aP (fun _ hk => hk.elim) ?aF ?aO ?aB ?aS ?aL ?_; (case aP => exact rfl); (case aB => exact (sbw)); (case aF => exact (fun k_ hk => ⟨Kd.fresh' (Kd.R_lt (by (with_reducible repeat (first | apply Kd.R_alloc | apply Kd.R_drewN | apply Kd.R_drew)); exact (Kd.R_mono (Kd.R_far (p := ⟨gb255, 2, none⟩) (Kd.R_far (p := ⟨gb255, 1, none⟩) (Kd.R_far (p := ⟨gb255, 0, none⟩) (Kd.R_types HO250.out BK255.out (by decide)) (fun _ hk => hk.2) (.int .i64 t247)) (fun _ hk => hk.2) (.slice Ao31 t248.length co31)) (fun _ hk => hk.2) (.slice Ao33 t251.length co33)) (fun _ h_ => h_.1)))) k_ hk, Kd.fresh' (Kd.R_lt (by (with_reducible repeat (first | apply Kd.R_alloc | apply Kd.R_drewN | apply Kd.R_drew)); exact (Kd.R_mono (Kd.R_far (p := ⟨gb255, 2, none⟩) (Kd.R_far (p := ⟨gb255, 1, none⟩) (Kd.R_far (p := ⟨gb255, 0, none⟩) (Kd.R_types HO253.out BK255.out (by decide)) (fun _ hk => hk.2) (.int .i64 t247)) (fun _ hk => hk.2) (.slice Ao31 t248.length co31)) (fun _ hk => hk.2) (.slice Ao33 t251.length co33)) (fun _ h_ => h_.1)))) k_ hk⟩)); (case aO => exact (by (with_reducible repeat (first | apply Kd.R_alloc | apply Kd.R_drewN | apply Kd.R_drew)); exact Kd.R_mono (Kd.R_far (p := ⟨gb255, 2, none⟩) (Kd.R_far (p := ⟨gb255, 1, none⟩) (Kd.R_far (p := ⟨gb255, 0, none⟩) (Kd.R_types HO_7.out BK255.out (by decide)) (fun _ hk => hk.2) (.int .i64 t247)) (fun _ hk => hk.2) (.slice Ao31 t248.length co31)) (fun _ hk => hk.2) (.slice Ao33 t251.length co33)) (fun _ hk => ⟨hk.1.1, hk.1.2⟩))); (case aS => exact (below_size (sbw))); (case aL => have := LMc25.out; omega); intro v261 w37 ho hb hg hat; rw [← Ny260.out] at ho; replace BK242 := Aside0.mk (blk_grown (g := gb242) (o := .cells #[.int .i64 a0_0, .int .i64 a0_1, .int .i64 a0_2, .slice A0_3 l0_3.length c0_3] 29 (0, 0)) (sp BK242) hg (Kd.R_ne HO_7.out BK242.out (by decide))); replace HO250 := Aside0.mk (Kd.R_after (ok := (fun k_ => some k_ ≠ (.slice Ao33 t251.length co33 : Value).ownBlock)) (by (with_reducible repeat (first | apply Kd.R_alloc | apply Kd.R_drewN | apply Kd.R_drew)); exact Kd.R_mono (Kd.R_far (p := ⟨gb255, 2, none⟩) (Kd.R_far (p := ⟨gb255, 1, none⟩) (Kd.R_far (p := ⟨gb255, 0, none⟩) (Kd.R_types HO250.out BK255.out (by decide)) (fun _ hk => hk.2) (.int .i64 t247)) (fun _ hk => hk.2) (.slice Ao31 t248.length co31)) (fun _ hk => hk.2) (.slice Ao33 t251.length co33)) (fun _ hk => ⟨hk.1.1, hk.1.2⟩)) hg hat); replace HO253 := Aside0.mk (Kd.R_after (ok := (fun k_ => some k_ ≠ (.slice Ao31 t248.length co31 : Value).ownBlock)) (by (with_reducible repeat (first | apply Kd.R_alloc | apply Kd.R_drewN | apply Kd.R_drew)); exact Kd.R_mono (Kd.R_far (p := ⟨gb255, 2, none⟩) (Kd.R_far (p := ⟨gb255, 1, none⟩) (Kd.R_far (p := ⟨gb255, 0, none⟩) (Kd.R_types HO253.out BK255.out (by decide)) (fun _ hk => hk.2) (.int .i64 t247)) (fun _ hk => hk.2) (.slice Ao31 t248.length co31)) (fun _ hk => hk.2) (.slice Ao33 t251.length co33)) (fun _ hk => ⟨hk.1.1, hk.1.2⟩)) hg hat); replace BK255 := Aside0.mk (blk_grown (g := gb255) (o := .cells #[.int .i64 t247, .slice Ao31 t248.length co31, .slice Ao33 t251.length co33] 44 (0, 0)) (sp BK255) hg (Kd.R_ne HO_7.out BK255.out (by decide))); replace HB := Aside0.mk hb; have HO262 := Aside0.mk ho; clear HO_7; clear ho hb hg hat))
      go_roundg k1
      case measure => have := HK1.out; omega
      case rel => exact ⟨(y260), (wrap64 (x8_1 + 1)), sc, H', kk1, ⟨by (with_reducible repeat (first | apply Kd.R_alloc | apply Kd.R_drewN | apply Kd.R_drew)); exact Kd.R_mono HO262.out (fun _ hk => trivial)⟩, ⟨sk BK242⟩, ⟨sbw⟩⟩
    ·replace H := im H
     obtain ⟨LMc38, H⟩ := il_ H
     obtain ⟨y263, hy263⟩ : ∃ y_ : List Int, y_ = (x7_1 ++ [(-1)]) := ⟨_, rfl⟩
     replace H : (spec_MixOf.l0 k1 a1 l2 y263 (wrap64 (x8_1 + 1)) a0_0 a0_1 a0_2 l0_3) = some r := by first | (rw [hy263]; with_reducible exact H) | (have H2_ := (Option.bind_some _ _).symm.trans H; rw [hy263]; with_reducible exact H2_) | (have H2_ := (Option.bind_some _ _).symm.trans H; with_reducible exact H2_) | with_reducible exact H | (rw [hy263]; exact H) | exact H
     have Ny263 := Aside0.mk hy263
     clear hy263
     have H' := Aside0.mk H
     clear H
     try go_wp2
     replace HO_7 := Aside0.mk (Kd.R_drew HO_7.out)
     replace BK242 := Aside0.mk (blk_drew BK242.out)
     replace HB := Aside0.mk (below_drew1 HB.out)
     obtain ⟨p246, q246, ad246, e246, hw246_0, hx246_0⟩ := at_i HR2 HB x8_1
     cases e246
     refine start_ (n := 13) (S := fun w' => w'.cell? ⟨gb242, 0, none⟩ = some (.int .i64 a0_0) ∧ w'.cell? ⟨gb242, 1, none⟩ = some (.int .i64 a0_1) ∧ w'.cell? ⟨gb242, 2, none⟩ = some (.int .i64 a0_2) ∧ w'.cell? ⟨gb242, 3, none⟩ = some (.slice A0_3 l0_3.length c0_3) ∧ w'.cell? (ad246.add (x8_1).toNat) = some (.int .i64 (rd l2 x8_1))) (ds := []) #[false, false, false, false, false, false, false, false, false, false, false, false, false] (by kernel_rfl) rfl rfl ⟨bc0 BK242, bc1 BK242, bc2 BK242, bc3 BK242, (hb_ HB hw246_0)⟩ (fun hHeld => ?_); refine with_tabW spec_MixOf.tab5 spec_MixOf.bits5 (fun HT_ HW_ => ?_)
     generalize wr.drew = w39 at HO_7 BK242 HB hx246_0 hHeld ⊢
     refine put 1 20 #[false, true, false, false, false, false, false, false, false, false, false, false, false] HT_ ?_
     refine put 2 21 #[false, true, true, false, false, false, false, false, false, false, false, false, false] HT_ ?_
     refine put 3 22 #[false, true, true, true, false, false, false, false, false, false, false, false, false] HT_ ?_
     refine put 5 24 #[false, true, true, true, false, true, false, false, false, false, false, false, false] HT_ ?_
     refine tat5 0 19 #[true, true, true, true, false, true, false, false, false, false, false, false, false] HT_ HW_ hHeld ?_
     refine tat5 4 23 #[true, true, true, true, true, true, false, false, false, false, false, false, false] HT_ HW_ hHeld ?_
     refine join_ (σ := Value × Value × Nat) 2 #[true, true, true, true, true, true, true, true, true, true, true, false, false] (fun s_ => [(25, .tuple #[.agg #[.int .i64 t247, s_.1, s_.2.1], .bool false]), (9, .pointer (some ⟨s_.2.2, 0, none⟩)), (18, .tuple #[.agg #[.int .i64 t247, s_.1, s_.2.1], .bool false]), (26, .agg #[.int .i64 t247, s_.1, s_.2.1]), (27, .bool false)]) (fun s_ w' => (w'.cell? ⟨gb242, 0, none⟩ = some (.int .i64 a0_0) ∧ w'.cell? ⟨gb242, 1, none⟩ = some (.int .i64 a0_1) ∧ w'.cell? ⟨gb242, 2, none⟩ = some (.int .i64 a0_2) ∧ w'.cell? ⟨gb242, 3, none⟩ = some (.slice A0_3 l0_3.length c0_3) ∧ w'.cell? (ad246.add (x8_1).toNat) = some (.int .i64 (rd l2 x8_1))) ∧ (Kd.R (Kd.int .i64) 3 w' w.heap.size (fun k_ => some k_ ≠ (s_.2.1 : Value).ownBlock ∧ some k_ ≠ (u7 : Value).ownBlock) s_.1 t248) ∧ (Kd.R (Kd.int .i64) 3 w' w.heap.size (fun k_ => some k_ ≠ (s_.1 : Value).ownBlock ∧ some k_ ≠ (u7 : Value).ownBlock) s_.2.1 t251) ∧ (Kd.R (Kd.int .i64) 3 w' w.heap.size (fun k_ => some k_ ≠ (s_.1 : Value).ownBlock ∧ some k_ ≠ (s_.2.1 : Value).ownBlock) u7 x7_1) ∧ (w'.heap[gb242]? = some (.cells #[.int .i64 a0_0, .int .i64 a0_1, .int .i64 a0_2, .slice A0_3 l0_3.length c0_3] 29 (0, 0))) ∧ (w'.heap[s_.2.2]? = some (.cells #[.int .i64 0, .slice none 0 0, .slice none 0 0] 44 (0, 0))) ∧ (w.heap.size ≤ s_.2.2) ∧ (w.heap.size ≤ s_.2.2) ∧ (gb242 ≠ s_.2.2) ∧ (s_.2.2 ≠ gb242) ∧ (Below w.heap.size w w')) ?_ ?_
     rotate_left
     ·intro hCont
      refine two_ (i := 6) (j := 10) (Ni := some 25) (Nj := some 9) #[true, true, true, true, true, true, true, false, false, false, false, false, false] #[true, true, true, true, true, true, false, false, false, false, true, false, false] rfl rfl rfl rfl (two_of HT_.out (by kernel_rfl)) (by decide) (by decide) (fun K hK => ?_) (fun K hK => ?_)
      ·skip
       refine goes_ Try.func34 (by kernel_rfl) rfl #[.agg #[.int .i64 a0_0, .int .i64 a0_1, .int .i64 a0_2, .slice A0_3 l0_3.length c0_3], .int .i64 (rd l2 x8_1), .int .i64 a1] (by rfl) rfl rfl sl ?_
       with_reducible refine (spec_TableIn.calls a0_0 a0_1 a0_2 _ _ l0_3 (rd l2 x8_1) a1 t247 t248 t251 false _ ?side1 ?side2 A9.out).mono ?_
       (case side1 => exact cb HR0_3)
       (case side2 => exact HC0_3.out)
       rintro e w40 ⟨v249, v252, rfl, ho0, ho1, hb⟩
       refine ⟨_, rfl, ?_⟩
       have HO250 := Aside0.mk (Kd.R_lower (Kd.R_new' ho0 (Kd.R_lt (sr HO_7))) (below_size (sbw)))
       have HO253 := Aside0.mk (Kd.R_lower (Kd.R_new' ho1 (Kd.R_lt (sr HO_7))) (below_size (sbw)))
       replace HO_7 := Aside0.mk (Kd.R_mono (Kd.R_told (Kd.R_told (Kd.R_old (sr HO_7) hb) (Kd.R_base ho0)) (Kd.R_base ho1)) (fun _ h_ => h_.1))
       replace BK242 := bb BK242 hb
       replace HB := bsw hb
       (try clear hb)
       (try clear hb2)
       (try clear hk)
       (try clear hi)
       (try clear ho0)
       (try clear ho1)
       refine hK.out _ _ ⟨bc0 BK242, bc1 BK242, bc2 BK242, bc3 BK242, (hb_ HB hw246_0)⟩ (fun hHeld => ?_)
       clear hK K
       refine norm_ (a' := ?_) ?_ ?_
       rotate_left
       ·show Act.put _ (some 25) _ = _
        simp only [Act.put, List.setIfInBounds_toArray, List.set_cons_zero, List.set_cons_succ, i64_w, i32_w]
        rfl
       refine put 7 18 #[true, true, true, true, true, true, true, true, false, false, false, false, false] HT_ ?_
       refine put 8 26 #[true, true, true, true, true, true, true, true, true, false, false, false, false] HT_ ?_
       refine put 9 27 #[true, true, true, true, true, true, true, true, true, true, false, false, false] HT_ ?_
       refine one_ (i := 10) (N := some 9) #[true, true, true, true, true, true, true, true, true, true, true, false, false] rfl rfl (one_of HT_.out (by kernel_rfl)) (by decide) (fun K hK => ?_)
       refine box_step ?hg (N := 9) ?hd (cs := #[.int .i64 0, .slice none 0 0, .slice none 0 0]) (t := 44) ?hr ?_; (case hd => rfl); (case hg => rfl); (case hr => first | (go_simp; done) | (go_simp; rfl))
       intro gb255 hg w41 hbox hb
       replace HO_7 := Aside0.mk (Kd.R_below (sr HO_7) hb)
       replace HO250 := Aside0.mk (Kd.R_below (sr HO250) hb)
       replace HO253 := Aside0.mk (Kd.R_below (sr HO253) hb)
       have BK255 := Aside0.mk hbox
       have GW255 := bzw w hg
       have GE255 := bzw w hg
       replace HB := bsw hb
       have NB242_255 := nl BK242 hg
       have NB255_242 := ng BK242 hg
       replace BK242 := bb BK242 hb
       clear hb hbox hg
       refine hK.out _ _ ⟨bc0 BK242, bc1 BK242, bc2 BK242, bc3 BK242, (hb_ HB hw246_0)⟩ (fun hHeld => ?_)
       clear hK K
       refine norm_ (a' := ?_) ?_ ?_
       rotate_left
       ·show Act.put _ (some 9) _ = _
        simp only [Act.put, List.setIfInBounds_toArray, List.set_cons_zero, List.set_cons_succ, i64_w, i32_w]
        rfl
       exact norm_ (by simp only [putAll, Act.put, List.setIfInBounds_toArray, List.set_cons_zero, List.set_cons_succ]) (hCont (v249, v252, gb255) _ ⟨hHeld, (sr HO250), (sr HO253), (by (with_reducible repeat (first | apply Kd.R_alloc | apply Kd.R_drewN | apply Kd.R_drew)); exact Kd.R_mono HO_7.out (fun _ hk => ⟨hk.1.2, hk.2⟩)), (sk BK242), (sk BK255), GW255.out, GE255.out, NB242_255.out, NB255_242.out, (sbw)⟩)
      ·skip
       refine box_step ?hg (N := 9) ?hd (cs := #[.int .i64 0, .slice none 0 0, .slice none 0 0]) (t := 44) ?hr ?_; (case hd => rfl); (case hg => rfl); (case hr => first | (go_simp; done) | (go_simp; rfl))
       intro gb255 hg w40 hbox hb
       replace HO_7 := Aside0.mk (Kd.R_below (sr HO_7) hb)
       have BK255 := Aside0.mk hbox
       have GW255 := bzw w hg
       have GE255 := bzw w hg
       replace HB := bsw hb
       have NB242_255 := nl BK242 hg
       have NB255_242 := ng BK242 hg
       replace BK242 := bb BK242 hb
       clear hb hbox hg
       refine hK.out _ _ ⟨bc0 BK242, bc1 BK242, bc2 BK242, bc3 BK242, (hb_ HB hw246_0)⟩ (fun hHeld => ?_)
       clear hK K
       refine norm_ (a' := ?_) ?_ ?_
       rotate_left
       ·show Act.put _ (some 9) _ = _
        simp only [Act.put, List.setIfInBounds_toArray, List.set_cons_zero, List.set_cons_succ, i64_w, i32_w]
        rfl
       refine one_ (i := 6) (N := some 25) #[true, true, true, true, true, true, true, false, false, false, true, false, false] rfl rfl (one_of HT_.out (by kernel_rfl)) (by decide) (fun K hK => ?_)
       refine goes_ Try.func34 (by kernel_rfl) rfl #[.agg #[.int .i64 a0_0, .int .i64 a0_1, .int .i64 a0_2, .slice A0_3 l0_3.length c0_3], .int .i64 (rd l2 x8_1), .int .i64 a1] (by rfl) rfl rfl sl ?_
       with_reducible refine (spec_TableIn.calls a0_0 a0_1 a0_2 _ _ l0_3 (rd l2 x8_1) a1 t247 t248 t251 false _ ?side1 ?side2 A9.out).mono ?_
       (case side1 => exact cb HR0_3)
       (case side2 => exact HC0_3.out)
       rintro e w41 ⟨v249, v252, rfl, ho0, ho1, hb⟩
       refine ⟨_, rfl, ?_⟩
       have HO250 := Aside0.mk (Kd.R_lower (Kd.R_new' ho0 (Kd.R_lt (sr HO_7))) (below_size (sbw)))
       have HO253 := Aside0.mk (Kd.R_lower (Kd.R_new' ho1 (Kd.R_lt (sr HO_7))) (below_size (sbw)))
       replace HO_7 := Aside0.mk (Kd.R_mono (Kd.R_told (Kd.R_told (Kd.R_old (sr HO_7) hb) (Kd.R_base ho0)) (Kd.R_base ho1)) (fun _ h_ => h_.1))
       replace BK242 := bb BK242 hb
       replace BK255 := bb BK255 hb
       replace HB := bsw hb
       (try clear hb)
       (try clear hb2)
       (try clear hk)
       (try clear hi)
       (try clear ho0)
       (try clear ho1)
       refine hK.out _ _ ⟨bc0 BK242, bc1 BK242, bc2 BK242, bc3 BK242, (hb_ HB hw246_0)⟩ (fun hHeld => ?_)
       clear hK K
       refine norm_ (a' := ?_) ?_ ?_
       rotate_left
       ·show Act.put _ (some 25) _ = _
        simp only [Act.put, List.setIfInBounds_toArray, List.set_cons_zero, List.set_cons_succ, i64_w, i32_w]
        rfl
       refine put 7 18 #[true, true, true, true, true, true, true, true, false, false, true, false, false] HT_ ?_
       refine put 8 26 #[true, true, true, true, true, true, true, true, true, false, true, false, false] HT_ ?_
       refine put 9 27 #[true, true, true, true, true, true, true, true, true, true, true, false, false] HT_ ?_
       exact norm_ (by simp only [putAll, Act.put, List.setIfInBounds_toArray, List.set_cons_zero, List.set_cons_succ]) (hCont (v249, v252, gb255) _ ⟨hHeld, (sr HO250), (sr HO253), (by (with_reducible repeat (first | apply Kd.R_alloc | apply Kd.R_drewN | apply Kd.R_drew)); exact Kd.R_mono HO_7.out (fun _ hk => ⟨hk.1.2, hk.2⟩)), (sk BK242), (sk BK255), GW255.out, GE255.out, NB242_255.out, NB255_242.out, (sbw)⟩)
     rintro ⟨v249, v252, gb255⟩ w42 ⟨hS_, h0_, h1_, h2_, h3_, h4_, h5_, h6_, h7_, h8_, h9_⟩
     have HO250 : Aside0 (Kd.R (Kd.int .i64) 3 w42 w.heap.size (fun k_ => some k_ ≠ (v252 : Value).ownBlock ∧ some k_ ≠ (u7 : Value).ownBlock) v249 t248) := ⟨h0_⟩
     have HO253 : Aside0 (Kd.R (Kd.int .i64) 3 w42 w.heap.size (fun k_ => some k_ ≠ (v249 : Value).ownBlock ∧ some k_ ≠ (u7 : Value).ownBlock) v252 t251) := ⟨h1_⟩
     replace HO_7 : Aside0 (Kd.R (Kd.int .i64) 3 w42 w.heap.size (fun k_ => some k_ ≠ (v249 : Value).ownBlock ∧ some k_ ≠ (v252 : Value).ownBlock) u7 x7_1) := ⟨h2_⟩
     replace BK242 : Aside0 (w42.heap[gb242]? = some (.cells #[.int .i64 a0_0, .int .i64 a0_1, .int .i64 a0_2, .slice A0_3 l0_3.length c0_3] 29 (0, 0))) := ⟨h3_⟩
     have BK255 : Aside0 (w42.heap[gb255]? = some (.cells #[.int .i64 0, .slice none 0 0, .slice none 0 0] 44 (0, 0))) := ⟨h4_⟩
     have GW255 : Aside0 (w.heap.size ≤ gb255) := ⟨h5_⟩
     have GE255 : Aside0 (w.heap.size ≤ gb255) := ⟨h6_⟩
     have NB242_255 : Aside0 (gb242 ≠ gb255) := ⟨h7_⟩
     have NB255_242 : Aside0 (gb255 ≠ gb242) := ⟨h8_⟩
     replace HB : Aside0 (Below w.heap.size w w42) := ⟨h9_⟩
     clear h0_ h1_ h2_ h3_ h4_ h5_ h6_ h7_ h8_ h9_
     have hHeld : w42.cell? ⟨gb242, 0, none⟩ = some (.int .i64 a0_0) ∧ w42.cell? ⟨gb242, 1, none⟩ = some (.int .i64 a0_1) ∧ w42.cell? ⟨gb242, 2, none⟩ = some (.int .i64 a0_2) ∧ w42.cell? ⟨gb242, 3, none⟩ = some (.slice A0_3 l0_3.length c0_3) ∧ w42.cell? (ad246.add (x8_1).toNat) = some (.int .i64 (rd l2 x8_1)) := hS_
     obtain ⟨Ao44, co44, eo44⟩ := Kd.R_slice HO250.out
     (first | subst eo44 | (injection eo44 with f1_ f2_ f3_; have f4_ := f1_.symm; have f5_ := f3_.symm; clear f1_ f2_ f3_; subst f4_; subst f5_))
     obtain ⟨Ao46, co46, eo46⟩ := Kd.R_slice HO253.out
     (first | subst eo46 | (injection eo46 with f1_ f2_ f3_; have f4_ := f1_.symm; have f5_ := f3_.symm; clear f1_ f2_ f3_; subst f4_; subst f5_))
     refine norm_ (a' := ?_) ?_ ?_
     rotate_left
     ·simp only [putAll, Act.put, List.setIfInBounds_toArray, List.set_cons_zero, List.set_cons_succ]
      rfl
     refine one_ (i := 11) (N := none) #[true, true, true, true, true, true, true, true, true, true, true, true, false] rfl rfl (one_of HT_.out (by kernel_rfl)) (by decide) (fun K hK => ?_)
     obtain ⟨hs43, hfs43⟩ := cc1 BK255
     have hns43_0 := NB242_255.out
     have hms43_0 := NB255_242.out
     have hs45 := bc1 BK255
     have hfs45 := bf BK255 1
     have hns45_0 := NB242_255.out
     have hms45_0 := NB255_242.out
     have hs47 := bc2 BK255
     have hfs47 := bf BK255 2
     have hns47_0 := NB242_255.out
     have hms47_0 := NB255_242.out
     refine skip_ (w1 := ?_) (by rfl) rfl ?_ ?_
     rotate_left
     ·go_simp
      rfl
     refine hK.out _ _ ⟨((cell_far (p := ⟨gb255, _, none⟩) NB242_255.out _).trans (((cell_far (p := ⟨gb255, _, none⟩) NB242_255.out _).trans (((cell_far (p := ⟨gb255, _, none⟩) NB242_255.out _).trans (hHeld.1)))))), ((cell_far (p := ⟨gb255, _, none⟩) NB242_255.out _).trans (((cell_far (p := ⟨gb255, _, none⟩) NB242_255.out _).trans (((cell_far (p := ⟨gb255, _, none⟩) NB242_255.out _).trans (hHeld.2.1)))))), ((cell_far (p := ⟨gb255, _, none⟩) NB242_255.out _).trans (((cell_far (p := ⟨gb255, _, none⟩) NB242_255.out _).trans (((cell_far (p := ⟨gb255, _, none⟩) NB242_255.out _).trans (hHeld.2.2.1)))))), ((cell_far (p := ⟨gb255, _, none⟩) NB242_255.out _).trans (((cell_far (p := ⟨gb255, _, none⟩) NB242_255.out _).trans (((cell_far (p := ⟨gb255, _, none⟩) NB242_255.out _).trans (hHeld.2.2.2.1)))))), ((cell_far (p := ⟨gb255, _, none⟩) (by first | exact Nat.ne_of_lt (Nat.lt_of_lt_of_le (by have := World.block_lt_of_cell? _ _ hw246_0; first | rwa [add_block] at this | exact this) GW255.out) | (rw [add_block]; exact Nat.ne_of_lt (Nat.lt_of_lt_of_le (by have := World.block_lt_of_cell? _ _ hw246_0; first | rwa [add_block] at this | exact this) GW255.out)) | (show (Addr.add _ _).block ≠ _; rw [add_block]; exact Nat.ne_of_lt (Nat.lt_of_lt_of_le (by have := World.block_lt_of_cell? _ _ hw246_0; first | rwa [add_block] at this | exact this) GW255.out)) | (dsimp only; exact Nat.ne_of_lt (Nat.lt_of_lt_of_le (by have := World.block_lt_of_cell? _ _ hw246_0; first | rwa [add_block] at this | exact this) GW255.out))) _).trans (((cell_far (p := ⟨gb255, _, none⟩) (by first | exact Nat.ne_of_lt (Nat.lt_of_lt_of_le (by have := World.block_lt_of_cell? _ _ hw246_0; first | rwa [add_block] at this | exact this) GW255.out) | (rw [add_block]; exact Nat.ne_of_lt (Nat.lt_of_lt_of_le (by have := World.block_lt_of_cell? _ _ hw246_0; first | rwa [add_block] at this | exact this) GW255.out)) | (show (Addr.add _ _).block ≠ _; rw [add_block]; exact Nat.ne_of_lt (Nat.lt_of_lt_of_le (by have := World.block_lt_of_cell? _ _ hw246_0; first | rwa [add_block] at this | exact this) GW255.out)) | (dsimp only; exact Nat.ne_of_lt (Nat.lt_of_lt_of_le (by have := World.block_lt_of_cell? _ _ hw246_0; first | rwa [add_block] at this | exact this) GW255.out))) _).trans (((cell_far (p := ⟨gb255, _, none⟩) (by first | exact Nat.ne_of_lt (Nat.lt_of_lt_of_le (by have := World.block_lt_of_cell? _ _ hw246_0; first | rwa [add_block] at this | exact this) GW255.out) | (rw [add_block]; exact Nat.ne_of_lt (Nat.lt_of_lt_of_le (by have := World.block_lt_of_cell? _ _ hw246_0; first | rwa [add_block] at this | exact this) GW255.out)) | (show (Addr.add _ _).block ≠ _; rw [add_block]; exact Nat.ne_of_lt (Nat.lt_of_lt_of_le (by have := World.block_lt_of_cell? _ _ hw246_0; first | rwa [add_block] at this | exact this) GW255.out)) | (dsimp only; exact Nat.ne_of_lt (Nat.lt_of_lt_of_le (by have := World.block_lt_of_cell? _ _ hw246_0; first | rwa [add_block] at this | exact this) GW255.out))) _).trans (hHeld.2.2.2.2))))))⟩ (fun hHeld => ?_)
     clear hK K
     refine put 12 10 #[true, true, true, true, true, true, true, true, true, true, true, true, true] HT_ ?_
     refine done_ (done_of HT_.out (by kernel_rfl)) ?_
     try go_wp2_with (first | ((with_reducible refine gate_builtin (b := .append) (xs := #[.tmp 44, .tmp 45]) rfl ?_); (try (refine gate_guard (by rfl) ?_; dsimp only)); at_builtin; refine Kd.R_append (Kd.int .i64) (w0 := w) w.heap.size rfl (.tmp 44) (.tmp 45) 37 3 (.int .i64 0) 8 rfl Try.underlying37 info3 rfl (by decide) (by omega) u7 x7_1 (-1) [.int .i64 (-1)] (fun k_ => some k_ ≠ (.slice Ao44 t248.length co44 : Value).ownBlock ∧ some k_ ≠ (.slice Ao46 t251.length co46 : Value).ownBlock) (fun _ => False) rfl (by first | (go_simp; done) | (go_simp; rfl)) ?aP (fun _ hk => hk.elim) ?aF ?aO ?aB ?aS ?aL ?_; (case aP => exact rfl); (case aB => exact (sbw)); (case aF => exact (fun k_ hk => ⟨Kd.fresh' (Kd.R_lt (by (with_reducible repeat (first | apply Kd.R_alloc | apply Kd.R_drewN | apply Kd.R_drew)); exact (Kd.R_mono (Kd.R_far (p := ⟨gb255, 2, none⟩) (Kd.R_far (p := ⟨gb255, 1, none⟩) (Kd.R_far (p := ⟨gb255, 0, none⟩) (Kd.R_types HO250.out BK255.out (by decide)) (fun _ hk => hk.2) (.int .i64 t247)) (fun _ hk => hk.2) (.slice Ao44 t248.length co44)) (fun _ hk => hk.2) (.slice Ao46 t251.length co46)) (fun _ h_ => h_.1)))) k_ hk, Kd.fresh' (Kd.R_lt (by (with_reducible repeat (first | apply Kd.R_alloc | apply Kd.R_drewN | apply Kd.R_drew)); exact (Kd.R_mono (Kd.R_far (p := ⟨gb255, 2, none⟩) (Kd.R_far (p := ⟨gb255, 1, none⟩) (Kd.R_far (p := ⟨gb255, 0, none⟩) (Kd.R_types HO253.out BK255.out (by decide)) (fun _ hk => hk.2) (.int .i64 t247)) (fun _ hk => hk.2) (.slice Ao44 t248.length co44)) (fun _ hk => hk.2) (.slice Ao46 t251.length co46)) (fun _ h_ => h_.1)))) k_ hk⟩)); (case aO => exact (by (with_reducible repeat (first | apply Kd.R_alloc | apply Kd.R_drewN | apply Kd.R_drew)); exact Kd.R_mono (Kd.R_far (p := ⟨gb255, 2, none⟩) (Kd.R_far (p := ⟨gb255, 1, none⟩) (Kd.R_far (p := ⟨gb255, 0, none⟩) (Kd.R_types HO_7.out BK255.out (by decide)) (fun _ hk => hk.2) (.int .i64 t247)) (fun _ hk => hk.2) (.slice Ao44 t248.length co44)) (fun _ hk => hk.2) (.slice Ao46 t251.length co46)) (fun _ hk => ⟨hk.1.1, hk.1.2⟩))); (case aS => exact (below_size (sbw))); (case aL => have := LMc38.out; omega); intro v264 w48 ho hb hg hat; rw [← Ny263.out] at ho; replace BK242 := Aside0.mk (blk_grown (g := gb242) (o := .cells #[.int .i64 a0_0, .int .i64 a0_1, .int .i64 a0_2, .slice A0_3 l0_3.length c0_3] 29 (0, 0)) (sp BK242) hg (Kd.R_ne HO_7.out BK242.out (by decide))); replace HO250 := Aside0.mk (Kd.R_after (ok := (fun k_ => some k_ ≠ (.slice Ao46 t251.length co46 : Value).ownBlock)) (by (with_reducible repeat (first | apply Kd.R_alloc | apply Kd.R_drewN | apply Kd.R_drew)); exact Kd.R_mono (Kd.R_far (p := ⟨gb255, 2, none⟩) (Kd.R_far (p := ⟨gb255, 1, none⟩) (Kd.R_far (p := ⟨gb255, 0, none⟩) (Kd.R_types HO250.out BK255.out (by decide)) (fun _ hk => hk.2) (.int .i64 t247)) (fun _ hk => hk.2) (.slice Ao44 t248.length co44)) (fun _ hk => hk.2) (.slice Ao46 t251.length co46)) (fun _ hk => ⟨hk.1.1, hk.1.2⟩)) hg hat); replace HO253 := Aside0.mk (Kd.R_after (ok := (fun k_ => some k_ ≠ (.slice Ao44 t248.length co44 : Value).ownBlock)) (by (with_reducible repeat (first | apply Kd.R_alloc | apply Kd.R_drewN | apply Kd.R_drew)); exact Kd.R_mono (Kd.R_far (p := ⟨gb255, 2, none⟩) (Kd.R_far (p := ⟨gb255, 1, none⟩) (Kd.R_far (p := ⟨gb255, 0, none⟩) (Kd.R_types HO253.out BK255.out (by decide)) (fun _ hk => hk.2) (.int .i64 t247)) (fun _ hk => hk.2) (.slice Ao44 t248.length co44)) (fun _ hk => hk.2) (.slice Ao46 t251.length co46)) (fun _ hk => ⟨hk.1.1, hk.1.2⟩)) hg hat); replace BK255 := Aside0.mk (blk_grown (g := gb255) (o := .cells #[.int .i64 t247, .slice Ao44 t248.length co44, .slice Ao46 t251.length co46] 44 (0, 0)) (sp BK255) hg (Kd.R_ne HO_7.out BK255.out (by decide))); replace HB := Aside0.mk hb; have HO265 := Aside0.mk ho; clear HO_7; clear ho hb hg hat))
     go_roundg k1
     case measure => have := HK1.out; omega
     case rel => exact ⟨(y263), (wrap64 (x8_1 + 1)), sc, H', kk1, ⟨by (with_reducible repeat (first | apply Kd.R_alloc | apply Kd.R_drewN | apply Kd.R_drew)); exact Kd.R_mono HO265.out (fun _ hk => trivial)⟩, ⟨sk BK242⟩, ⟨sbw⟩⟩
   ·have c7b0 := decide_eq_false c7
    clear c7
    obtain rfl := Option.some.inj H
    go_wp2
    go_ret
    exact ⟨_, se, sr HO_7, sbw⟩

end Go.Proofs.Ytadpbpocbfjboaa.QFnExactMixOf
