/- Printed by a program of the session. Conditions: none. (squeezed). -/
import Derived.Test.YtohbccekdmdmbaaVFnExactRepairHopQFnExactRepairHopx7
namespace Go.Proofs.Ytohbccekdmdmbaa.QFnExactRepairHop
set_option maxHeartbeats 8000000
set_option maxRecDepth 100000
open Go.RowKit Go.Proofs.YtohbccekdmdmbaaW.PrintWords Go.Proofs.YtohbccekdmdmbaaW.PrintLast Go.Proofs.YtohbccekdmdmbaaW.PrintMore Go.Proofs.Ytohbccekdmdmbaa.Open Go.Proofs.Ytohbccekdmdmbaa.Sq
attribute [local go_sem] max2_int min2_int max_two min_two max_three min_three max_four min_four   -- for this text's walks alone
attribute [local go_sem] isSome_set
set_option linter.unusedVariables false
set_option linter.unusedSimpArgs false

theorem a8_0 {P : Prop} (h : P := by simp only [putAll, Act.put, List.setIfInBounds_toArray, List.set_cons_zero, List.set_cons_succ]) : P := h
def spec_l19Next.f (k : Nat) (a0_0 : Int) (a0_1 : Int) (a0_2 : Int) (l0_3 : List (S75)) (a1 : Int) (a2 : Int) (a3 : Int) : Option (Int) := (spec_PieceAt.f k a0_0 a0_1 a0_2 l0_3 a3).bind fun t360 => ((spec_TableIn.f a0_0 a0_1 a0_2 l0_3 t360 a2).bind fun bt361 => (if bt361.2.2.2 = true then ((spec_l1In.f a1 0 (wrap64 ((bt361.2.2.1.length : Int) - 1))).bind fun t370 => (if t370 = true then (if 0 ≤ a1 then (if a1 < (bt361.2.2.1.length : Int) then (some (rd bt361.2.2.1 a1)) else (none)) else (none)) else (some (-1)))) else (some (-1))))
theorem spec_l19Next.mono : ∀ a0 a1 a2 a3 a4 a5 a6 k, LeO (spec_l19Next.f k a0 a1 a2 a3 a4 a5 a6) (spec_l19Next.f (k + 1) a0 a1 a2 a3 a4 a5 a6) := by
  intro a0 a1 a2 a3 a4 a5 a6 k
  unfold spec_l19Next.f
  have m0 := @spec_PieceAt.mono
  exact mo
def spec_l19Next.T1 : Bool × List (List Nat × List Nat) := (true, [([], []), ([], []), ([], []), ([1, 2], [1, 2]), ([], []), ([0, 3, 4, 3], [0, 3, 4]), ([5], [5]), ([6], [6]), ([6], [6]), ([], []), ([9, 7, 5, 0, 1, 2, 3, 4, 5, 6, 7, 9], [7, 9]), ([8, 10, 0, 1, 2, 3, 4, 5, 6, 7, 8, 9, 10], [8])])
def spec_l19Next.B1 : List Nat := [0, 0, 0, 6, 0, 31, 63, 127, 127, 0, 767, 2047]
theorem spec_l19Next.tab1 : rtab .any (opsOf Try.f56 1) = spec_l19Next.T1 := by kernel_rfl
theorem spec_l19Next.bits1 : waitsOk spec_l19Next.T1.2 spec_l19Next.B1 = true := by kernel_rfl
theorem spec_l19Next.calls (k : Nat) (a0_0 : Int) (a0_1 : Int) (a0_2 : Int) (A0_3 : Option Addr) (c0_3 : Nat) (l0_3 : List (S75)) (a1 : Int) (a2 : Int) (a3 : Int) (r : Int) (w : World) (hr0_3 : Kd.C k75 w A0_3 l0_3.length l0_3) (hc0_3 : l0_3.length ≤ c0_3) (h : spec_l19Next.f k a0_0 a0_1 a0_2 l0_3 a1 a2 a3 = some r) :
    Calls Try.prog 56 #[.agg #[.int .i64 a0_0, .int .i64 a0_1, .int .i64 a0_2, .slice A0_3 l0_3.length c0_3], .int .i64 a1, .int .i64 a2, .int .i64 a3] w fun e w' => e = .returned (.int .i64 r) ∧ Below w.heap.size w w' := by
 have hu49 := Try.underlying49
 have hu29 := Try.underlying29
 have HR0_3 := am hr0_3
 have HC0_3 := am hc0_3
 clear hr0_3 hc0_3
 have HB := am (Below.refl w.heap.size w)
 have H := h; unfold spec_l19Next.f at H
 clear h
 obtain ⟨t360, A5, H⟩ := bnd H
 obtain ⟨⟨t361, t362, t365, t368⟩, A6, H⟩ := bnd H
 try dsimp only at H
 obtain rfl | rfl := tt t368
 ·replace H := ip H
  obtain ⟨t370, A8, H⟩ := bnd H
  obtain rfl | rfl := tt t370
  ·replace H := ip H
   obtain ⟨c10b0, H⟩ := id_ H
   obtain ⟨c11b0, H⟩ := id_ H
   obtain rfl := Option.some.inj H
   go_enter Try.func56, Try.ntmps56
   try go_wp2_with (first | ((with_reducible refine gd 4 rfl ?_); (try (refine gate_guard (by rfl) ?_; dsimp only)); refine bx 4 #[.int .i64 a0_0, .int .i64 a0_1, .int .i64 a0_2, .slice A0_3 l0_3.length c0_3] 49 ?_; intro gb359 hg w12 hbox hb; have GW359 := bz w hg; have GE359 := bz w hg; replace HB := bs hb; have BK359 := am hbox; clear hb hbox hg))
   replace BK359 := am (blk_drew BK359.out)
   replace HB := am (below_drew1 HB.out)
   refine start_ (n := 12) (S := fun w' => w'.cell? ⟨gb359, 0, none⟩ = some (.int .i64 a0_0) ∧ w'.cell? ⟨gb359, 1, none⟩ = some (.int .i64 a0_1) ∧ w'.cell? ⟨gb359, 2, none⟩ = some (.int .i64 a0_2) ∧ w'.cell? ⟨gb359, 3, none⟩ = some (.slice A0_3 l0_3.length c0_3)) (ds := []) #[false, false, false, false, false, false, false, false, false, false, false, false] (by kernel_rfl) rfl rfl ⟨bc0 BK359, bc1 BK359, bc2 BK359, bc3 BK359⟩ (fun hHeld => ?_); refine with_tabW spec_l19Next.tab1 spec_l19Next.bits1 (fun HT_ HW_ => ?_)
   generalize w12.drew = w13 at BK359 HB hHeld ⊢
   refine put 2 14 (bt 12 4) HT_ ?_
   refine put 4 16 (bt 12 20) HT_ ?_
   refine tat4 0 12 (bt 12 21) HT_ HW_ hHeld ?_
   refine tat4 1 13 (bt 12 23) HT_ HW_ hHeld ?_
   refine join_ (σ := Value × Value × Nat) 2 (bt 12 1023) (fun s_ => [(15, .int .i64 t360), (17, .tuple #[.agg #[.int .i64 t361, s_.1, s_.2.1], .bool true]), (9, .pointer (some ⟨s_.2.2, 0, none⟩)), (11, .tuple #[.agg #[.int .i64 t361, s_.1, s_.2.1], .bool true]), (18, .agg #[.int .i64 t361, s_.1, s_.2.1]), (19, .bool true)]) (fun s_ w' => (w'.cell? ⟨gb359, 0, none⟩ = some (.int .i64 a0_0) ∧ w'.cell? ⟨gb359, 1, none⟩ = some (.int .i64 a0_1) ∧ w'.cell? ⟨gb359, 2, none⟩ = some (.int .i64 a0_2) ∧ w'.cell? ⟨gb359, 3, none⟩ = some (.slice A0_3 l0_3.length c0_3)) ∧ (Kd.R (Kd.int .i64) 3 w' w.heap.size (fun k_ => some k_ ≠ (s_.2.1 : Value).ownBlock) s_.1 t362) ∧ (Kd.R (Kd.int .i64) 3 w' w.heap.size (fun k_ => some k_ ≠ (s_.1 : Value).ownBlock) s_.2.1 t365) ∧ (w'.heap[gb359]? = some (.cells #[.int .i64 a0_0, .int .i64 a0_1, .int .i64 a0_2, .slice A0_3 l0_3.length c0_3] 49 (0, 0))) ∧ (w'.heap[s_.2.2]? = some (.cells #[.int .i64 0, .slice none 0 0, .slice none 0 0] 29 (0, 0))) ∧ (w.heap.size ≤ s_.2.2) ∧ (w.heap.size ≤ s_.2.2) ∧ (gb359 ≠ s_.2.2) ∧ (s_.2.2 ≠ gb359) ∧ (Below w.heap.size w w')) ?_ ?_
   rotate_left
   ·intro hCont
    refine two_ (i := 3) (j := 9) (Ni := some 15) (Nj := some 9) (bt 12 31) (bt 12 535) rfl rfl rfl rfl (two_of HT_.out (by kernel_rfl)) (by decide) (by decide) (fun K hK => ?_) (fun K hK => ?_)
    ·skip
     refine goes_ Try.func40 (by kernel_rfl) rfl #[.agg #[.int .i64 a0_0, .int .i64 a0_1, .int .i64 a0_2, .slice A0_3 l0_3.length c0_3], .int .i64 a3] (by rfl) rfl rfl sl ?_
     with_reducible refine (spec_PieceAt.calls k a0_0 a0_1 a0_2 _ _ l0_3 a3 t360 _ ?side1 ?side2 A5.out).mono ?_
     (case side1 => exact cb HR0_3)
     (case side2 => exact HC0_3.out)
     rintro e w14 ⟨rfl, hb⟩
     refine ⟨_, rfl, ?_⟩
     replace BK359 := bb BK359 hb
     replace HB := bsw hb
     (try clear hb)
     (try clear hb2)
     (try clear hk)
     (try clear hi)
     refine hK.out _ _ ⟨bc0 BK359, bc1 BK359, bc2 BK359, bc3 BK359⟩ (fun hHeld => ?_)
     clear hK K
     refine nm 15 ?_
     refine two_ (i := 5) (j := 9) (Ni := some 17) (Nj := some 9) (bt 12 63) (bt 12 543) rfl rfl rfl rfl (two_of HT_.out (by kernel_rfl)) (by decide) (by decide) (fun K hK => ?_) (fun K hK => ?_)
     ·skip
      refine goes_ Try.func41 (by kernel_rfl) rfl #[.agg #[.int .i64 a0_0, .int .i64 a0_1, .int .i64 a0_2, .slice A0_3 l0_3.length c0_3], .int .i64 t360, .int .i64 a2] (by rfl) rfl rfl sl ?_
      with_reducible refine (spec_TableIn.calls a0_0 a0_1 a0_2 _ _ l0_3 t360 a2 t361 t362 t365 true _ ?side1 ?side2 A6.out).mono ?_
      (case side1 => exact cb HR0_3)
      (case side2 => exact HC0_3.out)
      rintro e w15 ⟨v363, v366, rfl, ho0, ho1, hb⟩
      refine ⟨_, rfl, ?_⟩
      have HO364 := am (Kd.R_lower ho0 (below_size (sbw)))
      have HO367 := am (Kd.R_lower ho1 (below_size (sbw)))
      replace BK359 := bb BK359 hb
      replace HB := bsw hb
      (try clear hb)
      (try clear hb2)
      (try clear hk)
      (try clear hi)
      (try clear ho0)
      (try clear ho1)
      refine hK.out _ _ ⟨bc0 BK359, bc1 BK359, bc2 BK359, bc3 BK359⟩ (fun hHeld => ?_)
      clear hK K
      refine nm 17 ?_
      refine put 6 11 (bt 12 127) HT_ ?_
      refine put 7 18 (bt 12 255) HT_ ?_
      refine put 8 19 (bt 12 511) HT_ ?_
      refine on 9 9 (bt 12 1023) HT_ (fun K hK => ?_)
      refine box_step ?hg (N := 9) ?hd (cs := #[.int .i64 0, .slice none 0 0, .slice none 0 0]) (t := 29) ?hr ?_; (case hd => rfl); (case hg => rfl); (case hr => first | (go_simp; done) | (go_simp; rfl))
      intro gb369 hg w16 hbox hb
      replace HO364 := rb HO364 hb
      replace HO367 := rb HO367 hb
      have GW369 := bzw w hg
      have GE369 := bzw w hg
      replace HB := bsw hb
      have BK369 := am hbox
      have NB359_369 := nl BK359 hg
      have NB369_359 := ng BK359 hg
      replace BK359 := bb BK359 hb
      clear hb hbox hg
      refine hK.out _ _ ⟨bc0 BK359, bc1 BK359, bc2 BK359, bc3 BK359⟩ (fun hHeld => ?_)
      clear hK K
      refine nm 9 ?_
      exact norm_ a8_0 (hCont (v363, v366, gb369) _ ⟨hHeld, (sr HO364), (sr HO367), (sk BK359), (sk BK369), GW369.out, GE369.out, NB359_369.out, NB369_359.out, (sbw)⟩)
     ·skip
      refine box_step ?hg (N := 9) ?hd (cs := #[.int .i64 0, .slice none 0 0, .slice none 0 0]) (t := 29) ?hr ?_; (case hd => rfl); (case hg => rfl); (case hr => first | (go_simp; done) | (go_simp; rfl))
      intro gb369 hg w15 hbox hb
      have GW369 := bzw w hg
      have GE369 := bzw w hg
      replace HB := bsw hb
      have BK369 := am hbox
      have NB359_369 := nl BK359 hg
      have NB369_359 := ng BK359 hg
      replace BK359 := bb BK359 hb
      clear hb hbox hg
      refine hK.out _ _ ⟨bc0 BK359, bc1 BK359, bc2 BK359, bc3 BK359⟩ (fun hHeld => ?_)
      clear hK K
      refine nm 9 ?_
      refine on 5 17 (bt 12 575) HT_ (fun K hK => ?_)
      refine goes_ Try.func41 (by kernel_rfl) rfl #[.agg #[.int .i64 a0_0, .int .i64 a0_1, .int .i64 a0_2, .slice A0_3 l0_3.length c0_3], .int .i64 t360, .int .i64 a2] (by rfl) rfl rfl sl ?_
      with_reducible refine (spec_TableIn.calls a0_0 a0_1 a0_2 _ _ l0_3 t360 a2 t361 t362 t365 true _ ?side1 ?side2 A6.out).mono ?_
      (case side1 => exact cb HR0_3)
      (case side2 => exact HC0_3.out)
      rintro e w16 ⟨v363, v366, rfl, ho0, ho1, hb⟩
      refine ⟨_, rfl, ?_⟩
      have HO364 := am (Kd.R_lower ho0 (below_size (sbw)))
      have HO367 := am (Kd.R_lower ho1 (below_size (sbw)))
      replace BK359 := bb BK359 hb
      replace BK369 := bb BK369 hb
      replace HB := bsw hb
      (try clear hb)
      (try clear hb2)
      (try clear hk)
      (try clear hi)
      (try clear ho0)
      (try clear ho1)
      refine hK.out _ _ ⟨bc0 BK359, bc1 BK359, bc2 BK359, bc3 BK359⟩ (fun hHeld => ?_)
      clear hK K
      refine nm 17 ?_
      refine put 6 11 (bt 12 639) HT_ ?_
      refine put 7 18 (bt 12 767) HT_ ?_
      refine put 8 19 (bt 12 1023) HT_ ?_
      exact norm_ a8_0 (hCont (v363, v366, gb369) _ ⟨hHeld, (sr HO364), (sr HO367), (sk BK359), (sk BK369), GW369.out, GE369.out, NB359_369.out, NB369_359.out, (sbw)⟩)
    ·skip
     refine box_step ?hg (N := 9) ?hd (cs := #[.int .i64 0, .slice none 0 0, .slice none 0 0]) (t := 29) ?hr ?_; (case hd => rfl); (case hg => rfl); (case hr => first | (go_simp; done) | (go_simp; rfl))
     intro gb369 hg w14 hbox hb
     have GW369 := bzw w hg
     have GE369 := bzw w hg
     replace HB := bsw hb
     have BK369 := am hbox
     have NB359_369 := nl BK359 hg
     have NB369_359 := ng BK359 hg
     replace BK359 := bb BK359 hb
     clear hb hbox hg
     refine hK.out _ _ ⟨bc0 BK359, bc1 BK359, bc2 BK359, bc3 BK359⟩ (fun hHeld => ?_)
     clear hK K
     refine nm 9 ?_
     refine on 3 15 (bt 12 543) HT_ (fun K hK => ?_)
     refine goes_ Try.func40 (by kernel_rfl) rfl #[.agg #[.int .i64 a0_0, .int .i64 a0_1, .int .i64 a0_2, .slice A0_3 l0_3.length c0_3], .int .i64 a3] (by rfl) rfl rfl sl ?_
     with_reducible refine (spec_PieceAt.calls k a0_0 a0_1 a0_2 _ _ l0_3 a3 t360 _ ?side1 ?side2 A5.out).mono ?_
     (case side1 => exact cb HR0_3)
     (case side2 => exact HC0_3.out)
     rintro e w15 ⟨rfl, hb⟩
     refine ⟨_, rfl, ?_⟩
     replace BK359 := bb BK359 hb
     replace BK369 := bb BK369 hb
     replace HB := bsw hb
     (try clear hb)
     (try clear hb2)
     (try clear hk)
     (try clear hi)
     refine hK.out _ _ ⟨bc0 BK359, bc1 BK359, bc2 BK359, bc3 BK359⟩ (fun hHeld => ?_)
     clear hK K
     refine nm 15 ?_
     refine on 5 17 (bt 12 575) HT_ (fun K hK => ?_)
     refine goes_ Try.func41 (by kernel_rfl) rfl #[.agg #[.int .i64 a0_0, .int .i64 a0_1, .int .i64 a0_2, .slice A0_3 l0_3.length c0_3], .int .i64 t360, .int .i64 a2] (by rfl) rfl rfl sl ?_
     with_reducible refine (spec_TableIn.calls a0_0 a0_1 a0_2 _ _ l0_3 t360 a2 t361 t362 t365 true _ ?side1 ?side2 A6.out).mono ?_
     (case side1 => exact cb HR0_3)
     (case side2 => exact HC0_3.out)
     rintro e w16 ⟨v363, v366, rfl, ho0, ho1, hb⟩
     refine ⟨_, rfl, ?_⟩
     have HO364 := am (Kd.R_lower ho0 (below_size (sbw)))
     have HO367 := am (Kd.R_lower ho1 (below_size (sbw)))
     replace BK359 := bb BK359 hb
     replace BK369 := bb BK369 hb
     replace HB := bsw hb
     (try clear hb)
     (try clear hb2)
     (try clear hk)
     (try clear hi)
     (try clear ho0)
     (try clear ho1)
     refine hK.out _ _ ⟨bc0 BK359, bc1 BK359, bc2 BK359, bc3 BK359⟩ (fun hHeld => ?_)
     clear hK K
     refine nm 17 ?_
     refine put 6 11 (bt 12 639) HT_ ?_
     refine put 7 18 (bt 12 767) HT_ ?_
     refine put 8 19 (bt 12 1023) HT_ ?_
     exact norm_ a8_0 (hCont (v363, v366, gb369) _ ⟨hHeld, (sr HO364), (sr HO367), (sk BK359), (sk BK369), GW369.out, GE369.out, NB359_369.out, NB369_359.out, (sbw)⟩)
   rintro ⟨v363, v366, gb369⟩ w17 ⟨hS_, h0_, h1_, h2_, h3_, h4_, h5_, h6_, h7_, h8_⟩
   have HO364 : Aside0 (Kd.R (Kd.int .i64) 3 w17 w.heap.size (fun k_ => some k_ ≠ (v366 : Value).ownBlock) v363 t362) := ⟨h0_⟩
   have HO367 : Aside0 (Kd.R (Kd.int .i64) 3 w17 w.heap.size (fun k_ => some k_ ≠ (v363 : Value).ownBlock) v366 t365) := ⟨h1_⟩
   replace BK359 : Aside0 (w17.heap[gb359]? = some (.cells #[.int .i64 a0_0, .int .i64 a0_1, .int .i64 a0_2, .slice A0_3 l0_3.length c0_3] 49 (0, 0))) := ⟨h2_⟩
   have BK369 : Aside0 (w17.heap[gb369]? = some (.cells #[.int .i64 0, .slice none 0 0, .slice none 0 0] 29 (0, 0))) := ⟨h3_⟩
   have GW369 : Aside0 (w.heap.size ≤ gb369) := ⟨h4_⟩
   have GE369 : Aside0 (w.heap.size ≤ gb369) := ⟨h5_⟩
   have NB359_369 : Aside0 (gb359 ≠ gb369) := ⟨h6_⟩
   have NB369_359 : Aside0 (gb369 ≠ gb359) := ⟨h7_⟩
   replace HB : Aside0 (Below w.heap.size w w17) := ⟨h8_⟩
   clear h0_ h1_ h2_ h3_ h4_ h5_ h6_ h7_ h8_
   have hHeld : w17.cell? ⟨gb359, 0, none⟩ = some (.int .i64 a0_0) ∧ w17.cell? ⟨gb359, 1, none⟩ = some (.int .i64 a0_1) ∧ w17.cell? ⟨gb359, 2, none⟩ = some (.int .i64 a0_2) ∧ w17.cell? ⟨gb359, 3, none⟩ = some (.slice A0_3 l0_3.length c0_3) := hS_
   obtain ⟨Ao19, co19, eo19⟩ := Kd.R_slice HO364.out
   (first | subst eo19 | (injection eo19 with f1_ f2_ f3_; have f4_ := f1_.symm; have f5_ := f3_.symm; clear f1_ f2_ f3_; subst f4_; subst f5_))
   obtain ⟨Ao21, co21, eo21⟩ := Kd.R_slice HO367.out
   (first | subst eo21 | (injection eo21 with f1_ f2_ f3_; have f4_ := f1_.symm; have f5_ := f3_.symm; clear f1_ f2_ f3_; subst f4_; subst f5_))
   refine norm_ (a' := ?_) ?_ ?_
   rotate_left
   ·simp only [putAll, Act.put, List.setIfInBounds_toArray, List.set_cons_zero, List.set_cons_succ]
    rfl
   refine one_ (i := 10) (N := none) (bt 12 2047) rfl rfl (one_of HT_.out (by kernel_rfl)) (by decide) (fun K hK => ?_)
   obtain ⟨hs18, hfs18⟩ := cc1 BK369
   have hns18_0 := NB359_369.out
   have hms18_0 := NB369_359.out
   have hs20 := bc1 BK369
   have hfs20 := bf BK369 1
   have hns20_0 := NB359_369.out
   have hms20_0 := NB369_359.out
   have hs22 := bc2 BK369
   have hfs22 := bf BK369 2
   have hns22_0 := NB359_369.out
   have hms22_0 := NB369_359.out
   refine skip_ (w1 := ?_) (by rfl) rfl ?_ ?_
   rotate_left
   ·go_simp
    rfl
   refine hK.out _ _ ⟨((cell_far (p := ⟨gb369, _, none⟩) NB359_369.out _).trans (((cell_far (p := ⟨gb369, _, none⟩) NB359_369.out _).trans (((cell_far (p := ⟨gb369, _, none⟩) NB359_369.out _).trans (hHeld.1)))))), ((cell_far (p := ⟨gb369, _, none⟩) NB359_369.out _).trans (((cell_far (p := ⟨gb369, _, none⟩) NB359_369.out _).trans (((cell_far (p := ⟨gb369, _, none⟩) NB359_369.out _).trans (hHeld.2.1)))))), ((cell_far (p := ⟨gb369, _, none⟩) NB359_369.out _).trans (((cell_far (p := ⟨gb369, _, none⟩) NB359_369.out _).trans (((cell_far (p := ⟨gb369, _, none⟩) NB359_369.out _).trans (hHeld.2.2.1)))))), ((cell_far (p := ⟨gb369, _, none⟩) NB359_369.out _).trans (((cell_far (p := ⟨gb369, _, none⟩) NB359_369.out _).trans (((cell_far (p := ⟨gb369, _, none⟩) NB359_369.out _).trans (hHeld.2.2.2))))))⟩ (fun hHeld => ?_)
   clear hK K
   refine put 11 10 (bt 12 4095) HT_ ?_
   refine done_ (done_of HT_.out (by kernel_rfl)) ?_
   have hnb23 := NB369_359.out
   have hnc23 := NB359_369.out
   obtain ⟨hcz24_0, hcz24_1, hcz24_2, hfz24_0, hfz24_1, hfz24_2⟩ := cc3 BK369
   try go_wp2_with (first | (go_at_call 30; (try simp only [i64_w, i32_w]); (with_reducible refine (spec_l1In.calls a1 0 (wrap64 ((t365.length : Int) - 1)) true _ A8.out).mono ?_); rintro e w' ⟨rfl, ⟨nd, rfl⟩⟩; have p371 : 0 ≤ (a1 : Int) := sa; have q371 : a1 < (t365.length : Int) := sa; obtain ⟨ad371, e371, hx371_0⟩ := Kd.at_int (Kd.R_reads' HO367.out).2.2 a1 p371 q371; cases e371; have hn371_0 : ad371.block ≠ gb369 := Kd.own_blk (Kd.R_ne HO367.out BK369.out (by decide)); have hn371_1 : ad371.block ≠ gb369 := Kd.own_blk (Kd.R_ne HO367.out BK369.out (by decide)); have hn371_2 : ad371.block ≠ gb369 := Kd.own_blk (Kd.R_ne HO367.out BK369.out (by decide)); replace hx371_0 := (cell_far (p := ⟨gb369, 0, none⟩) (by first | (rw [add_block]; exact hn371_0) | exact hn371_0) (.int .i64 t361)).trans hx371_0; replace hx371_0 := (cell_far (p := ⟨gb369, 1, none⟩) (by first | (rw [add_block]; exact hn371_1) | exact hn371_1) (.slice Ao19 t362.length co19)).trans hx371_0; replace hx371_0 := (cell_far (p := ⟨gb369, 2, none⟩) (by first | (rw [add_block]; exact hn371_2) | exact hn371_2) (.slice (some ad371) t365.length co21)).trans hx371_0; clear hn371_0; clear hn371_1; clear hn371_2; replace p371 := eq_true p371; replace q371 := eq_true q371))
   go_ret
   exact ⟨se, sbw⟩
  ·replace H := im H
   obtain rfl := Option.some.inj H
   go_enter Try.func56, Try.ntmps56
   try go_wp2_with (first | ((with_reducible refine gd 4 rfl ?_); (try (refine gate_guard (by rfl) ?_; dsimp only)); refine bx 4 #[.int .i64 a0_0, .int .i64 a0_1, .int .i64 a0_2, .slice A0_3 l0_3.length c0_3] 49 ?_; intro gb359 hg w25 hbox hb; have GW359 := bz w hg; have GE359 := bz w hg; replace HB := bs hb; have BK359 := am hbox; clear hb hbox hg))
   replace BK359 := am (blk_drew BK359.out)
   replace HB := am (below_drew1 HB.out)
   refine start_ (n := 12) (S := fun w' => w'.cell? ⟨gb359, 0, none⟩ = some (.int .i64 a0_0) ∧ w'.cell? ⟨gb359, 1, none⟩ = some (.int .i64 a0_1) ∧ w'.cell? ⟨gb359, 2, none⟩ = some (.int .i64 a0_2) ∧ w'.cell? ⟨gb359, 3, none⟩ = some (.slice A0_3 l0_3.length c0_3)) (ds := []) #[false, false, false, false, false, false, false, false, false, false, false, false] (by kernel_rfl) rfl rfl ⟨bc0 BK359, bc1 BK359, bc2 BK359, bc3 BK359⟩ (fun hHeld => ?_); refine with_tabW spec_l19Next.tab1 spec_l19Next.bits1 (fun HT_ HW_ => ?_)
   generalize w25.drew = w26 at BK359 HB hHeld ⊢
   refine put 2 14 (bt 12 4) HT_ ?_
   refine put 4 16 (bt 12 20) HT_ ?_
   refine tat4 0 12 (bt 12 21) HT_ HW_ hHeld ?_
   refine tat4 1 13 (bt 12 23) HT_ HW_ hHeld ?_
   refine join_ (σ := Value × Value × Nat) 2 (bt 12 1023) (fun s_ => [(15, .int .i64 t360), (17, .tuple #[.agg #[.int .i64 t361, s_.1, s_.2.1], .bool true]), (9, .pointer (some ⟨s_.2.2, 0, none⟩)), (11, .tuple #[.agg #[.int .i64 t361, s_.1, s_.2.1], .bool true]), (18, .agg #[.int .i64 t361, s_.1, s_.2.1]), (19, .bool true)]) (fun s_ w' => (w'.cell? ⟨gb359, 0, none⟩ = some (.int .i64 a0_0) ∧ w'.cell? ⟨gb359, 1, none⟩ = some (.int .i64 a0_1) ∧ w'.cell? ⟨gb359, 2, none⟩ = some (.int .i64 a0_2) ∧ w'.cell? ⟨gb359, 3, none⟩ = some (.slice A0_3 l0_3.length c0_3)) ∧ (Kd.R (Kd.int .i64) 3 w' w.heap.size (fun k_ => some k_ ≠ (s_.2.1 : Value).ownBlock) s_.1 t362) ∧ (Kd.R (Kd.int .i64) 3 w' w.heap.size (fun k_ => some k_ ≠ (s_.1 : Value).ownBlock) s_.2.1 t365) ∧ (w'.heap[gb359]? = some (.cells #[.int .i64 a0_0, .int .i64 a0_1, .int .i64 a0_2, .slice A0_3 l0_3.length c0_3] 49 (0, 0))) ∧ (w'.heap[s_.2.2]? = some (.cells #[.int .i64 0, .slice none 0 0, .slice none 0 0] 29 (0, 0))) ∧ (w.heap.size ≤ s_.2.2) ∧ (w.heap.size ≤ s_.2.2) ∧ (gb359 ≠ s_.2.2) ∧ (s_.2.2 ≠ gb359) ∧ (Below w.heap.size w w')) ?_ ?_
   rotate_left
   ·intro hCont
    refine two_ (i := 3) (j := 9) (Ni := some 15) (Nj := some 9) (bt 12 31) (bt 12 535) rfl rfl rfl rfl (two_of HT_.out (by kernel_rfl)) (by decide) (by decide) (fun K hK => ?_) (fun K hK => ?_)
    ·skip
     refine goes_ Try.func40 (by kernel_rfl) rfl #[.agg #[.int .i64 a0_0, .int .i64 a0_1, .int .i64 a0_2, .slice A0_3 l0_3.length c0_3], .int .i64 a3] (by rfl) rfl rfl sl ?_
     with_reducible refine (spec_PieceAt.calls k a0_0 a0_1 a0_2 _ _ l0_3 a3 t360 _ ?side1 ?side2 A5.out).mono ?_
     (case side1 => exact cb HR0_3)
     (case side2 => exact HC0_3.out)
     rintro e w27 ⟨rfl, hb⟩
     refine ⟨_, rfl, ?_⟩
     replace BK359 := bb BK359 hb
     replace HB := bsw hb
     (try clear hb)
     (try clear hb2)
     (try clear hk)
     (try clear hi)
     refine hK.out _ _ ⟨bc0 BK359, bc1 BK359, bc2 BK359, bc3 BK359⟩ (fun hHeld => ?_)
     clear hK K
     refine nm 15 ?_
     refine two_ (i := 5) (j := 9) (Ni := some 17) (Nj := some 9) (bt 12 63) (bt 12 543) rfl rfl rfl rfl (two_of HT_.out (by kernel_rfl)) (by decide) (by decide) (fun K hK => ?_) (fun K hK => ?_)
     ·skip
      refine goes_ Try.func41 (by kernel_rfl) rfl #[.agg #[.int .i64 a0_0, .int .i64 a0_1, .int .i64 a0_2, .slice A0_3 l0_3.length c0_3], .int .i64 t360, .int .i64 a2] (by rfl) rfl rfl sl ?_
      with_reducible refine (spec_TableIn.calls a0_0 a0_1 a0_2 _ _ l0_3 t360 a2 t361 t362 t365 true _ ?side1 ?side2 A6.out).mono ?_
      (case side1 => exact cb HR0_3)
      (case side2 => exact HC0_3.out)
      rintro e w28 ⟨v363, v366, rfl, ho0, ho1, hb⟩
      refine ⟨_, rfl, ?_⟩
      have HO364 := am (Kd.R_lower ho0 (below_size (sbw)))
      have HO367 := am (Kd.R_lower ho1 (below_size (sbw)))
      replace BK359 := bb BK359 hb
      replace HB := bsw hb
      (try clear hb)
      (try clear hb2)
      (try clear hk)
      (try clear hi)
      (try clear ho0)
      (try clear ho1)
      refine hK.out _ _ ⟨bc0 BK359, bc1 BK359, bc2 BK359, bc3 BK359⟩ (fun hHeld => ?_)
      clear hK K
      refine nm 17 ?_
      refine put 6 11 (bt 12 127) HT_ ?_
      refine put 7 18 (bt 12 255) HT_ ?_
      refine put 8 19 (bt 12 511) HT_ ?_
      refine on 9 9 (bt 12 1023) HT_ (fun K hK => ?_)
      refine box_step ?hg (N := 9) ?hd (cs := #[.int .i64 0, .slice none 0 0, .slice none 0 0]) (t := 29) ?hr ?_; (case hd => rfl); (case hg => rfl); (case hr => first | (go_simp; done) | (go_simp; rfl))
      intro gb369 hg w29 hbox hb
      replace HO364 := rb HO364 hb
      replace HO367 := rb HO367 hb
      have GW369 := bzw w hg
      have GE369 := bzw w hg
      replace HB := bsw hb
      have BK369 := am hbox
      have NB359_369 := nl BK359 hg
      have NB369_359 := ng BK359 hg
      replace BK359 := bb BK359 hb
      clear hb hbox hg
      refine hK.out _ _ ⟨bc0 BK359, bc1 BK359, bc2 BK359, bc3 BK359⟩ (fun hHeld => ?_)
      clear hK K
      refine nm 9 ?_
      exact norm_ a8_0 (hCont (v363, v366, gb369) _ ⟨hHeld, (sr HO364), (sr HO367), (sk BK359), (sk BK369), GW369.out, GE369.out, NB359_369.out, NB369_359.out, (sbw)⟩)
     ·skip
      refine box_step ?hg (N := 9) ?hd (cs := #[.int .i64 0, .slice none 0 0, .slice none 0 0]) (t := 29) ?hr ?_; (case hd => rfl); (case hg => rfl); (case hr => first | (go_simp; done) | (go_simp; rfl))
      intro gb369 hg w28 hbox hb
      have GW369 := bzw w hg
      have GE369 := bzw w hg
      replace HB := bsw hb
      have BK369 := am hbox
      have NB359_369 := nl BK359 hg
      have NB369_359 := ng BK359 hg
      replace BK359 := bb BK359 hb
      clear hb hbox hg
      refine hK.out _ _ ⟨bc0 BK359, bc1 BK359, bc2 BK359, bc3 BK359⟩ (fun hHeld => ?_)
      clear hK K
      refine nm 9 ?_
      refine on 5 17 (bt 12 575) HT_ (fun K hK => ?_)
      refine goes_ Try.func41 (by kernel_rfl) rfl #[.agg #[.int .i64 a0_0, .int .i64 a0_1, .int .i64 a0_2, .slice A0_3 l0_3.length c0_3], .int .i64 t360, .int .i64 a2] (by rfl) rfl rfl sl ?_
      with_reducible refine (spec_TableIn.calls a0_0 a0_1 a0_2 _ _ l0_3 t360 a2 t361 t362 t365 true _ ?side1 ?side2 A6.out).mono ?_
      (case side1 => exact cb HR0_3)
      (case side2 => exact HC0_3.out)
      rintro e w29 ⟨v363, v366, rfl, ho0, ho1, hb⟩
      refine ⟨_, rfl, ?_⟩
      have HO364 := am (Kd.R_lower ho0 (below_size (sbw)))
      have HO367 := am (Kd.R_lower ho1 (below_size (sbw)))
      replace BK359 := bb BK359 hb
      replace BK369 := bb BK369 hb
      replace HB := bsw hb
      (try clear hb)
      (try clear hb2)
      (try clear hk)
      (try clear hi)
      (try clear ho0)
      (try clear ho1)
      refine hK.out _ _ ⟨bc0 BK359, bc1 BK359, bc2 BK359, bc3 BK359⟩ (fun hHeld => ?_)
      clear hK K
      refine nm 17 ?_
      refine put 6 11 (bt 12 639) HT_ ?_
      refine put 7 18 (bt 12 767) HT_ ?_
      refine put 8 19 (bt 12 1023) HT_ ?_
      exact norm_ a8_0 (hCont (v363, v366, gb369) _ ⟨hHeld, (sr HO364), (sr HO367), (sk BK359), (sk BK369), GW369.out, GE369.out, NB359_369.out, NB369_359.out, (sbw)⟩)
    ·skip
     refine box_step ?hg (N := 9) ?hd (cs := #[.int .i64 0, .slice none 0 0, .slice none 0 0]) (t := 29) ?hr ?_; (case hd => rfl); (case hg => rfl); (case hr => first | (go_simp; done) | (go_simp; rfl))
     intro gb369 hg w27 hbox hb
     have GW369 := bzw w hg
     have GE369 := bzw w hg
     replace HB := bsw hb
     have BK369 := am hbox
     have NB359_369 := nl BK359 hg
     have NB369_359 := ng BK359 hg
     replace BK359 := bb BK359 hb
     clear hb hbox hg
     refine hK.out _ _ ⟨bc0 BK359, bc1 BK359, bc2 BK359, bc3 BK359⟩ (fun hHeld => ?_)
     clear hK K
     refine nm 9 ?_
     refine on 3 15 (bt 12 543) HT_ (fun K hK => ?_)
     refine goes_ Try.func40 (by kernel_rfl) rfl #[.agg #[.int .i64 a0_0, .int .i64 a0_1, .int .i64 a0_2, .slice A0_3 l0_3.length c0_3], .int .i64 a3] (by rfl) rfl rfl sl ?_
     with_reducible refine (spec_PieceAt.calls k a0_0 a0_1 a0_2 _ _ l0_3 a3 t360 _ ?side1 ?side2 A5.out).mono ?_
     (case side1 => exact cb HR0_3)
     (case side2 => exact HC0_3.out)
     rintro e w28 ⟨rfl, hb⟩
     refine ⟨_, rfl, ?_⟩
     replace BK359 := bb BK359 hb
     replace BK369 := bb BK369 hb
     replace HB := bsw hb
     (try clear hb)
     (try clear hb2)
     (try clear hk)
     (try clear hi)
     refine hK.out _ _ ⟨bc0 BK359, bc1 BK359, bc2 BK359, bc3 BK359⟩ (fun hHeld => ?_)
     clear hK K
     refine nm 15 ?_
     refine on 5 17 (bt 12 575) HT_ (fun K hK => ?_)
     refine goes_ Try.func41 (by kernel_rfl) rfl #[.agg #[.int .i64 a0_0, .int .i64 a0_1, .int .i64 a0_2, .slice A0_3 l0_3.length c0_3], .int .i64 t360, .int .i64 a2] (by rfl) rfl rfl sl ?_
     with_reducible refine (spec_TableIn.calls a0_0 a0_1 a0_2 _ _ l0_3 t360 a2 t361 t362 t365 true _ ?side1 ?side2 A6.out).mono ?_
     (case side1 => exact cb HR0_3)
     (case side2 => exact HC0_3.out)
     rintro e w29 ⟨v363, v366, rfl, ho0, ho1, hb⟩
     refine ⟨_, rfl, ?_⟩
     have HO364 := am (Kd.R_lower ho0 (below_size (sbw)))
     have HO367 := am (Kd.R_lower ho1 (below_size (sbw)))
     replace BK359 := bb BK359 hb
     replace BK369 := bb BK369 hb
     replace HB := bsw hb
     (try clear hb)
     (try clear hb2)
     (try clear hk)
     (try clear hi)
     (try clear ho0)
     (try clear ho1)
     refine hK.out _ _ ⟨bc0 BK359, bc1 BK359, bc2 BK359, bc3 BK359⟩ (fun hHeld => ?_)
     clear hK K
     refine nm 17 ?_
     refine put 6 11 (bt 12 639) HT_ ?_
     refine put 7 18 (bt 12 767) HT_ ?_
     refine put 8 19 (bt 12 1023) HT_ ?_
     exact norm_ a8_0 (hCont (v363, v366, gb369) _ ⟨hHeld, (sr HO364), (sr HO367), (sk BK359), (sk BK369), GW369.out, GE369.out, NB359_369.out, NB369_359.out, (sbw)⟩)
   rintro ⟨v363, v366, gb369⟩ w30 ⟨hS_, h0_, h1_, h2_, h3_, h4_, h5_, h6_, h7_, h8_⟩
   have HO364 : Aside0 (Kd.R (Kd.int .i64) 3 w30 w.heap.size (fun k_ => some k_ ≠ (v366 : Value).ownBlock) v363 t362) := ⟨h0_⟩
   have HO367 : Aside0 (Kd.R (Kd.int .i64) 3 w30 w.heap.size (fun k_ => some k_ ≠ (v363 : Value).ownBlock) v366 t365) := ⟨h1_⟩
   replace BK359 : Aside0 (w30.heap[gb359]? = some (.cells #[.int .i64 a0_0, .int .i64 a0_1, .int .i64 a0_2, .slice A0_3 l0_3.length c0_3] 49 (0, 0))) := ⟨h2_⟩
   have BK369 : Aside0 (w30.heap[gb369]? = some (.cells #[.int .i64 0, .slice none 0 0, .slice none 0 0] 29 (0, 0))) := ⟨h3_⟩
   have GW369 : Aside0 (w.heap.size ≤ gb369) := ⟨h4_⟩
   have GE369 : Aside0 (w.heap.size ≤ gb369) := ⟨h5_⟩
   have NB359_369 : Aside0 (gb359 ≠ gb369) := ⟨h6_⟩
   have NB369_359 : Aside0 (gb369 ≠ gb359) := ⟨h7_⟩
   replace HB : Aside0 (Below w.heap.size w w30) := ⟨h8_⟩
   clear h0_ h1_ h2_ h3_ h4_ h5_ h6_ h7_ h8_
   have hHeld : w30.cell? ⟨gb359, 0, none⟩ = some (.int .i64 a0_0) ∧ w30.cell? ⟨gb359, 1, none⟩ = some (.int .i64 a0_1) ∧ w30.cell? ⟨gb359, 2, none⟩ = some (.int .i64 a0_2) ∧ w30.cell? ⟨gb359, 3, none⟩ = some (.slice A0_3 l0_3.length c0_3) := hS_
   obtain ⟨Ao32, co32, eo32⟩ := Kd.R_slice HO364.out
   (first | subst eo32 | (injection eo32 with f1_ f2_ f3_; have f4_ := f1_.symm; have f5_ := f3_.symm; clear f1_ f2_ f3_; subst f4_; subst f5_))
   obtain ⟨Ao34, co34, eo34⟩ := Kd.R_slice HO367.out
   (first | subst eo34 | (injection eo34 with f1_ f2_ f3_; have f4_ := f1_.symm; have f5_ := f3_.symm; clear f1_ f2_ f3_; subst f4_; subst f5_))
   refine norm_ (a' := ?_) ?_ ?_
   rotate_left
   ·simp only [putAll, Act.put, List.setIfInBounds_toArray, List.set_cons_zero, List.set_cons_succ]
    rfl
   refine one_ (i := 10) (N := none) (bt 12 2047) rfl rfl (one_of HT_.out (by kernel_rfl)) (by decide) (fun K hK => ?_)
   obtain ⟨hs31, hfs31⟩ := cc1 BK369
   have hns31_0 := NB359_369.out
   have hms31_0 := NB369_359.out
   have hs33 := bc1 BK369
   have hfs33 := bf BK369 1
   have hns33_0 := NB359_369.out
   have hms33_0 := NB369_359.out
   have hs35 := bc2 BK369
   have hfs35 := bf BK369 2
   have hns35_0 := NB359_369.out
   have hms35_0 := NB369_359.out
   refine skip_ (w1 := ?_) (by rfl) rfl ?_ ?_
   rotate_left
   ·go_simp
    rfl
   refine hK.out _ _ ⟨((cell_far (p := ⟨gb369, _, none⟩) NB359_369.out _).trans (((cell_far (p := ⟨gb369, _, none⟩) NB359_369.out _).trans (((cell_far (p := ⟨gb369, _, none⟩) NB359_369.out _).trans (hHeld.1)))))), ((cell_far (p := ⟨gb369, _, none⟩) NB359_369.out _).trans (((cell_far (p := ⟨gb369, _, none⟩) NB359_369.out _).trans (((cell_far (p := ⟨gb369, _, none⟩) NB359_369.out _).trans (hHeld.2.1)))))), ((cell_far (p := ⟨gb369, _, none⟩) NB359_369.out _).trans (((cell_far (p := ⟨gb369, _, none⟩) NB359_369.out _).trans (((cell_far (p := ⟨gb369, _, none⟩) NB359_369.out _).trans (hHeld.2.2.1)))))), ((cell_far (p := ⟨gb369, _, none⟩) NB359_369.out _).trans (((cell_far (p := ⟨gb369, _, none⟩) NB359_369.out _).trans (((cell_far (p := ⟨gb369, _, none⟩) NB359_369.out _).trans (hHeld.2.2.2))))))⟩ (fun hHeld => ?_)
   clear hK K
   refine put 11 10 (bt 12 4095) HT_ ?_
   refine done_ (done_of HT_.out (by kernel_rfl)) ?_
   have hnb36 := NB369_359.out
   have hnc36 := NB359_369.out
   obtain ⟨hcz37_0, hcz37_1, hcz37_2, hfz37_0, hfz37_1, hfz37_2⟩ := cc3 BK369
   try go_wp2_with (first | (go_at_call 30; (try simp only [i64_w, i32_w]); (with_reducible refine (spec_l1In.calls a1 0 (wrap64 ((t365.length : Int) - 1)) false _ A8.out).mono ?_); rintro e w' ⟨rfl, ⟨nd, rfl⟩⟩))
   go_ret
   exact ⟨se, sbw⟩
 ·replace H := im H
  obtain rfl := Option.some.inj H
  go_enter Try.func56, Try.ntmps56
  try go_wp2_with (first | ((with_reducible refine gd 4 rfl ?_); (try (refine gate_guard (by rfl) ?_; dsimp only)); refine bx 4 #[.int .i64 a0_0, .int .i64 a0_1, .int .i64 a0_2, .slice A0_3 l0_3.length c0_3] 49 ?_; intro gb359 hg w38 hbox hb; have GW359 := bz w hg; have GE359 := bz w hg; replace HB := bs hb; have BK359 := am hbox; clear hb hbox hg))
  replace BK359 := am (blk_drew BK359.out)
  replace HB := am (below_drew1 HB.out)
  refine start_ (n := 12) (S := fun w' => w'.cell? ⟨gb359, 0, none⟩ = some (.int .i64 a0_0) ∧ w'.cell? ⟨gb359, 1, none⟩ = some (.int .i64 a0_1) ∧ w'.cell? ⟨gb359, 2, none⟩ = some (.int .i64 a0_2) ∧ w'.cell? ⟨gb359, 3, none⟩ = some (.slice A0_3 l0_3.length c0_3)) (ds := []) #[false, false, false, false, false, false, false, false, false, false, false, false] (by kernel_rfl) rfl rfl ⟨bc0 BK359, bc1 BK359, bc2 BK359, bc3 BK359⟩ (fun hHeld => ?_); refine with_tabW spec_l19Next.tab1 spec_l19Next.bits1 (fun HT_ HW_ => ?_)
  generalize w38.drew = w39 at BK359 HB hHeld ⊢
  refine put 2 14 (bt 12 4) HT_ ?_
  refine put 4 16 (bt 12 20) HT_ ?_
  refine tat4 0 12 (bt 12 21) HT_ HW_ hHeld ?_
  refine tat4 1 13 (bt 12 23) HT_ HW_ hHeld ?_
  refine join_ (σ := Value × Value × Nat) 2 (bt 12 1023) (fun s_ => [(15, .int .i64 t360), (17, .tuple #[.agg #[.int .i64 t361, s_.1, s_.2.1], .bool false]), (9, .pointer (some ⟨s_.2.2, 0, none⟩)), (11, .tuple #[.agg #[.int .i64 t361, s_.1, s_.2.1], .bool false]), (18, .agg #[.int .i64 t361, s_.1, s_.2.1]), (19, .bool false)]) (fun s_ w' => (w'.cell? ⟨gb359, 0, none⟩ = some (.int .i64 a0_0) ∧ w'.cell? ⟨gb359, 1, none⟩ = some (.int .i64 a0_1) ∧ w'.cell? ⟨gb359, 2, none⟩ = some (.int .i64 a0_2) ∧ w'.cell? ⟨gb359, 3, none⟩ = some (.slice A0_3 l0_3.length c0_3)) ∧ (Kd.R (Kd.int .i64) 3 w' w.heap.size (fun k_ => some k_ ≠ (s_.2.1 : Value).ownBlock) s_.1 t362) ∧ (Kd.R (Kd.int .i64) 3 w' w.heap.size (fun k_ => some k_ ≠ (s_.1 : Value).ownBlock) s_.2.1 t365) ∧ (w'.heap[gb359]? = some (.cells #[.int .i64 a0_0, .int .i64 a0_1, .int .i64 a0_2, .slice A0_3 l0_3.length c0_3] 49 (0, 0))) ∧ (w'.heap[s_.2.2]? = some (.cells #[.int .i64 0, .slice none 0 0, .slice none 0 0] 29 (0, 0))) ∧ (w.heap.size ≤ s_.2.2) ∧ (w.heap.size ≤ s_.2.2) ∧ (gb359 ≠ s_.2.2) ∧ (s_.2.2 ≠ gb359) ∧ (Below w.heap.size w w')) ?_ ?_
  rotate_left
  ·intro hCont
   refine two_ (i := 3) (j := 9) (Ni := some 15) (Nj := some 9) (bt 12 31) (bt 12 535) rfl rfl rfl rfl (two_of HT_.out (by kernel_rfl)) (by decide) (by decide) (fun K hK => ?_) (fun K hK => ?_)
   ·skip
    refine goes_ Try.func40 (by kernel_rfl) rfl #[.agg #[.int .i64 a0_0, .int .i64 a0_1, .int .i64 a0_2, .slice A0_3 l0_3.length c0_3], .int .i64 a3] (by rfl) rfl rfl sl ?_
    with_reducible refine (spec_PieceAt.calls k a0_0 a0_1 a0_2 _ _ l0_3 a3 t360 _ ?side1 ?side2 A5.out).mono ?_
    (case side1 => exact cb HR0_3)
    (case side2 => exact HC0_3.out)
    rintro e w40 ⟨rfl, hb⟩
    refine ⟨_, rfl, ?_⟩
    replace BK359 := bb BK359 hb
    replace HB := bsw hb
    (try clear hb)
    (try clear hb2)
    (try clear hk)
    (try clear hi)
    refine hK.out _ _ ⟨bc0 BK359, bc1 BK359, bc2 BK359, bc3 BK359⟩ (fun hHeld => ?_)
    clear hK K
    refine nm 15 ?_
    refine two_ (i := 5) (j := 9) (Ni := some 17) (Nj := some 9) (bt 12 63) (bt 12 543) rfl rfl rfl rfl (two_of HT_.out (by kernel_rfl)) (by decide) (by decide) (fun K hK => ?_) (fun K hK => ?_)
    ·skip
     refine goes_ Try.func41 (by kernel_rfl) rfl #[.agg #[.int .i64 a0_0, .int .i64 a0_1, .int .i64 a0_2, .slice A0_3 l0_3.length c0_3], .int .i64 t360, .int .i64 a2] (by rfl) rfl rfl sl ?_
     with_reducible refine (spec_TableIn.calls a0_0 a0_1 a0_2 _ _ l0_3 t360 a2 t361 t362 t365 false _ ?side1 ?side2 A6.out).mono ?_
     (case side1 => exact cb HR0_3)
     (case side2 => exact HC0_3.out)
     rintro e w41 ⟨v363, v366, rfl, ho0, ho1, hb⟩
     refine ⟨_, rfl, ?_⟩
     have HO364 := am (Kd.R_lower ho0 (below_size (sbw)))
     have HO367 := am (Kd.R_lower ho1 (below_size (sbw)))
     replace BK359 := bb BK359 hb
     replace HB := bsw hb
     (try clear hb)
     (try clear hb2)
     (try clear hk)
     (try clear hi)
     (try clear ho0)
     (try clear ho1)
     refine hK.out _ _ ⟨bc0 BK359, bc1 BK359, bc2 BK359, bc3 BK359⟩ (fun hHeld => ?_)
     clear hK K
     refine nm 17 ?_
     refine put 6 11 (bt 12 127) HT_ ?_
     refine put 7 18 (bt 12 255) HT_ ?_
     refine put 8 19 (bt 12 511) HT_ ?_
     refine on 9 9 (bt 12 1023) HT_ (fun K hK => ?_)
     refine box_step ?hg (N := 9) ?hd (cs := #[.int .i64 0, .slice none 0 0, .slice none 0 0]) (t := 29) ?hr ?_; (case hd => rfl); (case hg => rfl); (case hr => first | (go_simp; done) | (go_simp; rfl))
     intro gb369 hg w42 hbox hb
     replace HO364 := rb HO364 hb
     replace HO367 := rb HO367 hb
     have GW369 := bzw w hg
     have GE369 := bzw w hg
     replace HB := bsw hb
     have BK369 := am hbox
     have NB359_369 := nl BK359 hg
     have NB369_359 := ng BK359 hg
     replace BK359 := bb BK359 hb
     clear hb hbox hg
     refine hK.out _ _ ⟨bc0 BK359, bc1 BK359, bc2 BK359, bc3 BK359⟩ (fun hHeld => ?_)
     clear hK K
     refine nm 9 ?_
     exact norm_ a8_0 (hCont (v363, v366, gb369) _ ⟨hHeld, (sr HO364), (sr HO367), (sk BK359), (sk BK369), GW369.out, GE369.out, NB359_369.out, NB369_359.out, (sbw)⟩)
    ·skip
     refine box_step ?hg (N := 9) ?hd (cs := #[.int .i64 0, .slice none 0 0, .slice none 0 0]) (t := 29) ?hr ?_; (case hd => rfl); (case hg => rfl); (case hr => first | (go_simp; done) | (go_simp; rfl))
     intro gb369 hg w41 hbox hb
     have GW369 := bzw w hg
     have GE369 := bzw w hg
     replace HB := bsw hb
     have BK369 := am hbox
     have NB359_369 := nl BK359 hg
     have NB369_359 := ng BK359 hg
     replace BK359 := bb BK359 hb
     clear hb hbox hg
     refine hK.out _ _ ⟨bc0 BK359, bc1 BK359, bc2 BK359, bc3 BK359⟩ (fun hHeld => ?_)
     clear hK K
     refine nm 9 ?_
     refine on 5 17 (bt 12 575) HT_ (fun K hK => ?_)
     refine goes_ Try.func41 (by kernel_rfl) rfl #[.agg #[.int .i64 a0_0, .int .i64 a0_1, .int .i64 a0_2, .slice A0_3 l0_3.length c0_3], .int .i64 t360, .int .i64 a2] (by rfl) rfl rfl sl ?_
     with_reducible refine (spec_TableIn.calls a0_0 a0_1 a0_2 _ _ l0_3 t360 a2 t361 t362 t365 false _ ?side1 ?side2 A6.out).mono ?_
     (case side1 => exact cb HR0_3)
     (case side2 => exact HC0_3.out)
     rintro e w42 ⟨v363, v366, rfl, ho0, ho1, hb⟩
     refine ⟨_, rfl, ?_⟩
     have HO364 := am (Kd.R_lower ho0 (below_size (sbw)))
     have HO367 := am (Kd.R_lower ho1 (below_size (sbw)))
     replace BK359 := bb BK359 hb
     replace BK369 := bb BK369 hb
     replace HB := bsw hb
     (try clear hb)
     (try clear hb2)
     (try clear hk)
     (try clear hi)
     (try clear ho0)
     (try clear ho1)
     refine hK.out _ _ ⟨bc0 BK359, bc1 BK359, bc2 BK359, bc3 BK359⟩ (fun hHeld => ?_)
     clear hK K
     refine nm 17 ?_
     refine put 6 11 (bt 12 639) HT_ ?_
     refine put 7 18 (bt 12 767) HT_ ?_
     refine put 8 19 (bt 12 1023) HT_ ?_
     exact norm_ a8_0 (hCont (v363, v366, gb369) _ ⟨hHeld, (sr HO364), (sr HO367), (sk BK359), (sk BK369), GW369.out, GE369.out, NB359_369.out, NB369_359.out, (sbw)⟩)
   ·skip
    refine box_step ?hg (N := 9) ?hd (cs := #[.int .i64 0, .slice none 0 0, .slice none 0 0]) (t := 29) ?hr ?_; (case hd => rfl); (case hg => rfl); (case hr => first | (go_simp; done) | (go_simp; rfl))
    intro gb369 hg w40 hbox hb
    have GW369 := bzw w hg
    have GE369 := bzw w hg
    replace HB := bsw hb
    have BK369 := am hbox
    have NB359_369 := nl BK359 hg
    have NB369_359 := ng BK359 hg
    replace BK359 := bb BK359 hb
    clear hb hbox hg
    refine hK.out _ _ ⟨bc0 BK359, bc1 BK359, bc2 BK359, bc3 BK359⟩ (fun hHeld => ?_)
    clear hK K
    refine nm 9 ?_
    refine on 3 15 (bt 12 543) HT_ (fun K hK => ?_)
    refine goes_ Try.func40 (by kernel_rfl) rfl #[.agg #[.int .i64 a0_0, .int .i64 a0_1, .int .i64 a0_2, .slice A0_3 l0_3.length c0_3], .int .i64 a3] (by rfl) rfl rfl sl ?_
    with_reducible refine (spec_PieceAt.calls k a0_0 a0_1 a0_2 _ _ l0_3 a3 t360 _ ?side1 ?side2 A5.out).mono ?_
    (case side1 => exact cb HR0_3)
    (case side2 => exact HC0_3.out)
    rintro e w41 ⟨rfl, hb⟩
    refine ⟨_, rfl, ?_⟩
    replace BK359 := bb BK359 hb
    replace BK369 := bb BK369 hb
    replace HB := bsw hb
    (try clear hb)
    (try clear hb2)
    (try clear hk)
    (try clear hi)
    refine hK.out _ _ ⟨bc0 BK359, bc1 BK359, bc2 BK359, bc3 BK359⟩ (fun hHeld => ?_)
    clear hK K
    refine nm 15 ?_
    refine on 5 17 (bt 12 575) HT_ (fun K hK => ?_)
    refine goes_ Try.func41 (by kernel_rfl) rfl #[.agg #[.int .i64 a0_0, .int .i64 a0_1, .int .i64 a0_2, .slice A0_3 l0_3.length c0_3], .int .i64 t360, .int .i64 a2] (by rfl) rfl rfl sl ?_
    with_reducible refine (spec_TableIn.calls a0_0 a0_1 a0_2 _ _ l0_3 t360 a2 t361 t362 t365 false _ ?side1 ?side2 A6.out).mono ?_
    (case side1 => exact cb HR0_3)
    (case side2 => exact HC0_3.out)
    rintro e w42 ⟨v363, v366, rfl, ho0, ho1, hb⟩
    refine ⟨_, rfl, ?_⟩
    have HO364 := am (Kd.R_lower ho0 (below_size (sbw)))
    have HO367 := am (Kd.R_lower ho1 (below_size (sbw)))
    replace BK359 := bb BK359 hb
    replace BK369 := bb BK369 hb
    replace HB := bsw hb
    (try clear hb)
    (try clear hb2)
    (try clear hk)
    (try clear hi)
    (try clear ho0)
    (try clear ho1)
    refine hK.out _ _ ⟨bc0 BK359, bc1 BK359, bc2 BK359, bc3 BK359⟩ (fun hHeld => ?_)
    clear hK K
    refine nm 17 ?_
    refine put 6 11 (bt 12 639) HT_ ?_
    refine put 7 18 (bt 12 767) HT_ ?_
    refine put 8 19 (bt 12 1023) HT_ ?_
    exact norm_ a8_0 (hCont (v363, v366, gb369) _ ⟨hHeld, (sr HO364), (sr HO367), (sk BK359), (sk BK369), GW369.out, GE369.out, NB359_369.out, NB369_359.out, (sbw)⟩)
  rintro ⟨v363, v366, gb369⟩ w43 ⟨hS_, h0_, h1_, h2_, h3_, h4_, h5_, h6_, h7_, h8_⟩
  have HO364 : Aside0 (Kd.R (Kd.int .i64) 3 w43 w.heap.size (fun k_ => some k_ ≠ (v366 : Value).ownBlock) v363 t362) := ⟨h0_⟩
  have HO367 : Aside0 (Kd.R (Kd.int .i64) 3 w43 w.heap.size (fun k_ => some k_ ≠ (v363 : Value).ownBlock) v366 t365) := ⟨h1_⟩
  replace BK359 : Aside0 (w43.heap[gb359]? = some (.cells #[.int .i64 a0_0, .int .i64 a0_1, .int .i64 a0_2, .slice A0_3 l0_3.length c0_3] 49 (0, 0))) := ⟨h2_⟩
  have BK369 : Aside0 (w43.heap[gb369]? = some (.cells #[.int .i64 0, .slice none 0 0, .slice none 0 0] 29 (0, 0))) := ⟨h3_⟩
  have GW369 : Aside0 (w.heap.size ≤ gb369) := ⟨h4_⟩
  have GE369 : Aside0 (w.heap.size ≤ gb369) := ⟨h5_⟩
  have NB359_369 : Aside0 (gb359 ≠ gb369) := ⟨h6_⟩
  have NB369_359 : Aside0 (gb369 ≠ gb359) := ⟨h7_⟩
  replace HB : Aside0 (Below w.heap.size w w43) := ⟨h8_⟩
  clear h0_ h1_ h2_ h3_ h4_ h5_ h6_ h7_ h8_
  have hHeld : w43.cell? ⟨gb359, 0, none⟩ = some (.int .i64 a0_0) ∧ w43.cell? ⟨gb359, 1, none⟩ = some (.int .i64 a0_1) ∧ w43.cell? ⟨gb359, 2, none⟩ = some (.int .i64 a0_2) ∧ w43.cell? ⟨gb359, 3, none⟩ = some (.slice A0_3 l0_3.length c0_3) := hS_
  obtain ⟨Ao45, co45, eo45⟩ := Kd.R_slice HO364.out
  (first | subst eo45 | (injection eo45 with f1_ f2_ f3_; have f4_ := f1_.symm; have f5_ := f3_.symm; clear f1_ f2_ f3_; subst f4_; subst f5_))
  obtain ⟨Ao47, co47, eo47⟩ := Kd.R_slice HO367.out
  (first | subst eo47 | (injection eo47 with f1_ f2_ f3_; have f4_ := f1_.symm; have f5_ := f3_.symm; clear f1_ f2_ f3_; subst f4_; subst f5_))
  refine norm_ (a' := ?_) ?_ ?_
  rotate_left
  ·simp only [putAll, Act.put, List.setIfInBounds_toArray, List.set_cons_zero, List.set_cons_succ]
   rfl
  refine one_ (i := 10) (N := none) (bt 12 2047) rfl rfl (one_of HT_.out (by kernel_rfl)) (by decide) (fun K hK => ?_)
  obtain ⟨hs44, hfs44⟩ := cc1 BK369
  have hns44_0 := NB359_369.out
  have hms44_0 := NB369_359.out
  have hs46 := bc1 BK369
  have hfs46 := bf BK369 1
  have hns46_0 := NB359_369.out
  have hms46_0 := NB369_359.out
  have hs48 := bc2 BK369
  have hfs48 := bf BK369 2
  have hns48_0 := NB359_369.out
  have hms48_0 := NB369_359.out
  refine skip_ (w1 := ?_) (by rfl) rfl ?_ ?_
  rotate_left
  ·go_simp
   rfl
  refine hK.out _ _ ⟨((cell_far (p := ⟨gb369, _, none⟩) NB359_369.out _).trans (((cell_far (p := ⟨gb369, _, none⟩) NB359_369.out _).trans (((cell_far (p := ⟨gb369, _, none⟩) NB359_369.out _).trans (hHeld.1)))))), ((cell_far (p := ⟨gb369, _, none⟩) NB359_369.out _).trans (((cell_far (p := ⟨gb369, _, none⟩) NB359_369.out _).trans (((cell_far (p := ⟨gb369, _, none⟩) NB359_369.out _).trans (hHeld.2.1)))))), ((cell_far (p := ⟨gb369, _, none⟩) NB359_369.out _).trans (((cell_far (p := ⟨gb369, _, none⟩) NB359_369.out _).trans (((cell_far (p := ⟨gb369, _, none⟩) NB359_369.out _).trans (hHeld.2.2.1)))))), ((cell_far (p := ⟨gb369, _, none⟩) NB359_369.out _).trans (((cell_far (p := ⟨gb369, _, none⟩) NB359_369.out _).trans (((cell_far (p := ⟨gb369, _, none⟩) NB359_369.out _).trans (hHeld.2.2.2))))))⟩ (fun hHeld => ?_)
  clear hK K
  refine put 11 10 (bt 12 4095) HT_ ?_
  refine done_ (done_of HT_.out (by kernel_rfl)) ?_
  try go_wp2
  go_ret
  exact ⟨se, sbw⟩

end Go.Proofs.Ytohbccekdmdmbaa.QFnExactRepairHop
