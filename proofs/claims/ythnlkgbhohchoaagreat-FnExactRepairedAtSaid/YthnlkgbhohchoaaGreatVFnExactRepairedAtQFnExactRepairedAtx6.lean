/- Printed by a program of the session. Conditions: none. (squeezed). -/
import Derived.Test.YthnlkgbhohchoaaGreatVFnExactRepairedAtQFnExactRepairedAtx5
namespace Go.Proofs.YthnlkgbhohchoaaGreat.QFnExactRepairedAt
set_option maxHeartbeats 8000000
set_option maxRecDepth 100000
open Go.RowKit Go.Proofs.YthnlkgbhohchoaaGreatW.PrintWords Go.Proofs.YthnlkgbhohchoaaGreatW.PrintLast Go.Proofs.YthnlkgbhohchoaaGreatW.PrintMore Go.Proofs.YthnlkgbhohchoaaGreat.Open Go.Proofs.YthnlkgbhohchoaaGreat.Sq
attribute [local go_sem] max2_int min2_int max_two min_two max_three min_three max_four min_four   -- for this text's walks alone
attribute [local go_sem] isSome_set
set_option linter.unusedVariables false
set_option linter.unusedSimpArgs false

theorem a6_0 {P : Prop} (h : P := by simp only [putAll, Act.put, List.setIfInBounds_toArray, List.set_cons_zero, List.set_cons_succ]) : P := h
def spec_l19Next.f (k : Nat) (a0_0 : Int) (a0_1 : Int) (a0_2 : Int) (l0_3 : List (S76)) (a1 : Int) (a2 : Int) (a3 : Int) : Option (Int) := (spec_PieceAt.f k a0_0 a0_1 a0_2 l0_3 a3).bind fun t218 => ((spec_TableIn.f a0_0 a0_1 a0_2 l0_3 t218 a2).bind fun bt219 => (if bt219.2.2.2 = true then ((spec_l1In.f a1 0 (wrap64 ((bt219.2.2.1.length : Int) - 1))).bind fun t228 => (if t228 = true then (if 0 ≤ a1 then (if a1 < (bt219.2.2.1.length : Int) then (some (rd bt219.2.2.1 a1)) else (none)) else (none)) else (some (-1)))) else (some (-1))))
theorem spec_l19Next.mono : ∀ a0 a1 a2 a3 a4 a5 a6 k, LeO (spec_l19Next.f k a0 a1 a2 a3 a4 a5 a6) (spec_l19Next.f (k + 1) a0 a1 a2 a3 a4 a5 a6) := by
  intro a0 a1 a2 a3 a4 a5 a6 k
  unfold spec_l19Next.f
  have m0 := @spec_PieceAt.mono
  exact mo
def spec_l19Next.T1 : Bool × List (List Nat × List Nat) := (true, [([], []), ([], []), ([], []), ([1, 2], [1, 2]), ([], []), ([0, 3, 4, 3], [0, 3, 4]), ([5], [5]), ([6], [6]), ([6], [6]), ([], []), ([9, 7, 5, 0, 1, 2, 3, 4, 5, 6, 7, 9], [7, 9]), ([8, 10, 0, 1, 2, 3, 4, 5, 6, 7, 8, 9, 10], [8])])
def spec_l19Next.B1 : List Nat := [0, 0, 0, 6, 0, 31, 63, 127, 127, 0, 767, 2047]
theorem spec_l19Next.tab1 : rtab .any (opsOf Tryz.f98 1) = spec_l19Next.T1 := by kernel_rfl
theorem spec_l19Next.bits1 : waitsOk spec_l19Next.T1.2 spec_l19Next.B1 = true := by kernel_rfl
theorem spec_l19Next.calls (k : Nat) (a0_0 : Int) (a0_1 : Int) (a0_2 : Int) (A0_3 : Option Addr) (c0_3 : Nat) (l0_3 : List (S76)) (a1 : Int) (a2 : Int) (a3 : Int) (r : Int) (w : World) (hr0_3 : Kd.C k76 w A0_3 l0_3.length l0_3) (hc0_3 : l0_3.length ≤ c0_3) (h : spec_l19Next.f k a0_0 a0_1 a0_2 l0_3 a1 a2 a3 = some r) :
    Calls Tryz.prog 98 #[.agg #[.int .i64 a0_0, .int .i64 a0_1, .int .i64 a0_2, .slice A0_3 l0_3.length c0_3], .int .i64 a1, .int .i64 a2, .int .i64 a3] w fun e w' => e = .returned (.int .i64 r) ∧ Below w.heap.size w w' := by
 have hu32 := Tryz.underlying32
 have hu50 := Tryz.underlying50
 have HR0_3 := am hr0_3
 have HC0_3 := am hc0_3
 clear hr0_3 hc0_3
 have HB := am (Below.refl w.heap.size w)
 have H := h; unfold spec_l19Next.f at H
 clear h
 obtain ⟨t218, A5, H⟩ := bnd H
 obtain ⟨⟨t219, t220, t223, t226⟩, A6, H⟩ := bnd H
 try dsimp only at H
 obtain rfl | rfl := tt t226
 ·replace H := ip H
  obtain ⟨t228, A8, H⟩ := bnd H
  obtain rfl | rfl := tt t228
  ·replace H := ip H
   obtain ⟨c10b0, H⟩ := id_ H
   obtain ⟨c11b0, H⟩ := id_ H
   obtain rfl := Option.some.inj H
   go_enter Tryz.func98, Tryz.ntmps98
   try go_wp2_with (first | ((with_reducible refine gd 4 rfl ?_); (try (refine gate_guard (by rfl) ?_; dsimp only)); refine bx 4 #[.int .i64 a0_0, .int .i64 a0_1, .int .i64 a0_2, .slice A0_3 l0_3.length c0_3] 32 ?_; intro gb217 hg w12 hbox hb; have GW217 := bz w hg; have GE217 := bz w hg; replace HB := bs hb; have BK217 := am hbox; clear hb hbox hg))
   replace BK217 := am (blk_drew BK217.out)
   replace HB := am (below_drew1 HB.out)
   refine start_ (n := 12) (S := fun w' => w'.cell? ⟨gb217, 0, none⟩ = some (.int .i64 a0_0) ∧ w'.cell? ⟨gb217, 1, none⟩ = some (.int .i64 a0_1) ∧ w'.cell? ⟨gb217, 2, none⟩ = some (.int .i64 a0_2) ∧ w'.cell? ⟨gb217, 3, none⟩ = some (.slice A0_3 l0_3.length c0_3)) (ds := []) (bt 12 0) (by kernel_rfl) rfl (by kernel_rfl) ⟨bc0 BK217, bc1 BK217, bc2 BK217, bc3 BK217⟩ (fun hHeld => ?_); refine with_tabW spec_l19Next.tab1 spec_l19Next.bits1 (fun HT_ HW_ => ?_)
   generalize w12.drew = w13 at BK217 HB hHeld ⊢
   refine r2_ 2 4 ?_
   refine tv_ 0 ?_
   refine tv_ 1 ?_
   refine join_ (σ := Value × Value × Nat) 2 (bt 12 1023) (fun s_ => [(15, .int .i64 t218), (17, .tuple #[.agg #[.int .i64 t219, s_.1, s_.2.1], .bool true]), (9, .pointer (some ⟨s_.2.2, 0, none⟩)), (11, .tuple #[.agg #[.int .i64 t219, s_.1, s_.2.1], .bool true]), (18, .agg #[.int .i64 t219, s_.1, s_.2.1]), (19, .bool true)]) (fun s_ w' => (w'.cell? ⟨gb217, 0, none⟩ = some (.int .i64 a0_0) ∧ w'.cell? ⟨gb217, 1, none⟩ = some (.int .i64 a0_1) ∧ w'.cell? ⟨gb217, 2, none⟩ = some (.int .i64 a0_2) ∧ w'.cell? ⟨gb217, 3, none⟩ = some (.slice A0_3 l0_3.length c0_3)) ∧ (Kd.R (Kd.int .i64) 3 w' w.heap.size (fun k_ => some k_ ≠ (s_.2.1 : Value).ownBlock) s_.1 t220) ∧ (Kd.R (Kd.int .i64) 3 w' w.heap.size (fun k_ => some k_ ≠ (s_.1 : Value).ownBlock) s_.2.1 t223) ∧ (w'.heap[gb217]? = some (.cells #[.int .i64 a0_0, .int .i64 a0_1, .int .i64 a0_2, .slice A0_3 l0_3.length c0_3] 32 (0, 0))) ∧ (w'.heap[s_.2.2]? = some (.cells #[.int .i64 0, .slice none 0 0, .slice none 0 0] 50 (0, 0))) ∧ (w.heap.size ≤ s_.2.2) ∧ (w.heap.size ≤ s_.2.2) ∧ (gb217 ≠ s_.2.2) ∧ (s_.2.2 ≠ gb217) ∧ (Below w.heap.size w w')) ?_ ?_
   rotate_left
   ·intro hCont
    refine tw_ 3 9 (fun K hK => ?_) (fun K hK => ?_)
    ·skip
     refine goes_ Tryz.func64 (by kernel_rfl) rfl #[.agg #[.int .i64 a0_0, .int .i64 a0_1, .int .i64 a0_2, .slice A0_3 l0_3.length c0_3], .int .i64 a3] (by rfl) rfl rfl sl ?_
     with_reducible refine (spec_PieceAt.calls k a0_0 a0_1 a0_2 _ _ l0_3 a3 t218 _ ?side1 ?side2 A5.out).mono ?_
     (case side1 => exact cb HR0_3)
     (case side2 => exact HC0_3.out)
     rintro e w14 ⟨rfl, hb⟩
     refine ⟨_, rfl, ?_⟩
     replace BK217 := bb BK217 hb
     replace HB := bsw hb
     (try clear hb)
     refine hw_ hK ⟨bc0 BK217, bc1 BK217, bc2 BK217, bc3 BK217⟩ (fun hHeld => ?_)
     clear hK K
     refine tw_ 5 9 (fun K hK => ?_) (fun K hK => ?_)
     ·skip
      refine goes_ Tryz.func65 (by kernel_rfl) rfl #[.agg #[.int .i64 a0_0, .int .i64 a0_1, .int .i64 a0_2, .slice A0_3 l0_3.length c0_3], .int .i64 t218, .int .i64 a2] (by rfl) rfl rfl sl ?_
      with_reducible refine (spec_TableIn.calls a0_0 a0_1 a0_2 _ _ l0_3 t218 a2 t219 t220 t223 true _ ?side1 ?side2 A6.out).mono ?_
      (case side1 => exact cb HR0_3)
      (case side2 => exact HC0_3.out)
      rintro e w15 ⟨v221, v224, rfl, ho0, ho1, hb⟩
      refine ⟨_, rfl, ?_⟩
      have HO222 := am (Kd.R_lower ho0 (below_size (sbw)))
      have HO225 := am (Kd.R_lower ho1 (below_size (sbw)))
      replace BK217 := bb BK217 hb
      replace HB := bsw hb
      (try clear hb)
      (try clear ho0)
      (try clear ho1)
      refine hw_ hK ⟨bc0 BK217, bc1 BK217, bc2 BK217, bc3 BK217⟩ (fun hHeld => ?_)
      clear hK K
      refine r3_ 6 7 8 ?_
      refine ow_ 9 (fun K hK => ?_)
      refine box_step ?hg (N := 9) ?hd (cs := #[.int .i64 0, .slice none 0 0, .slice none 0 0]) (t := 50) ?hr ?_; (case hd => rfl); (case hg => rfl); (case hr => first | (go_simp; done) | (go_simp; rfl))
      intro gb227 hg w16 hbox hb
      replace HO222 := rb HO222 hb
      replace HO225 := rb HO225 hb
      have GW227 := bzw w hg
      have GE227 := bzw w hg
      replace HB := bsw hb
      have BK227 := am hbox
      have NB217_227 := nl BK217 hg
      have NB227_217 := ng BK217 hg
      replace BK217 := bb BK217 hb
      clear hb hbox hg
      refine hw_ hK ⟨bc0 BK217, bc1 BK217, bc2 BK217, bc3 BK217⟩ (fun hHeld => ?_)
      clear hK K
      exact norm_ a6_0 (hCont (v221, v224, gb227) _ ⟨hHeld, (sr HO222), (sr HO225), (sk BK217), (sk BK227), GW227.out, GE227.out, NB217_227.out, NB227_217.out, (sbw)⟩)
     ·skip
      refine box_step ?hg (N := 9) ?hd (cs := #[.int .i64 0, .slice none 0 0, .slice none 0 0]) (t := 50) ?hr ?_; (case hd => rfl); (case hg => rfl); (case hr => first | (go_simp; done) | (go_simp; rfl))
      intro gb227 hg w15 hbox hb
      have GW227 := bzw w hg
      have GE227 := bzw w hg
      replace HB := bsw hb
      have BK227 := am hbox
      have NB217_227 := nl BK217 hg
      have NB227_217 := ng BK217 hg
      replace BK217 := bb BK217 hb
      clear hb hbox hg
      refine hw_ hK ⟨bc0 BK217, bc1 BK217, bc2 BK217, bc3 BK217⟩ (fun hHeld => ?_)
      clear hK K
      refine ow_ 5 (fun K hK => ?_)
      refine goes_ Tryz.func65 (by kernel_rfl) rfl #[.agg #[.int .i64 a0_0, .int .i64 a0_1, .int .i64 a0_2, .slice A0_3 l0_3.length c0_3], .int .i64 t218, .int .i64 a2] (by rfl) rfl rfl sl ?_
      with_reducible refine (spec_TableIn.calls a0_0 a0_1 a0_2 _ _ l0_3 t218 a2 t219 t220 t223 true _ ?side1 ?side2 A6.out).mono ?_
      (case side1 => exact cb HR0_3)
      (case side2 => exact HC0_3.out)
      rintro e w16 ⟨v221, v224, rfl, ho0, ho1, hb⟩
      refine ⟨_, rfl, ?_⟩
      have HO222 := am (Kd.R_lower ho0 (below_size (sbw)))
      have HO225 := am (Kd.R_lower ho1 (below_size (sbw)))
      replace BK217 := bb BK217 hb
      replace BK227 := bb BK227 hb
      replace HB := bsw hb
      (try clear hb)
      (try clear ho0)
      (try clear ho1)
      refine hw_ hK ⟨bc0 BK217, bc1 BK217, bc2 BK217, bc3 BK217⟩ (fun hHeld => ?_)
      clear hK K
      refine r3_ 6 7 8 ?_
      exact norm_ a6_0 (hCont (v221, v224, gb227) _ ⟨hHeld, (sr HO222), (sr HO225), (sk BK217), (sk BK227), GW227.out, GE227.out, NB217_227.out, NB227_217.out, (sbw)⟩)
    ·skip
     refine box_step ?hg (N := 9) ?hd (cs := #[.int .i64 0, .slice none 0 0, .slice none 0 0]) (t := 50) ?hr ?_; (case hd => rfl); (case hg => rfl); (case hr => first | (go_simp; done) | (go_simp; rfl))
     intro gb227 hg w14 hbox hb
     have GW227 := bzw w hg
     have GE227 := bzw w hg
     replace HB := bsw hb
     have BK227 := am hbox
     have NB217_227 := nl BK217 hg
     have NB227_217 := ng BK217 hg
     replace BK217 := bb BK217 hb
     clear hb hbox hg
     refine hw_ hK ⟨bc0 BK217, bc1 BK217, bc2 BK217, bc3 BK217⟩ (fun hHeld => ?_)
     clear hK K
     refine ow_ 3 (fun K hK => ?_)
     refine goes_ Tryz.func64 (by kernel_rfl) rfl #[.agg #[.int .i64 a0_0, .int .i64 a0_1, .int .i64 a0_2, .slice A0_3 l0_3.length c0_3], .int .i64 a3] (by rfl) rfl rfl sl ?_
     with_reducible refine (spec_PieceAt.calls k a0_0 a0_1 a0_2 _ _ l0_3 a3 t218 _ ?side1 ?side2 A5.out).mono ?_
     (case side1 => exact cb HR0_3)
     (case side2 => exact HC0_3.out)
     rintro e w15 ⟨rfl, hb⟩
     refine ⟨_, rfl, ?_⟩
     replace BK217 := bb BK217 hb
     replace BK227 := bb BK227 hb
     replace HB := bsw hb
     (try clear hb)
     refine hw_ hK ⟨bc0 BK217, bc1 BK217, bc2 BK217, bc3 BK217⟩ (fun hHeld => ?_)
     clear hK K
     refine ow_ 5 (fun K hK => ?_)
     refine goes_ Tryz.func65 (by kernel_rfl) rfl #[.agg #[.int .i64 a0_0, .int .i64 a0_1, .int .i64 a0_2, .slice A0_3 l0_3.length c0_3], .int .i64 t218, .int .i64 a2] (by rfl) rfl rfl sl ?_
     with_reducible refine (spec_TableIn.calls a0_0 a0_1 a0_2 _ _ l0_3 t218 a2 t219 t220 t223 true _ ?side1 ?side2 A6.out).mono ?_
     (case side1 => exact cb HR0_3)
     (case side2 => exact HC0_3.out)
     rintro e w16 ⟨v221, v224, rfl, ho0, ho1, hb⟩
     refine ⟨_, rfl, ?_⟩
     have HO222 := am (Kd.R_lower ho0 (below_size (sbw)))
     have HO225 := am (Kd.R_lower ho1 (below_size (sbw)))
     replace BK217 := bb BK217 hb
     replace BK227 := bb BK227 hb
     replace HB := bsw hb
     (try clear hb)
     (try clear ho0)
     (try clear ho1)
     refine hw_ hK ⟨bc0 BK217, bc1 BK217, bc2 BK217, bc3 BK217⟩ (fun hHeld => ?_)
     clear hK K
     refine r3_ 6 7 8 ?_
     exact norm_ a6_0 (hCont (v221, v224, gb227) _ ⟨hHeld, (sr HO222), (sr HO225), (sk BK217), (sk BK227), GW227.out, GE227.out, NB217_227.out, NB227_217.out, (sbw)⟩)
   rintro ⟨v221, v224, gb227⟩ w17 ⟨hS_, h0_, h1_, h2_, h3_, h4_, h5_, h6_, h7_, h8_⟩
   have HO222 : Aside0 (Kd.R (Kd.int .i64) 3 w17 w.heap.size (fun k_ => some k_ ≠ (v224 : Value).ownBlock) v221 t220) := ⟨h0_⟩
   have HO225 : Aside0 (Kd.R (Kd.int .i64) 3 w17 w.heap.size (fun k_ => some k_ ≠ (v221 : Value).ownBlock) v224 t223) := ⟨h1_⟩
   replace BK217 : Aside0 (w17.heap[gb217]? = some (.cells #[.int .i64 a0_0, .int .i64 a0_1, .int .i64 a0_2, .slice A0_3 l0_3.length c0_3] 32 (0, 0))) := ⟨h2_⟩
   have BK227 : Aside0 (w17.heap[gb227]? = some (.cells #[.int .i64 0, .slice none 0 0, .slice none 0 0] 50 (0, 0))) := ⟨h3_⟩
   have GW227 : Aside0 (w.heap.size ≤ gb227) := ⟨h4_⟩
   have GE227 : Aside0 (w.heap.size ≤ gb227) := ⟨h5_⟩
   have NB217_227 : Aside0 (gb217 ≠ gb227) := ⟨h6_⟩
   have NB227_217 : Aside0 (gb227 ≠ gb217) := ⟨h7_⟩
   replace HB : Aside0 (Below w.heap.size w w17) := ⟨h8_⟩
   clear h0_ h1_ h2_ h3_ h4_ h5_ h6_ h7_ h8_
   have hHeld : w17.cell? ⟨gb217, 0, none⟩ = some (.int .i64 a0_0) ∧ w17.cell? ⟨gb217, 1, none⟩ = some (.int .i64 a0_1) ∧ w17.cell? ⟨gb217, 2, none⟩ = some (.int .i64 a0_2) ∧ w17.cell? ⟨gb217, 3, none⟩ = some (.slice A0_3 l0_3.length c0_3) := hS_
   obtain ⟨Ao19, co19, eo19⟩ := Kd.R_slice HO222.out
   (first | subst eo19 | (injection eo19 with f1_ f2_ f3_; have f4_ := f1_.symm; have f5_ := f3_.symm; clear f1_ f2_ f3_; subst f4_; subst f5_))
   obtain ⟨Ao21, co21, eo21⟩ := Kd.R_slice HO225.out
   (first | subst eo21 | (injection eo21 with f1_ f2_ f3_; have f4_ := f1_.symm; have f5_ := f3_.symm; clear f1_ f2_ f3_; subst f4_; subst f5_))
   refine norm_ (a' := ?_) ?_ ?_
   rotate_left
   ·simp only [putAll, Act.put, List.setIfInBounds_toArray, List.set_cons_zero, List.set_cons_succ]
    rfl
   refine one_ (i := 10) (N := none) (bt 12 2047) rfl rfl (one_of HT_.out (by kernel_rfl)) (by decide) (fun K hK => ?_)
   obtain ⟨hs18, hfs18⟩ := cc1 BK227
   have hns18_0 := NB217_227.out
   have hms18_0 := NB227_217.out
   have hs20 := bc1 BK227
   have hfs20 := bf BK227 1
   have hns20_0 := NB217_227.out
   have hms20_0 := NB227_217.out
   have hs22 := bc2 BK227
   have hfs22 := bf BK227 2
   have hns22_0 := NB217_227.out
   have hms22_0 := NB227_217.out
   refine skip_ (w1 := ?_) (by rfl) rfl ?_ ?_
   rotate_left
   ·go_simp
    rfl
   refine hK.out _ _ ⟨((cell_far (p := ⟨gb227, _, none⟩) NB217_227.out _).trans (((cell_far (p := ⟨gb227, _, none⟩) NB217_227.out _).trans (((cell_far (p := ⟨gb227, _, none⟩) NB217_227.out _).trans (hHeld.1)))))), ((cell_far (p := ⟨gb227, _, none⟩) NB217_227.out _).trans (((cell_far (p := ⟨gb227, _, none⟩) NB217_227.out _).trans (((cell_far (p := ⟨gb227, _, none⟩) NB217_227.out _).trans (hHeld.2.1)))))), ((cell_far (p := ⟨gb227, _, none⟩) NB217_227.out _).trans (((cell_far (p := ⟨gb227, _, none⟩) NB217_227.out _).trans (((cell_far (p := ⟨gb227, _, none⟩) NB217_227.out _).trans (hHeld.2.2.1)))))), ((cell_far (p := ⟨gb227, _, none⟩) NB217_227.out _).trans (((cell_far (p := ⟨gb227, _, none⟩) NB217_227.out _).trans (((cell_far (p := ⟨gb227, _, none⟩) NB217_227.out _).trans (hHeld.2.2.2))))))⟩ (fun hHeld => ?_)
   clear hK K
   refine r1_ 11 ?_
   refine done_ (done_of HT_.out (by kernel_rfl)) ?_
   have hnb23 := NB227_217.out
   have hnc23 := NB217_227.out
   obtain ⟨_, _, _, _, _, _⟩ := cc3 BK227
   try go_wp2_with (first | (go_at_call 31; (try simp only [i64_w, i32_w]); (with_reducible refine (spec_l1In.calls a1 0 (wrap64 ((t223.length : Int) - 1)) true _ A8.out).mono ?_); rintro e w' ⟨rfl, ⟨nd, rfl⟩⟩; have p229 : 0 ≤ (a1 : Int) := sa; have q229 : a1 < (t223.length : Int) := sa; obtain ⟨ad229, e229, hx229_0⟩ := Kd.at_int (Kd.R_reads' HO225.out).2.2 a1 p229 q229; cases e229; have hn229_0 : ad229.block ≠ gb227 := Kd.own_blk (Kd.R_ne HO225.out BK227.out (by decide)); have hn229_1 : ad229.block ≠ gb227 := Kd.own_blk (Kd.R_ne HO225.out BK227.out (by decide)); have hn229_2 : ad229.block ≠ gb227 := Kd.own_blk (Kd.R_ne HO225.out BK227.out (by decide)); replace hx229_0 := (cell_far (p := ⟨gb227, 0, none⟩) (by first | (rw [add_block]; exact hn229_0) | exact hn229_0) (.int .i64 t219)).trans hx229_0; replace hx229_0 := (cell_far (p := ⟨gb227, 1, none⟩) (by first | (rw [add_block]; exact hn229_1) | exact hn229_1) (.slice Ao19 t220.length co19)).trans hx229_0; replace hx229_0 := (cell_far (p := ⟨gb227, 2, none⟩) (by first | (rw [add_block]; exact hn229_2) | exact hn229_2) (.slice (some ad229) t223.length co21)).trans hx229_0; clear hn229_0; clear hn229_1; clear hn229_2; replace p229 := eq_true p229; replace q229 := eq_true q229))
   go_ret
   exact ⟨se, sbw⟩
  ·replace H := im H
   obtain rfl := Option.some.inj H
   go_enter Tryz.func98, Tryz.ntmps98
   try go_wp2_with (first | ((with_reducible refine gd 4 rfl ?_); (try (refine gate_guard (by rfl) ?_; dsimp only)); refine bx 4 #[.int .i64 a0_0, .int .i64 a0_1, .int .i64 a0_2, .slice A0_3 l0_3.length c0_3] 32 ?_; intro gb217 hg w25 hbox hb; have GW217 := bz w hg; have GE217 := bz w hg; replace HB := bs hb; have BK217 := am hbox; clear hb hbox hg))
   replace BK217 := am (blk_drew BK217.out)
   replace HB := am (below_drew1 HB.out)
   refine start_ (n := 12) (S := fun w' => w'.cell? ⟨gb217, 0, none⟩ = some (.int .i64 a0_0) ∧ w'.cell? ⟨gb217, 1, none⟩ = some (.int .i64 a0_1) ∧ w'.cell? ⟨gb217, 2, none⟩ = some (.int .i64 a0_2) ∧ w'.cell? ⟨gb217, 3, none⟩ = some (.slice A0_3 l0_3.length c0_3)) (ds := []) (bt 12 0) (by kernel_rfl) rfl (by kernel_rfl) ⟨bc0 BK217, bc1 BK217, bc2 BK217, bc3 BK217⟩ (fun hHeld => ?_); refine with_tabW spec_l19Next.tab1 spec_l19Next.bits1 (fun HT_ HW_ => ?_)
   generalize w25.drew = w26 at BK217 HB hHeld ⊢
   refine r2_ 2 4 ?_
   refine tv_ 0 ?_
   refine tv_ 1 ?_
   refine join_ (σ := Value × Value × Nat) 2 (bt 12 1023) (fun s_ => [(15, .int .i64 t218), (17, .tuple #[.agg #[.int .i64 t219, s_.1, s_.2.1], .bool true]), (9, .pointer (some ⟨s_.2.2, 0, none⟩)), (11, .tuple #[.agg #[.int .i64 t219, s_.1, s_.2.1], .bool true]), (18, .agg #[.int .i64 t219, s_.1, s_.2.1]), (19, .bool true)]) (fun s_ w' => (w'.cell? ⟨gb217, 0, none⟩ = some (.int .i64 a0_0) ∧ w'.cell? ⟨gb217, 1, none⟩ = some (.int .i64 a0_1) ∧ w'.cell? ⟨gb217, 2, none⟩ = some (.int .i64 a0_2) ∧ w'.cell? ⟨gb217, 3, none⟩ = some (.slice A0_3 l0_3.length c0_3)) ∧ (Kd.R (Kd.int .i64) 3 w' w.heap.size (fun k_ => some k_ ≠ (s_.2.1 : Value).ownBlock) s_.1 t220) ∧ (Kd.R (Kd.int .i64) 3 w' w.heap.size (fun k_ => some k_ ≠ (s_.1 : Value).ownBlock) s_.2.1 t223) ∧ (w'.heap[gb217]? = some (.cells #[.int .i64 a0_0, .int .i64 a0_1, .int .i64 a0_2, .slice A0_3 l0_3.length c0_3] 32 (0, 0))) ∧ (w'.heap[s_.2.2]? = some (.cells #[.int .i64 0, .slice none 0 0, .slice none 0 0] 50 (0, 0))) ∧ (w.heap.size ≤ s_.2.2) ∧ (w.heap.size ≤ s_.2.2) ∧ (gb217 ≠ s_.2.2) ∧ (s_.2.2 ≠ gb217) ∧ (Below w.heap.size w w')) ?_ ?_
   rotate_left
   ·intro hCont
    refine tw_ 3 9 (fun K hK => ?_) (fun K hK => ?_)
    ·skip
     refine goes_ Tryz.func64 (by kernel_rfl) rfl #[.agg #[.int .i64 a0_0, .int .i64 a0_1, .int .i64 a0_2, .slice A0_3 l0_3.length c0_3], .int .i64 a3] (by rfl) rfl rfl sl ?_
     with_reducible refine (spec_PieceAt.calls k a0_0 a0_1 a0_2 _ _ l0_3 a3 t218 _ ?side1 ?side2 A5.out).mono ?_
     (case side1 => exact cb HR0_3)
     (case side2 => exact HC0_3.out)
     rintro e w27 ⟨rfl, hb⟩
     refine ⟨_, rfl, ?_⟩
     replace BK217 := bb BK217 hb
     replace HB := bsw hb
     (try clear hb)
     refine hw_ hK ⟨bc0 BK217, bc1 BK217, bc2 BK217, bc3 BK217⟩ (fun hHeld => ?_)
     clear hK K
     refine tw_ 5 9 (fun K hK => ?_) (fun K hK => ?_)
     ·skip
      refine goes_ Tryz.func65 (by kernel_rfl) rfl #[.agg #[.int .i64 a0_0, .int .i64 a0_1, .int .i64 a0_2, .slice A0_3 l0_3.length c0_3], .int .i64 t218, .int .i64 a2] (by rfl) rfl rfl sl ?_
      with_reducible refine (spec_TableIn.calls a0_0 a0_1 a0_2 _ _ l0_3 t218 a2 t219 t220 t223 true _ ?side1 ?side2 A6.out).mono ?_
      (case side1 => exact cb HR0_3)
      (case side2 => exact HC0_3.out)
      rintro e w28 ⟨v221, v224, rfl, ho0, ho1, hb⟩
      refine ⟨_, rfl, ?_⟩
      have HO222 := am (Kd.R_lower ho0 (below_size (sbw)))
      have HO225 := am (Kd.R_lower ho1 (below_size (sbw)))
      replace BK217 := bb BK217 hb
      replace HB := bsw hb
      (try clear hb)
      (try clear ho0)
      (try clear ho1)
      refine hw_ hK ⟨bc0 BK217, bc1 BK217, bc2 BK217, bc3 BK217⟩ (fun hHeld => ?_)
      clear hK K
      refine r3_ 6 7 8 ?_
      refine ow_ 9 (fun K hK => ?_)
      refine box_step ?hg (N := 9) ?hd (cs := #[.int .i64 0, .slice none 0 0, .slice none 0 0]) (t := 50) ?hr ?_; (case hd => rfl); (case hg => rfl); (case hr => first | (go_simp; done) | (go_simp; rfl))
      intro gb227 hg w29 hbox hb
      replace HO222 := rb HO222 hb
      replace HO225 := rb HO225 hb
      have GW227 := bzw w hg
      have GE227 := bzw w hg
      replace HB := bsw hb
      have BK227 := am hbox
      have NB217_227 := nl BK217 hg
      have NB227_217 := ng BK217 hg
      replace BK217 := bb BK217 hb
      clear hb hbox hg
      refine hw_ hK ⟨bc0 BK217, bc1 BK217, bc2 BK217, bc3 BK217⟩ (fun hHeld => ?_)
      clear hK K
      exact norm_ a6_0 (hCont (v221, v224, gb227) _ ⟨hHeld, (sr HO222), (sr HO225), (sk BK217), (sk BK227), GW227.out, GE227.out, NB217_227.out, NB227_217.out, (sbw)⟩)
     ·skip
      refine box_step ?hg (N := 9) ?hd (cs := #[.int .i64 0, .slice none 0 0, .slice none 0 0]) (t := 50) ?hr ?_; (case hd => rfl); (case hg => rfl); (case hr => first | (go_simp; done) | (go_simp; rfl))
      intro gb227 hg w28 hbox hb
      have GW227 := bzw w hg
      have GE227 := bzw w hg
      replace HB := bsw hb
      have BK227 := am hbox
      have NB217_227 := nl BK217 hg
      have NB227_217 := ng BK217 hg
      replace BK217 := bb BK217 hb
      clear hb hbox hg
      refine hw_ hK ⟨bc0 BK217, bc1 BK217, bc2 BK217, bc3 BK217⟩ (fun hHeld => ?_)
      clear hK K
      refine ow_ 5 (fun K hK => ?_)
      refine goes_ Tryz.func65 (by kernel_rfl) rfl #[.agg #[.int .i64 a0_0, .int .i64 a0_1, .int .i64 a0_2, .slice A0_3 l0_3.length c0_3], .int .i64 t218, .int .i64 a2] (by rfl) rfl rfl sl ?_
      with_reducible refine (spec_TableIn.calls a0_0 a0_1 a0_2 _ _ l0_3 t218 a2 t219 t220 t223 true _ ?side1 ?side2 A6.out).mono ?_
      (case side1 => exact cb HR0_3)
      (case side2 => exact HC0_3.out)
      rintro e w29 ⟨v221, v224, rfl, ho0, ho1, hb⟩
      refine ⟨_, rfl, ?_⟩
      have HO222 := am (Kd.R_lower ho0 (below_size (sbw)))
      have HO225 := am (Kd.R_lower ho1 (below_size (sbw)))
      replace BK217 := bb BK217 hb
      replace BK227 := bb BK227 hb
      replace HB := bsw hb
      (try clear hb)
      (try clear ho0)
      (try clear ho1)
      refine hw_ hK ⟨bc0 BK217, bc1 BK217, bc2 BK217, bc3 BK217⟩ (fun hHeld => ?_)
      clear hK K
      refine r3_ 6 7 8 ?_
      exact norm_ a6_0 (hCont (v221, v224, gb227) _ ⟨hHeld, (sr HO222), (sr HO225), (sk BK217), (sk BK227), GW227.out, GE227.out, NB217_227.out, NB227_217.out, (sbw)⟩)
    ·skip
     refine box_step ?hg (N := 9) ?hd (cs := #[.int .i64 0, .slice none 0 0, .slice none 0 0]) (t := 50) ?hr ?_; (case hd => rfl); (case hg => rfl); (case hr => first | (go_simp; done) | (go_simp; rfl))
     intro gb227 hg w27 hbox hb
     have GW227 := bzw w hg
     have GE227 := bzw w hg
     replace HB := bsw hb
     have BK227 := am hbox
     have NB217_227 := nl BK217 hg
     have NB227_217 := ng BK217 hg
     replace BK217 := bb BK217 hb
     clear hb hbox hg
     refine hw_ hK ⟨bc0 BK217, bc1 BK217, bc2 BK217, bc3 BK217⟩ (fun hHeld => ?_)
     clear hK K
     refine ow_ 3 (fun K hK => ?_)
     refine goes_ Tryz.func64 (by kernel_rfl) rfl #[.agg #[.int .i64 a0_0, .int .i64 a0_1, .int .i64 a0_2, .slice A0_3 l0_3.length c0_3], .int .i64 a3] (by rfl) rfl rfl sl ?_
     with_reducible refine (spec_PieceAt.calls k a0_0 a0_1 a0_2 _ _ l0_3 a3 t218 _ ?side1 ?side2 A5.out).mono ?_
     (case side1 => exact cb HR0_3)
     (case side2 => exact HC0_3.out)
     rintro e w28 ⟨rfl, hb⟩
     refine ⟨_, rfl, ?_⟩
     replace BK217 := bb BK217 hb
     replace BK227 := bb BK227 hb
     replace HB := bsw hb
     (try clear hb)
     refine hw_ hK ⟨bc0 BK217, bc1 BK217, bc2 BK217, bc3 BK217⟩ (fun hHeld => ?_)
     clear hK K
     refine ow_ 5 (fun K hK => ?_)
     refine goes_ Tryz.func65 (by kernel_rfl) rfl #[.agg #[.int .i64 a0_0, .int .i64 a0_1, .int .i64 a0_2, .slice A0_3 l0_3.length c0_3], .int .i64 t218, .int .i64 a2] (by rfl) rfl rfl sl ?_
     with_reducible refine (spec_TableIn.calls a0_0 a0_1 a0_2 _ _ l0_3 t218 a2 t219 t220 t223 true _ ?side1 ?side2 A6.out).mono ?_
     (case side1 => exact cb HR0_3)
     (case side2 => exact HC0_3.out)
     rintro e w29 ⟨v221, v224, rfl, ho0, ho1, hb⟩
     refine ⟨_, rfl, ?_⟩
     have HO222 := am (Kd.R_lower ho0 (below_size (sbw)))
     have HO225 := am (Kd.R_lower ho1 (below_size (sbw)))
     replace BK217 := bb BK217 hb
     replace BK227 := bb BK227 hb
     replace HB := bsw hb
     (try clear hb)
     (try clear ho0)
     (try clear ho1)
     refine hw_ hK ⟨bc0 BK217, bc1 BK217, bc2 BK217, bc3 BK217⟩ (fun hHeld => ?_)
     clear hK K
     refine r3_ 6 7 8 ?_
     exact norm_ a6_0 (hCont (v221, v224, gb227) _ ⟨hHeld, (sr HO222), (sr HO225), (sk BK217), (sk BK227), GW227.out, GE227.out, NB217_227.out, NB227_217.out, (sbw)⟩)
   rintro ⟨v221, v224, gb227⟩ w30 ⟨hS_, h0_, h1_, h2_, h3_, h4_, h5_, h6_, h7_, h8_⟩
   have HO222 : Aside0 (Kd.R (Kd.int .i64) 3 w30 w.heap.size (fun k_ => some k_ ≠ (v224 : Value).ownBlock) v221 t220) := ⟨h0_⟩
   have HO225 : Aside0 (Kd.R (Kd.int .i64) 3 w30 w.heap.size (fun k_ => some k_ ≠ (v221 : Value).ownBlock) v224 t223) := ⟨h1_⟩
   replace BK217 : Aside0 (w30.heap[gb217]? = some (.cells #[.int .i64 a0_0, .int .i64 a0_1, .int .i64 a0_2, .slice A0_3 l0_3.length c0_3] 32 (0, 0))) := ⟨h2_⟩
   have BK227 : Aside0 (w30.heap[gb227]? = some (.cells #[.int .i64 0, .slice none 0 0, .slice none 0 0] 50 (0, 0))) := ⟨h3_⟩
   have GW227 : Aside0 (w.heap.size ≤ gb227) := ⟨h4_⟩
   have GE227 : Aside0 (w.heap.size ≤ gb227) := ⟨h5_⟩
   have NB217_227 : Aside0 (gb217 ≠ gb227) := ⟨h6_⟩
   have NB227_217 : Aside0 (gb227 ≠ gb217) := ⟨h7_⟩
   replace HB : Aside0 (Below w.heap.size w w30) := ⟨h8_⟩
   clear h0_ h1_ h2_ h3_ h4_ h5_ h6_ h7_ h8_
   have hHeld : w30.cell? ⟨gb217, 0, none⟩ = some (.int .i64 a0_0) ∧ w30.cell? ⟨gb217, 1, none⟩ = some (.int .i64 a0_1) ∧ w30.cell? ⟨gb217, 2, none⟩ = some (.int .i64 a0_2) ∧ w30.cell? ⟨gb217, 3, none⟩ = some (.slice A0_3 l0_3.length c0_3) := hS_
   obtain ⟨Ao32, co32, eo32⟩ := Kd.R_slice HO222.out
   (first | subst eo32 | (injection eo32 with f1_ f2_ f3_; have f4_ := f1_.symm; have f5_ := f3_.symm; clear f1_ f2_ f3_; subst f4_; subst f5_))
   obtain ⟨Ao34, co34, eo34⟩ := Kd.R_slice HO225.out
   (first | subst eo34 | (injection eo34 with f1_ f2_ f3_; have f4_ := f1_.symm; have f5_ := f3_.symm; clear f1_ f2_ f3_; subst f4_; subst f5_))
   refine norm_ (a' := ?_) ?_ ?_
   rotate_left
   ·simp only [putAll, Act.put, List.setIfInBounds_toArray, List.set_cons_zero, List.set_cons_succ]
    rfl
   refine one_ (i := 10) (N := none) (bt 12 2047) rfl rfl (one_of HT_.out (by kernel_rfl)) (by decide) (fun K hK => ?_)
   obtain ⟨hs31, hfs31⟩ := cc1 BK227
   have hns31_0 := NB217_227.out
   have hms31_0 := NB227_217.out
   have hs33 := bc1 BK227
   have hfs33 := bf BK227 1
   have hns33_0 := NB217_227.out
   have hms33_0 := NB227_217.out
   have hs35 := bc2 BK227
   have hfs35 := bf BK227 2
   have hns35_0 := NB217_227.out
   have hms35_0 := NB227_217.out
   refine skip_ (w1 := ?_) (by rfl) rfl ?_ ?_
   rotate_left
   ·go_simp
    rfl
   refine hK.out _ _ ⟨((cell_far (p := ⟨gb227, _, none⟩) NB217_227.out _).trans (((cell_far (p := ⟨gb227, _, none⟩) NB217_227.out _).trans (((cell_far (p := ⟨gb227, _, none⟩) NB217_227.out _).trans (hHeld.1)))))), ((cell_far (p := ⟨gb227, _, none⟩) NB217_227.out _).trans (((cell_far (p := ⟨gb227, _, none⟩) NB217_227.out _).trans (((cell_far (p := ⟨gb227, _, none⟩) NB217_227.out _).trans (hHeld.2.1)))))), ((cell_far (p := ⟨gb227, _, none⟩) NB217_227.out _).trans (((cell_far (p := ⟨gb227, _, none⟩) NB217_227.out _).trans (((cell_far (p := ⟨gb227, _, none⟩) NB217_227.out _).trans (hHeld.2.2.1)))))), ((cell_far (p := ⟨gb227, _, none⟩) NB217_227.out _).trans (((cell_far (p := ⟨gb227, _, none⟩) NB217_227.out _).trans (((cell_far (p := ⟨gb227, _, none⟩) NB217_227.out _).trans (hHeld.2.2.2))))))⟩ (fun hHeld => ?_)
   clear hK K
   refine r1_ 11 ?_
   refine done_ (done_of HT_.out (by kernel_rfl)) ?_
   have hnb36 := NB227_217.out
   have hnc36 := NB217_227.out
   obtain ⟨_, _, _, _, _, _⟩ := cc3 BK227
   try go_wp2_with (first | (go_at_call 31; (try simp only [i64_w, i32_w]); (with_reducible refine (spec_l1In.calls a1 0 (wrap64 ((t223.length : Int) - 1)) false _ A8.out).mono ?_); rintro e w' ⟨rfl, ⟨nd, rfl⟩⟩))
   go_ret
   exact ⟨se, sbw⟩
 ·replace H := im H
  obtain rfl := Option.some.inj H
  go_enter Tryz.func98, Tryz.ntmps98
  try go_wp2_with (first | ((with_reducible refine gd 4 rfl ?_); (try (refine gate_guard (by rfl) ?_; dsimp only)); refine bx 4 #[.int .i64 a0_0, .int .i64 a0_1, .int .i64 a0_2, .slice A0_3 l0_3.length c0_3] 32 ?_; intro gb217 hg w38 hbox hb; have GW217 := bz w hg; have GE217 := bz w hg; replace HB := bs hb; have BK217 := am hbox; clear hb hbox hg))
  replace BK217 := am (blk_drew BK217.out)
  replace HB := am (below_drew1 HB.out)
  refine start_ (n := 12) (S := fun w' => w'.cell? ⟨gb217, 0, none⟩ = some (.int .i64 a0_0) ∧ w'.cell? ⟨gb217, 1, none⟩ = some (.int .i64 a0_1) ∧ w'.cell? ⟨gb217, 2, none⟩ = some (.int .i64 a0_2) ∧ w'.cell? ⟨gb217, 3, none⟩ = some (.slice A0_3 l0_3.length c0_3)) (ds := []) (bt 12 0) (by kernel_rfl) rfl (by kernel_rfl) ⟨bc0 BK217, bc1 BK217, bc2 BK217, bc3 BK217⟩ (fun hHeld => ?_); refine with_tabW spec_l19Next.tab1 spec_l19Next.bits1 (fun HT_ HW_ => ?_)
  generalize w38.drew = w39 at BK217 HB hHeld ⊢
  refine r2_ 2 4 ?_
  refine tv_ 0 ?_
  refine tv_ 1 ?_
  refine join_ (σ := Value × Value × Nat) 2 (bt 12 1023) (fun s_ => [(15, .int .i64 t218), (17, .tuple #[.agg #[.int .i64 t219, s_.1, s_.2.1], .bool false]), (9, .pointer (some ⟨s_.2.2, 0, none⟩)), (11, .tuple #[.agg #[.int .i64 t219, s_.1, s_.2.1], .bool false]), (18, .agg #[.int .i64 t219, s_.1, s_.2.1]), (19, .bool false)]) (fun s_ w' => (w'.cell? ⟨gb217, 0, none⟩ = some (.int .i64 a0_0) ∧ w'.cell? ⟨gb217, 1, none⟩ = some (.int .i64 a0_1) ∧ w'.cell? ⟨gb217, 2, none⟩ = some (.int .i64 a0_2) ∧ w'.cell? ⟨gb217, 3, none⟩ = some (.slice A0_3 l0_3.length c0_3)) ∧ (Kd.R (Kd.int .i64) 3 w' w.heap.size (fun k_ => some k_ ≠ (s_.2.1 : Value).ownBlock) s_.1 t220) ∧ (Kd.R (Kd.int .i64) 3 w' w.heap.size (fun k_ => some k_ ≠ (s_.1 : Value).ownBlock) s_.2.1 t223) ∧ (w'.heap[gb217]? = some (.cells #[.int .i64 a0_0, .int .i64 a0_1, .int .i64 a0_2, .slice A0_3 l0_3.length c0_3] 32 (0, 0))) ∧ (w'.heap[s_.2.2]? = some (.cells #[.int .i64 0, .slice none 0 0, .slice none 0 0] 50 (0, 0))) ∧ (w.heap.size ≤ s_.2.2) ∧ (w.heap.size ≤ s_.2.2) ∧ (gb217 ≠ s_.2.2) ∧ (s_.2.2 ≠ gb217) ∧ (Below w.heap.size w w')) ?_ ?_
  rotate_left
  ·intro hCont
   refine tw_ 3 9 (fun K hK => ?_) (fun K hK => ?_)
   ·skip
    refine goes_ Tryz.func64 (by kernel_rfl) rfl #[.agg #[.int .i64 a0_0, .int .i64 a0_1, .int .i64 a0_2, .slice A0_3 l0_3.length c0_3], .int .i64 a3] (by rfl) rfl rfl sl ?_
    with_reducible refine (spec_PieceAt.calls k a0_0 a0_1 a0_2 _ _ l0_3 a3 t218 _ ?side1 ?side2 A5.out).mono ?_
    (case side1 => exact cb HR0_3)
    (case side2 => exact HC0_3.out)
    rintro e w40 ⟨rfl, hb⟩
    refine ⟨_, rfl, ?_⟩
    replace BK217 := bb BK217 hb
    replace HB := bsw hb
    (try clear hb)
    refine hw_ hK ⟨bc0 BK217, bc1 BK217, bc2 BK217, bc3 BK217⟩ (fun hHeld => ?_)
    clear hK K
    refine tw_ 5 9 (fun K hK => ?_) (fun K hK => ?_)
    ·skip
     refine goes_ Tryz.func65 (by kernel_rfl) rfl #[.agg #[.int .i64 a0_0, .int .i64 a0_1, .int .i64 a0_2, .slice A0_3 l0_3.length c0_3], .int .i64 t218, .int .i64 a2] (by rfl) rfl rfl sl ?_
     with_reducible refine (spec_TableIn.calls a0_0 a0_1 a0_2 _ _ l0_3 t218 a2 t219 t220 t223 false _ ?side1 ?side2 A6.out).mono ?_
     (case side1 => exact cb HR0_3)
     (case side2 => exact HC0_3.out)
     rintro e w41 ⟨v221, v224, rfl, ho0, ho1, hb⟩
     refine ⟨_, rfl, ?_⟩
     have HO222 := am (Kd.R_lower ho0 (below_size (sbw)))
     have HO225 := am (Kd.R_lower ho1 (below_size (sbw)))
     replace BK217 := bb BK217 hb
     replace HB := bsw hb
     (try clear hb)
     (try clear ho0)
     (try clear ho1)
     refine hw_ hK ⟨bc0 BK217, bc1 BK217, bc2 BK217, bc3 BK217⟩ (fun hHeld => ?_)
     clear hK K
     refine r3_ 6 7 8 ?_
     refine ow_ 9 (fun K hK => ?_)
     refine box_step ?hg (N := 9) ?hd (cs := #[.int .i64 0, .slice none 0 0, .slice none 0 0]) (t := 50) ?hr ?_; (case hd => rfl); (case hg => rfl); (case hr => first | (go_simp; done) | (go_simp; rfl))
     intro gb227 hg w42 hbox hb
     replace HO222 := rb HO222 hb
     replace HO225 := rb HO225 hb
     have GW227 := bzw w hg
     have GE227 := bzw w hg
     replace HB := bsw hb
     have BK227 := am hbox
     have NB217_227 := nl BK217 hg
     have NB227_217 := ng BK217 hg
     replace BK217 := bb BK217 hb
     clear hb hbox hg
     refine hw_ hK ⟨bc0 BK217, bc1 BK217, bc2 BK217, bc3 BK217⟩ (fun hHeld => ?_)
     clear hK K
     exact norm_ a6_0 (hCont (v221, v224, gb227) _ ⟨hHeld, (sr HO222), (sr HO225), (sk BK217), (sk BK227), GW227.out, GE227.out, NB217_227.out, NB227_217.out, (sbw)⟩)
    ·skip
     refine box_step ?hg (N := 9) ?hd (cs := #[.int .i64 0, .slice none 0 0, .slice none 0 0]) (t := 50) ?hr ?_; (case hd => rfl); (case hg => rfl); (case hr => first | (go_simp; done) | (go_simp; rfl))
     intro gb227 hg w41 hbox hb
     have GW227 := bzw w hg
     have GE227 := bzw w hg
     replace HB := bsw hb
     have BK227 := am hbox
     have NB217_227 := nl BK217 hg
     have NB227_217 := ng BK217 hg
     replace BK217 := bb BK217 hb
     clear hb hbox hg
     refine hw_ hK ⟨bc0 BK217, bc1 BK217, bc2 BK217, bc3 BK217⟩ (fun hHeld => ?_)
     clear hK K
     refine ow_ 5 (fun K hK => ?_)
     refine goes_ Tryz.func65 (by kernel_rfl) rfl #[.agg #[.int .i64 a0_0, .int .i64 a0_1, .int .i64 a0_2, .slice A0_3 l0_3.length c0_3], .int .i64 t218, .int .i64 a2] (by rfl) rfl rfl sl ?_
     with_reducible refine (spec_TableIn.calls a0_0 a0_1 a0_2 _ _ l0_3 t218 a2 t219 t220 t223 false _ ?side1 ?side2 A6.out).mono ?_
     (case side1 => exact cb HR0_3)
     (case side2 => exact HC0_3.out)
     rintro e w42 ⟨v221, v224, rfl, ho0, ho1, hb⟩
     refine ⟨_, rfl, ?_⟩
     have HO222 := am (Kd.R_lower ho0 (below_size (sbw)))
     have HO225 := am (Kd.R_lower ho1 (below_size (sbw)))
     replace BK217 := bb BK217 hb
     replace BK227 := bb BK227 hb
     replace HB := bsw hb
     (try clear hb)
     (try clear ho0)
     (try clear ho1)
     refine hw_ hK ⟨bc0 BK217, bc1 BK217, bc2 BK217, bc3 BK217⟩ (fun hHeld => ?_)
     clear hK K
     refine r3_ 6 7 8 ?_
     exact norm_ a6_0 (hCont (v221, v224, gb227) _ ⟨hHeld, (sr HO222), (sr HO225), (sk BK217), (sk BK227), GW227.out, GE227.out, NB217_227.out, NB227_217.out, (sbw)⟩)
   ·skip
    refine box_step ?hg (N := 9) ?hd (cs := #[.int .i64 0, .slice none 0 0, .slice none 0 0]) (t := 50) ?hr ?_; (case hd => rfl); (case hg => rfl); (case hr => first | (go_simp; done) | (go_simp; rfl))
    intro gb227 hg w40 hbox hb
    have GW227 := bzw w hg
    have GE227 := bzw w hg
    replace HB := bsw hb
    have BK227 := am hbox
    have NB217_227 := nl BK217 hg
    have NB227_217 := ng BK217 hg
    replace BK217 := bb BK217 hb
    clear hb hbox hg
    refine hw_ hK ⟨bc0 BK217, bc1 BK217, bc2 BK217, bc3 BK217⟩ (fun hHeld => ?_)
    clear hK K
    refine ow_ 3 (fun K hK => ?_)
    refine goes_ Tryz.func64 (by kernel_rfl) rfl #[.agg #[.int .i64 a0_0, .int .i64 a0_1, .int .i64 a0_2, .slice A0_3 l0_3.length c0_3], .int .i64 a3] (by rfl) rfl rfl sl ?_
    with_reducible refine (spec_PieceAt.calls k a0_0 a0_1 a0_2 _ _ l0_3 a3 t218 _ ?side1 ?side2 A5.out).mono ?_
    (case side1 => exact cb HR0_3)
    (case side2 => exact HC0_3.out)
    rintro e w41 ⟨rfl, hb⟩
    refine ⟨_, rfl, ?_⟩
    replace BK217 := bb BK217 hb
    replace BK227 := bb BK227 hb
    replace HB := bsw hb
    (try clear hb)
    refine hw_ hK ⟨bc0 BK217, bc1 BK217, bc2 BK217, bc3 BK217⟩ (fun hHeld => ?_)
    clear hK K
    refine ow_ 5 (fun K hK => ?_)
    refine goes_ Tryz.func65 (by kernel_rfl) rfl #[.agg #[.int .i64 a0_0, .int .i64 a0_1, .int .i64 a0_2, .slice A0_3 l0_3.length c0_3], .int .i64 t218, .int .i64 a2] (by rfl) rfl rfl sl ?_
    with_reducible refine (spec_TableIn.calls a0_0 a0_1 a0_2 _ _ l0_3 t218 a2 t219 t220 t223 false _ ?side1 ?side2 A6.out).mono ?_
    (case side1 => exact cb HR0_3)
    (case side2 => exact HC0_3.out)
    rintro e w42 ⟨v221, v224, rfl, ho0, ho1, hb⟩
    refine ⟨_, rfl, ?_⟩
    have HO222 := am (Kd.R_lower ho0 (below_size (sbw)))
    have HO225 := am (Kd.R_lower ho1 (below_size (sbw)))
    replace BK217 := bb BK217 hb
    replace BK227 := bb BK227 hb
    replace HB := bsw hb
    (try clear hb)
    (try clear ho0)
    (try clear ho1)
    refine hw_ hK ⟨bc0 BK217, bc1 BK217, bc2 BK217, bc3 BK217⟩ (fun hHeld => ?_)
    clear hK K
    refine r3_ 6 7 8 ?_
    exact norm_ a6_0 (hCont (v221, v224, gb227) _ ⟨hHeld, (sr HO222), (sr HO225), (sk BK217), (sk BK227), GW227.out, GE227.out, NB217_227.out, NB227_217.out, (sbw)⟩)
  rintro ⟨v221, v224, gb227⟩ w43 ⟨hS_, h0_, h1_, h2_, h3_, h4_, h5_, h6_, h7_, h8_⟩
  have HO222 : Aside0 (Kd.R (Kd.int .i64) 3 w43 w.heap.size (fun k_ => some k_ ≠ (v224 : Value).ownBlock) v221 t220) := ⟨h0_⟩
  have HO225 : Aside0 (Kd.R (Kd.int .i64) 3 w43 w.heap.size (fun k_ => some k_ ≠ (v221 : Value).ownBlock) v224 t223) := ⟨h1_⟩
  replace BK217 : Aside0 (w43.heap[gb217]? = some (.cells #[.int .i64 a0_0, .int .i64 a0_1, .int .i64 a0_2, .slice A0_3 l0_3.length c0_3] 32 (0, 0))) := ⟨h2_⟩
  have BK227 : Aside0 (w43.heap[gb227]? = some (.cells #[.int .i64 0, .slice none 0 0, .slice none 0 0] 50 (0, 0))) := ⟨h3_⟩
  have GW227 : Aside0 (w.heap.size ≤ gb227) := ⟨h4_⟩
  have GE227 : Aside0 (w.heap.size ≤ gb227) := ⟨h5_⟩
  have NB217_227 : Aside0 (gb217 ≠ gb227) := ⟨h6_⟩
  have NB227_217 : Aside0 (gb227 ≠ gb217) := ⟨h7_⟩
  replace HB : Aside0 (Below w.heap.size w w43) := ⟨h8_⟩
  clear h0_ h1_ h2_ h3_ h4_ h5_ h6_ h7_ h8_
  have hHeld : w43.cell? ⟨gb217, 0, none⟩ = some (.int .i64 a0_0) ∧ w43.cell? ⟨gb217, 1, none⟩ = some (.int .i64 a0_1) ∧ w43.cell? ⟨gb217, 2, none⟩ = some (.int .i64 a0_2) ∧ w43.cell? ⟨gb217, 3, none⟩ = some (.slice A0_3 l0_3.length c0_3) := hS_
  obtain ⟨Ao45, co45, eo45⟩ := Kd.R_slice HO222.out
  (first | subst eo45 | (injection eo45 with f1_ f2_ f3_; have f4_ := f1_.symm; have f5_ := f3_.symm; clear f1_ f2_ f3_; subst f4_; subst f5_))
  obtain ⟨Ao47, co47, eo47⟩ := Kd.R_slice HO225.out
  (first | subst eo47 | (injection eo47 with f1_ f2_ f3_; have f4_ := f1_.symm; have f5_ := f3_.symm; clear f1_ f2_ f3_; subst f4_; subst f5_))
  refine norm_ (a' := ?_) ?_ ?_
  rotate_left
  ·simp only [putAll, Act.put, List.setIfInBounds_toArray, List.set_cons_zero, List.set_cons_succ]
   rfl
  refine one_ (i := 10) (N := none) (bt 12 2047) rfl rfl (one_of HT_.out (by kernel_rfl)) (by decide) (fun K hK => ?_)
  obtain ⟨hs44, hfs44⟩ := cc1 BK227
  have hns44_0 := NB217_227.out
  have hms44_0 := NB227_217.out
  have hs46 := bc1 BK227
  have hfs46 := bf BK227 1
  have hns46_0 := NB217_227.out
  have hms46_0 := NB227_217.out
  have hs48 := bc2 BK227
  have hfs48 := bf BK227 2
  have hns48_0 := NB217_227.out
  have hms48_0 := NB227_217.out
  refine skip_ (w1 := ?_) (by rfl) rfl ?_ ?_
  rotate_left
  ·go_simp
   rfl
  refine hK.out _ _ ⟨((cell_far (p := ⟨gb227, _, none⟩) NB217_227.out _).trans (((cell_far (p := ⟨gb227, _, none⟩) NB217_227.out _).trans (((cell_far (p := ⟨gb227, _, none⟩) NB217_227.out _).trans (hHeld.1)))))), ((cell_far (p := ⟨gb227, _, none⟩) NB217_227.out _).trans (((cell_far (p := ⟨gb227, _, none⟩) NB217_227.out _).trans (((cell_far (p := ⟨gb227, _, none⟩) NB217_227.out _).trans (hHeld.2.1)))))), ((cell_far (p := ⟨gb227, _, none⟩) NB217_227.out _).trans (((cell_far (p := ⟨gb227, _, none⟩) NB217_227.out _).trans (((cell_far (p := ⟨gb227, _, none⟩) NB217_227.out _).trans (hHeld.2.2.1)))))), ((cell_far (p := ⟨gb227, _, none⟩) NB217_227.out _).trans (((cell_far (p := ⟨gb227, _, none⟩) NB217_227.out _).trans (((cell_far (p := ⟨gb227, _, none⟩) NB217_227.out _).trans (hHeld.2.2.2))))))⟩ (fun hHeld => ?_)
  clear hK K
  refine r1_ 11 ?_
  refine done_ (done_of HT_.out (by kernel_rfl)) ?_
  try go_wp2
  go_ret
  exact ⟨se, sbw⟩

end Go.Proofs.YthnlkgbhohchoaaGreat.QFnExactRepairedAt
