/- What the Go functions of the law FnExactHeldAt come to, as Lean functions, and that they do: by a program of the session, out of the kit's printer. Conditions: none. (squeezed). -/
import Derived.Test.YtlakjlolahjphaaSq
import Derived.Test.YtlakjlolahjphaaQFnExactHeldAtx0
import Derived.Test.YtlakjlolahjphaaQFnExactHeldAtx4
import Derived.Test.YtlakjlolahjphaaQFnExactHeldAtx5
import Derived.Test.YtlakjlolahjphaaQFnExactHeldAtx8
namespace Go.Proofs.Ytlakjlolahjphaa.QFnExactHeldAt
open Go.RowKit Go.Proofs.YtlakjlolahjphaaW.PrintWords Go.Proofs.YtlakjlolahjphaaW.PrintLast Go.Proofs.YtlakjlolahjphaaW.PrintMore Go.Proofs.Ytlakjlolahjphaa.Open Go.Proofs.Ytlakjlolahjphaa.Sq
attribute [local go_sem] max2_int min2_int max_two min_two max_three min_three max_four min_four   -- for this text's walks alone
attribute [local go_sem] isSome_set
set_option linter.unusedVariables false
set_option linter.unusedSimpArgs false

/-! ### spec_l19Next: function 65 -/
def spec_l19Next.f (k : Nat) (a0_0 : Int) (a0_1 : Int) (a0_2 : Int) (l0_3 : List (S106)) (a1 : Int) (a2 : Int) (a3 : Int) : Option (Int) := (spec_PieceAt.f k a0_0 a0_1 a0_2 l0_3 a3).bind fun t308 => ((spec_TableIn.f a0_0 a0_1 a0_2 l0_3 t308 a2).bind fun bt309 => (if bt309.2.2.2 = true then ((spec_l1In.f a1 0 (wrap64 ((bt309.2.2.1.length : Int) - 1))).bind fun t318 => (if t318 = true then (if 0 ≤ a1 then (if a1 < (bt309.2.2.1.length : Int) then (some (rd bt309.2.2.1 a1)) else (none)) else (none)) else (some (-1)))) else (some (-1))))
theorem spec_l19Next.mono : ∀ a0 a1 a2 a3 a4 a5 a6 k, LeO (spec_l19Next.f k a0 a1 a2 a3 a4 a5 a6) (spec_l19Next.f (k + 1) a0 a1 a2 a3 a4 a5 a6) := by
  intro a0 a1 a2 a3 a4 a5 a6 k
  unfold spec_l19Next.f
  have m0 := @spec_PieceAt.mono
  exact mo
def spec_l19Next.T1 : Bool × List (List Nat × List Nat) := (true, [([], []), ([], []), ([], []), ([1, 2], [1, 2]), ([], []), ([0, 3, 4, 3], [0, 3, 4]), ([5], [5]), ([6], [6]), ([6], [6]), ([], []), ([9, 7, 5, 0, 1, 2, 3, 4, 5, 6, 7, 9], [7, 9]), ([8, 10, 0, 1, 2, 3, 4, 5, 6, 7, 8, 9, 10], [8])])
def spec_l19Next.B1 : List Nat := [0, 0, 0, 6, 0, 31, 63, 127, 127, 0, 767, 2047]
theorem spec_l19Next.tab1 : rtab .any (opsOf Try.f65 1) = spec_l19Next.T1 := by kernel_rfl
theorem spec_l19Next.bits1 : waitsOk spec_l19Next.T1.2 spec_l19Next.B1 = true := by kernel_rfl
set_option maxHeartbeats 8000000 in
set_option maxRecDepth 100000 in
theorem spec_l19Next.calls (k : Nat) (a0_0 : Int) (a0_1 : Int) (a0_2 : Int) (A0_3 : Option Addr) (c0_3 : Nat) (l0_3 : List (S106)) (a1 : Int) (a2 : Int) (a3 : Int) (r : Int) (w : World) (hr0_3 : Kd.C k106 w A0_3 l0_3.length l0_3) (hc0_3 : l0_3.length ≤ c0_3) (h : spec_l19Next.f k a0_0 a0_1 a0_2 l0_3 a1 a2 a3 = some r) :
    Calls Try.prog 65 #[.agg #[.int .i64 a0_0, .int .i64 a0_1, .int .i64 a0_2, .slice A0_3 l0_3.length c0_3], .int .i64 a1, .int .i64 a2, .int .i64 a3] w fun e w' => e = .returned (.int .i64 r) ∧ Below w.heap.size w w' := by
 have hu29 := Try.underlying29
 have hu65 := Try.underlying65
 have HR0_3 := Aside0.mk hr0_3
 have HC0_3 := Aside0.mk hc0_3
 clear hr0_3 hc0_3
 have HB := Aside0.mk (Below.refl w.heap.size w)
 have H : ((spec_PieceAt.f k a0_0 a0_1 a0_2 l0_3 a3).bind fun t308 => ((spec_TableIn.f a0_0 a0_1 a0_2 l0_3 t308 a2).bind fun bt309 => (if bt309.2.2.2 = true then ((spec_l1In.f a1 0 (wrap64 ((bt309.2.2.1.length : Int) - 1))).bind fun t318 => (if t318 = true then (if 0 ≤ a1 then (if a1 < (bt309.2.2.1.length : Int) then (some (rd bt309.2.2.1 a1)) else (none)) else (none)) else (some (-1)))) else (some (-1))))) = some r := h
 clear h
 obtain ⟨t308, A5, H⟩ := bnd H
 obtain ⟨⟨t309, t310, t313, t316⟩, A6, H⟩ := bnd H
 replace H : (if t316 = true then ((spec_l1In.f a1 0 (wrap64 ((t313.length : Int) - 1))).bind fun t318 => (if t318 = true then (if 0 ≤ a1 then (if a1 < (t313.length : Int) then (some (rd t313 a1)) else (none)) else (none)) else (some (-1)))) else (some (-1))) = some r := H
 obtain rfl | rfl := tt t316
 ·replace H := ip H
  obtain ⟨t318, A8, H⟩ := bnd H
  obtain rfl | rfl := tt t318
  ·replace H := ip H
   obtain ⟨c10b0, H⟩ := id_ H
   obtain ⟨c11b0, H⟩ := id_ H
   obtain rfl := Option.some.inj H
   go_enter Try.func65, Try.ntmps65
   try go_wp2_with (first | ((with_reducible refine gate_dst (N := 4) rfl ?_); (try (refine gate_guard (by rfl) ?_; dsimp only)); refine bx 4 #[.int .i64 a0_0, .int .i64 a0_1, .int .i64 a0_2, .slice A0_3 l0_3.length c0_3] 29 ?_; intro gb307 hg w12 hbox hb; have BK307 := Aside0.mk hbox; have GW307 := bz w hg; have GE307 := bz w hg; replace HB := bs hb; clear hb hbox hg))
   replace BK307 := Aside0.mk (blk_drew BK307.out)
   replace HB := Aside0.mk (below_drew1 HB.out)
   refine start_ (n := 12) (S := fun w' => w'.cell? ⟨gb307, 0, none⟩ = some (.int .i64 a0_0) ∧ w'.cell? ⟨gb307, 1, none⟩ = some (.int .i64 a0_1) ∧ w'.cell? ⟨gb307, 2, none⟩ = some (.int .i64 a0_2) ∧ w'.cell? ⟨gb307, 3, none⟩ = some (.slice A0_3 l0_3.length c0_3)) (ds := []) #[false, false, false, false, false, false, false, false, false, false, false, false] (by kernel_rfl) rfl rfl ⟨bc0 BK307, bc1 BK307, bc2 BK307, bc3 BK307⟩ (fun hHeld => ?_); refine with_tabW spec_l19Next.tab1 spec_l19Next.bits1 (fun HT_ HW_ => ?_)
   generalize w12.drew = w13 at BK307 HB hHeld ⊢
   refine put 2 14 #[false, false, true, false, false, false, false, false, false, false, false, false] HT_ ?_
   refine put 4 16 #[false, false, true, false, true, false, false, false, false, false, false, false] HT_ ?_
   refine tat4 0 12 #[true, false, true, false, true, false, false, false, false, false, false, false] HT_ HW_ hHeld ?_
   refine tat4 1 13 #[true, true, true, false, true, false, false, false, false, false, false, false] HT_ HW_ hHeld ?_
   refine join_ (σ := Value × Value × Nat) 2 #[true, true, true, true, true, true, true, true, true, true, false, false] (fun s_ => [(15, .int .i64 t308), (17, .tuple #[.agg #[.int .i64 t309, s_.1, s_.2.1], .bool true]), (9, .pointer (some ⟨s_.2.2, 0, none⟩)), (11, .tuple #[.agg #[.int .i64 t309, s_.1, s_.2.1], .bool true]), (18, .agg #[.int .i64 t309, s_.1, s_.2.1]), (19, .bool true)]) (fun s_ w' => (w'.cell? ⟨gb307, 0, none⟩ = some (.int .i64 a0_0) ∧ w'.cell? ⟨gb307, 1, none⟩ = some (.int .i64 a0_1) ∧ w'.cell? ⟨gb307, 2, none⟩ = some (.int .i64 a0_2) ∧ w'.cell? ⟨gb307, 3, none⟩ = some (.slice A0_3 l0_3.length c0_3)) ∧ (Kd.R (Kd.int .i64) 3 w' w.heap.size (fun k_ => some k_ ≠ (s_.2.1 : Value).ownBlock) s_.1 t310) ∧ (Kd.R (Kd.int .i64) 3 w' w.heap.size (fun k_ => some k_ ≠ (s_.1 : Value).ownBlock) s_.2.1 t313) ∧ (w'.heap[gb307]? = some (.cells #[.int .i64 a0_0, .int .i64 a0_1, .int .i64 a0_2, .slice A0_3 l0_3.length c0_3] 29 (0, 0))) ∧ (w'.heap[s_.2.2]? = some (.cells #[.int .i64 0, .slice none 0 0, .slice none 0 0] 65 (0, 0))) ∧ (w.heap.size ≤ s_.2.2) ∧ (w.heap.size ≤ s_.2.2) ∧ (gb307 ≠ s_.2.2) ∧ (s_.2.2 ≠ gb307) ∧ (Below w.heap.size w w')) ?_ ?_
   rotate_left
   ·intro hCont
    refine two_ (i := 3) (j := 9) (Ni := some 15) (Nj := some 9) #[true, true, true, true, true, false, false, false, false, false, false, false] #[true, true, true, false, true, false, false, false, false, true, false, false] rfl rfl rfl rfl (two_of HT_.out (by kernel_rfl)) (by decide) (by decide) (fun K hK => ?_) (fun K hK => ?_)
    ·skip
     refine goes_ Try.func103 (by kernel_rfl) rfl #[.agg #[.int .i64 a0_0, .int .i64 a0_1, .int .i64 a0_2, .slice A0_3 l0_3.length c0_3], .int .i64 a3] (by rfl) rfl rfl sl ?_
     with_reducible refine (spec_PieceAt.calls k a0_0 a0_1 a0_2 _ _ l0_3 a3 t308 _ ?side1 ?side2 A5.out).mono ?_
     (case side1 => exact cb HR0_3)
     (case side2 => exact HC0_3.out)
     rintro e w14 ⟨rfl, hb⟩
     refine ⟨_, rfl, ?_⟩
     replace BK307 := bb BK307 hb
     replace HB := bsw hb
     (try clear hb)
     (try clear hb2)
     (try clear hk)
     (try clear hi)
     refine hK.out _ _ ⟨bc0 BK307, bc1 BK307, bc2 BK307, bc3 BK307⟩ (fun hHeld => ?_)
     clear hK K
     refine norm_ (a' := ?_) ?_ ?_
     rotate_left
     ·show Act.put _ (some 15) _ = _
      simp only [Act.put, List.setIfInBounds_toArray, List.set_cons_zero, List.set_cons_succ, i64_w, i32_w]
      rfl
     refine two_ (i := 5) (j := 9) (Ni := some 17) (Nj := some 9) #[true, true, true, true, true, true, false, false, false, false, false, false] #[true, true, true, true, true, false, false, false, false, true, false, false] rfl rfl rfl rfl (two_of HT_.out (by kernel_rfl)) (by decide) (by decide) (fun K hK => ?_) (fun K hK => ?_)
     ·skip
      refine goes_ Try.func104 (by kernel_rfl) rfl #[.agg #[.int .i64 a0_0, .int .i64 a0_1, .int .i64 a0_2, .slice A0_3 l0_3.length c0_3], .int .i64 t308, .int .i64 a2] (by rfl) rfl rfl sl ?_
      with_reducible refine (spec_TableIn.calls a0_0 a0_1 a0_2 _ _ l0_3 t308 a2 t309 t310 t313 true _ ?side1 ?side2 A6.out).mono ?_
      (case side1 => exact cb HR0_3)
      (case side2 => exact HC0_3.out)
      rintro e w15 ⟨v311, v314, rfl, ho0, ho1, hb⟩
      refine ⟨_, rfl, ?_⟩
      have HO312 := Aside0.mk (Kd.R_lower ho0 (below_size (sbw)))
      have HO315 := Aside0.mk (Kd.R_lower ho1 (below_size (sbw)))
      replace BK307 := bb BK307 hb
      replace HB := bsw hb
      (try clear hb)
      (try clear hb2)
      (try clear hk)
      (try clear hi)
      (try clear ho0)
      (try clear ho1)
      refine hK.out _ _ ⟨bc0 BK307, bc1 BK307, bc2 BK307, bc3 BK307⟩ (fun hHeld => ?_)
      clear hK K
      refine norm_ (a' := ?_) ?_ ?_
      rotate_left
      ·show Act.put _ (some 17) _ = _
       simp only [Act.put, List.setIfInBounds_toArray, List.set_cons_zero, List.set_cons_succ, i64_w, i32_w]
       rfl
      refine put 6 11 #[true, true, true, true, true, true, true, false, false, false, false, false] HT_ ?_
      refine put 7 18 #[true, true, true, true, true, true, true, true, false, false, false, false] HT_ ?_
      refine put 8 19 #[true, true, true, true, true, true, true, true, true, false, false, false] HT_ ?_
      refine one_ (i := 9) (N := some 9) #[true, true, true, true, true, true, true, true, true, true, false, false] rfl rfl (one_of HT_.out (by kernel_rfl)) (by decide) (fun K hK => ?_)
      refine box_step ?hg (N := 9) ?hd (cs := #[.int .i64 0, .slice none 0 0, .slice none 0 0]) (t := 65) ?hr ?_; (case hd => rfl); (case hg => rfl); (case hr => first | (go_simp; done) | (go_simp; rfl))
      intro gb317 hg w16 hbox hb
      replace HO312 := Aside0.mk (Kd.R_below (sr HO312) hb)
      replace HO315 := Aside0.mk (Kd.R_below (sr HO315) hb)
      have BK317 := Aside0.mk hbox
      have GW317 := bzw w hg
      have GE317 := bzw w hg
      replace HB := bsw hb
      have NB307_317 := nl BK307 hg
      have NB317_307 := ng BK307 hg
      replace BK307 := bb BK307 hb
      clear hb hbox hg
      refine hK.out _ _ ⟨bc0 BK307, bc1 BK307, bc2 BK307, bc3 BK307⟩ (fun hHeld => ?_)
      clear hK K
      refine norm_ (a' := ?_) ?_ ?_
      rotate_left
      ·show Act.put _ (some 9) _ = _
       simp only [Act.put, List.setIfInBounds_toArray, List.set_cons_zero, List.set_cons_succ, i64_w, i32_w]
       rfl
      exact norm_ (by simp only [putAll, Act.put, List.setIfInBounds_toArray, List.set_cons_zero, List.set_cons_succ]) (hCont (v311, v314, gb317) _ ⟨hHeld, (sr HO312), (sr HO315), (sk BK307), (sk BK317), GW317.out, GE317.out, NB307_317.out, NB317_307.out, (sbw)⟩)
     ·skip
      refine box_step ?hg (N := 9) ?hd (cs := #[.int .i64 0, .slice none 0 0, .slice none 0 0]) (t := 65) ?hr ?_; (case hd => rfl); (case hg => rfl); (case hr => first | (go_simp; done) | (go_simp; rfl))
      intro gb317 hg w15 hbox hb
      have BK317 := Aside0.mk hbox
      have GW317 := bzw w hg
      have GE317 := bzw w hg
      replace HB := bsw hb
      have NB307_317 := nl BK307 hg
      have NB317_307 := ng BK307 hg
      replace BK307 := bb BK307 hb
      clear hb hbox hg
      refine hK.out _ _ ⟨bc0 BK307, bc1 BK307, bc2 BK307, bc3 BK307⟩ (fun hHeld => ?_)
      clear hK K
      refine norm_ (a' := ?_) ?_ ?_
      rotate_left
      ·show Act.put _ (some 9) _ = _
       simp only [Act.put, List.setIfInBounds_toArray, List.set_cons_zero, List.set_cons_succ, i64_w, i32_w]
       rfl
      refine one_ (i := 5) (N := some 17) #[true, true, true, true, true, true, false, false, false, true, false, false] rfl rfl (one_of HT_.out (by kernel_rfl)) (by decide) (fun K hK => ?_)
      refine goes_ Try.func104 (by kernel_rfl) rfl #[.agg #[.int .i64 a0_0, .int .i64 a0_1, .int .i64 a0_2, .slice A0_3 l0_3.length c0_3], .int .i64 t308, .int .i64 a2] (by rfl) rfl rfl sl ?_
      with_reducible refine (spec_TableIn.calls a0_0 a0_1 a0_2 _ _ l0_3 t308 a2 t309 t310 t313 true _ ?side1 ?side2 A6.out).mono ?_
      (case side1 => exact cb HR0_3)
      (case side2 => exact HC0_3.out)
      rintro e w16 ⟨v311, v314, rfl, ho0, ho1, hb⟩
      refine ⟨_, rfl, ?_⟩
      have HO312 := Aside0.mk (Kd.R_lower ho0 (below_size (sbw)))
      have HO315 := Aside0.mk (Kd.R_lower ho1 (below_size (sbw)))
      replace BK307 := bb BK307 hb
      replace BK317 := bb BK317 hb
      replace HB := bsw hb
      (try clear hb)
      (try clear hb2)
      (try clear hk)
      (try clear hi)
      (try clear ho0)
      (try clear ho1)
      refine hK.out _ _ ⟨bc0 BK307, bc1 BK307, bc2 BK307, bc3 BK307⟩ (fun hHeld => ?_)
      clear hK K
      refine norm_ (a' := ?_) ?_ ?_
      rotate_left
      ·show Act.put _ (some 17) _ = _
       simp only [Act.put, List.setIfInBounds_toArray, List.set_cons_zero, List.set_cons_succ, i64_w, i32_w]
       rfl
      refine put 6 11 #[true, true, true, true, true, true, true, false, false, true, false, false] HT_ ?_
      refine put 7 18 #[true, true, true, true, true, true, true, true, false, true, false, false] HT_ ?_
      refine put 8 19 #[true, true, true, true, true, true, true, true, true, true, false, false] HT_ ?_
      exact norm_ (by simp only [putAll, Act.put, List.setIfInBounds_toArray, List.set_cons_zero, List.set_cons_succ]) (hCont (v311, v314, gb317) _ ⟨hHeld, (sr HO312), (sr HO315), (sk BK307), (sk BK317), GW317.out, GE317.out, NB307_317.out, NB317_307.out, (sbw)⟩)
    ·skip
     refine box_step ?hg (N := 9) ?hd (cs := #[.int .i64 0, .slice none 0 0, .slice none 0 0]) (t := 65) ?hr ?_; (case hd => rfl); (case hg => rfl); (case hr => first | (go_simp; done) | (go_simp; rfl))
     intro gb317 hg w14 hbox hb
     have BK317 := Aside0.mk hbox
     have GW317 := bzw w hg
     have GE317 := bzw w hg
     replace HB := bsw hb
     have NB307_317 := nl BK307 hg
     have NB317_307 := ng BK307 hg
     replace BK307 := bb BK307 hb
     clear hb hbox hg
     refine hK.out _ _ ⟨bc0 BK307, bc1 BK307, bc2 BK307, bc3 BK307⟩ (fun hHeld => ?_)
     clear hK K
     refine norm_ (a' := ?_) ?_ ?_
     rotate_left
     ·show Act.put _ (some 9) _ = _
      simp only [Act.put, List.setIfInBounds_toArray, List.set_cons_zero, List.set_cons_succ, i64_w, i32_w]
      rfl
     refine one_ (i := 3) (N := some 15) #[true, true, true, true, true, false, false, false, false, true, false, false] rfl rfl (one_of HT_.out (by kernel_rfl)) (by decide) (fun K hK => ?_)
     refine goes_ Try.func103 (by kernel_rfl) rfl #[.agg #[.int .i64 a0_0, .int .i64 a0_1, .int .i64 a0_2, .slice A0_3 l0_3.length c0_3], .int .i64 a3] (by rfl) rfl rfl sl ?_
     with_reducible refine (spec_PieceAt.calls k a0_0 a0_1 a0_2 _ _ l0_3 a3 t308 _ ?side1 ?side2 A5.out).mono ?_
     (case side1 => exact cb HR0_3)
     (case side2 => exact HC0_3.out)
     rintro e w15 ⟨rfl, hb⟩
     refine ⟨_, rfl, ?_⟩
     replace BK307 := bb BK307 hb
     replace BK317 := bb BK317 hb
     replace HB := bsw hb
     (try clear hb)
     (try clear hb2)
     (try clear hk)
     (try clear hi)
     refine hK.out _ _ ⟨bc0 BK307, bc1 BK307, bc2 BK307, bc3 BK307⟩ (fun hHeld => ?_)
     clear hK K
     refine norm_ (a' := ?_) ?_ ?_
     rotate_left
     ·show Act.put _ (some 15) _ = _
      simp only [Act.put, List.setIfInBounds_toArray, List.set_cons_zero, List.set_cons_succ, i64_w, i32_w]
      rfl
     refine one_ (i := 5) (N := some 17) #[true, true, true, true, true, true, false, false, false, true, false, false] rfl rfl (one_of HT_.out (by kernel_rfl)) (by decide) (fun K hK => ?_)
     refine goes_ Try.func104 (by kernel_rfl) rfl #[.agg #[.int .i64 a0_0, .int .i64 a0_1, .int .i64 a0_2, .slice A0_3 l0_3.length c0_3], .int .i64 t308, .int .i64 a2] (by rfl) rfl rfl sl ?_
     with_reducible refine (spec_TableIn.calls a0_0 a0_1 a0_2 _ _ l0_3 t308 a2 t309 t310 t313 true _ ?side1 ?side2 A6.out).mono ?_
     (case side1 => exact cb HR0_3)
     (case side2 => exact HC0_3.out)
     rintro e w16 ⟨v311, v314, rfl, ho0, ho1, hb⟩
     refine ⟨_, rfl, ?_⟩
     have HO312 := Aside0.mk (Kd.R_lower ho0 (below_size (sbw)))
     have HO315 := Aside0.mk (Kd.R_lower ho1 (below_size (sbw)))
     replace BK307 := bb BK307 hb
     replace BK317 := bb BK317 hb
     replace HB := bsw hb
     (try clear hb)
     (try clear hb2)
     (try clear hk)
     (try clear hi)
     (try clear ho0)
     (try clear ho1)
     refine hK.out _ _ ⟨bc0 BK307, bc1 BK307, bc2 BK307, bc3 BK307⟩ (fun hHeld => ?_)
     clear hK K
     refine norm_ (a' := ?_) ?_ ?_
     rotate_left
     ·show Act.put _ (some 17) _ = _
      simp only [Act.put, List.setIfInBounds_toArray, List.set_cons_zero, List.set_cons_succ, i64_w, i32_w]
      rfl
     refine put 6 11 #[true, true, true, true, true, true, true, false, false, true, false, false] HT_ ?_
     refine put 7 18 #[true, true, true, true, true, true, true, true, false, true, false, false] HT_ ?_
     refine put 8 19 #[true, true, true, true, true, true, true, true, true, true, false, false] HT_ ?_
     exact norm_ (by simp only [putAll, Act.put, List.setIfInBounds_toArray, List.set_cons_zero, List.set_cons_succ]) (hCont (v311, v314, gb317) _ ⟨hHeld, (sr HO312), (sr HO315), (sk BK307), (sk BK317), GW317.out, GE317.out, NB307_317.out, NB317_307.out, (sbw)⟩)
   rintro ⟨v311, v314, gb317⟩ w17 ⟨hS_, h0_, h1_, h2_, h3_, h4_, h5_, h6_, h7_, h8_⟩
   have HO312 : Aside0 (Kd.R (Kd.int .i64) 3 w17 w.heap.size (fun k_ => some k_ ≠ (v314 : Value).ownBlock) v311 t310) := ⟨h0_⟩
   have HO315 : Aside0 (Kd.R (Kd.int .i64) 3 w17 w.heap.size (fun k_ => some k_ ≠ (v311 : Value).ownBlock) v314 t313) := ⟨h1_⟩
   replace BK307 : Aside0 (w17.heap[gb307]? = some (.cells #[.int .i64 a0_0, .int .i64 a0_1, .int .i64 a0_2, .slice A0_3 l0_3.length c0_3] 29 (0, 0))) := ⟨h2_⟩
   have BK317 : Aside0 (w17.heap[gb317]? = some (.cells #[.int .i64 0, .slice none 0 0, .slice none 0 0] 65 (0, 0))) := ⟨h3_⟩
   have GW317 : Aside0 (w.heap.size ≤ gb317) := ⟨h4_⟩
   have GE317 : Aside0 (w.heap.size ≤ gb317) := ⟨h5_⟩
   have NB307_317 : Aside0 (gb307 ≠ gb317) := ⟨h6_⟩
   have NB317_307 : Aside0 (gb317 ≠ gb307) := ⟨h7_⟩
   replace HB : Aside0 (Below w.heap.size w w17) := ⟨h8_⟩
   clear h0_ h1_ h2_ h3_ h4_ h5_ h6_ h7_ h8_
   have hHeld : w17.cell? ⟨gb307, 0, none⟩ = some (.int .i64 a0_0) ∧ w17.cell? ⟨gb307, 1, none⟩ = some (.int .i64 a0_1) ∧ w17.cell? ⟨gb307, 2, none⟩ = some (.int .i64 a0_2) ∧ w17.cell? ⟨gb307, 3, none⟩ = some (.slice A0_3 l0_3.length c0_3) := hS_
   obtain ⟨Ao19, co19, eo19⟩ := Kd.R_slice HO312.out
   (first | subst eo19 | (injection eo19 with f1_ f2_ f3_; have f4_ := f1_.symm; have f5_ := f3_.symm; clear f1_ f2_ f3_; subst f4_; subst f5_))
   obtain ⟨Ao21, co21, eo21⟩ := Kd.R_slice HO315.out
   (first | subst eo21 | (injection eo21 with f1_ f2_ f3_; have f4_ := f1_.symm; have f5_ := f3_.symm; clear f1_ f2_ f3_; subst f4_; subst f5_))
   refine norm_ (a' := ?_) ?_ ?_
   rotate_left
   ·simp only [putAll, Act.put, List.setIfInBounds_toArray, List.set_cons_zero, List.set_cons_succ]
    rfl
   refine one_ (i := 10) (N := none) #[true, true, true, true, true, true, true, true, true, true, true, false] rfl rfl (one_of HT_.out (by kernel_rfl)) (by decide) (fun K hK => ?_)
   obtain ⟨hs18, hfs18⟩ := cc1 BK317
   have hns18_0 := NB307_317.out
   have hms18_0 := NB317_307.out
   have hs20 := bc1 BK317
   have hfs20 := bf BK317 1
   have hns20_0 := NB307_317.out
   have hms20_0 := NB317_307.out
   have hs22 := bc2 BK317
   have hfs22 := bf BK317 2
   have hns22_0 := NB307_317.out
   have hms22_0 := NB317_307.out
   refine skip_ (w1 := ?_) (by rfl) rfl ?_ ?_
   rotate_left
   ·go_simp
    rfl
   refine hK.out _ _ ⟨((cell_far (p := ⟨gb317, _, none⟩) NB307_317.out _).trans (((cell_far (p := ⟨gb317, _, none⟩) NB307_317.out _).trans (((cell_far (p := ⟨gb317, _, none⟩) NB307_317.out _).trans (hHeld.1)))))), ((cell_far (p := ⟨gb317, _, none⟩) NB307_317.out _).trans (((cell_far (p := ⟨gb317, _, none⟩) NB307_317.out _).trans (((cell_far (p := ⟨gb317, _, none⟩) NB307_317.out _).trans (hHeld.2.1)))))), ((cell_far (p := ⟨gb317, _, none⟩) NB307_317.out _).trans (((cell_far (p := ⟨gb317, _, none⟩) NB307_317.out _).trans (((cell_far (p := ⟨gb317, _, none⟩) NB307_317.out _).trans (hHeld.2.2.1)))))), ((cell_far (p := ⟨gb317, _, none⟩) NB307_317.out _).trans (((cell_far (p := ⟨gb317, _, none⟩) NB307_317.out _).trans (((cell_far (p := ⟨gb317, _, none⟩) NB307_317.out _).trans (hHeld.2.2.2))))))⟩ (fun hHeld => ?_)
   clear hK K
   refine put 11 10 #[true, true, true, true, true, true, true, true, true, true, true, true] HT_ ?_
   refine done_ (done_of HT_.out (by kernel_rfl)) ?_
   have hnb23 := NB317_307.out
   have hnc23 := NB307_317.out
   obtain ⟨hcz24_0, hcz24_1, hcz24_2, hfz24_0, hfz24_1, hfz24_2⟩ := cc3 BK317
   try go_wp2_with (first | (go_at_call 63; (try simp only [i64_w, i32_w]); (with_reducible refine (spec_l1In.calls a1 0 (wrap64 ((t313.length : Int) - 1)) true _ A8.out).mono ?_); rintro e w' ⟨rfl, ⟨nd, rfl⟩⟩; have p319 : 0 ≤ (a1 : Int) := sa; have q319 : a1 < (t313.length : Int) := sa; obtain ⟨ad319, e319, hx319_0⟩ := Kd.at_int (Kd.R_reads' HO315.out).2.2 a1 p319 q319; cases e319; have hn319_0 : ad319.block ≠ gb317 := Kd.own_blk (Kd.R_ne HO315.out BK317.out (by decide)); have hn319_1 : ad319.block ≠ gb317 := Kd.own_blk (Kd.R_ne HO315.out BK317.out (by decide)); have hn319_2 : ad319.block ≠ gb317 := Kd.own_blk (Kd.R_ne HO315.out BK317.out (by decide)); replace hx319_0 := (cell_far (p := ⟨gb317, 0, none⟩) (by first | (rw [add_block]; exact hn319_0) | (show (Addr.add _ _).block ≠ _; rw [add_block]; exact hn319_0) | exact hn319_0) (.int .i64 t309)).trans hx319_0; replace hx319_0 := (cell_far (p := ⟨gb317, 1, none⟩) (by first | (rw [add_block]; exact hn319_1) | (show (Addr.add _ _).block ≠ _; rw [add_block]; exact hn319_1) | exact hn319_1) (.slice Ao19 t310.length co19)).trans hx319_0; replace hx319_0 := (cell_far (p := ⟨gb317, 2, none⟩) (by first | (rw [add_block]; exact hn319_2) | (show (Addr.add _ _).block ≠ _; rw [add_block]; exact hn319_2) | exact hn319_2) (.slice (some ad319) t313.length co21)).trans hx319_0; clear hn319_0; clear hn319_1; clear hn319_2; replace p319 := eq_true p319; replace q319 := eq_true q319))
   go_ret
   exact ⟨se, sbw⟩
  ·replace H := im H
   obtain rfl := Option.some.inj H
   go_enter Try.func65, Try.ntmps65
   try go_wp2_with (first | ((with_reducible refine gate_dst (N := 4) rfl ?_); (try (refine gate_guard (by rfl) ?_; dsimp only)); refine bx 4 #[.int .i64 a0_0, .int .i64 a0_1, .int .i64 a0_2, .slice A0_3 l0_3.length c0_3] 29 ?_; intro gb307 hg w25 hbox hb; have BK307 := Aside0.mk hbox; have GW307 := bz w hg; have GE307 := bz w hg; replace HB := bs hb; clear hb hbox hg))
   replace BK307 := Aside0.mk (blk_drew BK307.out)
   replace HB := Aside0.mk (below_drew1 HB.out)
   refine start_ (n := 12) (S := fun w' => w'.cell? ⟨gb307, 0, none⟩ = some (.int .i64 a0_0) ∧ w'.cell? ⟨gb307, 1, none⟩ = some (.int .i64 a0_1) ∧ w'.cell? ⟨gb307, 2, none⟩ = some (.int .i64 a0_2) ∧ w'.cell? ⟨gb307, 3, none⟩ = some (.slice A0_3 l0_3.length c0_3)) (ds := []) #[false, false, false, false, false, false, false, false, false, false, false, false] (by kernel_rfl) rfl rfl ⟨bc0 BK307, bc1 BK307, bc2 BK307, bc3 BK307⟩ (fun hHeld => ?_); refine with_tabW spec_l19Next.tab1 spec_l19Next.bits1 (fun HT_ HW_ => ?_)
   generalize w25.drew = w26 at BK307 HB hHeld ⊢
   refine put 2 14 #[false, false, true, false, false, false, false, false, false, false, false, false] HT_ ?_
   refine put 4 16 #[false, false, true, false, true, false, false, false, false, false, false, false] HT_ ?_
   refine tat4 0 12 #[true, false, true, false, true, false, false, false, false, false, false, false] HT_ HW_ hHeld ?_
   refine tat4 1 13 #[true, true, true, false, true, false, false, false, false, false, false, false] HT_ HW_ hHeld ?_
   refine join_ (σ := Value × Value × Nat) 2 #[true, true, true, true, true, true, true, true, true, true, false, false] (fun s_ => [(15, .int .i64 t308), (17, .tuple #[.agg #[.int .i64 t309, s_.1, s_.2.1], .bool true]), (9, .pointer (some ⟨s_.2.2, 0, none⟩)), (11, .tuple #[.agg #[.int .i64 t309, s_.1, s_.2.1], .bool true]), (18, .agg #[.int .i64 t309, s_.1, s_.2.1]), (19, .bool true)]) (fun s_ w' => (w'.cell? ⟨gb307, 0, none⟩ = some (.int .i64 a0_0) ∧ w'.cell? ⟨gb307, 1, none⟩ = some (.int .i64 a0_1) ∧ w'.cell? ⟨gb307, 2, none⟩ = some (.int .i64 a0_2) ∧ w'.cell? ⟨gb307, 3, none⟩ = some (.slice A0_3 l0_3.length c0_3)) ∧ (Kd.R (Kd.int .i64) 3 w' w.heap.size (fun k_ => some k_ ≠ (s_.2.1 : Value).ownBlock) s_.1 t310) ∧ (Kd.R (Kd.int .i64) 3 w' w.heap.size (fun k_ => some k_ ≠ (s_.1 : Value).ownBlock) s_.2.1 t313) ∧ (w'.heap[gb307]? = some (.cells #[.int .i64 a0_0, .int .i64 a0_1, .int .i64 a0_2, .slice A0_3 l0_3.length c0_3] 29 (0, 0))) ∧ (w'.heap[s_.2.2]? = some (.cells #[.int .i64 0, .slice none 0 0, .slice none 0 0] 65 (0, 0))) ∧ (w.heap.size ≤ s_.2.2) ∧ (w.heap.size ≤ s_.2.2) ∧ (gb307 ≠ s_.2.2) ∧ (s_.2.2 ≠ gb307) ∧ (Below w.heap.size w w')) ?_ ?_
   rotate_left
   ·intro hCont
    refine two_ (i := 3) (j := 9) (Ni := some 15) (Nj := some 9) #[true, true, true, true, true, false, false, false, false, false, false, false] #[true, true, true, false, true, false, false, false, false, true, false, false] rfl rfl rfl rfl (two_of HT_.out (by kernel_rfl)) (by decide) (by decide) (fun K hK => ?_) (fun K hK => ?_)
    ·skip
     refine goes_ Try.func103 (by kernel_rfl) rfl #[.agg #[.int .i64 a0_0, .int .i64 a0_1, .int .i64 a0_2, .slice A0_3 l0_3.length c0_3], .int .i64 a3] (by rfl) rfl rfl sl ?_
     with_reducible refine (spec_PieceAt.calls k a0_0 a0_1 a0_2 _ _ l0_3 a3 t308 _ ?side1 ?side2 A5.out).mono ?_
     (case side1 => exact cb HR0_3)
     (case side2 => exact HC0_3.out)
     rintro e w27 ⟨rfl, hb⟩
     refine ⟨_, rfl, ?_⟩
     replace BK307 := bb BK307 hb
     replace HB := bsw hb
     (try clear hb)
     (try clear hb2)
     (try clear hk)
     (try clear hi)
     refine hK.out _ _ ⟨bc0 BK307, bc1 BK307, bc2 BK307, bc3 BK307⟩ (fun hHeld => ?_)
     clear hK K
     refine norm_ (a' := ?_) ?_ ?_
     rotate_left
     ·show Act.put _ (some 15) _ = _
      simp only [Act.put, List.setIfInBounds_toArray, List.set_cons_zero, List.set_cons_succ, i64_w, i32_w]
      rfl
     refine two_ (i := 5) (j := 9) (Ni := some 17) (Nj := some 9) #[true, true, true, true, true, true, false, false, false, false, false, false] #[true, true, true, true, true, false, false, false, false, true, false, false] rfl rfl rfl rfl (two_of HT_.out (by kernel_rfl)) (by decide) (by decide) (fun K hK => ?_) (fun K hK => ?_)
     ·skip
      refine goes_ Try.func104 (by kernel_rfl) rfl #[.agg #[.int .i64 a0_0, .int .i64 a0_1, .int .i64 a0_2, .slice A0_3 l0_3.length c0_3], .int .i64 t308, .int .i64 a2] (by rfl) rfl rfl sl ?_
      with_reducible refine (spec_TableIn.calls a0_0 a0_1 a0_2 _ _ l0_3 t308 a2 t309 t310 t313 true _ ?side1 ?side2 A6.out).mono ?_
      (case side1 => exact cb HR0_3)
      (case side2 => exact HC0_3.out)
      rintro e w28 ⟨v311, v314, rfl, ho0, ho1, hb⟩
      refine ⟨_, rfl, ?_⟩
      have HO312 := Aside0.mk (Kd.R_lower ho0 (below_size (sbw)))
      have HO315 := Aside0.mk (Kd.R_lower ho1 (below_size (sbw)))
      replace BK307 := bb BK307 hb
      replace HB := bsw hb
      (try clear hb)
      (try clear hb2)
      (try clear hk)
      (try clear hi)
      (try clear ho0)
      (try clear ho1)
      refine hK.out _ _ ⟨bc0 BK307, bc1 BK307, bc2 BK307, bc3 BK307⟩ (fun hHeld => ?_)
      clear hK K
      refine norm_ (a' := ?_) ?_ ?_
      rotate_left
      ·show Act.put _ (some 17) _ = _
       simp only [Act.put, List.setIfInBounds_toArray, List.set_cons_zero, List.set_cons_succ, i64_w, i32_w]
       rfl
      refine put 6 11 #[true, true, true, true, true, true, true, false, false, false, false, false] HT_ ?_
      refine put 7 18 #[true, true, true, true, true, true, true, true, false, false, false, false] HT_ ?_
      refine put 8 19 #[true, true, true, true, true, true, true, true, true, false, false, false] HT_ ?_
      refine one_ (i := 9) (N := some 9) #[true, true, true, true, true, true, true, true, true, true, false, false] rfl rfl (one_of HT_.out (by kernel_rfl)) (by decide) (fun K hK => ?_)
      refine box_step ?hg (N := 9) ?hd (cs := #[.int .i64 0, .slice none 0 0, .slice none 0 0]) (t := 65) ?hr ?_; (case hd => rfl); (case hg => rfl); (case hr => first | (go_simp; done) | (go_simp; rfl))
      intro gb317 hg w29 hbox hb
      replace HO312 := Aside0.mk (Kd.R_below (sr HO312) hb)
      replace HO315 := Aside0.mk (Kd.R_below (sr HO315) hb)
      have BK317 := Aside0.mk hbox
      have GW317 := bzw w hg
      have GE317 := bzw w hg
      replace HB := bsw hb
      have NB307_317 := nl BK307 hg
      have NB317_307 := ng BK307 hg
      replace BK307 := bb BK307 hb
      clear hb hbox hg
      refine hK.out _ _ ⟨bc0 BK307, bc1 BK307, bc2 BK307, bc3 BK307⟩ (fun hHeld => ?_)
      clear hK K
      refine norm_ (a' := ?_) ?_ ?_
      rotate_left
      ·show Act.put _ (some 9) _ = _
       simp only [Act.put, List.setIfInBounds_toArray, List.set_cons_zero, List.set_cons_succ, i64_w, i32_w]
       rfl
      exact norm_ (by simp only [putAll, Act.put, List.setIfInBounds_toArray, List.set_cons_zero, List.set_cons_succ]) (hCont (v311, v314, gb317) _ ⟨hHeld, (sr HO312), (sr HO315), (sk BK307), (sk BK317), GW317.out, GE317.out, NB307_317.out, NB317_307.out, (sbw)⟩)
     ·skip
      refine box_step ?hg (N := 9) ?hd (cs := #[.int .i64 0, .slice none 0 0, .slice none 0 0]) (t := 65) ?hr ?_; (case hd => rfl); (case hg => rfl); (case hr => first | (go_simp; done) | (go_simp; rfl))
      intro gb317 hg w28 hbox hb
      have BK317 := Aside0.mk hbox
      have GW317 := bzw w hg
      have GE317 := bzw w hg
      replace HB := bsw hb
      have NB307_317 := nl BK307 hg
      have NB317_307 := ng BK307 hg
      replace BK307 := bb BK307 hb
      clear hb hbox hg
      refine hK.out _ _ ⟨bc0 BK307, bc1 BK307, bc2 BK307, bc3 BK307⟩ (fun hHeld => ?_)
      clear hK K
      refine norm_ (a' := ?_) ?_ ?_
      rotate_left
      ·show Act.put _ (some 9) _ = _
       simp only [Act.put, List.setIfInBounds_toArray, List.set_cons_zero, List.set_cons_succ, i64_w, i32_w]
       rfl
      refine one_ (i := 5) (N := some 17) #[true, true, true, true, true, true, false, false, false, true, false, false] rfl rfl (one_of HT_.out (by kernel_rfl)) (by decide) (fun K hK => ?_)
      refine goes_ Try.func104 (by kernel_rfl) rfl #[.agg #[.int .i64 a0_0, .int .i64 a0_1, .int .i64 a0_2, .slice A0_3 l0_3.length c0_3], .int .i64 t308, .int .i64 a2] (by rfl) rfl rfl sl ?_
      with_reducible refine (spec_TableIn.calls a0_0 a0_1 a0_2 _ _ l0_3 t308 a2 t309 t310 t313 true _ ?side1 ?side2 A6.out).mono ?_
      (case side1 => exact cb HR0_3)
      (case side2 => exact HC0_3.out)
      rintro e w29 ⟨v311, v314, rfl, ho0, ho1, hb⟩
      refine ⟨_, rfl, ?_⟩
      have HO312 := Aside0.mk (Kd.R_lower ho0 (below_size (sbw)))
      have HO315 := Aside0.mk (Kd.R_lower ho1 (below_size (sbw)))
      replace BK307 := bb BK307 hb
      replace BK317 := bb BK317 hb
      replace HB := bsw hb
      (try clear hb)
      (try clear hb2)
      (try clear hk)
      (try clear hi)
      (try clear ho0)
      (try clear ho1)
      refine hK.out _ _ ⟨bc0 BK307, bc1 BK307, bc2 BK307, bc3 BK307⟩ (fun hHeld => ?_)
      clear hK K
      refine norm_ (a' := ?_) ?_ ?_
      rotate_left
      ·show Act.put _ (some 17) _ = _
       simp only [Act.put, List.setIfInBounds_toArray, List.set_cons_zero, List.set_cons_succ, i64_w, i32_w]
       rfl
      refine put 6 11 #[true, true, true, true, true, true, true, false, false, true, false, false] HT_ ?_
      refine put 7 18 #[true, true, true, true, true, true, true, true, false, true, false, false] HT_ ?_
      refine put 8 19 #[true, true, true, true, true, true, true, true, true, true, false, false] HT_ ?_
      exact norm_ (by simp only [putAll, Act.put, List.setIfInBounds_toArray, List.set_cons_zero, List.set_cons_succ]) (hCont (v311, v314, gb317) _ ⟨hHeld, (sr HO312), (sr HO315), (sk BK307), (sk BK317), GW317.out, GE317.out, NB307_317.out, NB317_307.out, (sbw)⟩)
    ·skip
     refine box_step ?hg (N := 9) ?hd (cs := #[.int .i64 0, .slice none 0 0, .slice none 0 0]) (t := 65) ?hr ?_; (case hd => rfl); (case hg => rfl); (case hr => first | (go_simp; done) | (go_simp; rfl))
     intro gb317 hg w27 hbox hb
     have BK317 := Aside0.mk hbox
     have GW317 := bzw w hg
     have GE317 := bzw w hg
     replace HB := bsw hb
     have NB307_317 := nl BK307 hg
     have NB317_307 := ng BK307 hg
     replace BK307 := bb BK307 hb
     clear hb hbox hg
     refine hK.out _ _ ⟨bc0 BK307, bc1 BK307, bc2 BK307, bc3 BK307⟩ (fun hHeld => ?_)
     clear hK K
     refine norm_ (a' := ?_) ?_ ?_
     rotate_left
     ·show Act.put _ (some 9) _ = _
      simp only [Act.put, List.setIfInBounds_toArray, List.set_cons_zero, List.set_cons_succ, i64_w, i32_w]
      rfl
     refine one_ (i := 3) (N := some 15) #[true, true, true, true, true, false, false, false, false, true, false, false] rfl rfl (one_of HT_.out (by kernel_rfl)) (by decide) (fun K hK => ?_)
     refine goes_ Try.func103 (by kernel_rfl) rfl #[.agg #[.int .i64 a0_0, .int .i64 a0_1, .int .i64 a0_2, .slice A0_3 l0_3.length c0_3], .int .i64 a3] (by rfl) rfl rfl sl ?_
     with_reducible refine (spec_PieceAt.calls k a0_0 a0_1 a0_2 _ _ l0_3 a3 t308 _ ?side1 ?side2 A5.out).mono ?_
     (case side1 => exact cb HR0_3)
     (case side2 => exact HC0_3.out)
     rintro e w28 ⟨rfl, hb⟩
     refine ⟨_, rfl, ?_⟩
     replace BK307 := bb BK307 hb
     replace BK317 := bb BK317 hb
     replace HB := bsw hb
     (try clear hb)
     (try clear hb2)
     (try clear hk)
     (try clear hi)
     refine hK.out _ _ ⟨bc0 BK307, bc1 BK307, bc2 BK307, bc3 BK307⟩ (fun hHeld => ?_)
     clear hK K
     refine norm_ (a' := ?_) ?_ ?_
     rotate_left
     ·show Act.put _ (some 15) _ = _
      simp only [Act.put, List.setIfInBounds_toArray, List.set_cons_zero, List.set_cons_succ, i64_w, i32_w]
      rfl
     refine one_ (i := 5) (N := some 17) #[true, true, true, true, true, true, false, false, false, true, false, false] rfl rfl (one_of HT_.out (by kernel_rfl)) (by decide) (fun K hK => ?_)
     refine goes_ Try.func104 (by kernel_rfl) rfl #[.agg #[.int .i64 a0_0, .int .i64 a0_1, .int .i64 a0_2, .slice A0_3 l0_3.length c0_3], .int .i64 t308, .int .i64 a2] (by rfl) rfl rfl sl ?_
     with_reducible refine (spec_TableIn.calls a0_0 a0_1 a0_2 _ _ l0_3 t308 a2 t309 t310 t313 true _ ?side1 ?side2 A6.out).mono ?_
     (case side1 => exact cb HR0_3)
     (case side2 => exact HC0_3.out)
     rintro e w29 ⟨v311, v314, rfl, ho0, ho1, hb⟩
     refine ⟨_, rfl, ?_⟩
     have HO312 := Aside0.mk (Kd.R_lower ho0 (below_size (sbw)))
     have HO315 := Aside0.mk (Kd.R_lower ho1 (below_size (sbw)))
     replace BK307 := bb BK307 hb
     replace BK317 := bb BK317 hb
     replace HB := bsw hb
     (try clear hb)
     (try clear hb2)
     (try clear hk)
     (try clear hi)
     (try clear ho0)
     (try clear ho1)
     refine hK.out _ _ ⟨bc0 BK307, bc1 BK307, bc2 BK307, bc3 BK307⟩ (fun hHeld => ?_)
     clear hK K
     refine norm_ (a' := ?_) ?_ ?_
     rotate_left
     ·show Act.put _ (some 17) _ = _
      simp only [Act.put, List.setIfInBounds_toArray, List.set_cons_zero, List.set_cons_succ, i64_w, i32_w]
      rfl
     refine put 6 11 #[true, true, true, true, true, true, true, false, false, true, false, false] HT_ ?_
     refine put 7 18 #[true, true, true, true, true, true, true, true, false, true, false, false] HT_ ?_
     refine put 8 19 #[true, true, true, true, true, true, true, true, true, true, false, false] HT_ ?_
     exact norm_ (by simp only [putAll, Act.put, List.setIfInBounds_toArray, List.set_cons_zero, List.set_cons_succ]) (hCont (v311, v314, gb317) _ ⟨hHeld, (sr HO312), (sr HO315), (sk BK307), (sk BK317), GW317.out, GE317.out, NB307_317.out, NB317_307.out, (sbw)⟩)
   rintro ⟨v311, v314, gb317⟩ w30 ⟨hS_, h0_, h1_, h2_, h3_, h4_, h5_, h6_, h7_, h8_⟩
   have HO312 : Aside0 (Kd.R (Kd.int .i64) 3 w30 w.heap.size (fun k_ => some k_ ≠ (v314 : Value).ownBlock) v311 t310) := ⟨h0_⟩
   have HO315 : Aside0 (Kd.R (Kd.int .i64) 3 w30 w.heap.size (fun k_ => some k_ ≠ (v311 : Value).ownBlock) v314 t313) := ⟨h1_⟩
   replace BK307 : Aside0 (w30.heap[gb307]? = some (.cells #[.int .i64 a0_0, .int .i64 a0_1, .int .i64 a0_2, .slice A0_3 l0_3.length c0_3] 29 (0, 0))) := ⟨h2_⟩
   have BK317 : Aside0 (w30.heap[gb317]? = some (.cells #[.int .i64 0, .slice none 0 0, .slice none 0 0] 65 (0, 0))) := ⟨h3_⟩
   have GW317 : Aside0 (w.heap.size ≤ gb317) := ⟨h4_⟩
   have GE317 : Aside0 (w.heap.size ≤ gb317) := ⟨h5_⟩
   have NB307_317 : Aside0 (gb307 ≠ gb317) := ⟨h6_⟩
   have NB317_307 : Aside0 (gb317 ≠ gb307) := ⟨h7_⟩
   replace HB : Aside0 (Below w.heap.size w w30) := ⟨h8_⟩
   clear h0_ h1_ h2_ h3_ h4_ h5_ h6_ h7_ h8_
   have hHeld : w30.cell? ⟨gb307, 0, none⟩ = some (.int .i64 a0_0) ∧ w30.cell? ⟨gb307, 1, none⟩ = some (.int .i64 a0_1) ∧ w30.cell? ⟨gb307, 2, none⟩ = some (.int .i64 a0_2) ∧ w30.cell? ⟨gb307, 3, none⟩ = some (.slice A0_3 l0_3.length c0_3) := hS_
   obtain ⟨Ao32, co32, eo32⟩ := Kd.R_slice HO312.out
   (first | subst eo32 | (injection eo32 with f1_ f2_ f3_; have f4_ := f1_.symm; have f5_ := f3_.symm; clear f1_ f2_ f3_; subst f4_; subst f5_))
   obtain ⟨Ao34, co34, eo34⟩ := Kd.R_slice HO315.out
   (first | subst eo34 | (injection eo34 with f1_ f2_ f3_; have f4_ := f1_.symm; have f5_ := f3_.symm; clear f1_ f2_ f3_; subst f4_; subst f5_))
   refine norm_ (a' := ?_) ?_ ?_
   rotate_left
   ·simp only [putAll, Act.put, List.setIfInBounds_toArray, List.set_cons_zero, List.set_cons_succ]
    rfl
   refine one_ (i := 10) (N := none) #[true, true, true, true, true, true, true, true, true, true, true, false] rfl rfl (one_of HT_.out (by kernel_rfl)) (by decide) (fun K hK => ?_)
   obtain ⟨hs31, hfs31⟩ := cc1 BK317
   have hns31_0 := NB307_317.out
   have hms31_0 := NB317_307.out
   have hs33 := bc1 BK317
   have hfs33 := bf BK317 1
   have hns33_0 := NB307_317.out
   have hms33_0 := NB317_307.out
   have hs35 := bc2 BK317
   have hfs35 := bf BK317 2
   have hns35_0 := NB307_317.out
   have hms35_0 := NB317_307.out
   refine skip_ (w1 := ?_) (by rfl) rfl ?_ ?_
   rotate_left
   ·go_simp
    rfl
   refine hK.out _ _ ⟨((cell_far (p := ⟨gb317, _, none⟩) NB307_317.out _).trans (((cell_far (p := ⟨gb317, _, none⟩) NB307_317.out _).trans (((cell_far (p := ⟨gb317, _, none⟩) NB307_317.out _).trans (hHeld.1)))))), ((cell_far (p := ⟨gb317, _, none⟩) NB307_317.out _).trans (((cell_far (p := ⟨gb317, _, none⟩) NB307_317.out _).trans (((cell_far (p := ⟨gb317, _, none⟩) NB307_317.out _).trans (hHeld.2.1)))))), ((cell_far (p := ⟨gb317, _, none⟩) NB307_317.out _).trans (((cell_far (p := ⟨gb317, _, none⟩) NB307_317.out _).trans (((cell_far (p := ⟨gb317, _, none⟩) NB307_317.out _).trans (hHeld.2.2.1)))))), ((cell_far (p := ⟨gb317, _, none⟩) NB307_317.out _).trans (((cell_far (p := ⟨gb317, _, none⟩) NB307_317.out _).trans (((cell_far (p := ⟨gb317, _, none⟩) NB307_317.out _).trans (hHeld.2.2.2))))))⟩ (fun hHeld => ?_)
   clear hK K
   refine put 11 10 #[true, true, true, true, true, true, true, true, true, true, true, true] HT_ ?_
   refine done_ (done_of HT_.out (by kernel_rfl)) ?_
   have hnb36 := NB317_307.out
   have hnc36 := NB307_317.out
   obtain ⟨hcz37_0, hcz37_1, hcz37_2, hfz37_0, hfz37_1, hfz37_2⟩ := cc3 BK317
   try go_wp2_with (first | (go_at_call 63; (try simp only [i64_w, i32_w]); (with_reducible refine (spec_l1In.calls a1 0 (wrap64 ((t313.length : Int) - 1)) false _ A8.out).mono ?_); rintro e w' ⟨rfl, ⟨nd, rfl⟩⟩))
   go_ret
   exact ⟨se, sbw⟩
 ·replace H := im H
  obtain rfl := Option.some.inj H
  go_enter Try.func65, Try.ntmps65
  try go_wp2_with (first | ((with_reducible refine gate_dst (N := 4) rfl ?_); (try (refine gate_guard (by rfl) ?_; dsimp only)); refine bx 4 #[.int .i64 a0_0, .int .i64 a0_1, .int .i64 a0_2, .slice A0_3 l0_3.length c0_3] 29 ?_; intro gb307 hg w38 hbox hb; have BK307 := Aside0.mk hbox; have GW307 := bz w hg; have GE307 := bz w hg; replace HB := bs hb; clear hb hbox hg))
  replace BK307 := Aside0.mk (blk_drew BK307.out)
  replace HB := Aside0.mk (below_drew1 HB.out)
  refine start_ (n := 12) (S := fun w' => w'.cell? ⟨gb307, 0, none⟩ = some (.int .i64 a0_0) ∧ w'.cell? ⟨gb307, 1, none⟩ = some (.int .i64 a0_1) ∧ w'.cell? ⟨gb307, 2, none⟩ = some (.int .i64 a0_2) ∧ w'.cell? ⟨gb307, 3, none⟩ = some (.slice A0_3 l0_3.length c0_3)) (ds := []) #[false, false, false, false, false, false, false, false, false, false, false, false] (by kernel_rfl) rfl rfl ⟨bc0 BK307, bc1 BK307, bc2 BK307, bc3 BK307⟩ (fun hHeld => ?_); refine with_tabW spec_l19Next.tab1 spec_l19Next.bits1 (fun HT_ HW_ => ?_)
  generalize w38.drew = w39 at BK307 HB hHeld ⊢
  refine put 2 14 #[false, false, true, false, false, false, false, false, false, false, false, false] HT_ ?_
  refine put 4 16 #[false, false, true, false, true, false, false, false, false, false, false, false] HT_ ?_
  refine tat4 0 12 #[true, false, true, false, true, false, false, false, false, false, false, false] HT_ HW_ hHeld ?_
  refine tat4 1 13 #[true, true, true, false, true, false, false, false, false, false, false, false] HT_ HW_ hHeld ?_
  refine join_ (σ := Value × Value × Nat) 2 #[true, true, true, true, true, true, true, true, true, true, false, false] (fun s_ => [(15, .int .i64 t308), (17, .tuple #[.agg #[.int .i64 t309, s_.1, s_.2.1], .bool false]), (9, .pointer (some ⟨s_.2.2, 0, none⟩)), (11, .tuple #[.agg #[.int .i64 t309, s_.1, s_.2.1], .bool false]), (18, .agg #[.int .i64 t309, s_.1, s_.2.1]), (19, .bool false)]) (fun s_ w' => (w'.cell? ⟨gb307, 0, none⟩ = some (.int .i64 a0_0) ∧ w'.cell? ⟨gb307, 1, none⟩ = some (.int .i64 a0_1) ∧ w'.cell? ⟨gb307, 2, none⟩ = some (.int .i64 a0_2) ∧ w'.cell? ⟨gb307, 3, none⟩ = some (.slice A0_3 l0_3.length c0_3)) ∧ (Kd.R (Kd.int .i64) 3 w' w.heap.size (fun k_ => some k_ ≠ (s_.2.1 : Value).ownBlock) s_.1 t310) ∧ (Kd.R (Kd.int .i64) 3 w' w.heap.size (fun k_ => some k_ ≠ (s_.1 : Value).ownBlock) s_.2.1 t313) ∧ (w'.heap[gb307]? = some (.cells #[.int .i64 a0_0, .int .i64 a0_1, .int .i64 a0_2, .slice A0_3 l0_3.length c0_3] 29 (0, 0))) ∧ (w'.heap[s_.2.2]? = some (.cells #[.int .i64 0, .slice none 0 0, .slice none 0 0] 65 (0, 0))) ∧ (w.heap.size ≤ s_.2.2) ∧ (w.heap.size ≤ s_.2.2) ∧ (gb307 ≠ s_.2.2) ∧ (s_.2.2 ≠ gb307) ∧ (Below w.heap.size w w')) ?_ ?_
  rotate_left
  ·intro hCont
   refine two_ (i := 3) (j := 9) (Ni := some 15) (Nj := some 9) #[true, true, true, true, true, false, false, false, false, false, false, false] #[true, true, true, false, true, false, false, false, false, true, false, false] rfl rfl rfl rfl (two_of HT_.out (by kernel_rfl)) (by decide) (by decide) (fun K hK => ?_) (fun K hK => ?_)
   ·skip
    refine goes_ Try.func103 (by kernel_rfl) rfl #[.agg #[.int .i64 a0_0, .int .i64 a0_1, .int .i64 a0_2, .slice A0_3 l0_3.length c0_3], .int .i64 a3] (by rfl) rfl rfl sl ?_
    with_reducible refine (spec_PieceAt.calls k a0_0 a0_1 a0_2 _ _ l0_3 a3 t308 _ ?side1 ?side2 A5.out).mono ?_
    (case side1 => exact cb HR0_3)
    (case side2 => exact HC0_3.out)
    rintro e w40 ⟨rfl, hb⟩
    refine ⟨_, rfl, ?_⟩
    replace BK307 := bb BK307 hb
    replace HB := bsw hb
    (try clear hb)
    (try clear hb2)
    (try clear hk)
    (try clear hi)
    refine hK.out _ _ ⟨bc0 BK307, bc1 BK307, bc2 BK307, bc3 BK307⟩ (fun hHeld => ?_)
    clear hK K
    refine norm_ (a' := ?_) ?_ ?_
    rotate_left
    ·show Act.put _ (some 15) _ = _
     simp only [Act.put, List.setIfInBounds_toArray, List.set_cons_zero, List.set_cons_succ, i64_w, i32_w]
     rfl
    refine two_ (i := 5) (j := 9) (Ni := some 17) (Nj := some 9) #[true, true, true, true, true, true, false, false, false, false, false, false] #[true, true, true, true, true, false, false, false, false, true, false, false] rfl rfl rfl rfl (two_of HT_.out (by kernel_rfl)) (by decide) (by decide) (fun K hK => ?_) (fun K hK => ?_)
    ·skip
     refine goes_ Try.func104 (by kernel_rfl) rfl #[.agg #[.int .i64 a0_0, .int .i64 a0_1, .int .i64 a0_2, .slice A0_3 l0_3.length c0_3], .int .i64 t308, .int .i64 a2] (by rfl) rfl rfl sl ?_
     with_reducible refine (spec_TableIn.calls a0_0 a0_1 a0_2 _ _ l0_3 t308 a2 t309 t310 t313 false _ ?side1 ?side2 A6.out).mono ?_
     (case side1 => exact cb HR0_3)
     (case side2 => exact HC0_3.out)
     rintro e w41 ⟨v311, v314, rfl, ho0, ho1, hb⟩
     refine ⟨_, rfl, ?_⟩
     have HO312 := Aside0.mk (Kd.R_lower ho0 (below_size (sbw)))
     have HO315 := Aside0.mk (Kd.R_lower ho1 (below_size (sbw)))
     replace BK307 := bb BK307 hb
     replace HB := bsw hb
     (try clear hb)
     (try clear hb2)
     (try clear hk)
     (try clear hi)
     (try clear ho0)
     (try clear ho1)
     refine hK.out _ _ ⟨bc0 BK307, bc1 BK307, bc2 BK307, bc3 BK307⟩ (fun hHeld => ?_)
     clear hK K
     refine norm_ (a' := ?_) ?_ ?_
     rotate_left
     ·show Act.put _ (some 17) _ = _
      simp only [Act.put, List.setIfInBounds_toArray, List.set_cons_zero, List.set_cons_succ, i64_w, i32_w]
      rfl
     refine put 6 11 #[true, true, true, true, true, true, true, false, false, false, false, false] HT_ ?_
     refine put 7 18 #[true, true, true, true, true, true, true, true, false, false, false, false] HT_ ?_
     refine put 8 19 #[true, true, true, true, true, true, true, true, true, false, false, false] HT_ ?_
     refine one_ (i := 9) (N := some 9) #[true, true, true, true, true, true, true, true, true, true, false, false] rfl rfl (one_of HT_.out (by kernel_rfl)) (by decide) (fun K hK => ?_)
     refine box_step ?hg (N := 9) ?hd (cs := #[.int .i64 0, .slice none 0 0, .slice none 0 0]) (t := 65) ?hr ?_; (case hd => rfl); (case hg => rfl); (case hr => first | (go_simp; done) | (go_simp; rfl))
     intro gb317 hg w42 hbox hb
     replace HO312 := Aside0.mk (Kd.R_below (sr HO312) hb)
     replace HO315 := Aside0.mk (Kd.R_below (sr HO315) hb)
     have BK317 := Aside0.mk hbox
     have GW317 := bzw w hg
     have GE317 := bzw w hg
     replace HB := bsw hb
     have NB307_317 := nl BK307 hg
     have NB317_307 := ng BK307 hg
     replace BK307 := bb BK307 hb
     clear hb hbox hg
     refine hK.out _ _ ⟨bc0 BK307, bc1 BK307, bc2 BK307, bc3 BK307⟩ (fun hHeld => ?_)
     clear hK K
     refine norm_ (a' := ?_) ?_ ?_
     rotate_left
     ·show Act.put _ (some 9) _ = _
      simp only [Act.put, List.setIfInBounds_toArray, List.set_cons_zero, List.set_cons_succ, i64_w, i32_w]
      rfl
     exact norm_ (by simp only [putAll, Act.put, List.setIfInBounds_toArray, List.set_cons_zero, List.set_cons_succ]) (hCont (v311, v314, gb317) _ ⟨hHeld, (sr HO312), (sr HO315), (sk BK307), (sk BK317), GW317.out, GE317.out, NB307_317.out, NB317_307.out, (sbw)⟩)
    ·skip
     refine box_step ?hg (N := 9) ?hd (cs := #[.int .i64 0, .slice none 0 0, .slice none 0 0]) (t := 65) ?hr ?_; (case hd => rfl); (case hg => rfl); (case hr => first | (go_simp; done) | (go_simp; rfl))
     intro gb317 hg w41 hbox hb
     have BK317 := Aside0.mk hbox
     have GW317 := bzw w hg
     have GE317 := bzw w hg
     replace HB := bsw hb
     have NB307_317 := nl BK307 hg
     have NB317_307 := ng BK307 hg
     replace BK307 := bb BK307 hb
     clear hb hbox hg
     refine hK.out _ _ ⟨bc0 BK307, bc1 BK307, bc2 BK307, bc3 BK307⟩ (fun hHeld => ?_)
     clear hK K
     refine norm_ (a' := ?_) ?_ ?_
     rotate_left
     ·show Act.put _ (some 9) _ = _
      simp only [Act.put, List.setIfInBounds_toArray, List.set_cons_zero, List.set_cons_succ, i64_w, i32_w]
      rfl
     refine one_ (i := 5) (N := some 17) #[true, true, true, true, true, true, false, false, false, true, false, false] rfl rfl (one_of HT_.out (by kernel_rfl)) (by decide) (fun K hK => ?_)
     refine goes_ Try.func104 (by kernel_rfl) rfl #[.agg #[.int .i64 a0_0, .int .i64 a0_1, .int .i64 a0_2, .slice A0_3 l0_3.length c0_3], .int .i64 t308, .int .i64 a2] (by rfl) rfl rfl sl ?_
     with_reducible refine (spec_TableIn.calls a0_0 a0_1 a0_2 _ _ l0_3 t308 a2 t309 t310 t313 false _ ?side1 ?side2 A6.out).mono ?_
     (case side1 => exact cb HR0_3)
     (case side2 => exact HC0_3.out)
     rintro e w42 ⟨v311, v314, rfl, ho0, ho1, hb⟩
     refine ⟨_, rfl, ?_⟩
     have HO312 := Aside0.mk (Kd.R_lower ho0 (below_size (sbw)))
     have HO315 := Aside0.mk (Kd.R_lower ho1 (below_size (sbw)))
     replace BK307 := bb BK307 hb
     replace BK317 := bb BK317 hb
     replace HB := bsw hb
     (try clear hb)
     (try clear hb2)
     (try clear hk)
     (try clear hi)
     (try clear ho0)
     (try clear ho1)
     refine hK.out _ _ ⟨bc0 BK307, bc1 BK307, bc2 BK307, bc3 BK307⟩ (fun hHeld => ?_)
     clear hK K
     refine norm_ (a' := ?_) ?_ ?_
     rotate_left
     ·show Act.put _ (some 17) _ = _
      simp only [Act.put, List.setIfInBounds_toArray, List.set_cons_zero, List.set_cons_succ, i64_w, i32_w]
      rfl
     refine put 6 11 #[true, true, true, true, true, true, true, false, false, true, false, false] HT_ ?_
     refine put 7 18 #[true, true, true, true, true, true, true, true, false, true, false, false] HT_ ?_
     refine put 8 19 #[true, true, true, true, true, true, true, true, true, true, false, false] HT_ ?_
     exact norm_ (by simp only [putAll, Act.put, List.setIfInBounds_toArray, List.set_cons_zero, List.set_cons_succ]) (hCont (v311, v314, gb317) _ ⟨hHeld, (sr HO312), (sr HO315), (sk BK307), (sk BK317), GW317.out, GE317.out, NB307_317.out, NB317_307.out, (sbw)⟩)
   ·skip
    refine box_step ?hg (N := 9) ?hd (cs := #[.int .i64 0, .slice none 0 0, .slice none 0 0]) (t := 65) ?hr ?_; (case hd => rfl); (case hg => rfl); (case hr => first | (go_simp; done) | (go_simp; rfl))
    intro gb317 hg w40 hbox hb
    have BK317 := Aside0.mk hbox
    have GW317 := bzw w hg
    have GE317 := bzw w hg
    replace HB := bsw hb
    have NB307_317 := nl BK307 hg
    have NB317_307 := ng BK307 hg
    replace BK307 := bb BK307 hb
    clear hb hbox hg
    refine hK.out _ _ ⟨bc0 BK307, bc1 BK307, bc2 BK307, bc3 BK307⟩ (fun hHeld => ?_)
    clear hK K
    refine norm_ (a' := ?_) ?_ ?_
    rotate_left
    ·show Act.put _ (some 9) _ = _
     simp only [Act.put, List.setIfInBounds_toArray, List.set_cons_zero, List.set_cons_succ, i64_w, i32_w]
     rfl
    refine one_ (i := 3) (N := some 15) #[true, true, true, true, true, false, false, false, false, true, false, false] rfl rfl (one_of HT_.out (by kernel_rfl)) (by decide) (fun K hK => ?_)
    refine goes_ Try.func103 (by kernel_rfl) rfl #[.agg #[.int .i64 a0_0, .int .i64 a0_1, .int .i64 a0_2, .slice A0_3 l0_3.length c0_3], .int .i64 a3] (by rfl) rfl rfl sl ?_
    with_reducible refine (spec_PieceAt.calls k a0_0 a0_1 a0_2 _ _ l0_3 a3 t308 _ ?side1 ?side2 A5.out).mono ?_
    (case side1 => exact cb HR0_3)
    (case side2 => exact HC0_3.out)
    rintro e w41 ⟨rfl, hb⟩
    refine ⟨_, rfl, ?_⟩
    replace BK307 := bb BK307 hb
    replace BK317 := bb BK317 hb
    replace HB := bsw hb
    (try clear hb)
    (try clear hb2)
    (try clear hk)
    (try clear hi)
    refine hK.out _ _ ⟨bc0 BK307, bc1 BK307, bc2 BK307, bc3 BK307⟩ (fun hHeld => ?_)
    clear hK K
    refine norm_ (a' := ?_) ?_ ?_
    rotate_left
    ·show Act.put _ (some 15) _ = _
     simp only [Act.put, List.setIfInBounds_toArray, List.set_cons_zero, List.set_cons_succ, i64_w, i32_w]
     rfl
    refine one_ (i := 5) (N := some 17) #[true, true, true, true, true, true, false, false, false, true, false, false] rfl rfl (one_of HT_.out (by kernel_rfl)) (by decide) (fun K hK => ?_)
    refine goes_ Try.func104 (by kernel_rfl) rfl #[.agg #[.int .i64 a0_0, .int .i64 a0_1, .int .i64 a0_2, .slice A0_3 l0_3.length c0_3], .int .i64 t308, .int .i64 a2] (by rfl) rfl rfl sl ?_
    with_reducible refine (spec_TableIn.calls a0_0 a0_1 a0_2 _ _ l0_3 t308 a2 t309 t310 t313 false _ ?side1 ?side2 A6.out).mono ?_
    (case side1 => exact cb HR0_3)
    (case side2 => exact HC0_3.out)
    rintro e w42 ⟨v311, v314, rfl, ho0, ho1, hb⟩
    refine ⟨_, rfl, ?_⟩
    have HO312 := Aside0.mk (Kd.R_lower ho0 (below_size (sbw)))
    have HO315 := Aside0.mk (Kd.R_lower ho1 (below_size (sbw)))
    replace BK307 := bb BK307 hb
    replace BK317 := bb BK317 hb
    replace HB := bsw hb
    (try clear hb)
    (try clear hb2)
    (try clear hk)
    (try clear hi)
    (try clear ho0)
    (try clear ho1)
    refine hK.out _ _ ⟨bc0 BK307, bc1 BK307, bc2 BK307, bc3 BK307⟩ (fun hHeld => ?_)
    clear hK K
    refine norm_ (a' := ?_) ?_ ?_
    rotate_left
    ·show Act.put _ (some 17) _ = _
     simp only [Act.put, List.setIfInBounds_toArray, List.set_cons_zero, List.set_cons_succ, i64_w, i32_w]
     rfl
    refine put 6 11 #[true, true, true, true, true, true, true, false, false, true, false, false] HT_ ?_
    refine put 7 18 #[true, true, true, true, true, true, true, true, false, true, false, false] HT_ ?_
    refine put 8 19 #[true, true, true, true, true, true, true, true, true, true, false, false] HT_ ?_
    exact norm_ (by simp only [putAll, Act.put, List.setIfInBounds_toArray, List.set_cons_zero, List.set_cons_succ]) (hCont (v311, v314, gb317) _ ⟨hHeld, (sr HO312), (sr HO315), (sk BK307), (sk BK317), GW317.out, GE317.out, NB307_317.out, NB317_307.out, (sbw)⟩)
  rintro ⟨v311, v314, gb317⟩ w43 ⟨hS_, h0_, h1_, h2_, h3_, h4_, h5_, h6_, h7_, h8_⟩
  have HO312 : Aside0 (Kd.R (Kd.int .i64) 3 w43 w.heap.size (fun k_ => some k_ ≠ (v314 : Value).ownBlock) v311 t310) := ⟨h0_⟩
  have HO315 : Aside0 (Kd.R (Kd.int .i64) 3 w43 w.heap.size (fun k_ => some k_ ≠ (v311 : Value).ownBlock) v314 t313) := ⟨h1_⟩
  replace BK307 : Aside0 (w43.heap[gb307]? = some (.cells #[.int .i64 a0_0, .int .i64 a0_1, .int .i64 a0_2, .slice A0_3 l0_3.length c0_3] 29 (0, 0))) := ⟨h2_⟩
  have BK317 : Aside0 (w43.heap[gb317]? = some (.cells #[.int .i64 0, .slice none 0 0, .slice none 0 0] 65 (0, 0))) := ⟨h3_⟩
  have GW317 : Aside0 (w.heap.size ≤ gb317) := ⟨h4_⟩
  have GE317 : Aside0 (w.heap.size ≤ gb317) := ⟨h5_⟩
  have NB307_317 : Aside0 (gb307 ≠ gb317) := ⟨h6_⟩
  have NB317_307 : Aside0 (gb317 ≠ gb307) := ⟨h7_⟩
  replace HB : Aside0 (Below w.heap.size w w43) := ⟨h8_⟩
  clear h0_ h1_ h2_ h3_ h4_ h5_ h6_ h7_ h8_
  have hHeld : w43.cell? ⟨gb307, 0, none⟩ = some (.int .i64 a0_0) ∧ w43.cell? ⟨gb307, 1, none⟩ = some (.int .i64 a0_1) ∧ w43.cell? ⟨gb307, 2, none⟩ = some (.int .i64 a0_2) ∧ w43.cell? ⟨gb307, 3, none⟩ = some (.slice A0_3 l0_3.length c0_3) := hS_
  obtain ⟨Ao45, co45, eo45⟩ := Kd.R_slice HO312.out
  (first | subst eo45 | (injection eo45 with f1_ f2_ f3_; have f4_ := f1_.symm; have f5_ := f3_.symm; clear f1_ f2_ f3_; subst f4_; subst f5_))
  obtain ⟨Ao47, co47, eo47⟩ := Kd.R_slice HO315.out
  (first | subst eo47 | (injection eo47 with f1_ f2_ f3_; have f4_ := f1_.symm; have f5_ := f3_.symm; clear f1_ f2_ f3_; subst f4_; subst f5_))
  refine norm_ (a' := ?_) ?_ ?_
  rotate_left
  ·simp only [putAll, Act.put, List.setIfInBounds_toArray, List.set_cons_zero, List.set_cons_succ]
   rfl
  refine one_ (i := 10) (N := none) #[true, true, true, true, true, true, true, true, true, true, true, false] rfl rfl (one_of HT_.out (by kernel_rfl)) (by decide) (fun K hK => ?_)
  obtain ⟨hs44, hfs44⟩ := cc1 BK317
  have hns44_0 := NB307_317.out
  have hms44_0 := NB317_307.out
  have hs46 := bc1 BK317
  have hfs46 := bf BK317 1
  have hns46_0 := NB307_317.out
  have hms46_0 := NB317_307.out
  have hs48 := bc2 BK317
  have hfs48 := bf BK317 2
  have hns48_0 := NB307_317.out
  have hms48_0 := NB317_307.out
  refine skip_ (w1 := ?_) (by rfl) rfl ?_ ?_
  rotate_left
  ·go_simp
   rfl
  refine hK.out _ _ ⟨((cell_far (p := ⟨gb317, _, none⟩) NB307_317.out _).trans (((cell_far (p := ⟨gb317, _, none⟩) NB307_317.out _).trans (((cell_far (p := ⟨gb317, _, none⟩) NB307_317.out _).trans (hHeld.1)))))), ((cell_far (p := ⟨gb317, _, none⟩) NB307_317.out _).trans (((cell_far (p := ⟨gb317, _, none⟩) NB307_317.out _).trans (((cell_far (p := ⟨gb317, _, none⟩) NB307_317.out _).trans (hHeld.2.1)))))), ((cell_far (p := ⟨gb317, _, none⟩) NB307_317.out _).trans (((cell_far (p := ⟨gb317, _, none⟩) NB307_317.out _).trans (((cell_far (p := ⟨gb317, _, none⟩) NB307_317.out _).trans (hHeld.2.2.1)))))), ((cell_far (p := ⟨gb317, _, none⟩) NB307_317.out _).trans (((cell_far (p := ⟨gb317, _, none⟩) NB307_317.out _).trans (((cell_far (p := ⟨gb317, _, none⟩) NB307_317.out _).trans (hHeld.2.2.2))))))⟩ (fun hHeld => ?_)
  clear hK K
  refine put 11 10 #[true, true, true, true, true, true, true, true, true, true, true, true] HT_ ?_
  refine done_ (done_of HT_.out (by kernel_rfl)) ?_
  try go_wp2
  go_ret
  exact ⟨se, sbw⟩

end Go.Proofs.Ytlakjlolahjphaa.QFnExactHeldAt
