/- What the Go functions of the law FnExactHopAt come to, as Lean functions, and that they do: by a program of the session, out of the kit's printer. Conditions: none. (squeezed). -/
import Derived.Test.YtlakjlolahjphaaSq
import Derived.Test.YtlakjlolahjphaaQFnExactHopAtx0
import Derived.Test.YtlakjlolahjphaaQFnExactHopAtx1
import Derived.Test.YtlakjlolahjphaaQFnExactHopAtx2
import Derived.Test.YtlakjlolahjphaaQFnExactHopAtx5
namespace Go.Proofs.Ytlakjlolahjphaa.QFnExactHopAt
open Go.RowKit Go.Proofs.YtlakjlolahjphaaW.PrintWords Go.Proofs.YtlakjlolahjphaaW.PrintLast Go.Proofs.YtlakjlolahjphaaW.PrintMore Go.Proofs.Ytlakjlolahjphaa.Open Go.Proofs.Ytlakjlolahjphaa.Sq
attribute [local go_sem] max2_int min2_int max_two min_two max_three min_three max_four min_four   -- for this text's walks alone
attribute [local go_sem] isSome_set
set_option linter.unusedVariables false
set_option linter.unusedSimpArgs false

/-! ### spec_l19Next: function 65 -/
def spec_l19Next.f (k : Nat) (a0_0 : Int) (a0_1 : Int) (a0_2 : Int) (l0_3 : List (S106)) (a1 : Int) (a2 : Int) (a3 : Int) : Option (Int) := (spec_PieceAt.f k a0_0 a0_1 a0_2 l0_3 a3).bind fun t212 => ((spec_TableIn.f a0_0 a0_1 a0_2 l0_3 t212 a2).bind fun bt213 => (if bt213.2.2.2 = true then ((spec_l1In.f a1 0 (wrap64 ((bt213.2.2.1.length : Int) - 1))).bind fun t222 => (if t222 = true then (if 0 ≤ a1 then (if a1 < (bt213.2.2.1.length : Int) then (some (rd bt213.2.2.1 a1)) else (none)) else (none)) else (some (-1)))) else (some (-1))))
theorem spec_l19Next.mono : ∀ a0 a1 a2 a3 a4 a5 a6 k, LeO (spec_l19Next.f k a0 a1 a2 a3 a4 a5 a6) (spec_l19Next.f (k + 1) a0 a1 a2 a3 a4 a5 a6) := by
  intro a0 a1 a2 a3 a4 a5 a6 k
  unfold spec_l19Next.f
  have m0 := @spec_PieceAt.mono
  exact mo
def spec_l19Next.T1 : Bool × List (List Nat × List Nat) := (true, [([], []), ([], []), ([], []), ([1, 2], [1, 2]), ([], []), ([0, 3, 4, 3], [0, 3, 4]), ([5], [5]), ([6], [6]), ([6], [6]), ([], []), ([9, 7, 5, 0, 1, 2, 3, 4, 5, 6, 7, 9], [7, 9]), ([8, 10, 0, 1, 2, 3, 4, 5, 6, 7, 8, 9, 10], [8])])
def spec_l19Next.B1 : List Nat := [0, 0, 0, 6, 0, 31, 63, 127, 127, 0, 767, 2047]
theorem spec_l19Next.tab1 : rtab .any (opsOf Try.f65 1) = spec_l19Next.T1 := by kernel_rfl
theorem spec_l19Next.bits1 : waitsOk spec_l19Next.T1.2 spec_l19Next.B1 = true := by kernel_rfl
set_option maxHeartbeats 8000000 in
set_option maxRecDepth 100000 in
theorem spec_l19Next.calls (k : Nat) (a0_0 : Int) (a0_1 : Int) (a0_2 : Int) (A0_3 : Option Addr) (c0_3 : Nat) (l0_3 : List (S106)) (a1 : Int) (a2 : Int) (a3 : Int) (r : Int) (w : World) (hr0_3 : Kd.C k106 w A0_3 l0_3.length l0_3) (hc0_3 : l0_3.length ≤ c0_3) (h : spec_l19Next.f k a0_0 a0_1 a0_2 l0_3 a1 a2 a3 = some r) :
    Calls Try.prog 65 #[.agg #[.int .i64 a0_0, .int .i64 a0_1, .int .i64 a0_2, .slice A0_3 l0_3.length c0_3], .int .i64 a1, .int .i64 a2, .int .i64 a3] w fun e w' => e = .returned (.int .i64 r) ∧ Below w.heap.size w w' := by
 have hu29 := Try.underlying29
 have hu65 := Try.underlying65
 have HR0_3 := Aside0.mk hr0_3
 have HC0_3 := Aside0.mk hc0_3
 clear hr0_3 hc0_3
 have HB := Aside0.mk (Below.refl w.heap.size w)
 have H : ((spec_PieceAt.f k a0_0 a0_1 a0_2 l0_3 a3).bind fun t212 => ((spec_TableIn.f a0_0 a0_1 a0_2 l0_3 t212 a2).bind fun bt213 => (if bt213.2.2.2 = true then ((spec_l1In.f a1 0 (wrap64 ((bt213.2.2.1.length : Int) - 1))).bind fun t222 => (if t222 = true then (if 0 ≤ a1 then (if a1 < (bt213.2.2.1.length : Int) then (some (rd bt213.2.2.1 a1)) else (none)) else (none)) else (some (-1)))) else (some (-1))))) = some r := h
 clear h
 obtain ⟨t212, A5, H⟩ := bnd H
 obtain ⟨⟨t213, t214, t217, t220⟩, A6, H⟩ := bnd H
 replace H : (if t220 = true then ((spec_l1In.f a1 0 (wrap64 ((t217.length : Int) - 1))).bind fun t222 => (if t222 = true then (if 0 ≤ a1 then (if a1 < (t217.length : Int) then (some (rd t217 a1)) else (none)) else (none)) else (some (-1)))) else (some (-1))) = some r := H
 obtain rfl | rfl := tt t220
 ·replace H := ip H
  obtain ⟨t222, A8, H⟩ := bnd H
  obtain rfl | rfl := tt t222
  ·replace H := ip H
   obtain ⟨c10b0, H⟩ := id_ H
   obtain ⟨c11b0, H⟩ := id_ H
   obtain rfl := Option.some.inj H
   go_enter Try.func65, Try.ntmps65
   try go_wp2_with (first | ((with_reducible refine gate_dst (N := 4) rfl ?_); (try (refine gate_guard (by rfl) ?_; dsimp only)); refine bx 4 #[.int .i64 a0_0, .int .i64 a0_1, .int .i64 a0_2, .slice A0_3 l0_3.length c0_3] 29 ?_; intro gb211 hg w12 hbox hb; have BK211 := Aside0.mk hbox; have GW211 := bz w hg; have GE211 := bz w hg; replace HB := bs hb; clear hb hbox hg))
   replace BK211 := Aside0.mk (blk_drew BK211.out)
   replace HB := Aside0.mk (below_drew1 HB.out)
   refine start_ (n := 12) (S := fun w' => w'.cell? ⟨gb211, 0, none⟩ = some (.int .i64 a0_0) ∧ w'.cell? ⟨gb211, 1, none⟩ = some (.int .i64 a0_1) ∧ w'.cell? ⟨gb211, 2, none⟩ = some (.int .i64 a0_2) ∧ w'.cell? ⟨gb211, 3, none⟩ = some (.slice A0_3 l0_3.length c0_3)) (ds := []) #[false, false, false, false, false, false, false, false, false, false, false, false] (by kernel_rfl) rfl rfl ⟨bc0 BK211, bc1 BK211, bc2 BK211, bc3 BK211⟩ (fun hHeld => ?_); refine with_tabW spec_l19Next.tab1 spec_l19Next.bits1 (fun HT_ HW_ => ?_)
   generalize w12.drew = w13 at BK211 HB hHeld ⊢
   refine put 2 14 #[false, false, true, false, false, false, false, false, false, false, false, false] HT_ ?_
   refine put 4 16 #[false, false, true, false, true, false, false, false, false, false, false, false] HT_ ?_
   refine tat4 0 12 #[true, false, true, false, true, false, false, false, false, false, false, false] HT_ HW_ hHeld ?_
   refine tat4 1 13 #[true, true, true, false, true, false, false, false, false, false, false, false] HT_ HW_ hHeld ?_
   refine join_ (σ := Value × Value × Nat) 2 #[true, true, true, true, true, true, true, true, true, true, false, false] (fun s_ => [(15, .int .i64 t212), (17, .tuple #[.agg #[.int .i64 t213, s_.1, s_.2.1], .bool true]), (9, .pointer (some ⟨s_.2.2, 0, none⟩)), (11, .tuple #[.agg #[.int .i64 t213, s_.1, s_.2.1], .bool true]), (18, .agg #[.int .i64 t213, s_.1, s_.2.1]), (19, .bool true)]) (fun s_ w' => (w'.cell? ⟨gb211, 0, none⟩ = some (.int .i64 a0_0) ∧ w'.cell? ⟨gb211, 1, none⟩ = some (.int .i64 a0_1) ∧ w'.cell? ⟨gb211, 2, none⟩ = some (.int .i64 a0_2) ∧ w'.cell? ⟨gb211, 3, none⟩ = some (.slice A0_3 l0_3.length c0_3)) ∧ (Kd.R (Kd.int .i64) 3 w' w.heap.size (fun k_ => some k_ ≠ (s_.2.1 : Value).ownBlock) s_.1 t214) ∧ (Kd.R (Kd.int .i64) 3 w' w.heap.size (fun k_ => some k_ ≠ (s_.1 : Value).ownBlock) s_.2.1 t217) ∧ (w'.heap[gb211]? = some (.cells #[.int .i64 a0_0, .int .i64 a0_1, .int .i64 a0_2, .slice A0_3 l0_3.length c0_3] 29 (0, 0))) ∧ (w'.heap[s_.2.2]? = some (.cells #[.int .i64 0, .slice none 0 0, .slice none 0 0] 65 (0, 0))) ∧ (w.heap.size ≤ s_.2.2) ∧ (w.heap.size ≤ s_.2.2) ∧ (gb211 ≠ s_.2.2) ∧ (s_.2.2 ≠ gb211) ∧ (Below w.heap.size w w')) ?_ ?_
   rotate_left
   ·intro hCont
    refine two_ (i := 3) (j := 9) (Ni := some 15) (Nj := some 9) #[true, true, true, true, true, false, false, false, false, false, false, false] #[true, true, true, false, true, false, false, false, false, true, false, false] rfl rfl rfl rfl (two_of HT_.out (by kernel_rfl)) (by decide) (by decide) (fun K hK => ?_) (fun K hK => ?_)
    ·skip
     refine goes_ Try.func103 (by kernel_rfl) rfl #[.agg #[.int .i64 a0_0, .int .i64 a0_1, .int .i64 a0_2, .slice A0_3 l0_3.length c0_3], .int .i64 a3] (by rfl) rfl rfl sl ?_
     with_reducible refine (spec_PieceAt.calls k a0_0 a0_1 a0_2 _ _ l0_3 a3 t212 _ ?side1 ?side2 A5.out).mono ?_
     (case side1 => exact cb HR0_3)
     (case side2 => exact HC0_3.out)
     rintro e w14 ⟨rfl, hb⟩
     refine ⟨_, rfl, ?_⟩
     replace BK211 := bb BK211 hb
     replace HB := bsw hb
     (try clear hb)
     (try clear hb2)
     (try clear hk)
     (try clear hi)
     refine hK.out _ _ ⟨bc0 BK211, bc1 BK211, bc2 BK211, bc3 BK211⟩ (fun hHeld => ?_)
     clear hK K
     refine norm_ (a' := ?_) ?_ ?_
     rotate_left
     ·show Act.put _ (some 15) _ = _
      simp only [Act.put, List.setIfInBounds_toArray, List.set_cons_zero, List.set_cons_succ, i64_w, i32_w]
      rfl
     refine two_ (i := 5) (j := 9) (Ni := some 17) (Nj := some 9) #[true, true, true, true, true, true, false, false, false, false, false, false] #[true, true, true, true, true, false, false, false, false, true, false, false] rfl rfl rfl rfl (two_of HT_.out (by kernel_rfl)) (by decide) (by decide) (fun K hK => ?_) (fun K hK => ?_)
     ·skip
      refine goes_ Try.func104 (by kernel_rfl) rfl #[.agg #[.int .i64 a0_0, .int .i64 a0_1, .int .i64 a0_2, .slice A0_3 l0_3.length c0_3], .int .i64 t212, .int .i64 a2] (by rfl) rfl rfl sl ?_
      with_reducible refine (spec_TableIn.calls a0_0 a0_1 a0_2 _ _ l0_3 t212 a2 t213 t214 t217 true _ ?side1 ?side2 A6.out).mono ?_
      (case side1 => exact cb HR0_3)
      (case side2 => exact HC0_3.out)
      rintro e w15 ⟨v215, v218, rfl, ho0, ho1, hb⟩
      refine ⟨_, rfl, ?_⟩
      have HO216 := Aside0.mk (Kd.R_lower ho0 (below_size (sbw)))
      have HO219 := Aside0.mk (Kd.R_lower ho1 (below_size (sbw)))
      replace BK211 := bb BK211 hb
      replace HB := bsw hb
      (try clear hb)
      (try clear hb2)
      (try clear hk)
      (try clear hi)
      (try clear ho0)
      (try clear ho1)
      refine hK.out _ _ ⟨bc0 BK211, bc1 BK211, bc2 BK211, bc3 BK211⟩ (fun hHeld => ?_)
      clear hK K
      refine norm_ (a' := ?_) ?_ ?_
      rotate_left
      ·show Act.put _ (some 17) _ = _
       simp only [Act.put, List.setIfInBounds_toArray, List.set_cons_zero, List.set_cons_succ, i64_w, i32_w]
       rfl
      refine put 6 11 #[true, true, true, true, true, true, true, false, false, false, false, false] HT_ ?_
      refine put 7 18 #[true, true, true, true, true, true, true, true, false, false, false, false] HT_ ?_
      refine put 8 19 #[true, true, true, true, true, true, true, true, true, false, false, false] HT_ ?_
      refine one_ (i := 9) (N := some 9) #[true, true, true, true, true, true, true, true, true, true, false, false] rfl rfl (one_of HT_.out (by kernel_rfl)) (by decide) (fun K hK => ?_)
      refine box_step ?hg (N := 9) ?hd (cs := #[.int .i64 0, .slice none 0 0, .slice none 0 0]) (t := 65) ?hr ?_; (case hd => rfl); (case hg => rfl); (case hr => first | (go_simp; done) | (go_simp; rfl))
      intro gb221 hg w16 hbox hb
      replace HO216 := Aside0.mk (Kd.R_below (sr HO216) hb)
      replace HO219 := Aside0.mk (Kd.R_below (sr HO219) hb)
      have BK221 := Aside0.mk hbox
      have GW221 := bzw w hg
      have GE221 := bzw w hg
      replace HB := bsw hb
      have NB211_221 := nl BK211 hg
      have NB221_211 := ng BK211 hg
      replace BK211 := bb BK211 hb
      clear hb hbox hg
      refine hK.out _ _ ⟨bc0 BK211, bc1 BK211, bc2 BK211, bc3 BK211⟩ (fun hHeld => ?_)
      clear hK K
      refine norm_ (a' := ?_) ?_ ?_
      rotate_left
      ·show Act.put _ (some 9) _ = _
       simp only [Act.put, List.setIfInBounds_toArray, List.set_cons_zero, List.set_cons_succ, i64_w, i32_w]
       rfl
      exact norm_ (by simp only [putAll, Act.put, List.setIfInBounds_toArray, List.set_cons_zero, List.set_cons_succ]) (hCont (v215, v218, gb221) _ ⟨hHeld, (sr HO216), (sr HO219), (sk BK211), (sk BK221), GW221.out, GE221.out, NB211_221.out, NB221_211.out, (sbw)⟩)
     ·skip
      refine box_step ?hg (N := 9) ?hd (cs := #[.int .i64 0, .slice none 0 0, .slice none 0 0]) (t := 65) ?hr ?_; (case hd => rfl); (case hg => rfl); (case hr => first | (go_simp; done) | (go_simp; rfl))
      intro gb221 hg w15 hbox hb
      have BK221 := Aside0.mk hbox
      have GW221 := bzw w hg
      have GE221 := bzw w hg
      replace HB := bsw hb
      have NB211_221 := nl BK211 hg
      have NB221_211 := ng BK211 hg
      replace BK211 := bb BK211 hb
      clear hb hbox hg
      refine hK.out _ _ ⟨bc0 BK211, bc1 BK211, bc2 BK211, bc3 BK211⟩ (fun hHeld => ?_)
      clear hK K
      refine norm_ (a' := ?_) ?_ ?_
      rotate_left
      ·show Act.put _ (some 9) _ = _
       simp only [Act.put, List.setIfInBounds_toArray, List.set_cons_zero, List.set_cons_succ, i64_w, i32_w]
       rfl
      refine one_ (i := 5) (N := some 17) #[true, true, true, true, true, true, false, false, false, true, false, false] rfl rfl (one_of HT_.out (by kernel_rfl)) (by decide) (fun K hK => ?_)
      refine goes_ Try.func104 (by kernel_rfl) rfl #[.agg #[.int .i64 a0_0, .int .i64 a0_1, .int .i64 a0_2, .slice A0_3 l0_3.length c0_3], .int .i64 t212, .int .i64 a2] (by rfl) rfl rfl sl ?_
      with_reducible refine (spec_TableIn.calls a0_0 a0_1 a0_2 _ _ l0_3 t212 a2 t213 t214 t217 true _ ?side1 ?side2 A6.out).mono ?_
      (case side1 => exact cb HR0_3)
      (case side2 => exact HC0_3.out)
      rintro e w16 ⟨v215, v218, rfl, ho0, ho1, hb⟩
      refine ⟨_, rfl, ?_⟩
      have HO216 := Aside0.mk (Kd.R_lower ho0 (below_size (sbw)))
      have HO219 := Aside0.mk (Kd.R_lower ho1 (below_size (sbw)))
      replace BK211 := bb BK211 hb
      replace BK221 := bb BK221 hb
      replace HB := bsw hb
      (try clear hb)
      (try clear hb2)
      (try clear hk)
      (try clear hi)
      (try clear ho0)
      (try clear ho1)
      refine hK.out _ _ ⟨bc0 BK211, bc1 BK211, bc2 BK211, bc3 BK211⟩ (fun hHeld => ?_)
      clear hK K
      refine norm_ (a' := ?_) ?_ ?_
      rotate_left
      ·show Act.put _ (some 17) _ = _
       simp only [Act.put, List.setIfInBounds_toArray, List.set_cons_zero, List.set_cons_succ, i64_w, i32_w]
       rfl
      refine put 6 11 #[true, true, true, true, true, true, true, false, false, true, false, false] HT_ ?_
      refine put 7 18 #[true, true, true, true, true, true, true, true, false, true, false, false] HT_ ?_
      refine put 8 19 #[true, true, true, true, true, true, true, true, true, true, false, false] HT_ ?_
      exact norm_ (by simp only [putAll, Act.put, List.setIfInBounds_toArray, List.set_cons_zero, List.set_cons_succ]) (hCont (v215, v218, gb221) _ ⟨hHeld, (sr HO216), (sr HO219), (sk BK211), (sk BK221), GW221.out, GE221.out, NB211_221.out, NB221_211.out, (sbw)⟩)
    ·skip
     refine box_step ?hg (N := 9) ?hd (cs := #[.int .i64 0, .slice none 0 0, .slice none 0 0]) (t := 65) ?hr ?_; (case hd => rfl); (case hg => rfl); (case hr => first | (go_simp; done) | (go_simp; rfl))
     intro gb221 hg w14 hbox hb
     have BK221 := Aside0.mk hbox
     have GW221 := bzw w hg
     have GE221 := bzw w hg
     replace HB := bsw hb
     have NB211_221 := nl BK211 hg
     have NB221_211 := ng BK211 hg
     replace BK211 := bb BK211 hb
     clear hb hbox hg
     refine hK.out _ _ ⟨bc0 BK211, bc1 BK211, bc2 BK211, bc3 BK211⟩ (fun hHeld => ?_)
     clear hK K
     refine norm_ (a' := ?_) ?_ ?_
     rotate_left
     ·show Act.put _ (some 9) _ = _
      simp only [Act.put, List.setIfInBounds_toArray, List.set_cons_zero, List.set_cons_succ, i64_w, i32_w]
      rfl
     refine one_ (i := 3) (N := some 15) #[true, true, true, true, true, false, false, false, false, true, false, false] rfl rfl (one_of HT_.out (by kernel_rfl)) (by decide) (fun K hK => ?_)
     refine goes_ Try.func103 (by kernel_rfl) rfl #[.agg #[.int .i64 a0_0, .int .i64 a0_1, .int .i64 a0_2, .slice A0_3 l0_3.length c0_3], .int .i64 a3] (by rfl) rfl rfl sl ?_
     with_reducible refine (spec_PieceAt.calls k a0_0 a0_1 a0_2 _ _ l0_3 a3 t212 _ ?side1 ?side2 A5.out).mono ?_
     (case side1 => exact cb HR0_3)
     (case side2 => exact HC0_3.out)
     rintro e w15 ⟨rfl, hb⟩
     refine ⟨_, rfl, ?_⟩
     replace BK211 := bb BK211 hb
     replace BK221 := bb BK221 hb
     replace HB := bsw hb
     (try clear hb)
     (try clear hb2)
     (try clear hk)
     (try clear hi)
     refine hK.out _ _ ⟨bc0 BK211, bc1 BK211, bc2 BK211, bc3 BK211⟩ (fun hHeld => ?_)
     clear hK K
     refine norm_ (a' := ?_) ?_ ?_
     rotate_left
     ·show Act.put _ (some 15) _ = _
      simp only [Act.put, List.setIfInBounds_toArray, List.set_cons_zero, List.set_cons_succ, i64_w, i32_w]
      rfl
     refine one_ (i := 5) (N := some 17) #[true, true, true, true, true, true, false, false, false, true, false, false] rfl rfl (one_of HT_.out (by kernel_rfl)) (by decide) (fun K hK => ?_)
     refine goes_ Try.func104 (by kernel_rfl) rfl #[.agg #[.int .i64 a0_0, .int .i64 a0_1, .int .i64 a0_2, .slice A0_3 l0_3.length c0_3], .int .i64 t212, .int .i64 a2] (by rfl) rfl rfl sl ?_
     with_reducible refine (spec_TableIn.calls a0_0 a0_1 a0_2 _ _ l0_3 t212 a2 t213 t214 t217 true _ ?side1 ?side2 A6.out).mono ?_
     (case side1 => exact cb HR0_3)
     (case side2 => exact HC0_3.out)
     rintro e w16 ⟨v215, v218, rfl, ho0, ho1, hb⟩
     refine ⟨_, rfl, ?_⟩
     have HO216 := Aside0.mk (Kd.R_lower ho0 (below_size (sbw)))
     have HO219 := Aside0.mk (Kd.R_lower ho1 (below_size (sbw)))
     replace BK211 := bb BK211 hb
     replace BK221 := bb BK221 hb
     replace HB := bsw hb
     (try clear hb)
     (try clear hb2)
     (try clear hk)
     (try clear hi)
     (try clear ho0)
     (try clear ho1)
     refine hK.out _ _ ⟨bc0 BK211, bc1 BK211, bc2 BK211, bc3 BK211⟩ (fun hHeld => ?_)
     clear hK K
     refine norm_ (a' := ?_) ?_ ?_
     rotate_left
     ·show Act.put _ (some 17) _ = _
      simp only [Act.put, List.setIfInBounds_toArray, List.set_cons_zero, List.set_cons_succ, i64_w, i32_w]
      rfl
     refine put 6 11 #[true, true, true, true, true, true, true, false, false, true, false, false] HT_ ?_
     refine put 7 18 #[true, true, true, true, true, true, true, true, false, true, false, false] HT_ ?_
     refine put 8 19 #[true, true, true, true, true, true, true, true, true, true, false, false] HT_ ?_
     exact norm_ (by simp only [putAll, Act.put, List.setIfInBounds_toArray, List.set_cons_zero, List.set_cons_succ]) (hCont (v215, v218, gb221) _ ⟨hHeld, (sr HO216), (sr HO219), (sk BK211), (sk BK221), GW221.out, GE221.out, NB211_221.out, NB221_211.out, (sbw)⟩)
   rintro ⟨v215, v218, gb221⟩ w17 ⟨hS_, h0_, h1_, h2_, h3_, h4_, h5_, h6_, h7_, h8_⟩
   have HO216 : Aside0 (Kd.R (Kd.int .i64) 3 w17 w.heap.size (fun k_ => some k_ ≠ (v218 : Value).ownBlock) v215 t214) := ⟨h0_⟩
   have HO219 : Aside0 (Kd.R (Kd.int .i64) 3 w17 w.heap.size (fun k_ => some k_ ≠ (v215 : Value).ownBlock) v218 t217) := ⟨h1_⟩
   replace BK211 : Aside0 (w17.heap[gb211]? = some (.cells #[.int .i64 a0_0, .int .i64 a0_1, .int .i64 a0_2, .slice A0_3 l0_3.length c0_3] 29 (0, 0))) := ⟨h2_⟩
   have BK221 : Aside0 (w17.heap[gb221]? = some (.cells #[.int .i64 0, .slice none 0 0, .slice none 0 0] 65 (0, 0))) := ⟨h3_⟩
   have GW221 : Aside0 (w.heap.size ≤ gb221) := ⟨h4_⟩
   have GE221 : Aside0 (w.heap.size ≤ gb221) := ⟨h5_⟩
   have NB211_221 : Aside0 (gb211 ≠ gb221) := ⟨h6_⟩
   have NB221_211 : Aside0 (gb221 ≠ gb211) := ⟨h7_⟩
   replace HB : Aside0 (Below w.heap.size w w17) := ⟨h8_⟩
   clear h0_ h1_ h2_ h3_ h4_ h5_ h6_ h7_ h8_
   have hHeld : w17.cell? ⟨gb211, 0, none⟩ = some (.int .i64 a0_0) ∧ w17.cell? ⟨gb211, 1, none⟩ = some (.int .i64 a0_1) ∧ w17.cell? ⟨gb211, 2, none⟩ = some (.int .i64 a0_2) ∧ w17.cell? ⟨gb211, 3, none⟩ = some (.slice A0_3 l0_3.length c0_3) := hS_
   obtain ⟨Ao19, co19, eo19⟩ := Kd.R_slice HO216.out
   (first | subst eo19 | (injection eo19 with f1_ f2_ f3_; have f4_ := f1_.symm; have f5_ := f3_.symm; clear f1_ f2_ f3_; subst f4_; subst f5_))
   obtain ⟨Ao21, co21, eo21⟩ := Kd.R_slice HO219.out
   (first | subst eo21 | (injection eo21 with f1_ f2_ f3_; have f4_ := f1_.symm; have f5_ := f3_.symm; clear f1_ f2_ f3_; subst f4_; subst f5_))
   refine norm_ (a' := ?_) ?_ ?_
   rotate_left
   ·simp only [putAll, Act.put, List.setIfInBounds_toArray, List.set_cons_zero, List.set_cons_succ]
    rfl
   refine one_ (i := 10) (N := none) #[true, true, true, true, true, true, true, true, true, true, true, false] rfl rfl (one_of HT_.out (by kernel_rfl)) (by decide) (fun K hK => ?_)
   obtain ⟨hs18, hfs18⟩ := cc1 BK221
   have hns18_0 := NB211_221.out
   have hms18_0 := NB221_211.out
   have hs20 := bc1 BK221
   have hfs20 := bf BK221 1
   have hns20_0 := NB211_221.out
   have hms20_0 := NB221_211.out
   have hs22 := bc2 BK221
   have hfs22 := bf BK221 2
   have hns22_0 := NB211_221.out
   have hms22_0 := NB221_211.out
   refine skip_ (w1 := ?_) (by rfl) rfl ?_ ?_
   rotate_left
   ·go_simp
    rfl
   refine hK.out _ _ ⟨((cell_far (p := ⟨gb221, _, none⟩) NB211_221.out _).trans (((cell_far (p := ⟨gb221, _, none⟩) NB211_221.out _).trans (((cell_far (p := ⟨gb221, _, none⟩) NB211_221.out _).trans (hHeld.1)))))), ((cell_far (p := ⟨gb221, _, none⟩) NB211_221.out _).trans (((cell_far (p := ⟨gb221, _, none⟩) NB211_221.out _).trans (((cell_far (p := ⟨gb221, _, none⟩) NB211_221.out _).trans (hHeld.2.1)))))), ((cell_far (p := ⟨gb221, _, none⟩) NB211_221.out _).trans (((cell_far (p := ⟨gb221, _, none⟩) NB211_221.out _).trans (((cell_far (p := ⟨gb221, _, none⟩) NB211_221.out _).trans (hHeld.2.2.1)))))), ((cell_far (p := ⟨gb221, _, none⟩) NB211_221.out _).trans (((cell_far (p := ⟨gb221, _, none⟩) NB211_221.out _).trans (((cell_far (p := ⟨gb221, _, none⟩) NB211_221.out _).trans (hHeld.2.2.2))))))⟩ (fun hHeld => ?_)
   clear hK K
   refine put 11 10 #[true, true, true, true, true, true, true, true, true, true, true, true] HT_ ?_
   refine done_ (done_of HT_.out (by kernel_rfl)) ?_
   have hnb23 := NB221_211.out
   have hnc23 := NB211_221.out
   obtain ⟨hcz24_0, hcz24_1, hcz24_2, hfz24_0, hfz24_1, hfz24_2⟩ := cc3 BK221
   try go_wp2_with (first | (go_at_call 63; (try simp only [i64_w, i32_w]); (with_reducible refine (spec_l1In.calls a1 0 (wrap64 ((t217.length : Int) - 1)) true _ A8.out).mono ?_); rintro e w' ⟨rfl, ⟨nd, rfl⟩⟩; have p223 : 0 ≤ (a1 : Int) := sa; have q223 : a1 < (t217.length : Int) := sa; obtain ⟨ad223, e223, hx223_0⟩ := Kd.at_int (Kd.R_reads' HO219.out).2.2 a1 p223 q223; cases e223; have hn223_0 : ad223.block ≠ gb221 := Kd.own_blk (Kd.R_ne HO219.out BK221.out (by decide)); have hn223_1 : ad223.block ≠ gb221 := Kd.own_blk (Kd.R_ne HO219.out BK221.out (by decide)); have hn223_2 : ad223.block ≠ gb221 := Kd.own_blk (Kd.R_ne HO219.out BK221.out (by decide)); replace hx223_0 := (cell_far (p := ⟨gb221, 0, none⟩) (by first | (rw [add_block]; exact hn223_0) | (show (Addr.add _ _).block ≠ _; rw [add_block]; exact hn223_0) | exact hn223_0) (.int .i64 t213)).trans hx223_0; replace hx223_0 := (cell_far (p := ⟨gb221, 1, none⟩) (by first | (rw [add_block]; exact hn223_1) | (show (Addr.add _ _).block ≠ _; rw [add_block]; exact hn223_1) | exact hn223_1) (.slice Ao19 t214.length co19)).trans hx223_0; replace hx223_0 := (cell_far (p := ⟨gb221, 2, none⟩) (by first | (rw [add_block]; exact hn223_2) | (show (Addr.add _ _).block ≠ _; rw [add_block]; exact hn223_2) | exact hn223_2) (.slice (some ad223) t217.length co21)).trans hx223_0; clear hn223_0; clear hn223_1; clear hn223_2; replace p223 := eq_true p223; replace q223 := eq_true q223))
   go_ret
   exact ⟨se, sbw⟩
  ·replace H := im H
   obtain rfl := Option.some.inj H
   go_enter Try.func65, Try.ntmps65
   try go_wp2_with (first | ((with_reducible refine gate_dst (N := 4) rfl ?_); (try (refine gate_guard (by rfl) ?_; dsimp only)); refine bx 4 #[.int .i64 a0_0, .int .i64 a0_1, .int .i64 a0_2, .slice A0_3 l0_3.length c0_3] 29 ?_; intro gb211 hg w25 hbox hb; have BK211 := Aside0.mk hbox; have GW211 := bz w hg; have GE211 := bz w hg; replace HB := bs hb; clear hb hbox hg))
   replace BK211 := Aside0.mk (blk_drew BK211.out)
   replace HB := Aside0.mk (below_drew1 HB.out)
   refine start_ (n := 12) (S := fun w' => w'.cell? ⟨gb211, 0, none⟩ = some (.int .i64 a0_0) ∧ w'.cell? ⟨gb211, 1, none⟩ = some (.int .i64 a0_1) ∧ w'.cell? ⟨gb211, 2, none⟩ = some (.int .i64 a0_2) ∧ w'.cell? ⟨gb211, 3, none⟩ = some (.slice A0_3 l0_3.length c0_3)) (ds := []) #[false, false, false, false, false, false, false, false, false, false, false, false] (by kernel_rfl) rfl rfl ⟨bc0 BK211, bc1 BK211, bc2 BK211, bc3 BK211⟩ (fun hHeld => ?_); refine with_tabW spec_l19Next.tab1 spec_l19Next.bits1 (fun HT_ HW_ => ?_)
   generalize w25.drew = w26 at BK211 HB hHeld ⊢
   refine put 2 14 #[false, false, true, false, false, false, false, false, false, false, false, false] HT_ ?_
   refine put 4 16 #[false, false, true, false, true, false, false, false, false, false, false, false] HT_ ?_
   refine tat4 0 12 #[true, false, true, false, true, false, false, false, false, false, false, false] HT_ HW_ hHeld ?_
   refine tat4 1 13 #[true, true, true, false, true, false, false, false, false, false, false, false] HT_ HW_ hHeld ?_
   refine join_ (σ := Value × Value × Nat) 2 #[true, true, true, true, true, true, true, true, true, true, false, false] (fun s_ => [(15, .int .i64 t212), (17, .tuple #[.agg #[.int .i64 t213, s_.1, s_.2.1], .bool true]), (9, .pointer (some ⟨s_.2.2, 0, none⟩)), (11, .tuple #[.agg #[.int .i64 t213, s_.1, s_.2.1], .bool true]), (18, .agg #[.int .i64 t213, s_.1, s_.2.1]), (19, .bool true)]) (fun s_ w' => (w'.cell? ⟨gb211, 0, none⟩ = some (.int .i64 a0_0) ∧ w'.cell? ⟨gb211, 1, none⟩ = some (.int .i64 a0_1) ∧ w'.cell? ⟨gb211, 2, none⟩ = some (.int .i64 a0_2) ∧ w'.cell? ⟨gb211, 3, none⟩ = some (.slice A0_3 l0_3.length c0_3)) ∧ (Kd.R (Kd.int .i64) 3 w' w.heap.size (fun k_ => some k_ ≠ (s_.2.1 : Value).ownBlock) s_.1 t214) ∧ (Kd.R (Kd.int .i64) 3 w' w.heap.size (fun k_ => some k_ ≠ (s_.1 : Value).ownBlock) s_.2.1 t217) ∧ (w'.heap[gb211]? = some (.cells #[.int .i64 a0_0, .int .i64 a0_1, .int .i64 a0_2, .slice A0_3 l0_3.length c0_3] 29 (0, 0))) ∧ (w'.heap[s_.2.2]? = some (.cells #[.int .i64 0, .slice none 0 0, .slice none 0 0] 65 (0, 0))) ∧ (w.heap.size ≤ s_.2.2) ∧ (w.heap.size ≤ s_.2.2) ∧ (gb211 ≠ s_.2.2) ∧ (s_.2.2 ≠ gb211) ∧ (Below w.heap.size w w')) ?_ ?_
   rotate_left
   ·intro hCont
    refine two_ (i := 3) (j := 9) (Ni := some 15) (Nj := some 9) #[true, true, true, true, true, false, false, false, false, false, false, false] #[true, true, true, false, true, false, false, false, false, true, false, false] rfl rfl rfl rfl (two_of HT_.out (by kernel_rfl)) (by decide) (by decide) (fun K hK => ?_) (fun K hK => ?_)
    ·skip
     refine goes_ Try.func103 (by kernel_rfl) rfl #[.agg #[.int .i64 a0_0, .int .i64 a0_1, .int .i64 a0_2, .slice A0_3 l0_3.length c0_3], .int .i64 a3] (by rfl) rfl rfl sl ?_
     with_reducible refine (spec_PieceAt.calls k a0_0 a0_1 a0_2 _ _ l0_3 a3 t212 _ ?side1 ?side2 A5.out).mono ?_
     (case side1 => exact cb HR0_3)
     (case side2 => exact HC0_3.out)
     rintro e w27 ⟨rfl, hb⟩
     refine ⟨_, rfl, ?_⟩
     replace BK211 := bb BK211 hb
     replace HB := bsw hb
     (try clear hb)
     (try clear hb2)
     (try clear hk)
     (try clear hi)
     refine hK.out _ _ ⟨bc0 BK211, bc1 BK211, bc2 BK211, bc3 BK211⟩ (fun hHeld => ?_)
     clear hK K
     refine norm_ (a' := ?_) ?_ ?_
     rotate_left
     ·show Act.put _ (some 15) _ = _
      simp only [Act.put, List.setIfInBounds_toArray, List.set_cons_zero, List.set_cons_succ, i64_w, i32_w]
      rfl
     refine two_ (i := 5) (j := 9) (Ni := some 17) (Nj := some 9) #[true, true, true, true, true, true, false, false, false, false, false, false] #[true, true, true, true, true, false, false, false, false, true, false, false] rfl rfl rfl rfl (two_of HT_.out (by kernel_rfl)) (by decide) (by decide) (fun K hK => ?_) (fun K hK => ?_)
     ·skip
      refine goes_ Try.func104 (by kernel_rfl) rfl #[.agg #[.int .i64 a0_0, .int .i64 a0_1, .int .i64 a0_2, .slice A0_3 l0_3.length c0_3], .int .i64 t212, .int .i64 a2] (by rfl) rfl rfl sl ?_
      with_reducible refine (spec_TableIn.calls a0_0 a0_1 a0_2 _ _ l0_3 t212 a2 t213 t214 t217 true _ ?side1 ?side2 A6.out).mono ?_
      (case side1 => exact cb HR0_3)
      (case side2 => exact HC0_3.out)
      rintro e w28 ⟨v215, v218, rfl, ho0, ho1, hb⟩
      refine ⟨_, rfl, ?_⟩
      have HO216 := Aside0.mk (Kd.R_lower ho0 (below_size (sbw)))
      have HO219 := Aside0.mk (Kd.R_lower ho1 (below_size (sbw)))
      replace BK211 := bb BK211 hb
      replace HB := bsw hb
      (try clear hb)
      (try clear hb2)
      (try clear hk)
      (try clear hi)
      (try clear ho0)
      (try clear ho1)
      refine hK.out _ _ ⟨bc0 BK211, bc1 BK211, bc2 BK211, bc3 BK211⟩ (fun hHeld => ?_)
      clear hK K
      refine norm_ (a' := ?_) ?_ ?_
      rotate_left
      ·show Act.put _ (some 17) _ = _
       simp only [Act.put, List.setIfInBounds_toArray, List.set_cons_zero, List.set_cons_succ, i64_w, i32_w]
       rfl
      refine put 6 11 #[true, true, true, true, true, true, true, false, false, false, false, false] HT_ ?_
      refine put 7 18 #[true, true, true, true, true, true, true, true, false, false, false, false] HT_ ?_
      refine put 8 19 #[true, true, true, true, true, true, true, true, true, false, false, false] HT_ ?_
      refine one_ (i := 9) (N := some 9) #[true, true, true, true, true, true, true, true, true, true, false, false] rfl rfl (one_of HT_.out (by kernel_rfl)) (by decide) (fun K hK => ?_)
      refine box_step ?hg (N := 9) ?hd (cs := #[.int .i64 0, .slice none 0 0, .slice none 0 0]) (t := 65) ?hr ?_; (case hd => rfl); (case hg => rfl); (case hr => first | (go_simp; done) | (go_simp; rfl))
      intro gb221 hg w29 hbox hb
      replace HO216 := Aside0.mk (Kd.R_below (sr HO216) hb)
      replace HO219 := Aside0.mk (Kd.R_below (sr HO219) hb)
      have BK221 := Aside0.mk hbox
      have GW221 := bzw w hg
      have GE221 := bzw w hg
      replace HB := bsw hb
      have NB211_221 := nl BK211 hg
      have NB221_211 := ng BK211 hg
      replace BK211 := bb BK211 hb
      clear hb hbox hg
      refine hK.out _ _ ⟨bc0 BK211, bc1 BK211, bc2 BK211, bc3 BK211⟩ (fun hHeld => ?_)
      clear hK K
      refine norm_ (a' := ?_) ?_ ?_
      rotate_left
      ·show Act.put _ (some 9) _ = _
       simp only [Act.put, List.setIfInBounds_toArray, List.set_cons_zero, List.set_cons_succ, i64_w, i32_w]
       rfl
      exact norm_ (by simp only [putAll, Act.put, List.setIfInBounds_toArray, List.set_cons_zero, List.set_cons_succ]) (hCont (v215, v218, gb221) _ ⟨hHeld, (sr HO216), (sr HO219), (sk BK211), (sk BK221), GW221.out, GE221.out, NB211_221.out, NB221_211.out, (sbw)⟩)
     ·skip
      refine box_step ?hg (N := 9) ?hd (cs := #[.int .i64 0, .slice none 0 0, .slice none 0 0]) (t := 65) ?hr ?_; (case hd => rfl); (case hg => rfl); (case hr => first | (go_simp; done) | (go_simp; rfl))
      intro gb221 hg w28 hbox hb
      have BK221 := Aside0.mk hbox
      have GW221 := bzw w hg
      have GE221 := bzw w hg
      replace HB := bsw hb
      have NB211_221 := nl BK211 hg
      have NB221_211 := ng BK211 hg
      replace BK211 := bb BK211 hb
      clear hb hbox hg
      refine hK.out _ _ ⟨bc0 BK211, bc1 BK211, bc2 BK211, bc3 BK211⟩ (fun hHeld => ?_)
      clear hK K
      refine norm_ (a' := ?_) ?_ ?_
      rotate_left
      ·show Act.put _ (some 9) _ = _
       simp only [Act.put, List.setIfInBounds_toArray, List.set_cons_zero, List.set_cons_succ, i64_w, i32_w]
       rfl
      refine one_ (i := 5) (N := some 17) #[true, true, true, true, true, true, false, false, false, true, false, false] rfl rfl (one_of HT_.out (by kernel_rfl)) (by decide) (fun K hK => ?_)
      refine goes_ Try.func104 (by kernel_rfl) rfl #[.agg #[.int .i64 a0_0, .int .i64 a0_1, .int .i64 a0_2, .slice A0_3 l0_3.length c0_3], .int .i64 t212, .int .i64 a2] (by rfl) rfl rfl sl ?_
      with_reducible refine (spec_TableIn.calls a0_0 a0_1 a0_2 _ _ l0_3 t212 a2 t213 t214 t217 true _ ?side1 ?side2 A6.out).mono ?_
      (case side1 => exact cb HR0_3)
      (case side2 => exact HC0_3.out)
      rintro e w29 ⟨v215, v218, rfl, ho0, ho1, hb⟩
      refine ⟨_, rfl, ?_⟩
      have HO216 := Aside0.mk (Kd.R_lower ho0 (below_size (sbw)))
      have HO219 := Aside0.mk (Kd.R_lower ho1 (below_size (sbw)))
      replace BK211 := bb BK211 hb
      replace BK221 := bb BK221 hb
      replace HB := bsw hb
      (try clear hb)
      (try clear hb2)
      (try clear hk)
      (try clear hi)
      (try clear ho0)
      (try clear ho1)
      refine hK.out _ _ ⟨bc0 BK211, bc1 BK211, bc2 BK211, bc3 BK211⟩ (fun hHeld => ?_)
      clear hK K
      refine norm_ (a' := ?_) ?_ ?_
      rotate_left
      ·show Act.put _ (some 17) _ = _
       simp only [Act.put, List.setIfInBounds_toArray, List.set_cons_zero, List.set_cons_succ, i64_w, i32_w]
       rfl
      refine put 6 11 #[true, true, true, true, true, true, true, false, false, true, false, false] HT_ ?_
      refine put 7 18 #[true, true, true, true, true, true, true, true, false, true, false, false] HT_ ?_
      refine put 8 19 #[true, true, true, true, true, true, true, true, true, true, false, false] HT_ ?_
      exact norm_ (by simp only [putAll, Act.put, List.setIfInBounds_toArray, List.set_cons_zero, List.set_cons_succ]) (hCont (v215, v218, gb221) _ ⟨hHeld, (sr HO216), (sr HO219), (sk BK211), (sk BK221), GW221.out, GE221.out, NB211_221.out, NB221_211.out, (sbw)⟩)
    ·skip
     refine box_step ?hg (N := 9) ?hd (cs := #[.int .i64 0, .slice none 0 0, .slice none 0 0]) (t := 65) ?hr ?_; (case hd => rfl); (case hg => rfl); (case hr => first | (go_simp; done) | (go_simp; rfl))
     intro gb221 hg w27 hbox hb
     have BK221 := Aside0.mk hbox
     have GW221 := bzw w hg
     have GE221 := bzw w hg
     replace HB := bsw hb
     have NB211_221 := nl BK211 hg
     have NB221_211 := ng BK211 hg
     replace BK211 := bb BK211 hb
     clear hb hbox hg
     refine hK.out _ _ ⟨bc0 BK211, bc1 BK211, bc2 BK211, bc3 BK211⟩ (fun hHeld => ?_)
     clear hK K
     refine norm_ (a' := ?_) ?_ ?_
     rotate_left
     ·show Act.put _ (some 9) _ = _
      simp only [Act.put, List.setIfInBounds_toArray, List.set_cons_zero, List.set_cons_succ, i64_w, i32_w]
      rfl
     refine one_ (i := 3) (N := some 15) #[true, true, true, true, true, false, false, false, false, true, false, false] rfl rfl (one_of HT_.out (by kernel_rfl)) (by decide) (fun K hK => ?_)
     refine goes_ Try.func103 (by kernel_rfl) rfl #[.agg #[.int .i64 a0_0, .int .i64 a0_1, .int .i64 a0_2, .slice A0_3 l0_3.length c0_3], .int .i64 a3] (by rfl) rfl rfl sl ?_
     with_reducible refine (spec_PieceAt.calls k a0_0 a0_1 a0_2 _ _ l0_3 a3 t212 _ ?side1 ?side2 A5.out).mono ?_
     (case side1 => exact cb HR0_3)
     (case side2 => exact HC0_3.out)
     rintro e w28 ⟨rfl, hb⟩
     refine ⟨_, rfl, ?_⟩
     replace BK211 := bb BK211 hb
     replace BK221 := bb BK221 hb
     replace HB := bsw hb
     (try clear hb)
     (try clear hb2)
     (try clear hk)
     (try clear hi)
     refine hK.out _ _ ⟨bc0 BK211, bc1 BK211, bc2 BK211, bc3 BK211⟩ (fun hHeld => ?_)
     clear hK K
     refine norm_ (a' := ?_) ?_ ?_
     rotate_left
     ·show Act.put _ (some 15) _ = _
      simp only [Act.put, List.setIfInBounds_toArray, List.set_cons_zero, List.set_cons_succ, i64_w, i32_w]
      rfl
     refine one_ (i := 5) (N := some 17) #[true, true, true, true, true, true, false, false, false, true, false, false] rfl rfl (one_of HT_.out (by kernel_rfl)) (by decide) (fun K hK => ?_)
     refine goes_ Try.func104 (by kernel_rfl) rfl #[.agg #[.int .i64 a0_0, .int .i64 a0_1, .int .i64 a0_2, .slice A0_3 l0_3.length c0_3], .int .i64 t212, .int .i64 a2] (by rfl) rfl rfl sl ?_
     with_reducible refine (spec_TableIn.calls a0_0 a0_1 a0_2 _ _ l0_3 t212 a2 t213 t214 t217 true _ ?side1 ?side2 A6.out).mono ?_
     (case side1 => exact cb HR0_3)
     (case side2 => exact HC0_3.out)
     rintro e w29 ⟨v215, v218, rfl, ho0, ho1, hb⟩
     refine ⟨_, rfl, ?_⟩
     have HO216 := Aside0.mk (Kd.R_lower ho0 (below_size (sbw)))
     have HO219 := Aside0.mk (Kd.R_lower ho1 (below_size (sbw)))
     replace BK211 := bb BK211 hb
     replace BK221 := bb BK221 hb
     replace HB := bsw hb
     (try clear hb)
     (try clear hb2)
     (try clear hk)
     (try clear hi)
     (try clear ho0)
     (try clear ho1)
     refine hK.out _ _ ⟨bc0 BK211, bc1 BK211, bc2 BK211, bc3 BK211⟩ (fun hHeld => ?_)
     clear hK K
     refine norm_ (a' := ?_) ?_ ?_
     rotate_left
     ·show Act.put _ (some 17) _ = _
      simp only [Act.put, List.setIfInBounds_toArray, List.set_cons_zero, List.set_cons_succ, i64_w, i32_w]
      rfl
     refine put 6 11 #[true, true, true, true, true, true, true, false, false, true, false, false] HT_ ?_
     refine put 7 18 #[true, true, true, true, true, true, true, true, false, true, false, false] HT_ ?_
     refine put 8 19 #[true, true, true, true, true, true, true, true, true, true, false, false] HT_ ?_
     exact norm_ (by simp only [putAll, Act.put, List.setIfInBounds_toArray, List.set_cons_zero, List.set_cons_succ]) (hCont (v215, v218, gb221) _ ⟨hHeld, (sr HO216), (sr HO219), (sk BK211), (sk BK221), GW221.out, GE221.out, NB211_221.out, NB221_211.out, (sbw)⟩)
   rintro ⟨v215, v218, gb221⟩ w30 ⟨hS_, h0_, h1_, h2_, h3_, h4_, h5_, h6_, h7_, h8_⟩
   have HO216 : Aside0 (Kd.R (Kd.int .i64) 3 w30 w.heap.size (fun k_ => some k_ ≠ (v218 : Value).ownBlock) v215 t214) := ⟨h0_⟩
   have HO219 : Aside0 (Kd.R (Kd.int .i64) 3 w30 w.heap.size (fun k_ => some k_ ≠ (v215 : Value).ownBlock) v218 t217) := ⟨h1_⟩
   replace BK211 : Aside0 (w30.heap[gb211]? = some (.cells #[.int .i64 a0_0, .int .i64 a0_1, .int .i64 a0_2, .slice A0_3 l0_3.length c0_3] 29 (0, 0))) := ⟨h2_⟩
   have BK221 : Aside0 (w30.heap[gb221]? = some (.cells #[.int .i64 0, .slice none 0 0, .slice none 0 0] 65 (0, 0))) := ⟨h3_⟩
   have GW221 : Aside0 (w.heap.size ≤ gb221) := ⟨h4_⟩
   have GE221 : Aside0 (w.heap.size ≤ gb221) := ⟨h5_⟩
   have NB211_221 : Aside0 (gb211 ≠ gb221) := ⟨h6_⟩
   have NB221_211 : Aside0 (gb221 ≠ gb211) := ⟨h7_⟩
   replace HB : Aside0 (Below w.heap.size w w30) := ⟨h8_⟩
   clear h0_ h1_ h2_ h3_ h4_ h5_ h6_ h7_ h8_
   have hHeld : w30.cell? ⟨gb211, 0, none⟩ = some (.int .i64 a0_0) ∧ w30.cell? ⟨gb211, 1, none⟩ = some (.int .i64 a0_1) ∧ w30.cell? ⟨gb211, 2, none⟩ = some (.int .i64 a0_2) ∧ w30.cell? ⟨gb211, 3, none⟩ = some (.slice A0_3 l0_3.length c0_3) := hS_
   obtain ⟨Ao32, co32, eo32⟩ := Kd.R_slice HO216.out
   (first | subst eo32 | (injection eo32 with f1_ f2_ f3_; have f4_ := f1_.symm; have f5_ := f3_.symm; clear f1_ f2_ f3_; subst f4_; subst f5_))
   obtain ⟨Ao34, co34, eo34⟩ := Kd.R_slice HO219.out
   (first | subst eo34 | (injection eo34 with f1_ f2_ f3_; have f4_ := f1_.symm; have f5_ := f3_.symm; clear f1_ f2_ f3_; subst f4_; subst f5_))
   refine norm_ (a' := ?_) ?_ ?_
   rotate_left
   ·simp only [putAll, Act.put, List.setIfInBounds_toArray, List.set_cons_zero, List.set_cons_succ]
    rfl
   refine one_ (i := 10) (N := none) #[true, true, true, true, true, true, true, true, true, true, true, false] rfl rfl (one_of HT_.out (by kernel_rfl)) (by decide) (fun K hK => ?_)
   obtain ⟨hs31, hfs31⟩ := cc1 BK221
   have hns31_0 := NB211_221.out
   have hms31_0 := NB221_211.out
   have hs33 := bc1 BK221
   have hfs33 := bf BK221 1
   have hns33_0 := NB211_221.out
   have hms33_0 := NB221_211.out
   have hs35 := bc2 BK221
   have hfs35 := bf BK221 2
   have hns35_0 := NB211_221.out
   have hms35_0 := NB221_211.out
   refine skip_ (w1 := ?_) (by rfl) rfl ?_ ?_
   rotate_left
   ·go_simp
    rfl
   refine hK.out _ _ ⟨((cell_far (p := ⟨gb221, _, none⟩) NB211_221.out _).trans (((cell_far (p := ⟨gb221, _, none⟩) NB211_221.out _).trans (((cell_far (p := ⟨gb221, _, none⟩) NB211_221.out _).trans (hHeld.1)))))), ((cell_far (p := ⟨gb221, _, none⟩) NB211_221.out _).trans (((cell_far (p := ⟨gb221, _, none⟩) NB211_221.out _).trans (((cell_far (p := ⟨gb221, _, none⟩) NB211_221.out _).trans (hHeld.2.1)))))), ((cell_far (p := ⟨gb221, _, none⟩) NB211_221.out _).trans (((cell_far (p := ⟨gb221, _, none⟩) NB211_221.out _).trans (((cell_far (p := ⟨gb221, _, none⟩) NB211_221.out _).trans (hHeld.2.2.1)))))), ((cell_far (p := ⟨gb221, _, none⟩) NB211_221.out _).trans (((cell_far (p := ⟨gb221, _, none⟩) NB211_221.out _).trans (((cell_far (p := ⟨gb221, _, none⟩) NB211_221.out _).trans (hHeld.2.2.2))))))⟩ (fun hHeld => ?_)
   clear hK K
   refine put 11 10 #[true, true, true, true, true, true, true, true, true, true, true, true] HT_ ?_
   refine done_ (done_of HT_.out (by kernel_rfl)) ?_
   have hnb36 := NB221_211.out
   have hnc36 := NB211_221.out
   obtain ⟨hcz37_0, hcz37_1, hcz37_2, hfz37_0, hfz37_1, hfz37_2⟩ := cc3 BK221
   try go_wp2_with (first | (go_at_call 63; (try simp only [i64_w, i32_w]); (with_reducible refine (spec_l1In.calls a1 0 (wrap64 ((t217.length : Int) - 1)) false _ A8.out).mono ?_); rintro e w' ⟨rfl, ⟨nd, rfl⟩⟩))
   go_ret
   exact ⟨se, sbw⟩
 ·replace H := im H
  obtain rfl := Option.some.inj H
  go_enter Try.func65, Try.ntmps65
  try go_wp2_with (first | ((with_reducible refine gate_dst (N := 4) rfl ?_); (try (refine gate_guard (by rfl) ?_; dsimp only)); refine bx 4 #[.int .i64 a0_0, .int .i64 a0_1, .int .i64 a0_2, .slice A0_3 l0_3.length c0_3] 29 ?_; intro gb211 hg w38 hbox hb; have BK211 := Aside0.mk hbox; have GW211 := bz w hg; have GE211 := bz w hg; replace HB := bs hb; clear hb hbox hg))
  replace BK211 := Aside0.mk (blk_drew BK211.out)
  replace HB := Aside0.mk (below_drew1 HB.out)
  refine start_ (n := 12) (S := fun w' => w'.cell? ⟨gb211, 0, none⟩ = some (.int .i64 a0_0) ∧ w'.cell? ⟨gb211, 1, none⟩ = some (.int .i64 a0_1) ∧ w'.cell? ⟨gb211, 2, none⟩ = some (.int .i64 a0_2) ∧ w'.cell? ⟨gb211, 3, none⟩ = some (.slice A0_3 l0_3.length c0_3)) (ds := []) #[false, false, false, false, false, false, false, false, false, false, false, false] (by kernel_rfl) rfl rfl ⟨bc0 BK211, bc1 BK211, bc2 BK211, bc3 BK211⟩ (fun hHeld => ?_); refine with_tabW spec_l19Next.tab1 spec_l19Next.bits1 (fun HT_ HW_ => ?_)
  generalize w38.drew = w39 at BK211 HB hHeld ⊢
  refine put 2 14 #[false, false, true, false, false, false, false, false, false, false, false, false] HT_ ?_
  refine put 4 16 #[false, false, true, false, true, false, false, false, false, false, false, false] HT_ ?_
  refine tat4 0 12 #[true, false, true, false, true, false, false, false, false, false, false, false] HT_ HW_ hHeld ?_
  refine tat4 1 13 #[true, true, true, false, true, false, false, false, false, false, false, false] HT_ HW_ hHeld ?_
  refine join_ (σ := Value × Value × Nat) 2 #[true, true, true, true, true, true, true, true, true, true, false, false] (fun s_ => [(15, .int .i64 t212), (17, .tuple #[.agg #[.int .i64 t213, s_.1, s_.2.1], .bool false]), (9, .pointer (some ⟨s_.2.2, 0, none⟩)), (11, .tuple #[.agg #[.int .i64 t213, s_.1, s_.2.1], .bool false]), (18, .agg #[.int .i64 t213, s_.1, s_.2.1]), (19, .bool false)]) (fun s_ w' => (w'.cell? ⟨gb211, 0, none⟩ = some (.int .i64 a0_0) ∧ w'.cell? ⟨gb211, 1, none⟩ = some (.int .i64 a0_1) ∧ w'.cell? ⟨gb211, 2, none⟩ = some (.int .i64 a0_2) ∧ w'.cell? ⟨gb211, 3, none⟩ = some (.slice A0_3 l0_3.length c0_3)) ∧ (Kd.R (Kd.int .i64) 3 w' w.heap.size (fun k_ => some k_ ≠ (s_.2.1 : Value).ownBlock) s_.1 t214) ∧ (Kd.R (Kd.int .i64) 3 w' w.heap.size (fun k_ => some k_ ≠ (s_.1 : Value).ownBlock) s_.2.1 t217) ∧ (w'.heap[gb211]? = some (.cells #[.int .i64 a0_0, .int .i64 a0_1, .int .i64 a0_2, .slice A0_3 l0_3.length c0_3] 29 (0, 0))) ∧ (w'.heap[s_.2.2]? = some (.cells #[.int .i64 0, .slice none 0 0, .slice none 0 0] 65 (0, 0))) ∧ (w.heap.size ≤ s_.2.2) ∧ (w.heap.size ≤ s_.2.2) ∧ (gb211 ≠ s_.2.2) ∧ (s_.2.2 ≠ gb211) ∧ (Below w.heap.size w w')) ?_ ?_
  rotate_left
  ·intro hCont
   refine two_ (i := 3) (j := 9) (Ni := some 15) (Nj := some 9) #[true, true, true, true, true, false, false, false, false, false, false, false] #[true, true, true, false, true, false, false, false, false, true, false, false] rfl rfl rfl rfl (two_of HT_.out (by kernel_rfl)) (by decide) (by decide) (fun K hK => ?_) (fun K hK => ?_)
   ·skip
    refine goes_ Try.func103 (by kernel_rfl) rfl #[.agg #[.int .i64 a0_0, .int .i64 a0_1, .int .i64 a0_2, .slice A0_3 l0_3.length c0_3], .int .i64 a3] (by rfl) rfl rfl sl ?_
    with_reducible refine (spec_PieceAt.calls k a0_0 a0_1 a0_2 _ _ l0_3 a3 t212 _ ?side1 ?side2 A5.out).mono ?_
    (case side1 => exact cb HR0_3)
    (case side2 => exact HC0_3.out)
    rintro e w40 ⟨rfl, hb⟩
    refine ⟨_, rfl, ?_⟩
    replace BK211 := bb BK211 hb
    replace HB := bsw hb
    (try clear hb)
    (try clear hb2)
    (try clear hk)
    (try clear hi)
    refine hK.out _ _ ⟨bc0 BK211, bc1 BK211, bc2 BK211, bc3 BK211⟩ (fun hHeld => ?_)
    clear hK K
    refine norm_ (a' := ?_) ?_ ?_
    rotate_left
    ·show Act.put _ (some 15) _ = _
     simp only [Act.put, List.setIfInBounds_toArray, List.set_cons_zero, List.set_cons_succ, i64_w, i32_w]
     rfl
    refine two_ (i := 5) (j := 9) (Ni := some 17) (Nj := some 9) #[true, true, true, true, true, true, false, false, false, false, false, false] #[true, true, true, true, true, false, false, false, false, true, false, false] rfl rfl rfl rfl (two_of HT_.out (by kernel_rfl)) (by decide) (by decide) (fun K hK => ?_) (fun K hK => ?_)
    ·skip
     refine goes_ Try.func104 (by kernel_rfl) rfl #[.agg #[.int .i64 a0_0, .int .i64 a0_1, .int .i64 a0_2, .slice A0_3 l0_3.length c0_3], .int .i64 t212, .int .i64 a2] (by rfl) rfl rfl sl ?_
     with_reducible refine (spec_TableIn.calls a0_0 a0_1 a0_2 _ _ l0_3 t212 a2 t213 t214 t217 false _ ?side1 ?side2 A6.out).mono ?_
     (case side1 => exact cb HR0_3)
     (case side2 => exact HC0_3.out)
     rintro e w41 ⟨v215, v218, rfl, ho0, ho1, hb⟩
     refine ⟨_, rfl, ?_⟩
     have HO216 := Aside0.mk (Kd.R_lower ho0 (below_size (sbw)))
     have HO219 := Aside0.mk (Kd.R_lower ho1 (below_size (sbw)))
     replace BK211 := bb BK211 hb
     replace HB := bsw hb
     (try clear hb)
     (try clear hb2)
     (try clear hk)
     (try clear hi)
     (try clear ho0)
     (try clear ho1)
     refine hK.out _ _ ⟨bc0 BK211, bc1 BK211, bc2 BK211, bc3 BK211⟩ (fun hHeld => ?_)
     clear hK K
     refine norm_ (a' := ?_) ?_ ?_
     rotate_left
     ·show Act.put _ (some 17) _ = _
      simp only [Act.put, List.setIfInBounds_toArray, List.set_cons_zero, List.set_cons_succ, i64_w, i32_w]
      rfl
     refine put 6 11 #[true, true, true, true, true, true, true, false, false, false, false, false] HT_ ?_
     refine put 7 18 #[true, true, true, true, true, true, true, true, false, false, false, false] HT_ ?_
     refine put 8 19 #[true, true, true, true, true, true, true, true, true, false, false, false] HT_ ?_
     refine one_ (i := 9) (N := some 9) #[true, true, true, true, true, true, true, true, true, true, false, false] rfl rfl (one_of HT_.out (by kernel_rfl)) (by decide) (fun K hK => ?_)
     refine box_step ?hg (N := 9) ?hd (cs := #[.int .i64 0, .slice none 0 0, .slice none 0 0]) (t := 65) ?hr ?_; (case hd => rfl); (case hg => rfl); (case hr => first | (go_simp; done) | (go_simp; rfl))
     intro gb221 hg w42 hbox hb
     replace HO216 := Aside0.mk (Kd.R_below (sr HO216) hb)
     replace HO219 := Aside0.mk (Kd.R_below (sr HO219) hb)
     have BK221 := Aside0.mk hbox
     have GW221 := bzw w hg
     have GE221 := bzw w hg
     replace HB := bsw hb
     have NB211_221 := nl BK211 hg
     have NB221_211 := ng BK211 hg
     replace BK211 := bb BK211 hb
     clear hb hbox hg
     refine hK.out _ _ ⟨bc0 BK211, bc1 BK211, bc2 BK211, bc3 BK211⟩ (fun hHeld => ?_)
     clear hK K
     refine norm_ (a' := ?_) ?_ ?_
     rotate_left
     ·show Act.put _ (some 9) _ = _
      simp only [Act.put, List.setIfInBounds_toArray, List.set_cons_zero, List.set_cons_succ, i64_w, i32_w]
      rfl
     exact norm_ (by simp only [putAll, Act.put, List.setIfInBounds_toArray, List.set_cons_zero, List.set_cons_succ]) (hCont (v215, v218, gb221) _ ⟨hHeld, (sr HO216), (sr HO219), (sk BK211), (sk BK221), GW221.out, GE221.out, NB211_221.out, NB221_211.out, (sbw)⟩)
    ·skip
     refine box_step ?hg (N := 9) ?hd (cs := #[.int .i64 0, .slice none 0 0, .slice none 0 0]) (t := 65) ?hr ?_; (case hd => rfl); (case hg => rfl); (case hr => first | (go_simp; done) | (go_simp; rfl))
     intro gb221 hg w41 hbox hb
     have BK221 := Aside0.mk hbox
     have GW221 := bzw w hg
     have GE221 := bzw w hg
     replace HB := bsw hb
     have NB211_221 := nl BK211 hg
     have NB221_211 := ng BK211 hg
     replace BK211 := bb BK211 hb
     clear hb hbox hg
     refine hK.out _ _ ⟨bc0 BK211, bc1 BK211, bc2 BK211, bc3 BK211⟩ (fun hHeld => ?_)
     clear hK K
     refine norm_ (a' := ?_) ?_ ?_
     rotate_left
     ·show Act.put _ (some 9) _ = _
      simp only [Act.put, List.setIfInBounds_toArray, List.set_cons_zero, List.set_cons_succ, i64_w, i32_w]
      rfl
     refine one_ (i := 5) (N := some 17) #[true, true, true, true, true, true, false, false, false, true, false, false] rfl rfl (one_of HT_.out (by kernel_rfl)) (by decide) (fun K hK => ?_)
     refine goes_ Try.func104 (by kernel_rfl) rfl #[.agg #[.int .i64 a0_0, .int .i64 a0_1, .int .i64 a0_2, .slice A0_3 l0_3.length c0_3], .int .i64 t212, .int .i64 a2] (by rfl) rfl rfl sl ?_
     with_reducible refine (spec_TableIn.calls a0_0 a0_1 a0_2 _ _ l0_3 t212 a2 t213 t214 t217 false _ ?side1 ?side2 A6.out).mono ?_
     (case side1 => exact cb HR0_3)
     (case side2 => exact HC0_3.out)
     rintro e w42 ⟨v215, v218, rfl, ho0, ho1, hb⟩
     refine ⟨_, rfl, ?_⟩
     have HO216 := Aside0.mk (Kd.R_lower ho0 (below_size (sbw)))
     have HO219 := Aside0.mk (Kd.R_lower ho1 (below_size (sbw)))
     replace BK211 := bb BK211 hb
     replace BK221 := bb BK221 hb
     replace HB := bsw hb
     (try clear hb)
     (try clear hb2)
     (try clear hk)
     (try clear hi)
     (try clear ho0)
     (try clear ho1)
     refine hK.out _ _ ⟨bc0 BK211, bc1 BK211, bc2 BK211, bc3 BK211⟩ (fun hHeld => ?_)
     clear hK K
     refine norm_ (a' := ?_) ?_ ?_
     rotate_left
     ·show Act.put _ (some 17) _ = _
      simp only [Act.put, List.setIfInBounds_toArray, List.set_cons_zero, List.set_cons_succ, i64_w, i32_w]
      rfl
     refine put 6 11 #[true, true, true, true, true, true, true, false, false, true, false, false] HT_ ?_
     refine put 7 18 #[true, true, true, true, true, true, true, true, false, true, false, false] HT_ ?_
     refine put 8 19 #[true, true, true, true, true, true, true, true, true, true, false, false] HT_ ?_
     exact norm_ (by simp only [putAll, Act.put, List.setIfInBounds_toArray, List.set_cons_zero, List.set_cons_succ]) (hCont (v215, v218, gb221) _ ⟨hHeld, (sr HO216), (sr HO219), (sk BK211), (sk BK221), GW221.out, GE221.out, NB211_221.out, NB221_211.out, (sbw)⟩)
   ·skip
    refine box_step ?hg (N := 9) ?hd (cs := #[.int .i64 0, .slice none 0 0, .slice none 0 0]) (t := 65) ?hr ?_; (case hd => rfl); (case hg => rfl); (case hr => first | (go_simp; done) | (go_simp; rfl))
    intro gb221 hg w40 hbox hb
    have BK221 := Aside0.mk hbox
    have GW221 := bzw w hg
    have GE221 := bzw w hg
    replace HB := bsw hb
    have NB211_221 := nl BK211 hg
    have NB221_211 := ng BK211 hg
    replace BK211 := bb BK211 hb
    clear hb hbox hg
    refine hK.out _ _ ⟨bc0 BK211, bc1 BK211, bc2 BK211, bc3 BK211⟩ (fun hHeld => ?_)
    clear hK K
    refine norm_ (a' := ?_) ?_ ?_
    rotate_left
    ·show Act.put _ (some 9) _ = _
     simp only [Act.put, List.setIfInBounds_toArray, List.set_cons_zero, List.set_cons_succ, i64_w, i32_w]
     rfl
    refine one_ (i := 3) (N := some 15) #[true, true, true, true, true, false, false, false, false, true, false, false] rfl rfl (one_of HT_.out (by kernel_rfl)) (by decide) (fun K hK => ?_)
    refine goes_ Try.func103 (by kernel_rfl) rfl #[.agg #[.int .i64 a0_0, .int .i64 a0_1, .int .i64 a0_2, .slice A0_3 l0_3.length c0_3], .int .i64 a3] (by rfl) rfl rfl sl ?_
    with_reducible refine (spec_PieceAt.calls k a0_0 a0_1 a0_2 _ _ l0_3 a3 t212 _ ?side1 ?side2 A5.out).mono ?_
    (case side1 => exact cb HR0_3)
    (case side2 => exact HC0_3.out)
    rintro e w41 ⟨rfl, hb⟩
    refine ⟨_, rfl, ?_⟩
    replace BK211 := bb BK211 hb
    replace BK221 := bb BK221 hb
    replace HB := bsw hb
    (try clear hb)
    (try clear hb2)
    (try clear hk)
    (try clear hi)
    refine hK.out _ _ ⟨bc0 BK211, bc1 BK211, bc2 BK211, bc3 BK211⟩ (fun hHeld => ?_)
    clear hK K
    refine norm_ (a' := ?_) ?_ ?_
    rotate_left
    ·show Act.put _ (some 15) _ = _
     simp only [Act.put, List.setIfInBounds_toArray, List.set_cons_zero, List.set_cons_succ, i64_w, i32_w]
     rfl
    refine one_ (i := 5) (N := some 17) #[true, true, true, true, true, true, false, false, false, true, false, false] rfl rfl (one_of HT_.out (by kernel_rfl)) (by decide) (fun K hK => ?_)
    refine goes_ Try.func104 (by kernel_rfl) rfl #[.agg #[.int .i64 a0_0, .int .i64 a0_1, .int .i64 a0_2, .slice A0_3 l0_3.length c0_3], .int .i64 t212, .int .i64 a2] (by rfl) rfl rfl sl ?_
    with_reducible refine (spec_TableIn.calls a0_0 a0_1 a0_2 _ _ l0_3 t212 a2 t213 t214 t217 false _ ?side1 ?side2 A6.out).mono ?_
    (case side1 => exact cb HR0_3)
    (case side2 => exact HC0_3.out)
    rintro e w42 ⟨v215, v218, rfl, ho0, ho1, hb⟩
    refine ⟨_, rfl, ?_⟩
    have HO216 := Aside0.mk (Kd.R_lower ho0 (below_size (sbw)))
    have HO219 := Aside0.mk (Kd.R_lower ho1 (below_size (sbw)))
    replace BK211 := bb BK211 hb
    replace BK221 := bb BK221 hb
    replace HB := bsw hb
    (try clear hb)
    (try clear hb2)
    (try clear hk)
    (try clear hi)
    (try clear ho0)
    (try clear ho1)
    refine hK.out _ _ ⟨bc0 BK211, bc1 BK211, bc2 BK211, bc3 BK211⟩ (fun hHeld => ?_)
    clear hK K
    refine norm_ (a' := ?_) ?_ ?_
    rotate_left
    ·show Act.put _ (some 17) _ = _
     simp only [Act.put, List.setIfInBounds_toArray, List.set_cons_zero, List.set_cons_succ, i64_w, i32_w]
     rfl
    refine put 6 11 #[true, true, true, true, true, true, true, false, false, true, false, false] HT_ ?_
    refine put 7 18 #[true, true, true, true, true, true, true, true, false, true, false, false] HT_ ?_
    refine put 8 19 #[true, true, true, true, true, true, true, true, true, true, false, false] HT_ ?_
    exact norm_ (by simp only [putAll, Act.put, List.setIfInBounds_toArray, List.set_cons_zero, List.set_cons_succ]) (hCont (v215, v218, gb221) _ ⟨hHeld, (sr HO216), (sr HO219), (sk BK211), (sk BK221), GW221.out, GE221.out, NB211_221.out, NB221_211.out, (sbw)⟩)
  rintro ⟨v215, v218, gb221⟩ w43 ⟨hS_, h0_, h1_, h2_, h3_, h4_, h5_, h6_, h7_, h8_⟩
  have HO216 : Aside0 (Kd.R (Kd.int .i64) 3 w43 w.heap.size (fun k_ => some k_ ≠ (v218 : Value).ownBlock) v215 t214) := ⟨h0_⟩
  have HO219 : Aside0 (Kd.R (Kd.int .i64) 3 w43 w.heap.size (fun k_ => some k_ ≠ (v215 : Value).ownBlock) v218 t217) := ⟨h1_⟩
  replace BK211 : Aside0 (w43.heap[gb211]? = some (.cells #[.int .i64 a0_0, .int .i64 a0_1, .int .i64 a0_2, .slice A0_3 l0_3.length c0_3] 29 (0, 0))) := ⟨h2_⟩
  have BK221 : Aside0 (w43.heap[gb221]? = some (.cells #[.int .i64 0, .slice none 0 0, .slice none 0 0] 65 (0, 0))) := ⟨h3_⟩
  have GW221 : Aside0 (w.heap.size ≤ gb221) := ⟨h4_⟩
  have GE221 : Aside0 (w.heap.size ≤ gb221) := ⟨h5_⟩
  have NB211_221 : Aside0 (gb211 ≠ gb221) := ⟨h6_⟩
  have NB221_211 : Aside0 (gb221 ≠ gb211) := ⟨h7_⟩
  replace HB : Aside0 (Below w.heap.size w w43) := ⟨h8_⟩
  clear h0_ h1_ h2_ h3_ h4_ h5_ h6_ h7_ h8_
  have hHeld : w43.cell? ⟨gb211, 0, none⟩ = some (.int .i64 a0_0) ∧ w43.cell? ⟨gb211, 1, none⟩ = some (.int .i64 a0_1) ∧ w43.cell? ⟨gb211, 2, none⟩ = some (.int .i64 a0_2) ∧ w43.cell? ⟨gb211, 3, none⟩ = some (.slice A0_3 l0_3.length c0_3) := hS_
  obtain ⟨Ao45, co45, eo45⟩ := Kd.R_slice HO216.out
  (first | subst eo45 | (injection eo45 with f1_ f2_ f3_; have f4_ := f1_.symm; have f5_ := f3_.symm; clear f1_ f2_ f3_; subst f4_; subst f5_))
  obtain ⟨Ao47, co47, eo47⟩ := Kd.R_slice HO219.out
  (first | subst eo47 | (injection eo47 with f1_ f2_ f3_; have f4_ := f1_.symm; have f5_ := f3_.symm; clear f1_ f2_ f3_; subst f4_; subst f5_))
  refine norm_ (a' := ?_) ?_ ?_
  rotate_left
  ·simp only [putAll, Act.put, List.setIfInBounds_toArray, List.set_cons_zero, List.set_cons_succ]
   rfl
  refine one_ (i := 10) (N := none) #[true, true, true, true, true, true, true, true, true, true, true, false] rfl rfl (one_of HT_.out (by kernel_rfl)) (by decide) (fun K hK => ?_)
  obtain ⟨hs44, hfs44⟩ := cc1 BK221
  have hns44_0 := NB211_221.out
  have hms44_0 := NB221_211.out
  have hs46 := bc1 BK221
  have hfs46 := bf BK221 1
  have hns46_0 := NB211_221.out
  have hms46_0 := NB221_211.out
  have hs48 := bc2 BK221
  have hfs48 := bf BK221 2
  have hns48_0 := NB211_221.out
  have hms48_0 := NB221_211.out
  refine skip_ (w1 := ?_) (by rfl) rfl ?_ ?_
  rotate_left
  ·go_simp
   rfl
  refine hK.out _ _ ⟨((cell_far (p := ⟨gb221, _, none⟩) NB211_221.out _).trans (((cell_far (p := ⟨gb221, _, none⟩) NB211_221.out _).trans (((cell_far (p := ⟨gb221, _, none⟩) NB211_221.out _).trans (hHeld.1)))))), ((cell_far (p := ⟨gb221, _, none⟩) NB211_221.out _).trans (((cell_far (p := ⟨gb221, _, none⟩) NB211_221.out _).trans (((cell_far (p := ⟨gb221, _, none⟩) NB211_221.out _).trans (hHeld.2.1)))))), ((cell_far (p := ⟨gb221, _, none⟩) NB211_221.out _).trans (((cell_far (p := ⟨gb221, _, none⟩) NB211_221.out _).trans (((cell_far (p := ⟨gb221, _, none⟩) NB211_221.out _).trans (hHeld.2.2.1)))))), ((cell_far (p := ⟨gb221, _, none⟩) NB211_221.out _).trans (((cell_far (p := ⟨gb221, _, none⟩) NB211_221.out _).trans (((cell_far (p := ⟨gb221, _, none⟩) NB211_221.out _).trans (hHeld.2.2.2))))))⟩ (fun hHeld => ?_)
  clear hK K
  refine put 11 10 #[true, true, true, true, true, true, true, true, true, true, true, true] HT_ ?_
  refine done_ (done_of HT_.out (by kernel_rfl)) ?_
  try go_wp2
  go_ret
  exact ⟨se, sbw⟩

end Go.Proofs.Ytlakjlolahjphaa.QFnExactHopAt
