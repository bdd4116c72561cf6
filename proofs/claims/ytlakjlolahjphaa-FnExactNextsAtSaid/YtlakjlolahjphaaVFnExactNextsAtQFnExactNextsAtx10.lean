/- What the Go functions of the law FnExactNextsAt come to, as Lean functions, and that they do: by a program of the session, out of the kit's printer. Conditions: none. (squeezed). -/
import Derived.Test.YtlakjlolahjphaaVFnExactNextsAtSq
import Derived.Test.YtlakjlolahjphaaVFnExactNextsAtQFnExactNextsAtx0
import Derived.Test.YtlakjlolahjphaaVFnExactNextsAtQFnExactNextsAtx5
import Derived.Test.YtlakjlolahjphaaVFnExactNextsAtQFnExactNextsAtx9
namespace Go.Proofs.Ytlakjlolahjphaa.QFnExactNextsAt
open Go.RowKit Go.Proofs.YtlakjlolahjphaaW.PrintWords Go.Proofs.YtlakjlolahjphaaW.PrintLast Go.Proofs.YtlakjlolahjphaaW.PrintMore Go.Proofs.Ytlakjlolahjphaa.Open Go.Proofs.Ytlakjlolahjphaa.Sq
attribute [local go_sem] max2_int min2_int max_two min_two max_three min_three max_four min_four   -- for this text's walks alone
attribute [local go_sem] isSome_set
set_option linter.unusedVariables false
set_option linter.unusedSimpArgs false

/-! ### spec_l19Next: function 65 -/
def spec_l19Next.f (k : Nat) (a0_0 : Int) (a0_1 : Int) (a0_2 : Int) (l0_3 : List (S106)) (a1 : Int) (a2 : Int) (a3 : Int) : Option (Int) := (spec_PieceAt.f k a0_0 a0_1 a0_2 l0_3 a3).bind fun t312 => ((spec_TableIn.f a0_0 a0_1 a0_2 l0_3 t312 a2).bind fun bt313 => (if bt313.2.2.2 = true then ((spec_l1In.f a1 0 (wrap64 ((bt313.2.2.1.length : Int) - 1))).bind fun t322 => (if t322 = true then (if 0 ≤ a1 then (if a1 < (bt313.2.2.1.length : Int) then (some (rd bt313.2.2.1 a1)) else (none)) else (none)) else (some (-1)))) else (some (-1))))
theorem spec_l19Next.mono : ∀ a0 a1 a2 a3 a4 a5 a6 k, LeO (spec_l19Next.f k a0 a1 a2 a3 a4 a5 a6) (spec_l19Next.f (k + 1) a0 a1 a2 a3 a4 a5 a6) := by
  intro a0 a1 a2 a3 a4 a5 a6 k
  unfold spec_l19Next.f
  have m0 := @spec_PieceAt.mono
  exact mo
def spec_l19Next.T1 : Bool × List (List Nat × List Nat) := (true, [([], []), ([], []), ([], []), ([1, 2], [1, 2]), ([], []), ([0, 3, 4, 3], [0, 3, 4]), ([5], [5]), ([6], [6]), ([6], [6]), ([], []), ([9, 7, 5, 0, 1, 2, 3, 4, 5, 6, 7, 9], [7, 9]), ([8, 10, 0, 1, 2, 3, 4, 5, 6, 7, 8, 9, 10], [8])])
def spec_l19Next.B1 : List Nat := [0, 0, 0, 6, 0, 31, 63, 127, 127, 0, 767, 2047]
theorem spec_l19Next.tab1 : rtab .any (opsOf Try.f65 1) = spec_l19Next.T1 := by kernel_rfl
theorem spec_l19Next.bits1 : waitsOk spec_l19Next.T1.2 spec_l19Next.B1 = true := by kernel_rfl
set_option maxHeartbeats 8000000 in
set_option maxRecDepth 100000 in
theorem spec_l19Next.calls (k : Nat) (a0_0 : Int) (a0_1 : Int) (a0_2 : Int) (A0_3 : Option Addr) (c0_3 : Nat) (l0_3 : List (S106)) (a1 : Int) (a2 : Int) (a3 : Int) (r : Int) (w : World) (hr0_3 : Kd.C k106 w A0_3 l0_3.length l0_3) (hc0_3 : l0_3.length ≤ c0_3) (h : spec_l19Next.f k a0_0 a0_1 a0_2 l0_3 a1 a2 a3 = some r) :
    Calls Try.prog 65 #[.agg #[.int .i64 a0_0, .int .i64 a0_1, .int .i64 a0_2, .slice A0_3 l0_3.length c0_3], .int .i64 a1, .int .i64 a2, .int .i64 a3] w fun e w' => e = .returned (.int .i64 r) ∧ Below w.heap.size w w' := by
 have hu29 := Try.underlying29
 have hu65 := Try.underlying65
 have HR0_3 := Aside0.mk hr0_3
 have HC0_3 := Aside0.mk hc0_3
 clear hr0_3 hc0_3
 have HB := Aside0.mk (Below.refl w.heap.size w)
 have H : ((spec_PieceAt.f k a0_0 a0_1 a0_2 l0_3 a3).bind fun t312 => ((spec_TableIn.f a0_0 a0_1 a0_2 l0_3 t312 a2).bind fun bt313 => (if bt313.2.2.2 = true then ((spec_l1In.f a1 0 (wrap64 ((bt313.2.2.1.length : Int) - 1))).bind fun t322 => (if t322 = true then (if 0 ≤ a1 then (if a1 < (bt313.2.2.1.length : Int) then (some (rd bt313.2.2.1 a1)) else (none)) else (none)) else (some (-1)))) else (some (-1))))) = some r := h
 clear h
 obtain ⟨t312, A5, H⟩ := bnd H
 obtain ⟨⟨t313, t314, t317, t320⟩, A6, H⟩ := bnd H
 replace H : (if t320 = true then ((spec_l1In.f a1 0 (wrap64 ((t317.length : Int) - 1))).bind fun t322 => (if t322 = true then (if 0 ≤ a1 then (if a1 < (t317.length : Int) then (some (rd t317 a1)) else (none)) else (none)) else (some (-1)))) else (some (-1))) = some r := H
 obtain rfl | rfl := tt t320
 ·replace H := ip H
  obtain ⟨t322, A8, H⟩ := bnd H
  obtain rfl | rfl := tt t322
  ·replace H := ip H
   obtain ⟨c10b0, H⟩ := id_ H
   obtain ⟨c11b0, H⟩ := id_ H
   obtain rfl := Option.some.inj H
   go_enter Try.func65, Try.ntmps65
   try go_wp2_with (first | ((with_reducible refine gate_dst (N := 4) rfl ?_); (try (refine gate_guard (by rfl) ?_; dsimp only)); refine bx 4 #[.int .i64 a0_0, .int .i64 a0_1, .int .i64 a0_2, .slice A0_3 l0_3.length c0_3] 29 ?_; intro gb311 hg w12 hbox hb; have BK311 := Aside0.mk hbox; have GW311 := bz w hg; have GE311 := bz w hg; replace HB := bs hb; clear hb hbox hg))
   replace BK311 := Aside0.mk (blk_drew BK311.out)
   replace HB := Aside0.mk (below_drew1 HB.out)
   refine start_ (n := 12) (S := fun w' => w'.cell? ⟨gb311, 0, none⟩ = some (.int .i64 a0_0) ∧ w'.cell? ⟨gb311, 1, none⟩ = some (.int .i64 a0_1) ∧ w'.cell? ⟨gb311, 2, none⟩ = some (.int .i64 a0_2) ∧ w'.cell? ⟨gb311, 3, none⟩ = some (.slice A0_3 l0_3.length c0_3)) (ds := []) #[false, false, false, false, false, false, false, false, false, false, false, false] (by kernel_rfl) rfl rfl ⟨bc0 BK311, bc1 BK311, bc2 BK311, bc3 BK311⟩ (fun hHeld => ?_); refine with_tabW spec_l19Next.tab1 spec_l19Next.bits1 (fun HT_ HW_ => ?_)
   generalize w12.drew = w13 at BK311 HB hHeld ⊢
   refine put 2 14 #[false, false, true, false, false, false, false, false, false, false, false, false] HT_ ?_
   refine put 4 16 #[false, false, true, false, true, false, false, false, false, false, false, false] HT_ ?_
   refine tat4 0 12 #[true, false, true, false, true, false, false, false, false, false, false, false] HT_ HW_ hHeld ?_
   refine tat4 1 13 #[true, true, true, false, true, false, false, false, false, false, false, false] HT_ HW_ hHeld ?_
   refine join_ (σ := Value × Value × Nat) 2 #[true, true, true, true, true, true, true, true, true, true, false, false] (fun s_ => [(15, .int .i64 t312), (17, .tuple #[.agg #[.int .i64 t313, s_.1, s_.2.1], .bool true]), (9, .pointer (some ⟨s_.2.2, 0, none⟩)), (11, .tuple #[.agg #[.int .i64 t313, s_.1, s_.2.1], .bool true]), (18, .agg #[.int .i64 t313, s_.1, s_.2.1]), (19, .bool true)]) (fun s_ w' => (w'.cell? ⟨gb311, 0, none⟩ = some (.int .i64 a0_0) ∧ w'.cell? ⟨gb311, 1, none⟩ = some (.int .i64 a0_1) ∧ w'.cell? ⟨gb311, 2, none⟩ = some (.int .i64 a0_2) ∧ w'.cell? ⟨gb311, 3, none⟩ = some (.slice A0_3 l0_3.length c0_3)) ∧ (Kd.R (Kd.int .i64) 3 w' w.heap.size (fun k_ => some k_ ≠ (s_.2.1 : Value).ownBlock) s_.1 t314) ∧ (Kd.R (Kd.int .i64) 3 w' w.heap.size (fun k_ => some k_ ≠ (s_.1 : Value).ownBlock) s_.2.1 t317) ∧ (w'.heap[gb311]? = some (.cells #[.int .i64 a0_0, .int .i64 a0_1, .int .i64 a0_2, .slice A0_3 l0_3.length c0_3] 29 (0, 0))) ∧ (w'.heap[s_.2.2]? = some (.cells #[.int .i64 0, .slice none 0 0, .slice none 0 0] 65 (0, 0))) ∧ (w.heap.size ≤ s_.2.2) ∧ (w.heap.size ≤ s_.2.2) ∧ (gb311 ≠ s_.2.2) ∧ (s_.2.2 ≠ gb311) ∧ (Below w.heap.size w w')) ?_ ?_
   rotate_left
   ·intro hCont
    refine two_ (i := 3) (j := 9) (Ni := some 15) (Nj := some 9) #[true, true, true, true, true, false, false, false, false, false, false, false] #[true, true, true, false, true, false, false, false, false, true, false, false] rfl rfl rfl rfl (two_of HT_.out (by kernel_rfl)) (by decide) (by decide) (fun K hK => ?_) (fun K hK => ?_)
    ·skip
     refine goes_ Try.func103 (by kernel_rfl) rfl #[.agg #[.int .i64 a0_0, .int .i64 a0_1, .int .i64 a0_2, .slice A0_3 l0_3.length c0_3], .int .i64 a3] (by rfl) rfl rfl sl ?_
     with_reducible refine (spec_PieceAt.calls k a0_0 a0_1 a0_2 _ _ l0_3 a3 t312 _ ?side1 ?side2 A5.out).mono ?_
     (case side1 => exact cb HR0_3)
     (case side2 => exact HC0_3.out)
     rintro e w14 ⟨rfl, hb⟩
     refine ⟨_, rfl, ?_⟩
     replace BK311 := bb BK311 hb
     replace HB := bsw hb
     (try clear hb)
     (try clear hb2)
     (try clear hk)
     (try clear hi)
     refine hK.out _ _ ⟨bc0 BK311, bc1 BK311, bc2 BK311, bc3 BK311⟩ (fun hHeld => ?_)
     clear hK K
     refine norm_ (a' := ?_) ?_ ?_
     rotate_left
     ·show Act.put _ (some 15) _ = _
      simp only [Act.put, List.setIfInBounds_toArray, List.set_cons_zero, List.set_cons_succ, i64_w, i32_w]
      rfl
     refine two_ (i := 5) (j := 9) (Ni := some 17) (Nj := some 9) #[true, true, true, true, true, true, false, false, false, false, false, false] #[true, true, true, true, true, false, false, false, false, true, false, false] rfl rfl rfl rfl (two_of HT_.out (by kernel_rfl)) (by decide) (by decide) (fun K hK => ?_) (fun K hK => ?_)
     ·skip
      refine goes_ Try.func104 (by kernel_rfl) rfl #[.agg #[.int .i64 a0_0, .int .i64 a0_1, .int .i64 a0_2, .slice A0_3 l0_3.length c0_3], .int .i64 t312, .int .i64 a2] (by rfl) rfl rfl sl ?_
      with_reducible refine (spec_TableIn.calls a0_0 a0_1 a0_2 _ _ l0_3 t312 a2 t313 t314 t317 true _ ?side1 ?side2 A6.out).mono ?_
      (case side1 => exact cb HR0_3)
      (case side2 => exact HC0_3.out)
      rintro e w15 ⟨v315, v318, rfl, ho0, ho1, hb⟩
      refine ⟨_, rfl, ?_⟩
      have HO316 := Aside0.mk (Kd.R_lower ho0 (below_size (sbw)))
      have HO319 := Aside0.mk (Kd.R_lower ho1 (below_size (sbw)))
      replace BK311 := bb BK311 hb
      replace HB := bsw hb
      (try clear hb)
      (try clear hb2)
      (try clear hk)
      (try clear hi)
      (try clear ho0)
      (try clear ho1)
      refine hK.out _ _ ⟨bc0 BK311, bc1 BK311, bc2 BK311, bc3 BK311⟩ (fun hHeld => ?_)
      clear hK K
      refine norm_ (a' := ?_) ?_ ?_
      rotate_left
      ·show Act.put _ (some 17) _ = _
       simp only [Act.put, List.setIfInBounds_toArray, List.set_cons_zero, List.set_cons_succ, i64_w, i32_w]
       rfl
      refine put 6 11 #[true, true, true, true, true, true, true, false, false, false, false, false] HT_ ?_
      refine put 7 18 #[true, true, true, true, true, true, true, true, false, false, false, false] HT_ ?_
      refine put 8 19 #[true, true, true, true, true, true, true, true, true, false, false, false] HT_ ?_
      refine one_ (i := 9) (N := some 9) #[true, true, true, true, true, true, true, true, true, true, false, false] rfl rfl (one_of HT_.out (by kernel_rfl)) (by decide) (fun K hK => ?_)
      refine box_step ?hg (N := 9) ?hd (cs := #[.int .i64 0, .slice none 0 0, .slice none 0 0]) (t := 65) ?hr ?_; (case hd => rfl); (case hg => rfl); (case hr => first | (go_simp; done) | (go_simp; rfl))
      intro gb321 hg w16 hbox hb
      replace HO316 := Aside0.mk (Kd.R_below (sr HO316) hb)
      replace HO319 := Aside0.mk (Kd.R_below (sr HO319) hb)
      have BK321 := Aside0.mk hbox
      have GW321 := bzw w hg
      have GE321 := bzw w hg
      replace HB := bsw hb
      have NB311_321 := nl BK311 hg
      have NB321_311 := ng BK311 hg
      replace BK311 := bb BK311 hb
      clear hb hbox hg
      refine hK.out _ _ ⟨bc0 BK311, bc1 BK311, bc2 BK311, bc3 BK311⟩ (fun hHeld => ?_)
      clear hK K
      refine norm_ (a' := ?_) ?_ ?_
      rotate_left
      ·show Act.put _ (some 9) _ = _
       simp only [Act.put, List.setIfInBounds_toArray, List.set_cons_zero, List.set_cons_succ, i64_w, i32_w]
       rfl
      exact norm_ (by simp only [putAll, Act.put, List.setIfInBounds_toArray, List.set_cons_zero, List.set_cons_succ]) (hCont (v315, v318, gb321) _ ⟨hHeld, (sr HO316), (sr HO319), (sk BK311), (sk BK321), GW321.out, GE321.out, NB311_321.out, NB321_311.out, (sbw)⟩)
     ·skip
      refine box_step ?hg (N := 9) ?hd (cs := #[.int .i64 0, .slice none 0 0, .slice none 0 0]) (t := 65) ?hr ?_; (case hd => rfl); (case hg => rfl); (case hr => first | (go_simp; done) | (go_simp; rfl))
      intro gb321 hg w15 hbox hb
      have BK321 := Aside0.mk hbox
      have GW321 := bzw w hg
      have GE321 := bzw w hg
      replace HB := bsw hb
      have NB311_321 := nl BK311 hg
      have NB321_311 := ng BK311 hg
      replace BK311 := bb BK311 hb
      clear hb hbox hg
      refine hK.out _ _ ⟨bc0 BK311, bc1 BK311, bc2 BK311, bc3 BK311⟩ (fun hHeld => ?_)
      clear hK K
      refine norm_ (a' := ?_) ?_ ?_
      rotate_left
      ·show Act.put _ (some 9) _ = _
       simp only [Act.put, List.setIfInBounds_toArray, List.set_cons_zero, List.set_cons_succ, i64_w, i32_w]
       rfl
      refine one_ (i := 5) (N := some 17) #[true, true, true, true, true, true, false, false, false, true, false, false] rfl rfl (one_of HT_.out (by kernel_rfl)) (by decide) (fun K hK => ?_)
      refine goes_ Try.func104 (by kernel_rfl) rfl #[.agg #[.int .i64 a0_0, .int .i64 a0_1, .int .i64 a0_2, .slice A0_3 l0_3.length c0_3], .int .i64 t312, .int .i64 a2] (by rfl) rfl rfl sl ?_
      with_reducible refine (spec_TableIn.calls a0_0 a0_1 a0_2 _ _ l0_3 t312 a2 t313 t314 t317 true _ ?side1 ?side2 A6.out).mono ?_
      (case side1 => exact cb HR0_3)
      (case side2 => exact HC0_3.out)
      rintro e w16 ⟨v315, v318, rfl, ho0, ho1, hb⟩
      refine ⟨_, rfl, ?_⟩
      have HO316 := Aside0.mk (Kd.R_lower ho0 (below_size (sbw)))
      have HO319 := Aside0.mk (Kd.R_lower ho1 (below_size (sbw)))
      replace BK311 := bb BK311 hb
      replace BK321 := bb BK321 hb
      replace HB := bsw hb
      (try clear hb)
      (try clear hb2)
      (try clear hk)
      (try clear hi)
      (try clear ho0)
      (try clear ho1)
      refine hK.out _ _ ⟨bc0 BK311, bc1 BK311, bc2 BK311, bc3 BK311⟩ (fun hHeld => ?_)
      clear hK K
      refine norm_ (a' := ?_) ?_ ?_
      rotate_left
      ·show Act.put _ (some 17) _ = _
       simp only [Act.put, List.setIfInBounds_toArray, List.set_cons_zero, List.set_cons_succ, i64_w, i32_w]
       rfl
      refine put 6 11 #[true, true, true, true, true, true, true, false, false, true, false, false] HT_ ?_
      refine put 7 18 #[true, true, true, true, true, true, true, true, false, true, false, false] HT_ ?_
      refine put 8 19 #[true, true, true, true, true, true, true, true, true, true, false, false] HT_ ?_
      exact norm_ (by simp only [putAll, Act.put, List.setIfInBounds_toArray, List.set_cons_zero, List.set_cons_succ]) (hCont (v315, v318, gb321) _ ⟨hHeld, (sr HO316), (sr HO319), (sk BK311), (sk BK321), GW321.out, GE321.out, NB311_321.out, NB321_311.out, (sbw)⟩)
    ·skip
     refine box_step ?hg (N := 9) ?hd (cs := #[.int .i64 0, .slice none 0 0, .slice none 0 0]) (t := 65) ?hr ?_; (case hd => rfl); (case hg => rfl); (case hr => first | (go_simp; done) | (go_simp; rfl))
     intro gb321 hg w14 hbox hb
     have BK321 := Aside0.mk hbox
     have GW321 := bzw w hg
     have GE321 := bzw w hg
     replace HB := bsw hb
     have NB311_321 := nl BK311 hg
     have NB321_311 := ng BK311 hg
     replace BK311 := bb BK311 hb
     clear hb hbox hg
     refine hK.out _ _ ⟨bc0 BK311, bc1 BK311, bc2 BK311, bc3 BK311⟩ (fun hHeld => ?_)
     clear hK K
     refine norm_ (a' := ?_) ?_ ?_
     rotate_left
     ·show Act.put _ (some 9) _ = _
      simp only [Act.put, List.setIfInBounds_toArray, List.set_cons_zero, List.set_cons_succ, i64_w, i32_w]
      rfl
     refine one_ (i := 3) (N := some 15) #[true, true, true, true, true, false, false, false, false, true, false, false] rfl rfl (one_of HT_.out (by kernel_rfl)) (by decide) (fun K hK => ?_)
     refine goes_ Try.func103 (by kernel_rfl) rfl #[.agg #[.int .i64 a0_0, .int .i64 a0_1, .int .i64 a0_2, .slice A0_3 l0_3.length c0_3], .int .i64 a3] (by rfl) rfl rfl sl ?_
     with_reducible refine (spec_PieceAt.calls k a0_0 a0_1 a0_2 _ _ l0_3 a3 t312 _ ?side1 ?side2 A5.out).mono ?_
     (case side1 => exact cb HR0_3)
     (case side2 => exact HC0_3.out)
     rintro e w15 ⟨rfl, hb⟩
     refine ⟨_, rfl, ?_⟩
     replace BK311 := bb BK311 hb
     replace BK321 := bb BK321 hb
     replace HB := bsw hb
     (try clear hb)
     (try clear hb2)
     (try clear hk)
     (try clear hi)
     refine hK.out _ _ ⟨bc0 BK311, bc1 BK311, bc2 BK311, bc3 BK311⟩ (fun hHeld => ?_)
     clear hK K
     refine norm_ (a' := ?_) ?_ ?_
     rotate_left
     ·show Act.put _ (some 15) _ = _
      simp only [Act.put, List.setIfInBounds_toArray, List.set_cons_zero, List.set_cons_succ, i64_w, i32_w]
      rfl
     refine one_ (i := 5) (N := some 17) #[true, true, true, true, true, true, false, false, false, true, false, false] rfl rfl (one_of HT_.out (by kernel_rfl)) (by decide) (fun K hK => ?_)
     refine goes_ Try.func104 (by kernel_rfl) rfl #[.agg #[.int .i64 a0_0, .int .i64 a0_1, .int .i64 a0_2, .slice A0_3 l0_3.length c0_3], .int .i64 t312, .int .i64 a2] (by rfl) rfl rfl sl ?_
     with_reducible refine (spec_TableIn.calls a0_0 a0_1 a0_2 _ _ l0_3 t312 a2 t313 t314 t317 true _ ?side1 ?side2 A6.out).mono ?_
     (case side1 => exact cb HR0_3)
     (case side2 => exact HC0_3.out)
     rintro e w16 ⟨v315, v318, rfl, ho0, ho1, hb⟩
     refine ⟨_, rfl, ?_⟩
     have HO316 := Aside0.mk (Kd.R_lower ho0 (below_size (sbw)))
     have HO319 := Aside0.mk (Kd.R_lower ho1 (below_size (sbw)))
     replace BK311 := bb BK311 hb
     replace BK321 := bb BK321 hb
     replace HB := bsw hb
     (try clear hb)
     (try clear hb2)
     (try clear hk)
     (try clear hi)
     (try clear ho0)
     (try clear ho1)
     refine hK.out _ _ ⟨bc0 BK311, bc1 BK311, bc2 BK311, bc3 BK311⟩ (fun hHeld => ?_)
     clear hK K
     refine norm_ (a' := ?_) ?_ ?_
     rotate_left
     ·show Act.put _ (some 17) _ = _
      simp only [Act.put, List.setIfInBounds_toArray, List.set_cons_zero, List.set_cons_succ, i64_w, i32_w]
      rfl
     refine put 6 11 #[true, true, true, true, true, true, true, false, false, true, false, false] HT_ ?_
     refine put 7 18 #[true, true, true, true, true, true, true, true, false, true, false, false] HT_ ?_
     refine put 8 19 #[true, true, true, true, true, true, true, true, true, true, false, false] HT_ ?_
     exact norm_ (by simp only [putAll, Act.put, List.setIfInBounds_toArray, List.set_cons_zero, List.set_cons_succ]) (hCont (v315, v318, gb321) _ ⟨hHeld, (sr HO316), (sr HO319), (sk BK311), (sk BK321), GW321.out, GE321.out, NB311_321.out, NB321_311.out, (sbw)⟩)
   rintro ⟨v315, v318, gb321⟩ w17 ⟨hS_, h0_, h1_, h2_, h3_, h4_, h5_, h6_, h7_, h8_⟩
   have HO316 : Aside0 (Kd.R (Kd.int .i64) 3 w17 w.heap.size (fun k_ => some k_ ≠ (v318 : Value).ownBlock) v315 t314) := ⟨h0_⟩
   have HO319 : Aside0 (Kd.R (Kd.int .i64) 3 w17 w.heap.size (fun k_ => some k_ ≠ (v315 : Value).ownBlock) v318 t317) := ⟨h1_⟩
   replace BK311 : Aside0 (w17.heap[gb311]? = some (.cells #[.int .i64 a0_0, .int .i64 a0_1, .int .i64 a0_2, .slice A0_3 l0_3.length c0_3] 29 (0, 0))) := ⟨h2_⟩
   have BK321 : Aside0 (w17.heap[gb321]? = some (.cells #[.int .i64 0, .slice none 0 0, .slice none 0 0] 65 (0, 0))) := ⟨h3_⟩
   have GW321 : Aside0 (w.heap.size ≤ gb321) := ⟨h4_⟩
   have GE321 : Aside0 (w.heap.size ≤ gb321) := ⟨h5_⟩
   have NB311_321 : Aside0 (gb311 ≠ gb321) := ⟨h6_⟩
   have NB321_311 : Aside0 (gb321 ≠ gb311) := ⟨h7_⟩
   replace HB : Aside0 (Below w.heap.size w w17) := ⟨h8_⟩
   clear h0_ h1_ h2_ h3_ h4_ h5_ h6_ h7_ h8_
   have hHeld : w17.cell? ⟨gb311, 0, none⟩ = some (.int .i64 a0_0) ∧ w17.cell? ⟨gb311, 1, none⟩ = some (.int .i64 a0_1) ∧ w17.cell? ⟨gb311, 2, none⟩ = some (.int .i64 a0_2) ∧ w17.cell? ⟨gb311, 3, none⟩ = some (.slice A0_3 l0_3.length c0_3) := hS_
   obtain ⟨Ao19, co19, eo19⟩ := Kd.R_slice HO316.out
   (first | subst eo19 | (injection eo19 with f1_ f2_ f3_; have f4_ := f1_.symm; have f5_ := f3_.symm; clear f1_ f2_ f3_; subst f4_; subst f5_))
   obtain ⟨Ao21, co21, eo21⟩ := Kd.R_slice HO319.out
   (first | subst eo21 | (injection eo21 with f1_ f2_ f3_; have f4_ := f1_.symm; have f5_ := f3_.symm; clear f1_ f2_ f3_; subst f4_; subst f5_))
   refine norm_ (a' := ?_) ?_ ?_
   rotate_left
   ·simp only [putAll, Act.put, List.setIfInBounds_toArray, List.set_cons_zero, List.set_cons_succ]
    rfl
   refine one_ (i := 10) (N := none) #[true, true, true, true, true, true, true, true, true, true, true, false] rfl rfl (one_of HT_.out (by kernel_rfl)) (by decide) (fun K hK => ?_)
   obtain ⟨hs18, hfs18⟩ := cc1 BK321
   have hns18_0 := NB311_321.out
   have hms18_0 := NB321_311.out
   have hs20 := bc1 BK321
   have hfs20 := bf BK321 1
   have hns20_0 := NB311_321.out
   have hms20_0 := NB321_311.out
   have hs22 := bc2 BK321
   have hfs22 := bf BK321 2
   have hns22_0 := NB311_321.out
   have hms22_0 := NB321_311.out
   refine skip_ (w1 := ?_) (by rfl) rfl ?_ ?_
   rotate_left
   ·go_simp
    rfl
   refine hK.out _ _ ⟨((cell_far (p := ⟨gb321, _, none⟩) NB311_321.out _).trans (((cell_far (p := ⟨gb321, _, none⟩) NB311_321.out _).trans (((cell_far (p := ⟨gb321, _, none⟩) NB311_321.out _).trans (hHeld.1)))))), ((cell_far (p := ⟨gb321, _, none⟩) NB311_321.out _).trans (((cell_far (p := ⟨gb321, _, none⟩) NB311_321.out _).trans (((cell_far (p := ⟨gb321, _, none⟩) NB311_321.out _).trans (hHeld.2.1)))))), ((cell_far (p := ⟨gb321, _, none⟩) NB311_321.out _).trans (((cell_far (p := ⟨gb321, _, none⟩) NB311_321.out _).trans (((cell_far (p := ⟨gb321, _, none⟩) NB311_321.out _).trans (hHeld.2.2.1)))))), ((cell_far (p := ⟨gb321, _, none⟩) NB311_321.out _).trans (((cell_far (p := ⟨gb321, _, none⟩) NB311_321.out _).trans (((cell_far (p := ⟨gb321, _, none⟩) NB311_321.out _).trans (hHeld.2.2.2))))))⟩ (fun hHeld => ?_)
   clear hK K
   refine put 11 10 #[true, true, true, true, true, true, true, true, true, true, true, true] HT_ ?_
   refine done_ (done_of HT_.out (by kernel_rfl)) ?_
   have hnb23 := NB321_311.out
   have hnc23 := NB311_321.out
   obtain ⟨hcz24_0, hcz24_1, hcz24_2, hfz24_0, hfz24_1, hfz24_2⟩ := cc3 BK321
   try go_wp2_with (first | (go_at_call 63; (try simp only [i64_w, i32_w]); (with_reducible refine (spec_l1In.calls a1 0 (wrap64 ((t317.length : Int) - 1)) true _ A8.out).mono ?_); rintro e w' ⟨rfl, ⟨nd, rfl⟩⟩; have p323 : 0 ≤ (a1 : Int) := sa; have q323 : a1 < (t317.length : Int) := sa; obtain ⟨ad323, e323, hx323_0⟩ := Kd.at_int (Kd.R_reads' HO319.out).2.2 a1 p323 q323; cases e323; have hn323_0 : ad323.block ≠ gb321 := Kd.own_blk (Kd.R_ne HO319.out BK321.out (by decide)); have hn323_1 : ad323.block ≠ gb321 := Kd.own_blk (Kd.R_ne HO319.out BK321.out (by decide)); have hn323_2 : ad323.block ≠ gb321 := Kd.own_blk (Kd.R_ne HO319.out BK321.out (by decide)); replace hx323_0 := (cell_far (p := ⟨gb321, 0, none⟩) (by first | (rw [add_block]; exact hn323_0) | (show (Addr.add _ _).block ≠ _; rw [add_block]; exact hn323_0) | exact hn323_0) (.int .i64 t313)).trans hx323_0; replace hx323_0 := (cell_far (p := ⟨gb321, 1, none⟩) (by first | (rw [add_block]; exact hn323_1) | (show (Addr.add _ _).block ≠ _; rw [add_block]; exact hn323_1) | exact hn323_1) (.slice Ao19 t314.length co19)).trans hx323_0; replace hx323_0 := (cell_far (p := ⟨gb321, 2, none⟩) (by first | (rw [add_block]; exact hn323_2) | (show (Addr.add _ _).block ≠ _; rw [add_block]; exact hn323_2) | exact hn323_2) (.slice (some ad323) t317.length co21)).trans hx323_0; clear hn323_0; clear hn323_1; clear hn323_2; replace p323 := eq_true p323; replace q323 := eq_true q323))
   go_ret
   exact ⟨se, sbw⟩
  ·replace H := im H
   obtain rfl := Option.some.inj H
   go_enter Try.func65, Try.ntmps65
   try go_wp2_with (first | ((with_reducible refine gate_dst (N := 4) rfl ?_); (try (refine gate_guard (by rfl) ?_; dsimp only)); refine bx 4 #[.int .i64 a0_0, .int .i64 a0_1, .int .i64 a0_2, .slice A0_3 l0_3.length c0_3] 29 ?_; intro gb311 hg w25 hbox hb; have BK311 := Aside0.mk hbox; have GW311 := bz w hg; have GE311 := bz w hg; replace HB := bs hb; clear hb hbox hg))
   replace BK311 := Aside0.mk (blk_drew BK311.out)
   replace HB := Aside0.mk (below_drew1 HB.out)
   refine start_ (n := 12) (S := fun w' => w'.cell? ⟨gb311, 0, none⟩ = some (.int .i64 a0_0) ∧ w'.cell? ⟨gb311, 1, none⟩ = some (.int .i64 a0_1) ∧ w'.cell? ⟨gb311, 2, none⟩ = some (.int .i64 a0_2) ∧ w'.cell? ⟨gb311, 3, none⟩ = some (.slice A0_3 l0_3.length c0_3)) (ds := []) #[false, false, false, false, false, false, false, false, false, false, false, false] (by kernel_rfl) rfl rfl ⟨bc0 BK311, bc1 BK311, bc2 BK311, bc3 BK311⟩ (fun hHeld => ?_); refine with_tabW spec_l19Next.tab1 spec_l19Next.bits1 (fun HT_ HW_ => ?_)
   generalize w25.drew = w26 at BK311 HB hHeld ⊢
   refine put 2 14 #[false, false, true, false, false, false, false, false, false, false, false, false] HT_ ?_
   refine put 4 16 #[false, false, true, false, true, false, false, false, false, false, false, false] HT_ ?_
   refine tat4 0 12 #[true, false, true, false, true, false, false, false, false, false, false, false] HT_ HW_ hHeld ?_
   refine tat4 1 13 #[true, true, true, false, true, false, false, false, false, false, false, false] HT_ HW_ hHeld ?_
   refine join_ (σ := Value × Value × Nat) 2 #[true, true, true, true, true, true, true, true, true, true, false, false] (fun s_ => [(15, .int .i64 t312), (17, .tuple #[.agg #[.int .i64 t313, s_.1, s_.2.1], .bool true]), (9, .pointer (some ⟨s_.2.2, 0, none⟩)), (11, .tuple #[.agg #[.int .i64 t313, s_.1, s_.2.1], .bool true]), (18, .agg #[.int .i64 t313, s_.1, s_.2.1]), (19, .bool true)]) (fun s_ w' => (w'.cell? ⟨gb311, 0, none⟩ = some (.int .i64 a0_0) ∧ w'.cell? ⟨gb311, 1, none⟩ = some (.int .i64 a0_1) ∧ w'.cell? ⟨gb311, 2, none⟩ = some (.int .i64 a0_2) ∧ w'.cell? ⟨gb311, 3, none⟩ = some (.slice A0_3 l0_3.length c0_3)) ∧ (Kd.R (Kd.int .i64) 3 w' w.heap.size (fun k_ => some k_ ≠ (s_.2.1 : Value).ownBlock) s_.1 t314) ∧ (Kd.R (Kd.int .i64) 3 w' w.heap.size (fun k_ => some k_ ≠ (s_.1 : Value).ownBlock) s_.2.1 t317) ∧ (w'.heap[gb311]? = some (.cells #[.int .i64 a0_0, .int .i64 a0_1, .int .i64 a0_2, .slice A0_3 l0_3.length c0_3] 29 (0, 0))) ∧ (w'.heap[s_.2.2]? = some (.cells #[.int .i64 0, .slice none 0 0, .slice none 0 0] 65 (0, 0))) ∧ (w.heap.size ≤ s_.2.2) ∧ (w.heap.size ≤ s_.2.2) ∧ (gb311 ≠ s_.2.2) ∧ (s_.2.2 ≠ gb311) ∧ (Below w.heap.size w w')) ?_ ?_
   rotate_left
   ·intro hCont
    refine two_ (i := 3) (j := 9) (Ni := some 15) (Nj := some 9) #[true, true, true, true, true, false, false, false, false, false, false, false] #[true, true, true, false, true, false, false, false, false, true, false, false] rfl rfl rfl rfl (two_of HT_.out (by kernel_rfl)) (by decide) (by decide) (fun K hK => ?_) (fun K hK => ?_)
    ·skip
     refine goes_ Try.func103 (by kernel_rfl) rfl #[.agg #[.int .i64 a0_0, .int .i64 a0_1, .int .i64 a0_2, .slice A0_3 l0_3.length c0_3], .int .i64 a3] (by rfl) rfl rfl sl ?_
     with_reducible refine (spec_PieceAt.calls k a0_0 a0_1 a0_2 _ _ l0_3 a3 t312 _ ?side1 ?side2 A5.out).mono ?_
     (case side1 => exact cb HR0_3)
     (case side2 => exact HC0_3.out)
     rintro e w27 ⟨rfl, hb⟩
     refine ⟨_, rfl, ?_⟩
     replace BK311 := bb BK311 hb
     replace HB := bsw hb
     (try clear hb)
     (try clear hb2)
     (try clear hk)
     (try clear hi)
     refine hK.out _ _ ⟨bc0 BK311, bc1 BK311, bc2 BK311, bc3 BK311⟩ (fun hHeld => ?_)
     clear hK K
     refine norm_ (a' := ?_) ?_ ?_
     rotate_left
     ·show Act.put _ (some 15) _ = _
      simp only [Act.put, List.setIfInBounds_toArray, List.set_cons_zero, List.set_cons_succ, i64_w, i32_w]
      rfl
     refine two_ (i := 5) (j := 9) (Ni := some 17) (Nj := some 9) #[true, true, true, true, true, true, false, false, false, false, false, false] #[true, true, true, true, true, false, false, false, false, true, false, false] rfl rfl rfl rfl (two_of HT_.out (by kernel_rfl)) (by decide) (by decide) (fun K hK => ?_) (fun K hK => ?_)
     ·skip
      refine goes_ Try.func104 (by kernel_rfl) rfl #[.agg #[.int .i64 a0_0, .int .i64 a0_1, .int .i64 a0_2, .slice A0_3 l0_3.length c0_3], .int .i64 t312, .int .i64 a2] (by rfl) rfl rfl sl ?_
      with_reducible refine (spec_TableIn.calls a0_0 a0_1 a0_2 _ _ l0_3 t312 a2 t313 t314 t317 true _ ?side1 ?side2 A6.out).mono ?_
      (case side1 => exact cb HR0_3)
      (case side2 => exact HC0_3.out)
      rintro e w28 ⟨v315, v318, rfl, ho0, ho1, hb⟩
      refine ⟨_, rfl, ?_⟩
      have HO316 := Aside0.mk (Kd.R_lower ho0 (below_size (sbw)))
      have HO319 := Aside0.mk (Kd.R_lower ho1 (below_size (sbw)))
      replace BK311 := bb BK311 hb
      replace HB := bsw hb
      (try clear hb)
      (try clear hb2)
      (try clear hk)
      (try clear hi)
      (try clear ho0)
      (try clear ho1)
      refine hK.out _ _ ⟨bc0 BK311, bc1 BK311, bc2 BK311, bc3 BK311⟩ (fun hHeld => ?_)
      clear hK K
      refine norm_ (a' := ?_) ?_ ?_
      rotate_left
      ·show Act.put _ (some 17) _ = _
       simp only [Act.put, List.setIfInBounds_toArray, List.set_cons_zero, List.set_cons_succ, i64_w, i32_w]
       rfl
      refine put 6 11 #[true, true, true, true, true, true, true, false, false, false, false, false] HT_ ?_
      refine put 7 18 #[true, true, true, true, true, true, true, true, false, false, false, false] HT_ ?_
      refine put 8 19 #[true, true, true, true, true, true, true, true, true, false, false, false] HT_ ?_
      refine one_ (i := 9) (N := some 9) #[true, true, true, true, true, true, true, true, true, true, false, false] rfl rfl (one_of HT_.out (by kernel_rfl)) (by decide) (fun K hK => ?_)
      refine box_step ?hg (N := 9) ?hd (cs := #[.int .i64 0, .slice none 0 0, .slice none 0 0]) (t := 65) ?hr ?_; (case hd => rfl); (case hg => rfl); (case hr => first | (go_simp; done) | (go_simp; rfl))
      intro gb321 hg w29 hbox hb
      replace HO316 := Aside0.mk (Kd.R_below (sr HO316) hb)
      replace HO319 := Aside0.mk (Kd.R_below (sr HO319) hb)
      have BK321 := Aside0.mk hbox
      have GW321 := bzw w hg
      have GE321 := bzw w hg
      replace HB := bsw hb
      have NB311_321 := nl BK311 hg
      have NB321_311 := ng BK311 hg
      replace BK311 := bb BK311 hb
      clear hb hbox hg
      refine hK.out _ _ ⟨bc0 BK311, bc1 BK311, bc2 BK311, bc3 BK311⟩ (fun hHeld => ?_)
      clear hK K
      refine norm_ (a' := ?_) ?_ ?_
      rotate_left
      ·show Act.put _ (some 9) _ = _
       simp only [Act.put, List.setIfInBounds_toArray, List.set_cons_zero, List.set_cons_succ, i64_w, i32_w]
       rfl
      exact norm_ (by simp only [putAll, Act.put, List.setIfInBounds_toArray, List.set_cons_zero, List.set_cons_succ]) (hCont (v315, v318, gb321) _ ⟨hHeld, (sr HO316), (sr HO319), (sk BK311), (sk BK321), GW321.out, GE321.out, NB311_321.out, NB321_311.out, (sbw)⟩)
     ·skip
      refine box_step ?hg (N := 9) ?hd (cs := #[.int .i64 0, .slice none 0 0, .slice none 0 0]) (t := 65) ?hr ?_; (case hd => rfl); (case hg => rfl); (case hr => first | (go_simp; done) | (go_simp; rfl))
      intro gb321 hg w28 hbox hb
      have BK321 := Aside0.mk hbox
      have GW321 := bzw w hg
      have GE321 := bzw w hg
      replace HB := bsw hb
      have NB311_321 := nl BK311 hg
      have NB321_311 := ng BK311 hg
      replace BK311 := bb BK311 hb
      clear hb hbox hg
      refine hK.out _ _ ⟨bc0 BK311, bc1 BK311, bc2 BK311, bc3 BK311⟩ (fun hHeld => ?_)
      clear hK K
      refine norm_ (a' := ?_) ?_ ?_
      rotate_left
      ·show Act.put _ (some 9) _ = _
       simp only [Act.put, List.setIfInBounds_toArray, List.set_cons_zero, List.set_cons_succ, i64_w, i32_w]
       rfl
      refine one_ (i := 5) (N := some 17) #[true, true, true, true, true, true, false, false, false, true, false, false] rfl rfl (one_of HT_.out (by kernel_rfl)) (by decide) (fun K hK => ?_)
      refine goes_ Try.func104 (by kernel_rfl) rfl #[.agg #[.int .i64 a0_0, .int .i64 a0_1, .int .i64 a0_2, .slice A0_3 l0_3.length c0_3], .int .i64 t312, .int .i64 a2] (by rfl) rfl rfl sl ?_
      with_reducible refine (spec_TableIn.calls a0_0 a0_1 a0_2 _ _ l0_3 t312 a2 t313 t314 t317 true _ ?side1 ?side2 A6.out).mono ?_
      (case side1 => exact cb HR0_3)
      (case side2 => exact HC0_3.out)
      rintro e w29 ⟨v315, v318, rfl, ho0, ho1, hb⟩
      refine ⟨_, rfl, ?_⟩
      have HO316 := Aside0.mk (Kd.R_lower ho0 (below_size (sbw)))
      have HO319 := Aside0.mk (Kd.R_lower ho1 (below_size (sbw)))
      replace BK311 := bb BK311 hb
      replace BK321 := bb BK321 hb
      replace HB := bsw hb
      (try clear hb)
      (try clear hb2)
      (try clear hk)
      (try clear hi)
      (try clear ho0)
      (try clear ho1)
      refine hK.out _ _ ⟨bc0 BK311, bc1 BK311, bc2 BK311, bc3 BK311⟩ (fun hHeld => ?_)
      clear hK K
      refine norm_ (a' := ?_) ?_ ?_
      rotate_left
      ·show Act.put _ (some 17) _ = _
       simp only [Act.put, List.setIfInBounds_toArray, List.set_cons_zero, List.set_cons_succ, i64_w, i32_w]
       rfl
      refine put 6 11 #[true, true, true, true, true, true, true, false, false, true, false, false] HT_ ?_
      refine put 7 18 #[true, true, true, true, true, true, true, true, false, true, false, false] HT_ ?_
      refine put 8 19 #[true, true, true, true, true, true, true, true, true, true, false, false] HT_ ?_
      exact norm_ (by simp only [putAll, Act.put, List.setIfInBounds_toArray, List.set_cons_zero, List.set_cons_succ]) (hCont (v315, v318, gb321) _ ⟨hHeld, (sr HO316), (sr HO319), (sk BK311), (sk BK321), GW321.out, GE321.out, NB311_321.out, NB321_311.out, (sbw)⟩)
    ·skip
     refine box_step ?hg (N := 9) ?hd (cs := #[.int .i64 0, .slice none 0 0, .slice none 0 0]) (t := 65) ?hr ?_; (case hd => rfl); (case hg => rfl); (case hr => first | (go_simp; done) | (go_simp; rfl))
     intro gb321 hg w27 hbox hb
     have BK321 := Aside0.mk hbox
     have GW321 := bzw w hg
     have GE321 := bzw w hg
     replace HB := bsw hb
     have NB311_321 := nl BK311 hg
     have NB321_311 := ng BK311 hg
     replace BK311 := bb BK311 hb
     clear hb hbox hg
     refine hK.out _ _ ⟨bc0 BK311, bc1 BK311, bc2 BK311, bc3 BK311⟩ (fun hHeld => ?_)
     clear hK K
     refine norm_ (a' := ?_) ?_ ?_
     rotate_left
     ·show Act.put _ (some 9) _ = _
      simp only [Act.put, List.setIfInBounds_toArray, List.set_cons_zero, List.set_cons_succ, i64_w, i32_w]
      rfl
     refine one_ (i := 3) (N := some 15) #[true, true, true, true, true, false, false, false, false, true, false, false] rfl rfl (one_of HT_.out (by kernel_rfl)) (by decide) (fun K hK => ?_)
     refine goes_ Try.func103 (by kernel_rfl) rfl #[.agg #[.int .i64 a0_0, .int .i64 a0_1, .int .i64 a0_2, .slice A0_3 l0_3.length c0_3], .int .i64 a3] (by rfl) rfl rfl sl ?_
     with_reducible refine (spec_PieceAt.calls k a0_0 a0_1 a0_2 _ _ l0_3 a3 t312 _ ?side1 ?side2 A5.out).mono ?_
     (case side1 => exact cb HR0_3)
     (case side2 => exact HC0_3.out)
     rintro e w28 ⟨rfl, hb⟩
     refine ⟨_, rfl, ?_⟩
     replace BK311 := bb BK311 hb
     replace BK321 := bb BK321 hb
     replace HB := bsw hb
     (try clear hb)
     (try clear hb2)
     (try clear hk)
     (try clear hi)
     refine hK.out _ _ ⟨bc0 BK311, bc1 BK311, bc2 BK311, bc3 BK311⟩ (fun hHeld => ?_)
     clear hK K
     refine norm_ (a' := ?_) ?_ ?_
     rotate_left
     ·show Act.put _ (some 15) _ = _
      simp only [Act.put, List.setIfInBounds_toArray, List.set_cons_zero, List.set_cons_succ, i64_w, i32_w]
      rfl
     refine one_ (i := 5) (N := some 17) #[true, true, true, true, true, true, false, false, false, true, false, false] rfl rfl (one_of HT_.out (by kernel_rfl)) (by decide) (fun K hK => ?_)
     refine goes_ Try.func104 (by kernel_rfl) rfl #[.agg #[.int .i64 a0_0, .int .i64 a0_1, .int .i64 a0_2, .slice A0_3 l0_3.length c0_3], .int .i64 t312, .int .i64 a2] (by rfl) rfl rfl sl ?_
     with_reducible refine (spec_TableIn.calls a0_0 a0_1 a0_2 _ _ l0_3 t312 a2 t313 t314 t317 true _ ?side1 ?side2 A6.out).mono ?_
     (case side1 => exact cb HR0_3)
     (case side2 => exact HC0_3.out)
     rintro e w29 ⟨v315, v318, rfl, ho0, ho1, hb⟩
     refine ⟨_, rfl, ?_⟩
     have HO316 := Aside0.mk (Kd.R_lower ho0 (below_size (sbw)))
     have HO319 := Aside0.mk (Kd.R_lower ho1 (below_size (sbw)))
     replace BK311 := bb BK311 hb
     replace BK321 := bb BK321 hb
     replace HB := bsw hb
     (try clear hb)
     (try clear hb2)
     (try clear hk)
     (try clear hi)
     (try clear ho0)
     (try clear ho1)
     refine hK.out _ _ ⟨bc0 BK311, bc1 BK311, bc2 BK311, bc3 BK311⟩ (fun hHeld => ?_)
     clear hK K
     refine norm_ (a' := ?_) ?_ ?_
     rotate_left
     ·show Act.put _ (some 17) _ = _
      simp only [Act.put, List.setIfInBounds_toArray, List.set_cons_zero, List.set_cons_succ, i64_w, i32_w]
      rfl
     refine put 6 11 #[true, true, true, true, true, true, true, false, false, true, false, false] HT_ ?_
     refine put 7 18 #[true, true, true, true, true, true, true, true, false, true, false, false] HT_ ?_
     refine put 8 19 #[true, true, true, true, true, true, true, true, true, true, false, false] HT_ ?_
     exact norm_ (by simp only [putAll, Act.put, List.setIfInBounds_toArray, List.set_cons_zero, List.set_cons_succ]) (hCont (v315, v318, gb321) _ ⟨hHeld, (sr HO316), (sr HO319), (sk BK311), (sk BK321), GW321.out, GE321.out, NB311_321.out, NB321_311.out, (sbw)⟩)
   rintro ⟨v315, v318, gb321⟩ w30 ⟨hS_, h0_, h1_, h2_, h3_, h4_, h5_, h6_, h7_, h8_⟩
   have HO316 : Aside0 (Kd.R (Kd.int .i64) 3 w30 w.heap.size (fun k_ => some k_ ≠ (v318 : Value).ownBlock) v315 t314) := ⟨h0_⟩
   have HO319 : Aside0 (Kd.R (Kd.int .i64) 3 w30 w.heap.size (fun k_ => some k_ ≠ (v315 : Value).ownBlock) v318 t317) := ⟨h1_⟩
   replace BK311 : Aside0 (w30.heap[gb311]? = some (.cells #[.int .i64 a0_0, .int .i64 a0_1, .int .i64 a0_2, .slice A0_3 l0_3.length c0_3] 29 (0, 0))) := ⟨h2_⟩
   have BK321 : Aside0 (w30.heap[gb321]? = some (.cells #[.int .i64 0, .slice none 0 0, .slice none 0 0] 65 (0, 0))) := ⟨h3_⟩
   have GW321 : Aside0 (w.heap.size ≤ gb321) := ⟨h4_⟩
   have GE321 : Aside0 (w.heap.size ≤ gb321) := ⟨h5_⟩
   have NB311_321 : Aside0 (gb311 ≠ gb321) := ⟨h6_⟩
   have NB321_311 : Aside0 (gb321 ≠ gb311) := ⟨h7_⟩
   replace HB : Aside0 (Below w.heap.size w w30) := ⟨h8_⟩
   clear h0_ h1_ h2_ h3_ h4_ h5_ h6_ h7_ h8_
   have hHeld : w30.cell? ⟨gb311, 0, none⟩ = some (.int .i64 a0_0) ∧ w30.cell? ⟨gb311, 1, none⟩ = some (.int .i64 a0_1) ∧ w30.cell? ⟨gb311, 2, none⟩ = some (.int .i64 a0_2) ∧ w30.cell? ⟨gb311, 3, none⟩ = some (.slice A0_3 l0_3.length c0_3) := hS_
   obtain ⟨Ao32, co32, eo32⟩ := Kd.R_slice HO316.out
   (first | subst eo32 | (injection eo32 with f1_ f2_ f3_; have f4_ := f1_.symm; have f5_ := f3_.symm; clear f1_ f2_ f3_; subst f4_; subst f5_))
   obtain ⟨Ao34, co34, eo34⟩ := Kd.R_slice HO319.out
   (first | subst eo34 | (injection eo34 with f1_ f2_ f3_; have f4_ := f1_.symm; have f5_ := f3_.symm; clear f1_ f2_ f3_; subst f4_; subst f5_))
   refine norm_ (a' := ?_) ?_ ?_
   rotate_left
   ·simp only [putAll, Act.put, List.setIfInBounds_toArray, List.set_cons_zero, List.set_cons_succ]
    rfl
   refine one_ (i := 10) (N := none) #[true, true, true, true, true, true, true, true, true, true, true, false] rfl rfl (one_of HT_.out (by kernel_rfl)) (by decide) (fun K hK => ?_)
   obtain ⟨hs31, hfs31⟩ := cc1 BK321
   have hns31_0 := NB311_321.out
   have hms31_0 := NB321_311.out
   have hs33 := bc1 BK321
   have hfs33 := bf BK321 1
   have hns33_0 := NB311_321.out
   have hms33_0 := NB321_311.out
   have hs35 := bc2 BK321
   have hfs35 := bf BK321 2
   have hns35_0 := NB311_321.out
   have hms35_0 := NB321_311.out
   refine skip_ (w1 := ?_) (by rfl) rfl ?_ ?_
   rotate_left
   ·go_simp
    rfl
   refine hK.out _ _ ⟨((cell_far (p := ⟨gb321, _, none⟩) NB311_321.out _).trans (((cell_far (p := ⟨gb321, _, none⟩) NB311_321.out _).trans (((cell_far (p := ⟨gb321, _, none⟩) NB311_321.out _).trans (hHeld.1)))))), ((cell_far (p := ⟨gb321, _, none⟩) NB311_321.out _).trans (((cell_far (p := ⟨gb321, _, none⟩) NB311_321.out _).trans (((cell_far (p := ⟨gb321, _, none⟩) NB311_321.out _).trans (hHeld.2.1)))))), ((cell_far (p := ⟨gb321, _, none⟩) NB311_321.out _).trans (((cell_far (p := ⟨gb321, _, none⟩) NB311_321.out _).trans (((cell_far (p := ⟨gb321, _, none⟩) NB311_321.out _).trans (hHeld.2.2.1)))))), ((cell_far (p := ⟨gb321, _, none⟩) NB311_321.out _).trans (((cell_far (p := ⟨gb321, _, none⟩) NB311_321.out _).trans (((cell_far (p := ⟨gb321, _, none⟩) NB311_321.out _).trans (hHeld.2.2.2))))))⟩ (fun hHeld => ?_)
   clear hK K
   refine put 11 10 #[true, true, true, true, true, true, true, true, true, true, true, true] HT_ ?_
   refine done_ (done_of HT_.out (by kernel_rfl)) ?_
   have hnb36 := NB321_311.out
   have hnc36 := NB311_321.out
   obtain ⟨hcz37_0, hcz37_1, hcz37_2, hfz37_0, hfz37_1, hfz37_2⟩ := cc3 BK321
   try go_wp2_with (first | (go_at_call 63; (try simp only [i64_w, i32_w]); (with_reducible refine (spec_l1In.calls a1 0 (wrap64 ((t317.length : Int) - 1)) false _ A8.out).mono ?_); rintro e w' ⟨rfl, ⟨nd, rfl⟩⟩))
   go_ret
   exact ⟨se, sbw⟩
 ·replace H := im H
  obtain rfl := Option.some.inj H
  go_enter Try.func65, Try.ntmps65
  try go_wp2_with (first | ((with_reducible refine gate_dst (N := 4) rfl ?_); (try (refine gate_guard (by rfl) ?_; dsimp only)); refine bx 4 #[.int .i64 a0_0, .int .i64 a0_1, .int .i64 a0_2, .slice A0_3 l0_3.length c0_3] 29 ?_; intro gb311 hg w38 hbox hb; have BK311 := Aside0.mk hbox; have GW311 := bz w hg; have GE311 := bz w hg; replace HB := bs hb; clear hb hbox hg))
  replace BK311 := Aside0.mk (blk_drew BK311.out)
  replace HB := Aside0.mk (below_drew1 HB.out)
  refine start_ (n := 12) (S := fun w' => w'.cell? ⟨gb311, 0, none⟩ = some (.int .i64 a0_0) ∧ w'.cell? ⟨gb311, 1, none⟩ = some (.int .i64 a0_1) ∧ w'.cell? ⟨gb311, 2, none⟩ = some (.int .i64 a0_2) ∧ w'.cell? ⟨gb311, 3, none⟩ = some (.slice A0_3 l0_3.length c0_3)) (ds := []) #[false, false, false, false, false, false, false, false, false, false, false, false] (by kernel_rfl) rfl rfl ⟨bc0 BK311, bc1 BK311, bc2 BK311, bc3 BK311⟩ (fun hHeld => ?_); refine with_tabW spec_l19Next.tab1 spec_l19Next.bits1 (fun HT_ HW_ => ?_)
  generalize w38.drew = w39 at BK311 HB hHeld ⊢
  refine put 2 14 #[false, false, true, false, false, false, false, false, false, false, false, false] HT_ ?_
  refine put 4 16 #[false, false, true, false, true, false, false, false, false, false, false, false] HT_ ?_
  refine tat4 0 12 #[true, false, true, false, true, false, false, false, false, false, false, false] HT_ HW_ hHeld ?_
  refine tat4 1 13 #[true, true, true, false, true, false, false, false, false, false, false, false] HT_ HW_ hHeld ?_
  refine join_ (σ := Value × Value × Nat) 2 #[true, true, true, true, true, true, true, true, true, true, false, false] (fun s_ => [(15, .int .i64 t312), (17, .tuple #[.agg #[.int .i64 t313, s_.1, s_.2.1], .bool false]), (9, .pointer (some ⟨s_.2.2, 0, none⟩)), (11, .tuple #[.agg #[.int .i64 t313, s_.1, s_.2.1], .bool false]), (18, .agg #[.int .i64 t313, s_.1, s_.2.1]), (19, .bool false)]) (fun s_ w' => (w'.cell? ⟨gb311, 0, none⟩ = some (.int .i64 a0_0) ∧ w'.cell? ⟨gb311, 1, none⟩ = some (.int .i64 a0_1) ∧ w'.cell? ⟨gb311, 2, none⟩ = some (.int .i64 a0_2) ∧ w'.cell? ⟨gb311, 3, none⟩ = some (.slice A0_3 l0_3.length c0_3)) ∧ (Kd.R (Kd.int .i64) 3 w' w.heap.size (fun k_ => some k_ ≠ (s_.2.1 : Value).ownBlock) s_.1 t314) ∧ (Kd.R (Kd.int .i64) 3 w' w.heap.size (fun k_ => some k_ ≠ (s_.1 : Value).ownBlock) s_.2.1 t317) ∧ (w'.heap[gb311]? = some (.cells #[.int .i64 a0_0, .int .i64 a0_1, .int .i64 a0_2, .slice A0_3 l0_3.length c0_3] 29 (0, 0))) ∧ (w'.heap[s_.2.2]? = some (.cells #[.int .i64 0, .slice none 0 0, .slice none 0 0] 65 (0, 0))) ∧ (w.heap.size ≤ s_.2.2) ∧ (w.heap.size ≤ s_.2.2) ∧ (gb311 ≠ s_.2.2) ∧ (s_.2.2 ≠ gb311) ∧ (Below w.heap.size w w')) ?_ ?_
  rotate_left
  ·intro hCont
   refine two_ (i := 3) (j := 9) (Ni := some 15) (Nj := some 9) #[true, true, true, true, true, false, false, false, false, false, false, false] #[true, true, true, false, true, false, false, false, false, true, false, false] rfl rfl rfl rfl (two_of HT_.out (by kernel_rfl)) (by decide) (by decide) (fun K hK => ?_) (fun K hK => ?_)
   ·skip
    refine goes_ Try.func103 (by kernel_rfl) rfl #[.agg #[.int .i64 a0_0, .int .i64 a0_1, .int .i64 a0_2, .slice A0_3 l0_3.length c0_3], .int .i64 a3] (by rfl) rfl rfl sl ?_
    with_reducible refine (spec_PieceAt.calls k a0_0 a0_1 a0_2 _ _ l0_3 a3 t312 _ ?side1 ?side2 A5.out).mono ?_
    (case side1 => exact cb HR0_3)
    (case side2 => exact HC0_3.out)
    rintro e w40 ⟨rfl, hb⟩
    refine ⟨_, rfl, ?_⟩
    replace BK311 := bb BK311 hb
    replace HB := bsw hb
    (try clear hb)
    (try clear hb2)
    (try clear hk)
    (try clear hi)
    refine hK.out _ _ ⟨bc0 BK311, bc1 BK311, bc2 BK311, bc3 BK311⟩ (fun hHeld => ?_)
    clear hK K
    refine norm_ (a' := ?_) ?_ ?_
    rotate_left
    ·show Act.put _ (some 15) _ = _
     simp only [Act.put, List.setIfInBounds_toArray, List.set_cons_zero, List.set_cons_succ, i64_w, i32_w]
     rfl
    refine two_ (i := 5) (j := 9) (Ni := some 17) (Nj := some 9) #[true, true, true, true, true, true, false, false, false, false, false, false] #[true, true, true, true, true, false, false, false, false, true, false, false] rfl rfl rfl rfl (two_of HT_.out (by kernel_rfl)) (by decide) (by decide) (fun K hK => ?_) (fun K hK => ?_)
    ·skip
     refine goes_ Try.func104 (by kernel_rfl) rfl #[.agg #[.int .i64 a0_0, .int .i64 a0_1, .int .i64 a0_2, .slice A0_3 l0_3.length c0_3], .int .i64 t312, .int .i64 a2] (by rfl) rfl rfl sl ?_
     with_reducible refine (spec_TableIn.calls a0_0 a0_1 a0_2 _ _ l0_3 t312 a2 t313 t314 t317 false _ ?side1 ?side2 A6.out).mono ?_
     (case side1 => exact cb HR0_3)
     (case side2 => exact HC0_3.out)
     rintro e w41 ⟨v315, v318, rfl, ho0, ho1, hb⟩
     refine ⟨_, rfl, ?_⟩
     have HO316 := Aside0.mk (Kd.R_lower ho0 (below_size (sbw)))
     have HO319 := Aside0.mk (Kd.R_lower ho1 (below_size (sbw)))
     replace BK311 := bb BK311 hb
     replace HB := bsw hb
     (try clear hb)
     (try clear hb2)
     (try clear hk)
     (try clear hi)
     (try clear ho0)
     (try clear ho1)
     refine hK.out _ _ ⟨bc0 BK311, bc1 BK311, bc2 BK311, bc3 BK311⟩ (fun hHeld => ?_)
     clear hK K
     refine norm_ (a' := ?_) ?_ ?_
     rotate_left
     ·show Act.put _ (some 17) _ = _
      simp only [Act.put, List.setIfInBounds_toArray, List.set_cons_zero, List.set_cons_succ, i64_w, i32_w]
      rfl
     refine put 6 11 #[true, true, true, true, true, true, true, false, false, false, false, false] HT_ ?_
     refine put 7 18 #[true, true, true, true, true, true, true, true, false, false, false, false] HT_ ?_
     refine put 8 19 #[true, true, true, true, true, true, true, true, true, false, false, false] HT_ ?_
     refine one_ (i := 9) (N := some 9) #[true, true, true, true, true, true, true, true, true, true, false, false] rfl rfl (one_of HT_.out (by kernel_rfl)) (by decide) (fun K hK => ?_)
     refine box_step ?hg (N := 9) ?hd (cs := #[.int .i64 0, .slice none 0 0, .slice none 0 0]) (t := 65) ?hr ?_; (case hd => rfl); (case hg => rfl); (case hr => first | (go_simp; done) | (go_simp; rfl))
     intro gb321 hg w42 hbox hb
     replace HO316 := Aside0.mk (Kd.R_below (sr HO316) hb)
     replace HO319 := Aside0.mk (Kd.R_below (sr HO319) hb)
     have BK321 := Aside0.mk hbox
     have GW321 := bzw w hg
     have GE321 := bzw w hg
     replace HB := bsw hb
     have NB311_321 := nl BK311 hg
     have NB321_311 := ng BK311 hg
     replace BK311 := bb BK311 hb
     clear hb hbox hg
     refine hK.out _ _ ⟨bc0 BK311, bc1 BK311, bc2 BK311, bc3 BK311⟩ (fun hHeld => ?_)
     clear hK K
     refine norm_ (a' := ?_) ?_ ?_
     rotate_left
     ·show Act.put _ (some 9) _ = _
      simp only [Act.put, List.setIfInBounds_toArray, List.set_cons_zero, List.set_cons_succ, i64_w, i32_w]
      rfl
     exact norm_ (by simp only [putAll, Act.put, List.setIfInBounds_toArray, List.set_cons_zero, List.set_cons_succ]) (hCont (v315, v318, gb321) _ ⟨hHeld, (sr HO316), (sr HO319), (sk BK311), (sk BK321), GW321.out, GE321.out, NB311_321.out, NB321_311.out, (sbw)⟩)
    ·skip
     refine box_step ?hg (N := 9) ?hd (cs := #[.int .i64 0, .slice none 0 0, .slice none 0 0]) (t := 65) ?hr ?_; (case hd => rfl); (case hg => rfl); (case hr => first | (go_simp; done) | (go_simp; rfl))
     intro gb321 hg w41 hbox hb
     have BK321 := Aside0.mk hbox
     have GW321 := bzw w hg
     have GE321 := bzw w hg
     replace HB := bsw hb
     have NB311_321 := nl BK311 hg
     have NB321_311 := ng BK311 hg
     replace BK311 := bb BK311 hb
     clear hb hbox hg
     refine hK.out _ _ ⟨bc0 BK311, bc1 BK311, bc2 BK311, bc3 BK311⟩ (fun hHeld => ?_)
     clear hK K
     refine norm_ (a' := ?_) ?_ ?_
     rotate_left
     ·show Act.put _ (some 9) _ = _
      simp only [Act.put, List.setIfInBounds_toArray, List.set_cons_zero, List.set_cons_succ, i64_w, i32_w]
      rfl
     refine one_ (i := 5) (N := some 17) #[true, true, true, true, true, true, false, false, false, true, false, false] rfl rfl (one_of HT_.out (by kernel_rfl)) (by decide) (fun K hK => ?_)
     refine goes_ Try.func104 (by kernel_rfl) rfl #[.agg #[.int .i64 a0_0, .int .i64 a0_1, .int .i64 a0_2, .slice A0_3 l0_3.length c0_3], .int .i64 t312, .int .i64 a2] (by rfl) rfl rfl sl ?_
     with_reducible refine (spec_TableIn.calls a0_0 a0_1 a0_2 _ _ l0_3 t312 a2 t313 t314 t317 false _ ?side1 ?side2 A6.out).mono ?_
     (case side1 => exact cb HR0_3)
     (case side2 => exact HC0_3.out)
     rintro e w42 ⟨v315, v318, rfl, ho0, ho1, hb⟩
     refine ⟨_, rfl, ?_⟩
     have HO316 := Aside0.mk (Kd.R_lower ho0 (below_size (sbw)))
     have HO319 := Aside0.mk (Kd.R_lower ho1 (below_size (sbw)))
     replace BK311 := bb BK311 hb
     replace BK321 := bb BK321 hb
     replace HB := bsw hb
     (try clear hb)
     (try clear hb2)
     (try clear hk)
     (try clear hi)
     (try clear ho0)
     (try clear ho1)
     refine hK.out _ _ ⟨bc0 BK311, bc1 BK311, bc2 BK311, bc3 BK311⟩ (fun hHeld => ?_)
     clear hK K
     refine norm_ (a' := ?_) ?_ ?_
     rotate_left
     ·show Act.put _ (some 17) _ = _
      simp only [Act.put, List.setIfInBounds_toArray, List.set_cons_zero, List.set_cons_succ, i64_w, i32_w]
      rfl
     refine put 6 11 #[true, true, true, true, true, true, true, false, false, true, false, false] HT_ ?_
     refine put 7 18 #[true, true, true, true, true, true, true, true, false, true, false, false] HT_ ?_
     refine put 8 19 #[true, true, true, true, true, true, true, true, true, true, false, false] HT_ ?_
     exact norm_ (by simp only [putAll, Act.put, List.setIfInBounds_toArray, List.set_cons_zero, List.set_cons_succ]) (hCont (v315, v318, gb321) _ ⟨hHeld, (sr HO316), (sr HO319), (sk BK311), (sk BK321), GW321.out, GE321.out, NB311_321.out, NB321_311.out, (sbw)⟩)
   ·skip
    refine box_step ?hg (N := 9) ?hd (cs := #[.int .i64 0, .slice none 0 0, .slice none 0 0]) (t := 65) ?hr ?_; (case hd => rfl); (case hg => rfl); (case hr => first | (go_simp; done) | (go_simp; rfl))
    intro gb321 hg w40 hbox hb
    have BK321 := Aside0.mk hbox
    have GW321 := bzw w hg
    have GE321 := bzw w hg
    replace HB := bsw hb
    have NB311_321 := nl BK311 hg
    have NB321_311 := ng BK311 hg
    replace BK311 := bb BK311 hb
    clear hb hbox hg
    refine hK.out _ _ ⟨bc0 BK311, bc1 BK311, bc2 BK311, bc3 BK311⟩ (fun hHeld => ?_)
    clear hK K
    refine norm_ (a' := ?_) ?_ ?_
    rotate_left
    ·show Act.put _ (some 9) _ = _
     simp only [Act.put, List.setIfInBounds_toArray, List.set_cons_zero, List.set_cons_succ, i64_w, i32_w]
     rfl
    refine one_ (i := 3) (N := some 15) #[true, true, true, true, true, false, false, false, false, true, false, false] rfl rfl (one_of HT_.out (by kernel_rfl)) (by decide) (fun K hK => ?_)
    refine goes_ Try.func103 (by kernel_rfl) rfl #[.agg #[.int .i64 a0_0, .int .i64 a0_1, .int .i64 a0_2, .slice A0_3 l0_3.length c0_3], .int .i64 a3] (by rfl) rfl rfl sl ?_
    with_reducible refine (spec_PieceAt.calls k a0_0 a0_1 a0_2 _ _ l0_3 a3 t312 _ ?side1 ?side2 A5.out).mono ?_
    (case side1 => exact cb HR0_3)
    (case side2 => exact HC0_3.out)
    rintro e w41 ⟨rfl, hb⟩
    refine ⟨_, rfl, ?_⟩
    replace BK311 := bb BK311 hb
    replace BK321 := bb BK321 hb
    replace HB := bsw hb
    (try clear hb)
    (try clear hb2)
    (try clear hk)
    (try clear hi)
    refine hK.out _ _ ⟨bc0 BK311, bc1 BK311, bc2 BK311, bc3 BK311⟩ (fun hHeld => ?_)
    clear hK K
    refine norm_ (a' := ?_) ?_ ?_
    rotate_left
    ·show Act.put _ (some 15) _ = _
     simp only [Act.put, List.setIfInBounds_toArray, List.set_cons_zero, List.set_cons_succ, i64_w, i32_w]
     rfl
    refine one_ (i := 5) (N := some 17) #[true, true, true, true, true, true, false, false, false, true, false, false] rfl rfl (one_of HT_.out (by kernel_rfl)) (by decide) (fun K hK => ?_)
    refine goes_ Try.func104 (by kernel_rfl) rfl #[.agg #[.int .i64 a0_0, .int .i64 a0_1, .int .i64 a0_2, .slice A0_3 l0_3.length c0_3], .int .i64 t312, .int .i64 a2] (by rfl) rfl rfl sl ?_
    with_reducible refine (spec_TableIn.calls a0_0 a0_1 a0_2 _ _ l0_3 t312 a2 t313 t314 t317 false _ ?side1 ?side2 A6.out).mono ?_
    (case side1 => exact cb HR0_3)
    (case side2 => exact HC0_3.out)
    rintro e w42 ⟨v315, v318, rfl, ho0, ho1, hb⟩
    refine ⟨_, rfl, ?_⟩
    have HO316 := Aside0.mk (Kd.R_lower ho0 (below_size (sbw)))
    have HO319 := Aside0.mk (Kd.R_lower ho1 (below_size (sbw)))
    replace BK311 := bb BK311 hb
    replace BK321 := bb BK321 hb
    replace HB := bsw hb
    (try clear hb)
    (try clear hb2)
    (try clear hk)
    (try clear hi)
    (try clear ho0)
    (try clear ho1)
    refine hK.out _ _ ⟨bc0 BK311, bc1 BK311, bc2 BK311, bc3 BK311⟩ (fun hHeld => ?_)
    clear hK K
    refine norm_ (a' := ?_) ?_ ?_
    rotate_left
    ·show Act.put _ (some 17) _ = _
     simp only [Act.put, List.setIfInBounds_toArray, List.set_cons_zero, List.set_cons_succ, i64_w, i32_w]
     rfl
    refine put 6 11 #[true, true, true, true, true, true, true, false, false, true, false, false] HT_ ?_
    refine put 7 18 #[true, true, true, true, true, true, true, true, false, true, false, false] HT_ ?_
    refine put 8 19 #[true, true, true, true, true, true, true, true, true, true, false, false] HT_ ?_
    exact norm_ (by simp only [putAll, Act.put, List.setIfInBounds_toArray, List.set_cons_zero, List.set_cons_succ]) (hCont (v315, v318, gb321) _ ⟨hHeld, (sr HO316), (sr HO319), (sk BK311), (sk BK321), GW321.out, GE321.out, NB311_321.out, NB321_311.out, (sbw)⟩)
  rintro ⟨v315, v318, gb321⟩ w43 ⟨hS_, h0_, h1_, h2_, h3_, h4_, h5_, h6_, h7_, h8_⟩
  have HO316 : Aside0 (Kd.R (Kd.int .i64) 3 w43 w.heap.size (fun k_ => some k_ ≠ (v318 : Value).ownBlock) v315 t314) := ⟨h0_⟩
  have HO319 : Aside0 (Kd.R (Kd.int .i64) 3 w43 w.heap.size (fun k_ => some k_ ≠ (v315 : Value).ownBlock) v318 t317) := ⟨h1_⟩
  replace BK311 : Aside0 (w43.heap[gb311]? = some (.cells #[.int .i64 a0_0, .int .i64 a0_1, .int .i64 a0_2, .slice A0_3 l0_3.length c0_3] 29 (0, 0))) := ⟨h2_⟩
  have BK321 : Aside0 (w43.heap[gb321]? = some (.cells #[.int .i64 0, .slice none 0 0, .slice none 0 0] 65 (0, 0))) := ⟨h3_⟩
  have GW321 : Aside0 (w.heap.size ≤ gb321) := ⟨h4_⟩
  have GE321 : Aside0 (w.heap.size ≤ gb321) := ⟨h5_⟩
  have NB311_321 : Aside0 (gb311 ≠ gb321) := ⟨h6_⟩
  have NB321_311 : Aside0 (gb321 ≠ gb311) := ⟨h7_⟩
  replace HB : Aside0 (Below w.heap.size w w43) := ⟨h8_⟩
  clear h0_ h1_ h2_ h3_ h4_ h5_ h6_ h7_ h8_
  have hHeld : w43.cell? ⟨gb311, 0, none⟩ = some (.int .i64 a0_0) ∧ w43.cell? ⟨gb311, 1, none⟩ = some (.int .i64 a0_1) ∧ w43.cell? ⟨gb311, 2, none⟩ = some (.int .i64 a0_2) ∧ w43.cell? ⟨gb311, 3, none⟩ = some (.slice A0_3 l0_3.length c0_3) := hS_
  obtain ⟨Ao45, co45, eo45⟩ := Kd.R_slice HO316.out
  (first | subst eo45 | (injection eo45 with f1_ f2_ f3_; have f4_ := f1_.symm; have f5_ := f3_.symm; clear f1_ f2_ f3_; subst f4_; subst f5_))
  obtain ⟨Ao47, co47, eo47⟩ := Kd.R_slice HO319.out
  (first | subst eo47 | (injection eo47 with f1_ f2_ f3_; have f4_ := f1_.symm; have f5_ := f3_.symm; clear f1_ f2_ f3_; subst f4_; subst f5_))
  refine norm_ (a' := ?_) ?_ ?_
  rotate_left
  ·simp only [putAll, Act.put, List.setIfInBounds_toArray, List.set_cons_zero, List.set_cons_succ]
   rfl
  refine one_ (i := 10) (N := none) #[true, true, true, true, true, true, true, true, true, true, true, false] rfl rfl (one_of HT_.out (by kernel_rfl)) (by decide) (fun K hK => ?_)
  obtain ⟨hs44, hfs44⟩ := cc1 BK321
  have hns44_0 := NB311_321.out
  have hms44_0 := NB321_311.out
  have hs46 := bc1 BK321
  have hfs46 := bf BK321 1
  have hns46_0 := NB311_321.out
  have hms46_0 := NB321_311.out
  have hs48 := bc2 BK321
  have hfs48 := bf BK321 2
  have hns48_0 := NB311_321.out
  have hms48_0 := NB321_311.out
  refine skip_ (w1 := ?_) (by rfl) rfl ?_ ?_
  rotate_left
  ·go_simp
   rfl
  refine hK.out _ _ ⟨((cell_far (p := ⟨gb321, _, none⟩) NB311_321.out _).trans (((cell_far (p := ⟨gb321, _, none⟩) NB311_321.out _).trans (((cell_far (p := ⟨gb321, _, none⟩) NB311_321.out _).trans (hHeld.1)))))), ((cell_far (p := ⟨gb321, _, none⟩) NB311_321.out _).trans (((cell_far (p := ⟨gb321, _, none⟩) NB311_321.out _).trans (((cell_far (p := ⟨gb321, _, none⟩) NB311_321.out _).trans (hHeld.2.1)))))), ((cell_far (p := ⟨gb321, _, none⟩) NB311_321.out _).trans (((cell_far (p := ⟨gb321, _, none⟩) NB311_321.out _).trans (((cell_far (p := ⟨gb321, _, none⟩) NB311_321.out _).trans (hHeld.2.2.1)))))), ((cell_far (p := ⟨gb321, _, none⟩) NB311_321.out _).trans (((cell_far (p := ⟨gb321, _, none⟩) NB311_321.out _).trans (((cell_far (p := ⟨gb321, _, none⟩) NB311_321.out _).trans (hHeld.2.2.2))))))⟩ (fun hHeld => ?_)
  clear hK K
  refine put 11 10 #[true, true, true, true, true, true, true, true, true, true, true, true] HT_ ?_
  refine done_ (done_of HT_.out (by kernel_rfl)) ?_
  try go_wp2
  go_ret
  exact ⟨se, sbw⟩

end Go.Proofs.Ytlakjlolahjphaa.QFnExactNextsAt
