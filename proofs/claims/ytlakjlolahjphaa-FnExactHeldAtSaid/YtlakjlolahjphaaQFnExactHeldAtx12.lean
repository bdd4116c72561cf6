/- What the Go functions of the law FnExactHeldAt come to, as Lean functions, and that they do: by a program of the session, out of the kit's printer. Conditions: none. (squeezed). -/
import Derived.Test.YtlakjlolahjphaaSq
import Derived.Test.YtlakjlolahjphaaQFnExactHeldAtx0
import Derived.Test.YtlakjlolahjphaaQFnExactHeldAtx11
namespace Go.Proofs.Ytlakjlolahjphaa.QFnExactHeldAt
open Go.RowKit Go.Proofs.YtlakjlolahjphaaW.PrintWords Go.Proofs.YtlakjlolahjphaaW.PrintLast Go.Proofs.YtlakjlolahjphaaW.PrintMore Go.Proofs.Ytlakjlolahjphaa.Open Go.Proofs.Ytlakjlolahjphaa.Sq
attribute [local go_sem] max2_int min2_int max_two min_two max_three min_three max_four min_four   -- for this text's walks alone
attribute [local go_sem] isSome_set
set_option linter.unusedVariables false
set_option linter.unusedSimpArgs false

/-! ### impl_cloneTable: function 99 -/
def impl_cloneTable.f (a0_0 : Int) (l0_1 : List Int) (l0_2 : List Int) : Option (Int × List Int × List Int) := (slices_Clone_int_int.f l0_1).bind fun t342 => ((slices_Clone_int_int.f l0_2).bind fun t345 => (some (a0_0, t342, t345)))
def impl_cloneTable.T1 : Bool × List (List Nat × List Nat) := (true, [([], []), ([0], [0]), ([], []), ([2], [2]), ([3], [3]), ([], []), ([5], [5]), ([6, 4], [6]), ([1, 4, 7], [1, 4, 7]), ([8, 7, 0, 1, 2, 3, 4, 5, 6, 7, 8], [8])])
def impl_cloneTable.B1 : List Nat := [0, 1, 0, 4, 12, 0, 32, 124, 255, 511]
theorem impl_cloneTable.tab1 : rtab .any (opsOf Try.f99 1) = impl_cloneTable.T1 := by kernel_rfl
theorem impl_cloneTable.bits1 : waitsOk impl_cloneTable.T1.2 impl_cloneTable.B1 = true := by kernel_rfl
set_option maxHeartbeats 8000000 in
set_option maxRecDepth 100000 in
theorem impl_cloneTable.calls (a0_0 : Int) (A0_1 : Option Addr) (c0_1 : Nat) (l0_1 : List Int) (A0_2 : Option Addr) (c0_2 : Nat) (l0_2 : List Int) (r1 : Int) (r2 : List Int) (r3 : List Int) (w : World) (hr0_1 : Kd.C (Kd.int .i64) w A0_1 l0_1.length l0_1) (hc0_1 : l0_1.length ≤ c0_1) (hr0_2 : Kd.C (Kd.int .i64) w A0_2 l0_2.length l0_2) (hc0_2 : l0_2.length ≤ c0_2) (h : impl_cloneTable.f a0_0 l0_1 l0_2 = some (r1, r2, r3)) :
    Calls Try.prog 99 #[.agg #[.int .i64 a0_0, .slice A0_1 l0_1.length c0_1, .slice A0_2 l0_2.length c0_2]] w fun e w' => ∃ v1_ v2_ : Value, e = .returned (.agg #[.int .i64 r1, v1_, v2_]) ∧ Kd.R (Kd.int .i64) 3 w' w.heap.size (fun k_ => some k_ ≠ (v2_ : Value).ownBlock) v1_ r2 ∧ Kd.R (Kd.int .i64) 3 w' w.heap.size (fun k_ => some k_ ≠ (v1_ : Value).ownBlock) v2_ r3 ∧ Below w.heap.size w w' := by
 have hu65 := Try.underlying65
 have HR0_1 := Aside0.mk hr0_1
 have HC0_1 := Aside0.mk hc0_1
 clear hr0_1 hc0_1
 have HR0_2 := Aside0.mk hr0_2
 have HC0_2 := Aside0.mk hc0_2
 clear hr0_2 hc0_2
 have HB := Aside0.mk (Below.refl w.heap.size w)
 have H : ((slices_Clone_int_int.f l0_1).bind fun t342 => ((slices_Clone_int_int.f l0_2).bind fun t345 => (some (a0_0, t342, t345)))) = some (r1, r2, r3) := h
 clear h
 obtain ⟨t342, A2, H⟩ := bnd H
 obtain ⟨t345, A3, H⟩ := bnd H
 simp only [Option.some.injEq, Prod.mk.injEq] at H
 obtain ⟨rfl, rfl, rfl⟩ := H
 go_enter Try.func99, Try.ntmps99
 try go_wp2_with (first | ((with_reducible refine gate_dst (N := 1) rfl ?_); refine bx 1 #[.int .i64 a0_0, .slice A0_1 l0_1.length c0_1, .slice A0_2 l0_2.length c0_2] 65 ?_; intro gb340 hg w4 hbox hb; have BK340 := Aside0.mk hbox; have GW340 := bz w hg; have GE340 := bz w hg; replace HB := bs hb; clear hb hbox hg) | ((with_reducible refine gate_dst (N := 2) rfl ?_); refine bx 2 #[.int .i64 0, .slice none 0 0, .slice none 0 0] 65 ?_; intro gb341 hg w5 hbox hb; have BK341 := Aside0.mk hbox; have GW341 := bzw w hg; have GE341 := bzw w hg; replace HB := bsw hb; have NB340_341 := nl BK340 hg; have NB341_340 := ng BK340 hg; replace BK340 := bb BK340 hb; clear hb hbox hg))
 replace BK340 := Aside0.mk (blk_drew BK340.out)
 replace BK341 := Aside0.mk (blk_drew BK341.out)
 replace HB := Aside0.mk (below_drew1 HB.out)
 refine start_ (n := 10) (S := fun w' => w'.cell? ⟨gb340, 0, none⟩ = some (.int .i64 a0_0) ∧ w'.cell? ⟨gb340, 1, none⟩ = some (.slice A0_1 l0_1.length c0_1) ∧ w'.cell? ⟨gb340, 2, none⟩ = some (.slice A0_2 l0_2.length c0_2)) (ds := []) #[false, false, false, false, false, false, false, false, false, false] (by kernel_rfl) rfl rfl ⟨bc0 BK340, bc1 BK340, bc2 BK340⟩ (fun hHeld => ?_); refine with_tabW impl_cloneTable.tab1 impl_cloneTable.bits1 (fun HT_ HW_ => ?_)
 generalize w5.drew = w6 at BK340 BK341 HB hHeld ⊢
 refine put 0 3 #[true, false, false, false, false, false, false, false, false, false] HT_ ?_
 refine put 2 5 #[true, false, true, false, false, false, false, false, false, false] HT_ ?_
 refine put 5 8 #[true, false, true, false, false, true, false, false, false, false] HT_ ?_
 refine tat3 1 4 #[true, true, true, false, false, true, false, false, false, false] HT_ HW_ hHeld ?_
 refine tat3 3 6 #[true, true, true, true, false, true, false, false, false, false] HT_ HW_ hHeld ?_
 refine tat3 6 9 #[true, true, true, true, false, true, true, false, false, false] HT_ HW_ hHeld ?_
 refine one_ (i := 4) (N := some 7) #[true, true, true, true, true, true, true, false, false, false] rfl rfl (one_of HT_.out (by kernel_rfl)) (by decide) (fun K hK => ?_)
 refine goes_ Try.func146 (by kernel_rfl) rfl #[.slice A0_1 l0_1.length c0_1] (by rfl) rfl rfl sl ?_
 with_reducible refine (slices_Clone_int_int.calls _ _ l0_1 t342 _ ?side1 ?side2 A2.out).mono ?_
 (case side1 => exact cb HR0_1)
 (case side2 => exact HC0_1.out)
 rintro e w7 ⟨v343, rfl, ho0, hb⟩
 refine ⟨_, rfl, ?_⟩
 have HO344 := Aside0.mk (Kd.R_lower ho0 (below_size (sbw)))
 replace BK340 := bb BK340 hb
 replace BK341 := bb BK341 hb
 replace HB := bsw hb
 (try clear hb)
 (try clear hb2)
 (try clear hk)
 (try clear hi)
 (try clear ho0)
 refine hK.out _ _ ⟨bc0 BK340, bc1 BK340, bc2 BK340⟩ (fun hHeld => ?_)
 clear hK K
 refine norm_ (a' := ?_) ?_ ?_
 rotate_left
 ·show Act.put _ (some 7) _ = _
  simp only [Act.put, List.setIfInBounds_toArray, List.set_cons_zero, List.set_cons_succ, i64_w, i32_w]
  rfl
 refine one_ (i := 7) (N := some 10) #[true, true, true, true, true, true, true, true, false, false] rfl rfl (one_of HT_.out (by kernel_rfl)) (by decide) (fun K hK => ?_)
 refine goes_ Try.func146 (by kernel_rfl) rfl #[.slice A0_2 l0_2.length c0_2] (by rfl) rfl rfl sl ?_
 with_reducible refine (slices_Clone_int_int.calls _ _ l0_2 t345 _ ?side1 ?side2 A3.out).mono ?_
 (case side1 => exact cb HR0_2)
 (case side2 => exact HC0_2.out)
 rintro e w8 ⟨v346, rfl, ho0, hb⟩
 refine ⟨_, rfl, ?_⟩
 have HO347 := Aside0.mk (Kd.R_lower (Kd.R_new' ho0 (Kd.R_lt (sr HO344))) (below_size (sbw)))
 replace HO344 := Aside0.mk (Kd.R_elder' (sr HO344) (Kd.R_base ho0) hb)
 replace BK340 := bb BK340 hb
 replace BK341 := bb BK341 hb
 replace HB := bsw hb
 (try clear hb)
 (try clear hb2)
 (try clear hk)
 (try clear hi)
 (try clear ho0)
 obtain ⟨Ao9, co9, eo9⟩ := Kd.R_slice HO347.out
 (first | subst eo9 | (injection eo9 with f1_ f2_ f3_; have f4_ := f1_.symm; have f5_ := f3_.symm; clear f1_ f2_ f3_; subst f4_; subst f5_))
 obtain ⟨Ao10, co10, eo10⟩ := Kd.R_slice HO344.out
 (first | subst eo10 | (injection eo10 with f1_ f2_ f3_; have f4_ := f1_.symm; have f5_ := f3_.symm; clear f1_ f2_ f3_; subst f4_; subst f5_))
 refine hK.out _ _ ⟨bc0 BK340, bc1 BK340, bc2 BK340⟩ (fun hHeld => ?_)
 clear hK K
 refine norm_ (a' := ?_) ?_ ?_
 rotate_left
 ·show Act.put _ (some 10) _ = _
  simp only [Act.put, List.setIfInBounds_toArray, List.set_cons_zero, List.set_cons_succ, i64_w, i32_w]
  rfl
 refine put 8 11 #[true, true, true, true, true, true, true, true, true, false] HT_ ?_
 refine one_ (i := 9) (N := none) #[true, true, true, true, true, true, true, true, true, true] rfl rfl (one_of HT_.out (by kernel_rfl)) (by decide) (fun K hK => ?_)
 obtain ⟨hs11, hfs11⟩ := cc1 BK341
 have hns11_0 := NB340_341.out
 have hms11_0 := NB341_340.out
 have hs12 := bc1 BK341
 have hfs12 := bf BK341 1
 have hns12_0 := NB340_341.out
 have hms12_0 := NB341_340.out
 have hs13 := bc2 BK341
 have hfs13 := bf BK341 2
 have hns13_0 := NB340_341.out
 have hms13_0 := NB341_340.out
 refine skip_ (w1 := ?_) (by rfl) rfl ?_ ?_
 rotate_left
 ·go_simp
  rfl
 refine hK.out _ _ ⟨((cell_far (p := ⟨gb341, _, none⟩) NB340_341.out _).trans (((cell_far (p := ⟨gb341, _, none⟩) NB340_341.out _).trans (((cell_far (p := ⟨gb341, _, none⟩) NB340_341.out _).trans (hHeld.1)))))), ((cell_far (p := ⟨gb341, _, none⟩) NB340_341.out _).trans (((cell_far (p := ⟨gb341, _, none⟩) NB340_341.out _).trans (((cell_far (p := ⟨gb341, _, none⟩) NB340_341.out _).trans (hHeld.2.1)))))), ((cell_far (p := ⟨gb341, _, none⟩) NB340_341.out _).trans (((cell_far (p := ⟨gb341, _, none⟩) NB340_341.out _).trans (((cell_far (p := ⟨gb341, _, none⟩) NB340_341.out _).trans (hHeld.2.2))))))⟩ (fun hHeld => ?_)
 clear hK K
 refine done_ (done_of HT_.out (by kernel_rfl)) ?_
 try go_wp2
 refine bodyPost_ret (results_cell_row rfl _ _ gb341 65 #[.int .i64 a0_0, .slice Ao10 t342.length co10, .slice Ao9 t345.length co9] (0, 0) _ rfl (sp BK341) Try.underlying65 rfl (by kernel_rfl)) rfl ?_
 exact ⟨_, _, se, by (with_reducible repeat (first | apply Kd.R_alloc | apply Kd.R_drewN | apply Kd.R_drew)); exact Kd.R_mono (Kd.R_far (p := ⟨gb341, 2, none⟩) (Kd.R_far (p := ⟨gb341, 1, none⟩) (Kd.R_far (p := ⟨gb341, 0, none⟩) (Kd.R_types HO344.out BK341.out (by decide)) (fun _ hk => hk.2) (.int .i64 a0_0)) (fun _ hk => hk.2) (.slice Ao10 t342.length co10)) (fun _ hk => hk.2) (.slice Ao9 t345.length co9)) (fun _ hk => hk.1.2), by (with_reducible repeat (first | apply Kd.R_alloc | apply Kd.R_drewN | apply Kd.R_drew)); exact Kd.R_mono (Kd.R_far (p := ⟨gb341, 2, none⟩) (Kd.R_far (p := ⟨gb341, 1, none⟩) (Kd.R_far (p := ⟨gb341, 0, none⟩) (Kd.R_types HO347.out BK341.out (by decide)) (fun _ hk => hk.2) (.int .i64 a0_0)) (fun _ hk => hk.2) (.slice Ao10 t342.length co10)) (fun _ hk => hk.2) (.slice Ao9 t345.length co9)) (fun _ hk => hk.1.2), sbw⟩

/-! ### impl_TableIn: function 51 -/
def impl_TableIn.f (a0_0 : Int) (a0_1 : Int) (a0_2 : Int) (l0_3 : List (S106)) (a1 : Int) (a2 : Int) : Option (Int × List Int × List Int × Bool) := (impl_isIndex.f a1 (l0_3.length : Int)).bind fun t350 => (if t350 = true then (if 0 ≤ a1 then (if a1 < (l0_3.length : Int) then ((impl_isIndex.f a2 (((rd_T106 l0_3 a1).f2).length : Int)).bind fun t352 => (if t352 = true then (if 0 ≤ a2 then (if a2 < (((rd_T106 l0_3 a1).f2).length : Int) then ((impl_cloneTable.f ((rd_T65 ((rd_T106 l0_3 a1).f2) a2).f0) ((rd_T65 ((rd_T106 l0_3 a1).f2) a2).f1) ((rd_T65 ((rd_T106 l0_3 a1).f2) a2).f2)).bind fun bt355 => (some (bt355.1, bt355.2.1, bt355.2.2, true))) else (none)) else (none)) else (some (0, ([] : List Int), ([] : List Int), false)))) else (none)) else (none)) else (some (0, ([] : List Int), ([] : List Int), false)))
set_option maxHeartbeats 8000000 in
set_option maxRecDepth 100000 in
theorem impl_TableIn.calls (a0_0 : Int) (a0_1 : Int) (a0_2 : Int) (A0_3 : Option Addr) (c0_3 : Nat) (l0_3 : List (S106)) (a1 : Int) (a2 : Int) (r1 : Int) (r2 : List Int) (r3 : List Int) (r4 : Bool) (w : World) (hr0_3 : Kd.C k106 w A0_3 l0_3.length l0_3) (hc0_3 : l0_3.length ≤ c0_3) (h : impl_TableIn.f a0_0 a0_1 a0_2 l0_3 a1 a2 = some (r1, r2, r3, r4)) :
    Calls Try.prog 51 #[.agg #[.int .i64 a0_0, .int .i64 a0_1, .int .i64 a0_2, .slice A0_3 l0_3.length c0_3], .int .i64 a1, .int .i64 a2] w fun e w' => ∃ v1_ v2_ : Value, e = .returned (.tuple #[.agg #[.int .i64 r1, v1_, v2_], .bool r4]) ∧ Kd.R (Kd.int .i64) 3 w' w.heap.size (fun k_ => some k_ ≠ (v2_ : Value).ownBlock) v1_ r2 ∧ Kd.R (Kd.int .i64) 3 w' w.heap.size (fun k_ => some k_ ≠ (v1_ : Value).ownBlock) v2_ r3 ∧ Below w.heap.size w w' := by
 have hu29 := Try.underlying29
 have hu65 := Try.underlying65
 have HR0_3 := Aside0.mk hr0_3
 have HC0_3 := Aside0.mk hc0_3
 clear hr0_3 hc0_3
 have HB := Aside0.mk (Below.refl w.heap.size w)
 have H : ((impl_isIndex.f a1 (l0_3.length : Int)).bind fun t350 => (if t350 = true then (if 0 ≤ a1 then (if a1 < (l0_3.length : Int) then ((impl_isIndex.f a2 (((rd_T106 l0_3 a1).f2).length : Int)).bind fun t352 => (if t352 = true then (if 0 ≤ a2 then (if a2 < (((rd_T106 l0_3 a1).f2).length : Int) then ((impl_cloneTable.f ((rd_T65 ((rd_T106 l0_3 a1).f2) a2).f0) ((rd_T65 ((rd_T106 l0_3 a1).f2) a2).f1) ((rd_T65 ((rd_T106 l0_3 a1).f2) a2).f2)).bind fun bt355 => (some (bt355.1, bt355.2.1, bt355.2.2, true))) else (none)) else (none)) else (some (0, ([] : List Int), ([] : List Int), false)))) else (none)) else (none)) else (some (0, ([] : List Int), ([] : List Int), false)))) = some (r1, r2, r3, r4) := h
 clear h
 obtain ⟨t350, A4, H⟩ := bnd H
 obtain rfl | rfl := tt t350
 ·replace H := ip H
  obtain ⟨c6b0, H⟩ := id_ H
  obtain ⟨c7b0, H⟩ := id_ H
  obtain ⟨t352, A8, H⟩ := bnd H
  obtain rfl | rfl := tt t352
  ·replace H := ip H
   obtain ⟨c10b0, H⟩ := id_ H
   obtain ⟨c11b0, H⟩ := id_ H
   obtain ⟨⟨t355, t356, t359⟩, A12, H⟩ := bnd H
   replace H : (some (t355, t356, t359, true)) = some (r1, r2, r3, r4) := H
   simp only [Option.some.injEq, Prod.mk.injEq] at H
   obtain ⟨rfl, rfl, rfl, rfl⟩ := H
   go_enter Try.func51, Try.ntmps51
   go_wp2_with (first | ((with_reducible refine gate_dst (N := 3) rfl ?_); (try (refine gate_guard (by rfl) ?_; dsimp only)); refine bx 3 #[.int .i64 a0_0, .int .i64 a0_1, .int .i64 a0_2, .slice A0_3 l0_3.length c0_3] 29 ?_; intro gb348 hg w13 hbox hb; have BK348 := Aside0.mk hbox; have GW348 := bz w hg; have GE348 := bz w hg; replace HB := bs hb; clear hb hbox hg) | ((with_reducible refine gate_dst (N := 6) rfl ?_); (try (refine gate_guard (by rfl) ?_; dsimp only)); refine bx 6 #[.int .i64 0, .slice none 0 0, .slice none 0 0] 65 ?_; intro gb349 hg w14 hbox hb; have BK349 := Aside0.mk hbox; have GW349 := bzw w hg; have GE349 := bzw w hg; replace HB := bsw hb; have NB348_349 := nl BK348 hg; have NB349_348 := ng BK348 hg; replace BK348 := bb BK348 hb; clear hb hbox hg; have hnb15 := NB348_349.out; have hnc15 := NB349_348.out; obtain ⟨hcz16_0, hcz16_1, hcz16_2, hcz16_3, hfz16_0, hfz16_1, hfz16_2, hfz16_3⟩ := cc4 BK348) | ((with_reducible refine gate_callee (f := 98) rfl ?_); refine gL (some 12) Try.func98 #[.int .i64 a1, .int .i64 (l0_3.length : Int)] ?_; (with_reducible refine (impl_isIndex.calls a1 (l0_3.length : Int) true _ A4.out).mono ?_); rintro e w' ⟨rfl, ⟨nd, rfl⟩⟩; refine ⟨_, rfl, ?_⟩; obtain ⟨p351, q351, ad351, A351_2, c351_2, A351_3, c351_3, e351, _, _, _, _, hx351_0, hx351_1, hx351_2, hx351_3, HC351_2, HR351_2, HC351_3, HR351_3⟩ := aT_T106 HR0_3 HB a1; cases e351) | (go_at_call 98; (with_reducible refine (impl_isIndex.calls a2 (((rd_T106 l0_3 a1).f2).length : Int) true _ A8.out).mono ?_); rintro e w' ⟨rfl, ⟨nd, rfl⟩⟩; obtain ⟨p353, q353, ad353, A353_2, c353_2, A353_3, c353_3, e353, _, _, _, _, hx353_0, hx353_1, hx353_2, hx353_3, HC353_2, HR353_2, HC353_3, HR353_3⟩ := aT_T106 HR0_3 HB a1; obtain rfl : ad351 = ad353 := (by injection e353); have ea_ := Option.some.inj (hx351_2.symm.trans hx353_2); injection ea_ with ea_ en_ ec_; subst ea_; subst ec_; clear en_; have ea_ := Option.some.inj (hx351_3.symm.trans hx353_3); injection ea_ with ea_ en_ ec_; subst ea_; subst ec_; clear en_; obtain ⟨p354, q354, ad354, A354_1, c354_1, A354_2, c354_2, e354, _, _, _, hx354_0, hx354_1, hx354_2, HC354_1, HR354_1, HC354_2, HR354_2⟩ := aT_T65 HR353_3 HB a2; cases e354) | ((with_reducible refine gate_callee (f := 99) rfl ?_); refine gL (some 36) Try.func99 #[.agg #[.int .i64 ((rd_T65 ((rd_T106 l0_3 a1).f2) a2).f0), .slice A354_1 ((rd_T65 ((rd_T106 l0_3 a1).f2) a2).f1).length c354_1, .slice A354_2 ((rd_T65 ((rd_T106 l0_3 a1).f2) a2).f2).length c354_2]] ?_; (with_reducible refine (impl_cloneTable.calls ((rd_T65 ((rd_T106 l0_3 a1).f2) a2).f0) _ _ ((rd_T65 ((rd_T106 l0_3 a1).f2) a2).f1) _ _ ((rd_T65 ((rd_T106 l0_3 a1).f2) a2).f2) t355 t356 t359 _ ?side1 ?side2 ?side3 ?side4 A12.out).mono ?_); (case side1 => exact cb HR354_1); (case side2 => exact HC354_1.out); (case side3 => exact cb HR354_2); (case side4 => exact HC354_2.out); rintro e w17 ⟨v357, v360, rfl, ho0, ho1, hb⟩; refine ⟨_, rfl, ?_⟩; have HO358 := Aside0.mk (Kd.R_lower ho0 (below_size (sbw))); have HO361 := Aside0.mk (Kd.R_lower ho1 (below_size (sbw))); replace BK348 := bb BK348 hb; replace BK349 := bb BK349 hb; replace HB := bsw hb; (try clear hb); (try clear hb2); (try clear hk); (try clear hi); (try clear ho0); (try clear ho1); obtain ⟨hcz18_0, hcz18_1, hcz18_2, hfz18_0, hfz18_1, hfz18_2⟩ := cc3 BK349; obtain ⟨Ao19, co19, eo19⟩ := Kd.R_slice HO358.out; subst eo19; obtain ⟨Ao20, co20, eo20⟩ := Kd.R_slice HO361.out; subst eo20))
   refine bodyPost_ret (results_ct rfl _ _ gb349 65 #[.int .i64 t355, .slice Ao19 t356.length co19, .slice Ao20 t359.length co20] (0, 0) _ rfl (sp BK349) Try.underlying65 rfl (by kernel_rfl)) rfl ?_
   exact ⟨_, _, se, by (with_reducible repeat (first | apply Kd.R_alloc | apply Kd.R_drewN | apply Kd.R_drew)); exact Kd.R_mono (Kd.R_far (p := ⟨gb349, 2, none⟩) (Kd.R_far (p := ⟨gb349, 1, none⟩) (Kd.R_far (p := ⟨gb349, 0, none⟩) (Kd.R_types HO358.out BK349.out (by decide)) (fun _ hk => hk.2) (.int .i64 t355)) (fun _ hk => hk.2) (.slice Ao19 t356.length co19)) (fun _ hk => hk.2) (.slice Ao20 t359.length co20)) (fun _ hk => hk.1), by (with_reducible repeat (first | apply Kd.R_alloc | apply Kd.R_drewN | apply Kd.R_drew)); exact Kd.R_mono (Kd.R_far (p := ⟨gb349, 2, none⟩) (Kd.R_far (p := ⟨gb349, 1, none⟩) (Kd.R_far (p := ⟨gb349, 0, none⟩) (Kd.R_types HO361.out BK349.out (by decide)) (fun _ hk => hk.2) (.int .i64 t355)) (fun _ hk => hk.2) (.slice Ao19 t356.length co19)) (fun _ hk => hk.2) (.slice Ao20 t359.length co20)) (fun _ hk => hk.1), sbw⟩
  ·replace H := im H
   simp only [Option.some.injEq, Prod.mk.injEq] at H
   obtain ⟨rfl, rfl, rfl, rfl⟩ := H
   go_enter Try.func51, Try.ntmps51
   go_wp2_with (first | ((with_reducible refine gate_dst (N := 3) rfl ?_); (try (refine gate_guard (by rfl) ?_; dsimp only)); refine bx 3 #[.int .i64 a0_0, .int .i64 a0_1, .int .i64 a0_2, .slice A0_3 l0_3.length c0_3] 29 ?_; intro gb348 hg w21 hbox hb; have BK348 := Aside0.mk hbox; have GW348 := bz w hg; have GE348 := bz w hg; replace HB := bs hb; clear hb hbox hg) | ((with_reducible refine gate_dst (N := 6) rfl ?_); (try (refine gate_guard (by rfl) ?_; dsimp only)); refine bx 6 #[.int .i64 0, .slice none 0 0, .slice none 0 0] 65 ?_; intro gb349 hg w22 hbox hb; have BK349 := Aside0.mk hbox; have GW349 := bzw w hg; have GE349 := bzw w hg; replace HB := bsw hb; have NB348_349 := nl BK348 hg; have NB349_348 := ng BK348 hg; replace BK348 := bb BK348 hb; clear hb hbox hg; have hnb23 := NB348_349.out; have hnc23 := NB349_348.out; obtain ⟨hcz24_0, hcz24_1, hcz24_2, hcz24_3, hfz24_0, hfz24_1, hfz24_2, hfz24_3⟩ := cc4 BK348) | ((with_reducible refine gate_callee (f := 98) rfl ?_); refine gL (some 12) Try.func98 #[.int .i64 a1, .int .i64 (l0_3.length : Int)] ?_; (with_reducible refine (impl_isIndex.calls a1 (l0_3.length : Int) true _ A4.out).mono ?_); rintro e w' ⟨rfl, ⟨nd, rfl⟩⟩; refine ⟨_, rfl, ?_⟩; obtain ⟨p351, q351, ad351, A351_2, c351_2, A351_3, c351_3, e351, _, _, _, _, hx351_0, hx351_1, hx351_2, hx351_3, HC351_2, HR351_2, HC351_3, HR351_3⟩ := aT_T106 HR0_3 HB a1; cases e351) | (go_at_call 98; (with_reducible refine (impl_isIndex.calls a2 (((rd_T106 l0_3 a1).f2).length : Int) false _ A8.out).mono ?_); rintro e w' ⟨rfl, ⟨nd, rfl⟩⟩; obtain ⟨hcz25_0, hcz25_1, hcz25_2, hfz25_0, hfz25_1, hfz25_2⟩ := cc3 BK349))
   refine bodyPost_ret (results_ct rfl _ _ gb349 65 #[.int .i64 0, .slice none 0 0, .slice none 0 0] (0, 0) _ rfl (sp BK349) Try.underlying65 rfl (by kernel_rfl)) rfl ?_
   exact ⟨_, _, se, sn, sn, sbw⟩
 ·replace H := im H
  simp only [Option.some.injEq, Prod.mk.injEq] at H
  obtain ⟨rfl, rfl, rfl, rfl⟩ := H
  go_enter Try.func51, Try.ntmps51
  go_wp2_with (first | ((with_reducible refine gate_dst (N := 3) rfl ?_); (try (refine gate_guard (by rfl) ?_; dsimp only)); refine bx 3 #[.int .i64 a0_0, .int .i64 a0_1, .int .i64 a0_2, .slice A0_3 l0_3.length c0_3] 29 ?_; intro gb348 hg w26 hbox hb; have BK348 := Aside0.mk hbox; have GW348 := bz w hg; have GE348 := bz w hg; replace HB := bs hb; clear hb hbox hg) | ((with_reducible refine gate_dst (N := 6) rfl ?_); (try (refine gate_guard (by rfl) ?_; dsimp only)); refine bx 6 #[.int .i64 0, .slice none 0 0, .slice none 0 0] 65 ?_; intro gb349 hg w27 hbox hb; have BK349 := Aside0.mk hbox; have GW349 := bzw w hg; have GE349 := bzw w hg; replace HB := bsw hb; have NB348_349 := nl BK348 hg; have NB349_348 := ng BK348 hg; replace BK348 := bb BK348 hb; clear hb hbox hg; have hnb28 := NB348_349.out; have hnc28 := NB349_348.out; obtain ⟨hcz29_0, hcz29_1, hcz29_2, hcz29_3, hfz29_0, hfz29_1, hfz29_2, hfz29_3⟩ := cc4 BK348) | ((with_reducible refine gate_callee (f := 98) rfl ?_); refine gL (some 12) Try.func98 #[.int .i64 a1, .int .i64 (l0_3.length : Int)] ?_; (with_reducible refine (impl_isIndex.calls a1 (l0_3.length : Int) false _ A4.out).mono ?_); rintro e w' ⟨rfl, ⟨nd, rfl⟩⟩; refine ⟨_, rfl, ?_⟩; obtain ⟨hcz30_0, hcz30_1, hcz30_2, hfz30_0, hfz30_1, hfz30_2⟩ := cc3 BK349))
  refine bodyPost_ret (results_ct rfl _ _ gb349 65 #[.int .i64 0, .slice none 0 0, .slice none 0 0] (0, 0) _ rfl (sp BK349) Try.underlying65 rfl (by kernel_rfl)) rfl ?_
  exact ⟨_, _, se, sn, sn, sbw⟩

/-! ### impl_nextIn: function 67 -/
def impl_nextIn.f (a0_0 : Int) (a0_1 : Int) (a0_2 : Int) (l0_3 : List (S106)) (a1 : Int) (a2 : Int) (a3 : Int) : Option (Int × Bool) := (impl_TableIn.f a0_0 a0_1 a0_2 l0_3 a1 a2).bind fun bt363 => (if bt363.2.2.2 = true then ((impl_isIndex.f a3 (bt363.2.2.1.length : Int)).bind fun t372 => (if t372 = true then (if 0 ≤ a3 then (if a3 < (bt363.2.2.1.length : Int) then (some (rd bt363.2.2.1 a3, true)) else (none)) else (none)) else (some ((-1), false)))) else (some ((-1), false)))
set_option maxHeartbeats 8000000 in
set_option maxRecDepth 100000 in
theorem impl_nextIn.calls (a0_0 : Int) (a0_1 : Int) (a0_2 : Int) (A0_3 : Option Addr) (c0_3 : Nat) (l0_3 : List (S106)) (a1 : Int) (a2 : Int) (a3 : Int) (r1 : Int) (r2 : Bool) (w : World) (hr0_3 : Kd.C k106 w A0_3 l0_3.length l0_3) (hc0_3 : l0_3.length ≤ c0_3) (h : impl_nextIn.f a0_0 a0_1 a0_2 l0_3 a1 a2 a3 = some (r1, r2)) :
    Calls Try.prog 67 #[.agg #[.int .i64 a0_0, .int .i64 a0_1, .int .i64 a0_2, .slice A0_3 l0_3.length c0_3], .int .i64 a1, .int .i64 a2, .int .i64 a3] w fun e w' => e = .returned (.tuple #[.int .i64 r1, .bool r2]) ∧ Below w.heap.size w w' := by
 have hu29 := Try.underlying29
 have hu65 := Try.underlying65
 have HR0_3 := Aside0.mk hr0_3
 have HC0_3 := Aside0.mk hc0_3
 clear hr0_3 hc0_3
 have HB := Aside0.mk (Below.refl w.heap.size w)
 have H : ((impl_TableIn.f a0_0 a0_1 a0_2 l0_3 a1 a2).bind fun bt363 => (if bt363.2.2.2 = true then ((impl_isIndex.f a3 (bt363.2.2.1.length : Int)).bind fun t372 => (if t372 = true then (if 0 ≤ a3 then (if a3 < (bt363.2.2.1.length : Int) then (some (rd bt363.2.2.1 a3, true)) else (none)) else (none)) else (some ((-1), false)))) else (some ((-1), false)))) = some (r1, r2) := h
 clear h
 obtain ⟨⟨t363, t364, t367, t370⟩, A5, H⟩ := bnd H
 replace H : (if t370 = true then ((impl_isIndex.f a3 (t367.length : Int)).bind fun t372 => (if t372 = true then (if 0 ≤ a3 then (if a3 < (t367.length : Int) then (some (rd t367 a3, true)) else (none)) else (none)) else (some ((-1), false)))) else (some ((-1), false))) = some (r1, r2) := H
 obtain rfl | rfl := tt t370
 ·replace H := ip H
  obtain ⟨t372, A7, H⟩ := bnd H
  obtain rfl | rfl := tt t372
  ·replace H := ip H
   obtain ⟨c9b0, H⟩ := id_ H
   obtain ⟨c10b0, H⟩ := id_ H
   simp only [Option.some.injEq, Prod.mk.injEq] at H
   obtain ⟨rfl, rfl⟩ := H
   go_enter Try.func67, Try.ntmps67
   go_wp2_with (first | ((with_reducible refine gate_dst (N := 4) rfl ?_); (try (refine gate_guard (by rfl) ?_; dsimp only)); refine bx 4 #[.int .i64 a0_0, .int .i64 a0_1, .int .i64 a0_2, .slice A0_3 l0_3.length c0_3] 29 ?_; intro gb362 hg w11 hbox hb; have BK362 := Aside0.mk hbox; have GW362 := bz w hg; have GE362 := bz w hg; replace HB := bs hb; clear hb hbox hg; obtain ⟨hcz12_0, hcz12_1, hcz12_2, hcz12_3, hfz12_0, hfz12_1, hfz12_2, hfz12_3⟩ := cc4 BK362) | ((with_reducible refine gate_callee (f := 51) rfl ?_); refine gL (some 16) Try.func51 #[.agg #[.int .i64 a0_0, .int .i64 a0_1, .int .i64 a0_2, .slice A0_3 l0_3.length c0_3], .int .i64 a1, .int .i64 a2] ?_; (with_reducible refine (impl_TableIn.calls a0_0 a0_1 a0_2 _ _ l0_3 a1 a2 t363 t364 t367 true _ ?side1 ?side2 A5.out).mono ?_); (case side1 => exact cb HR0_3); (case side2 => exact HC0_3.out); rintro e w13 ⟨v365, v368, rfl, ho0, ho1, hb⟩; refine ⟨_, rfl, ?_⟩; have HO366 := Aside0.mk (Kd.R_lower ho0 (below_size (sbw))); have HO369 := Aside0.mk (Kd.R_lower ho1 (below_size (sbw))); replace BK362 := bb BK362 hb; replace HB := bsw hb; (try clear hb); (try clear hb2); (try clear hk); (try clear hi); (try clear ho0); (try clear ho1)) | ((with_reducible refine gate_dst (N := 10) rfl ?_); (try (refine gate_guard (by rfl) ?_; dsimp only)); refine bx 10 #[.int .i64 0, .slice none 0 0, .slice none 0 0] 65 ?_; intro gb371 hg w14 hbox hb; replace HO366 := Aside0.mk (Kd.R_below (sr HO366) hb); replace HO369 := Aside0.mk (Kd.R_below (sr HO369) hb); have BK371 := Aside0.mk hbox; have GW371 := bzw w hg; have GE371 := bzw w hg; replace HB := bsw hb; have NB362_371 := nl BK362 hg; have NB371_362 := ng BK362 hg; replace BK362 := bb BK362 hb; clear hb hbox hg; have hnb15 := NB371_362.out; have hnc15 := NB362_371.out; obtain ⟨hcz16_0, hcz16_1, hcz16_2, hfz16_0, hfz16_1, hfz16_2⟩ := cc3 BK371; obtain ⟨Ao17, co17, eo17⟩ := Kd.R_slice HO366.out; subst eo17; obtain ⟨Ao18, co18, eo18⟩ := Kd.R_slice HO369.out; subst eo18) | (go_at_call 98; (with_reducible refine (impl_isIndex.calls a3 (t367.length : Int) true _ A7.out).mono ?_); rintro e w' ⟨rfl, ⟨nd, rfl⟩⟩; have p373 : 0 ≤ (a3 : Int) := sa; have q373 : a3 < (t367.length : Int) := sa; obtain ⟨ad373, e373, hx373_0⟩ := Kd.at_int (Kd.R_reads' HO369.out).2.2 a3 p373 q373; cases e373; have hn373_0 : ad373.block ≠ gb371 := Kd.own_blk (Kd.R_ne HO369.out BK371.out (by decide)); have hn373_1 : ad373.block ≠ gb371 := Kd.own_blk (Kd.R_ne HO369.out BK371.out (by decide)); have hn373_2 : ad373.block ≠ gb371 := Kd.own_blk (Kd.R_ne HO369.out BK371.out (by decide)); replace hx373_0 := (cell_far (p := ⟨gb371, 0, none⟩) (by first | (rw [add_block]; exact hn373_0) | (show (Addr.add _ _).block ≠ _; rw [add_block]; exact hn373_0) | exact hn373_0) (.int .i64 t363)).trans hx373_0; replace hx373_0 := (cell_far (p := ⟨gb371, 1, none⟩) (by first | (rw [add_block]; exact hn373_1) | (show (Addr.add _ _).block ≠ _; rw [add_block]; exact hn373_1) | exact hn373_1) (.slice Ao17 t364.length co17)).trans hx373_0; replace hx373_0 := (cell_far (p := ⟨gb371, 2, none⟩) (by first | (rw [add_block]; exact hn373_2) | (show (Addr.add _ _).block ≠ _; rw [add_block]; exact hn373_2) | exact hn373_2) (.slice (some ad373) t367.length co18)).trans hx373_0; clear hn373_0; clear hn373_1; clear hn373_2; replace p373 := eq_true p373; replace q373 := eq_true q373))
   go_ret2
   exact ⟨se, sbw⟩
  ·replace H := im H
   simp only [Option.some.injEq, Prod.mk.injEq] at H
   obtain ⟨rfl, rfl⟩ := H
   go_enter Try.func67, Try.ntmps67
   go_wp2_with (first | ((with_reducible refine gate_dst (N := 4) rfl ?_); (try (refine gate_guard (by rfl) ?_; dsimp only)); refine bx 4 #[.int .i64 a0_0, .int .i64 a0_1, .int .i64 a0_2, .slice A0_3 l0_3.length c0_3] 29 ?_; intro gb362 hg w19 hbox hb; have BK362 := Aside0.mk hbox; have GW362 := bz w hg; have GE362 := bz w hg; replace HB := bs hb; clear hb hbox hg; obtain ⟨hcz20_0, hcz20_1, hcz20_2, hcz20_3, hfz20_0, hfz20_1, hfz20_2, hfz20_3⟩ := cc4 BK362) | ((with_reducible refine gate_callee (f := 51) rfl ?_); refine gL (some 16) Try.func51 #[.agg #[.int .i64 a0_0, .int .i64 a0_1, .int .i64 a0_2, .slice A0_3 l0_3.length c0_3], .int .i64 a1, .int .i64 a2] ?_; (with_reducible refine (impl_TableIn.calls a0_0 a0_1 a0_2 _ _ l0_3 a1 a2 t363 t364 t367 true _ ?side1 ?side2 A5.out).mono ?_); (case side1 => exact cb HR0_3); (case side2 => exact HC0_3.out); rintro e w21 ⟨v365, v368, rfl, ho0, ho1, hb⟩; refine ⟨_, rfl, ?_⟩; have HO366 := Aside0.mk (Kd.R_lower ho0 (below_size (sbw))); have HO369 := Aside0.mk (Kd.R_lower ho1 (below_size (sbw))); replace BK362 := bb BK362 hb; replace HB := bsw hb; (try clear hb); (try clear hb2); (try clear hk); (try clear hi); (try clear ho0); (try clear ho1)) | ((with_reducible refine gate_dst (N := 10) rfl ?_); (try (refine gate_guard (by rfl) ?_; dsimp only)); refine bx 10 #[.int .i64 0, .slice none 0 0, .slice none 0 0] 65 ?_; intro gb371 hg w22 hbox hb; replace HO366 := Aside0.mk (Kd.R_below (sr HO366) hb); replace HO369 := Aside0.mk (Kd.R_below (sr HO369) hb); have BK371 := Aside0.mk hbox; have GW371 := bzw w hg; have GE371 := bzw w hg; replace HB := bsw hb; have NB362_371 := nl BK362 hg; have NB371_362 := ng BK362 hg; replace BK362 := bb BK362 hb; clear hb hbox hg; have hnb23 := NB371_362.out; have hnc23 := NB362_371.out; obtain ⟨hcz24_0, hcz24_1, hcz24_2, hfz24_0, hfz24_1, hfz24_2⟩ := cc3 BK371; obtain ⟨Ao25, co25, eo25⟩ := Kd.R_slice HO366.out; subst eo25; obtain ⟨Ao26, co26, eo26⟩ := Kd.R_slice HO369.out; subst eo26) | (go_at_call 98; (with_reducible refine (impl_isIndex.calls a3 (t367.length : Int) false _ A7.out).mono ?_); rintro e w' ⟨rfl, ⟨nd, rfl⟩⟩))
   go_ret2
   exact ⟨se, sbw⟩
 ·replace H := im H
  simp only [Option.some.injEq, Prod.mk.injEq] at H
  obtain ⟨rfl, rfl⟩ := H
  go_enter Try.func67, Try.ntmps67
  go_wp2_with (first | ((with_reducible refine gate_dst (N := 4) rfl ?_); (try (refine gate_guard (by rfl) ?_; dsimp only)); refine bx 4 #[.int .i64 a0_0, .int .i64 a0_1, .int .i64 a0_2, .slice A0_3 l0_3.length c0_3] 29 ?_; intro gb362 hg w27 hbox hb; have BK362 := Aside0.mk hbox; have GW362 := bz w hg; have GE362 := bz w hg; replace HB := bs hb; clear hb hbox hg; obtain ⟨hcz28_0, hcz28_1, hcz28_2, hcz28_3, hfz28_0, hfz28_1, hfz28_2, hfz28_3⟩ := cc4 BK362) | ((with_reducible refine gate_callee (f := 51) rfl ?_); refine gL (some 16) Try.func51 #[.agg #[.int .i64 a0_0, .int .i64 a0_1, .int .i64 a0_2, .slice A0_3 l0_3.length c0_3], .int .i64 a1, .int .i64 a2] ?_; (with_reducible refine (impl_TableIn.calls a0_0 a0_1 a0_2 _ _ l0_3 a1 a2 t363 t364 t367 false _ ?side1 ?side2 A5.out).mono ?_); (case side1 => exact cb HR0_3); (case side2 => exact HC0_3.out); rintro e w29 ⟨v365, v368, rfl, ho0, ho1, hb⟩; refine ⟨_, rfl, ?_⟩; have HO366 := Aside0.mk (Kd.R_lower ho0 (below_size (sbw))); have HO369 := Aside0.mk (Kd.R_lower ho1 (below_size (sbw))); replace BK362 := bb BK362 hb; replace HB := bsw hb; (try clear hb); (try clear hb2); (try clear hk); (try clear hi); (try clear ho0); (try clear ho1)) | ((with_reducible refine gate_dst (N := 10) rfl ?_); (try (refine gate_guard (by rfl) ?_; dsimp only)); refine bx 10 #[.int .i64 0, .slice none 0 0, .slice none 0 0] 65 ?_; intro gb371 hg w30 hbox hb; replace HO366 := Aside0.mk (Kd.R_below (sr HO366) hb); replace HO369 := Aside0.mk (Kd.R_below (sr HO369) hb); have BK371 := Aside0.mk hbox; have GW371 := bzw w hg; have GE371 := bzw w hg; replace HB := bsw hb; have NB362_371 := nl BK362 hg; have NB371_362 := ng BK362 hg; replace BK362 := bb BK362 hb; clear hb hbox hg; have hnb31 := NB371_362.out; have hnc31 := NB362_371.out; obtain ⟨hcz32_0, hcz32_1, hcz32_2, hfz32_0, hfz32_1, hfz32_2⟩ := cc3 BK371; obtain ⟨Ao33, co33, eo33⟩ := Kd.R_slice HO366.out; subst eo33; obtain ⟨Ao34, co34, eo34⟩ := Kd.R_slice HO369.out; subst eo34))
  go_ret2
  exact ⟨se, sbw⟩

/-! ### impl_InRange: function 89 -/
def impl_InRange.f (a0 : Int) (a1 : Int) (a2 : Int) : Option (Bool) := if a1 ≤ a0 then (some (decide (a0 ≤ a2))) else (some false)
set_option maxHeartbeats 8000000 in
set_option maxRecDepth 100000 in
theorem impl_InRange.calls (a0 : Int) (a1 : Int) (a2 : Int) (r : Bool) (w : World) (h : impl_InRange.f a0 a1 a2 = some r) :
    Calls Try.prog 89 #[.int .i64 a0, .int .i64 a1, .int .i64 a2] w fun e w' => e = .returned (.bool r) ∧ Drawn0 w w' := by
 have H : (if a1 ≤ a0 then (some (decide (a0 ≤ a2))) else (some false)) = some r := h
 clear h
 obtain ⟨c4, H⟩ | ⟨c4, H⟩ := ie_ H
 ·have c4b0 := decide_eq_true c4
  clear c4
  obtain rfl := Option.some.inj H
  go_enter Try.func89, Try.ntmps89
  go_wp2
  go_ret
  exact ⟨sc, sd⟩
 ·have c4b0 := decide_eq_false c4
  clear c4
  obtain rfl := Option.some.inj H
  go_enter Try.func89, Try.ntmps89
  go_wp2
  go_ret
  exact ⟨sc, sd⟩

/-! ### impl_isSkewed: function 68 -/
def impl_isSkewed.f (a0_0 : Int) (a0_1 : Int) (a0_2 : Int) (l0_3 : List (S106)) (a1 : Int) : Option (Bool) := (impl_InRange.f a0_2 0 5).bind fun t375 => (if t375 = true then ((impl_InRange.f a1 0 1000).bind fun t376 => (some t376)) else (some false))
set_option maxHeartbeats 8000000 in
set_option maxRecDepth 100000 in
theorem impl_isSkewed.calls (a0_0 : Int) (a0_1 : Int) (a0_2 : Int) (A0_3 : Option Addr) (c0_3 : Nat) (l0_3 : List (S106)) (a1 : Int) (r : Bool) (w : World) (hr0_3 : Kd.C k106 w A0_3 l0_3.length l0_3) (hc0_3 : l0_3.length ≤ c0_3) (h : impl_isSkewed.f a0_0 a0_1 a0_2 l0_3 a1 = some r) :
    Calls Try.prog 68 #[.agg #[.int .i64 a0_0, .int .i64 a0_1, .int .i64 a0_2, .slice A0_3 l0_3.length c0_3], .int .i64 a1] w fun e w' => e = .returned (.bool r) ∧ Below w.heap.size w w' := by
 have hu29 := Try.underlying29
 have HR0_3 := Aside0.mk hr0_3
 have HC0_3 := Aside0.mk hc0_3
 clear hr0_3 hc0_3
 have HB := Aside0.mk (Below.refl w.heap.size w)
 have H : ((impl_InRange.f a0_2 0 5).bind fun t375 => (if t375 = true then ((impl_InRange.f a1 0 1000).bind fun t376 => (some t376)) else (some false))) = some r := h
 clear h
 obtain ⟨t375, A3, H⟩ := bnd H
 obtain rfl | rfl := tt t375
 ·replace H := ip H
  obtain ⟨t376, A5, H⟩ := bnd H
  obtain rfl := Option.some.inj H
  go_enter Try.func68, Try.ntmps68
  go_wp2_with (first | ((with_reducible refine gate_dst (N := 2) rfl ?_); refine bx 2 #[.int .i64 a0_0, .int .i64 a0_1, .int .i64 a0_2, .slice A0_3 l0_3.length c0_3] 29 ?_; intro gb374 hg w6 hbox hb; have BK374 := Aside0.mk hbox; have GW374 := bz w hg; have GE374 := bz w hg; replace HB := bs hb; clear hb hbox hg; obtain ⟨hcz7_0, hcz7_1, hcz7_2, hcz7_3, hfz7_0, hfz7_1, hfz7_2, hfz7_3⟩ := cc4 BK374) | ((with_reducible refine gate_callee (f := 89) rfl ?_); refine gL (some 7) Try.func89 #[.int .i64 a0_2, .int .i64 0, .int .i64 5] ?_; (with_reducible refine (impl_InRange.calls a0_2 0 5 true _ A3.out).mono ?_); rintro e w' ⟨rfl, ⟨nd, rfl⟩⟩; refine ⟨_, rfl, ?_⟩) | (go_at_call 89; (with_reducible refine (impl_InRange.calls a1 0 1000 t376 _ A5.out).mono ?_); rintro e w' ⟨rfl, ⟨nd, rfl⟩⟩))
  go_ret
  exact ⟨se, sbw⟩
 ·replace H := im H
  obtain rfl := Option.some.inj H
  go_enter Try.func68, Try.ntmps68
  go_wp2_with (first | ((with_reducible refine gate_dst (N := 2) rfl ?_); refine bx 2 #[.int .i64 a0_0, .int .i64 a0_1, .int .i64 a0_2, .slice A0_3 l0_3.length c0_3] 29 ?_; intro gb374 hg w8 hbox hb; have BK374 := Aside0.mk hbox; have GW374 := bz w hg; have GE374 := bz w hg; replace HB := bs hb; clear hb hbox hg; obtain ⟨hcz9_0, hcz9_1, hcz9_2, hcz9_3, hfz9_0, hfz9_1, hfz9_2, hfz9_3⟩ := cc4 BK374) | ((with_reducible refine gate_callee (f := 89) rfl ?_); refine gL (some 7) Try.func89 #[.int .i64 a0_2, .int .i64 0, .int .i64 5] ?_; (with_reducible refine (impl_InRange.calls a0_2 0 5 false _ A3.out).mono ?_); rintro e w' ⟨rfl, ⟨nd, rfl⟩⟩; refine ⟨_, rfl, ?_⟩))
  go_ret
  exact ⟨se, sbw⟩

end Go.Proofs.Ytlakjlolahjphaa.QFnExactHeldAt
