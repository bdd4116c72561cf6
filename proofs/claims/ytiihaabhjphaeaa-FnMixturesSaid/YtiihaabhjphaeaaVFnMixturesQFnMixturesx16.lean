/- What the Go functions of the law FnMixtures come to, as Lean functions, and that they do: by a program of the session, out of the kit's printer. Conditions: none. (squeezed). -/
import Derived.Test.YtiihaabhjphaeaaVFnMixturesSq
import Derived.Test.YtiihaabhjphaeaaVFnMixturesQFnMixturesx0
import Derived.Test.YtiihaabhjphaeaaVFnMixturesQFnMixturesx2
import Derived.Test.YtiihaabhjphaeaaVFnMixturesQFnMixturesx3
import Derived.Test.YtiihaabhjphaeaaVFnMixturesQFnMixturesx15
namespace Go.Proofs.Ytiihaabhjphaeaa.QFnMixtures
open Go.RowKit Go.Proofs.YtiihaabhjphaeaaW.PrintWords Go.Proofs.YtiihaabhjphaeaaW.PrintLast Go.Proofs.YtiihaabhjphaeaaW.PrintMore Go.Proofs.Ytiihaabhjphaeaa.Open Go.Proofs.Ytiihaabhjphaeaa.Sq
attribute [local go_sem] max2_int min2_int max_two min_two max_three min_three max_four min_four   -- for this text's walks alone
attribute [local go_sem] isSome_set
set_option linter.unusedVariables false
set_option linter.unusedSimpArgs false

/-! ### impl_cloneTable: function 103 -/
def impl_cloneTable.f (a0_0 : Int) (l0_1 : List Int) (l0_2 : List Int) : Option (Int × List Int × List Int) := (slices_Clone_int_int.f l0_1).bind fun t542 => ((slices_Clone_int_int.f l0_2).bind fun t545 => (some (a0_0, t542, t545)))
def impl_cloneTable.T1 : Bool × List (List Nat × List Nat) := (true, [([], []), ([0], [0]), ([], []), ([2], [2]), ([3], [3]), ([], []), ([5], [5]), ([6, 4], [6]), ([1, 4, 7], [1, 4, 7]), ([8, 7, 0, 1, 2, 3, 4, 5, 6, 7, 8], [8])])
def impl_cloneTable.B1 : List Nat := [0, 1, 0, 4, 12, 0, 32, 124, 255, 511]
theorem impl_cloneTable.tab1 : rtab .any (opsOf Try.f103 1) = impl_cloneTable.T1 := by kernel_rfl
theorem impl_cloneTable.bits1 : waitsOk impl_cloneTable.T1.2 impl_cloneTable.B1 = true := by kernel_rfl
set_option maxHeartbeats 8000000 in
set_option maxRecDepth 100000 in
theorem impl_cloneTable.calls (a0_0 : Int) (A0_1 : Option Addr) (c0_1 : Nat) (l0_1 : List Int) (A0_2 : Option Addr) (c0_2 : Nat) (l0_2 : List Int) (r1 : Int) (r2 : List Int) (r3 : List Int) (w : World) (hr0_1 : Kd.C (Kd.int .i64) w A0_1 l0_1.length l0_1) (hc0_1 : l0_1.length ≤ c0_1) (hr0_2 : Kd.C (Kd.int .i64) w A0_2 l0_2.length l0_2) (hc0_2 : l0_2.length ≤ c0_2) (h : impl_cloneTable.f a0_0 l0_1 l0_2 = some (r1, r2, r3)) :
    Calls Try.prog 103 #[.agg #[.int .i64 a0_0, .slice A0_1 l0_1.length c0_1, .slice A0_2 l0_2.length c0_2]] w fun e w' => ∃ v1_ v2_ : Value, e = .returned (.agg #[.int .i64 r1, v1_, v2_]) ∧ Kd.R (Kd.int .i64) 3 w' w.heap.size (fun k_ => some k_ ≠ (v2_ : Value).ownBlock) v1_ r2 ∧ Kd.R (Kd.int .i64) 3 w' w.heap.size (fun k_ => some k_ ≠ (v1_ : Value).ownBlock) v2_ r3 ∧ Below w.heap.size w w' := by
 have hu55 := Try.underlying55
 have HR0_1 := Aside0.mk hr0_1
 have HC0_1 := Aside0.mk hc0_1
 clear hr0_1 hc0_1
 have HR0_2 := Aside0.mk hr0_2
 have HC0_2 := Aside0.mk hc0_2
 clear hr0_2 hc0_2
 have HB := Aside0.mk (Below.refl w.heap.size w)
 have H : ((slices_Clone_int_int.f l0_1).bind fun t542 => ((slices_Clone_int_int.f l0_2).bind fun t545 => (some (a0_0, t542, t545)))) = some (r1, r2, r3) := h
 clear h
 obtain ⟨t542, A2, H⟩ := bnd H
 obtain ⟨t545, A3, H⟩ := bnd H
 simp only [Option.some.injEq, Prod.mk.injEq] at H
 obtain ⟨rfl, rfl, rfl⟩ := H
 go_enter Try.func103, Try.ntmps103
 try go_wp2_with (first | ((with_reducible refine gate_dst (N := 1) rfl ?_); refine bx 1 #[.int .i64 a0_0, .slice A0_1 l0_1.length c0_1, .slice A0_2 l0_2.length c0_2] 55 ?_; intro gb540 hg w4 hbox hb; have GW540 := bz w hg; have GE540 := bz w hg; replace HB := bs hb; have BK540 := Aside0.mk hbox; clear hb hbox hg) | ((with_reducible refine gate_dst (N := 2) rfl ?_); refine bx 2 #[.int .i64 0, .slice none 0 0, .slice none 0 0] 55 ?_; intro gb541 hg w5 hbox hb; have GW541 := bzw w hg; have GE541 := bzw w hg; replace HB := bsw hb; have BK541 := Aside0.mk hbox; have NB540_541 := nl BK540 hg; have NB541_540 := ng BK540 hg; replace BK540 := bb BK540 hb; clear hb hbox hg))
 replace BK540 := Aside0.mk (blk_drew BK540.out)
 replace BK541 := Aside0.mk (blk_drew BK541.out)
 replace HB := Aside0.mk (below_drew1 HB.out)
 refine start_ (n := 10) (S := fun w' => w'.cell? ⟨gb540, 0, none⟩ = some (.int .i64 a0_0) ∧ w'.cell? ⟨gb540, 1, none⟩ = some (.slice A0_1 l0_1.length c0_1) ∧ w'.cell? ⟨gb540, 2, none⟩ = some (.slice A0_2 l0_2.length c0_2)) (ds := []) #[false, false, false, false, false, false, false, false, false, false] (by kernel_rfl) rfl rfl ⟨bc0 BK540, bc1 BK540, bc2 BK540⟩ (fun hHeld => ?_); refine with_tabW impl_cloneTable.tab1 impl_cloneTable.bits1 (fun HT_ HW_ => ?_)
 generalize w5.drew = w6 at BK540 BK541 HB hHeld ⊢
 refine put 0 3 #[true, false, false, false, false, false, false, false, false, false] HT_ ?_
 refine put 2 5 #[true, false, true, false, false, false, false, false, false, false] HT_ ?_
 refine put 5 8 #[true, false, true, false, false, true, false, false, false, false] HT_ ?_
 refine tat3 1 4 #[true, true, true, false, false, true, false, false, false, false] HT_ HW_ hHeld ?_
 refine tat3 3 6 #[true, true, true, true, false, true, false, false, false, false] HT_ HW_ hHeld ?_
 refine tat3 6 9 #[true, true, true, true, false, true, true, false, false, false] HT_ HW_ hHeld ?_
 refine one_ (i := 4) (N := some 7) #[true, true, true, true, true, true, true, false, false, false] rfl rfl (one_of HT_.out (by kernel_rfl)) (by decide) (fun K hK => ?_)
 refine goes_ Try.func150 (by kernel_rfl) rfl #[.slice A0_1 l0_1.length c0_1] (by rfl) rfl rfl sl ?_
 with_reducible refine (slices_Clone_int_int.calls _ _ l0_1 t542 _ ?side1 ?side2 A2.out).mono ?_
 (case side1 => exact cb HR0_1)
 (case side2 => exact HC0_1.out)
 rintro e w7 ⟨v543, rfl, ho0, hb⟩
 refine ⟨_, rfl, ?_⟩
 have HO544 := Aside0.mk (Kd.R_lower ho0 (below_size (sbw)))
 replace BK540 := bb BK540 hb
 replace BK541 := bb BK541 hb
 replace HB := bsw hb
 (try clear hb)
 (try clear hb2)
 (try clear hk)
 (try clear hi)
 (try clear ho0)
 refine hK.out _ _ ⟨bc0 BK540, bc1 BK540, bc2 BK540⟩ (fun hHeld => ?_)
 clear hK K
 refine norm_ (a' := ?_) ?_ ?_
 rotate_left
 ·show Act.put _ (some 7) _ = _
  simp only [Act.put, List.setIfInBounds_toArray, List.set_cons_zero, List.set_cons_succ, i64_w, i32_w]
  rfl
 refine one_ (i := 7) (N := some 10) #[true, true, true, true, true, true, true, true, false, false] rfl rfl (one_of HT_.out (by kernel_rfl)) (by decide) (fun K hK => ?_)
 refine goes_ Try.func150 (by kernel_rfl) rfl #[.slice A0_2 l0_2.length c0_2] (by rfl) rfl rfl sl ?_
 with_reducible refine (slices_Clone_int_int.calls _ _ l0_2 t545 _ ?side1 ?side2 A3.out).mono ?_
 (case side1 => exact cb HR0_2)
 (case side2 => exact HC0_2.out)
 rintro e w8 ⟨v546, rfl, ho0, hb⟩
 refine ⟨_, rfl, ?_⟩
 have HO547 := Aside0.mk (Kd.R_lower (Kd.R_new' ho0 (Kd.R_lt (sr HO544))) (below_size (sbw)))
 replace HO544 := Aside0.mk (Kd.R_elder' (sr HO544) (Kd.R_base ho0) hb)
 replace BK540 := bb BK540 hb
 replace BK541 := bb BK541 hb
 replace HB := bsw hb
 (try clear hb)
 (try clear hb2)
 (try clear hk)
 (try clear hi)
 (try clear ho0)
 obtain ⟨Ao9, co9, eo9⟩ := Kd.R_slice HO547.out
 (first | subst eo9 | (injection eo9 with f1_ f2_ f3_; have f4_ := f1_.symm; have f5_ := f3_.symm; clear f1_ f2_ f3_; subst f4_; subst f5_))
 obtain ⟨Ao10, co10, eo10⟩ := Kd.R_slice HO544.out
 (first | subst eo10 | (injection eo10 with f1_ f2_ f3_; have f4_ := f1_.symm; have f5_ := f3_.symm; clear f1_ f2_ f3_; subst f4_; subst f5_))
 refine hK.out _ _ ⟨bc0 BK540, bc1 BK540, bc2 BK540⟩ (fun hHeld => ?_)
 clear hK K
 refine norm_ (a' := ?_) ?_ ?_
 rotate_left
 ·show Act.put _ (some 10) _ = _
  simp only [Act.put, List.setIfInBounds_toArray, List.set_cons_zero, List.set_cons_succ, i64_w, i32_w]
  rfl
 refine put 8 11 #[true, true, true, true, true, true, true, true, true, false] HT_ ?_
 refine one_ (i := 9) (N := none) #[true, true, true, true, true, true, true, true, true, true] rfl rfl (one_of HT_.out (by kernel_rfl)) (by decide) (fun K hK => ?_)
 obtain ⟨hs11, hfs11⟩ := cc1 BK541
 have hns11_0 := NB540_541.out
 have hms11_0 := NB541_540.out
 have hs12 := bc1 BK541
 have hfs12 := bf BK541 1
 have hns12_0 := NB540_541.out
 have hms12_0 := NB541_540.out
 have hs13 := bc2 BK541
 have hfs13 := bf BK541 2
 have hns13_0 := NB540_541.out
 have hms13_0 := NB541_540.out
 refine skip_ (w1 := ?_) (by rfl) rfl ?_ ?_
 rotate_left
 ·go_simp
  rfl
 refine hK.out _ _ ⟨((cell_far (p := ⟨gb541, _, none⟩) NB540_541.out _).trans (((cell_far (p := ⟨gb541, _, none⟩) NB540_541.out _).trans (((cell_far (p := ⟨gb541, _, none⟩) NB540_541.out _).trans (hHeld.1)))))), ((cell_far (p := ⟨gb541, _, none⟩) NB540_541.out _).trans (((cell_far (p := ⟨gb541, _, none⟩) NB540_541.out _).trans (((cell_far (p := ⟨gb541, _, none⟩) NB540_541.out _).trans (hHeld.2.1)))))), ((cell_far (p := ⟨gb541, _, none⟩) NB540_541.out _).trans (((cell_far (p := ⟨gb541, _, none⟩) NB540_541.out _).trans (((cell_far (p := ⟨gb541, _, none⟩) NB540_541.out _).trans (hHeld.2.2))))))⟩ (fun hHeld => ?_)
 clear hK K
 refine done_ (done_of HT_.out (by kernel_rfl)) ?_
 try go_wp2
 refine bodyPost_ret (results_cell_row rfl _ _ gb541 55 #[.int .i64 a0_0, .slice Ao10 t542.length co10, .slice Ao9 t545.length co9] (0, 0) _ rfl (sp BK541) Try.underlying55 rfl (by kernel_rfl)) rfl ?_
 exact ⟨_, _, se, by (with_reducible repeat (first | apply Kd.R_alloc | apply Kd.R_drewN | apply Kd.R_drew)); exact Kd.R_mono (Kd.R_far (p := ⟨gb541, 2, none⟩) (Kd.R_far (p := ⟨gb541, 1, none⟩) (Kd.R_far (p := ⟨gb541, 0, none⟩) (Kd.R_types HO544.out BK541.out (by decide)) (fun _ hk => hk.2) (.int .i64 a0_0)) (fun _ hk => hk.2) (.slice Ao10 t542.length co10)) (fun _ hk => hk.2) (.slice Ao9 t545.length co9)) (fun _ hk => hk.1.2), by (with_reducible repeat (first | apply Kd.R_alloc | apply Kd.R_drewN | apply Kd.R_drew)); exact Kd.R_mono (Kd.R_far (p := ⟨gb541, 2, none⟩) (Kd.R_far (p := ⟨gb541, 1, none⟩) (Kd.R_far (p := ⟨gb541, 0, none⟩) (Kd.R_types HO547.out BK541.out (by decide)) (fun _ hk => hk.2) (.int .i64 a0_0)) (fun _ hk => hk.2) (.slice Ao10 t542.length co10)) (fun _ hk => hk.2) (.slice Ao9 t545.length co9)) (fun _ hk => hk.1.2), sbw⟩

/-! ### impl_TableIn: function 41 -/
def impl_TableIn.f (a0_0 : Int) (a0_1 : Int) (a0_2 : Int) (l0_3 : List (S105)) (a1 : Int) (a2 : Int) : Option (Int × List Int × List Int × Bool) := (impl_isIndex.f a1 (l0_3.length : Int)).bind fun t550 => (if t550 = true then (if 0 ≤ a1 then (if a1 < (l0_3.length : Int) then ((impl_isIndex.f a2 (((rd_T105 l0_3 a1).f2).length : Int)).bind fun t552 => (if t552 = true then (if 0 ≤ a2 then (if a2 < (((rd_T105 l0_3 a1).f2).length : Int) then ((impl_cloneTable.f ((rd_T55 ((rd_T105 l0_3 a1).f2) a2).f0) ((rd_T55 ((rd_T105 l0_3 a1).f2) a2).f1) ((rd_T55 ((rd_T105 l0_3 a1).f2) a2).f2)).bind fun bt555 => (some (bt555.1, bt555.2.1, bt555.2.2, true))) else (none)) else (none)) else (some (0, ([] : List Int), ([] : List Int), false)))) else (none)) else (none)) else (some (0, ([] : List Int), ([] : List Int), false)))
set_option maxHeartbeats 8000000 in
set_option maxRecDepth 100000 in
theorem impl_TableIn.calls (a0_0 : Int) (a0_1 : Int) (a0_2 : Int) (A0_3 : Option Addr) (c0_3 : Nat) (l0_3 : List (S105)) (a1 : Int) (a2 : Int) (r1 : Int) (r2 : List Int) (r3 : List Int) (r4 : Bool) (w : World) (hr0_3 : Kd.C k105 w A0_3 l0_3.length l0_3) (hc0_3 : l0_3.length ≤ c0_3) (h : impl_TableIn.f a0_0 a0_1 a0_2 l0_3 a1 a2 = some (r1, r2, r3, r4)) :
    Calls Try.prog 41 #[.agg #[.int .i64 a0_0, .int .i64 a0_1, .int .i64 a0_2, .slice A0_3 l0_3.length c0_3], .int .i64 a1, .int .i64 a2] w fun e w' => ∃ v1_ v2_ : Value, e = .returned (.tuple #[.agg #[.int .i64 r1, v1_, v2_], .bool r4]) ∧ Kd.R (Kd.int .i64) 3 w' w.heap.size (fun k_ => some k_ ≠ (v2_ : Value).ownBlock) v1_ r2 ∧ Kd.R (Kd.int .i64) 3 w' w.heap.size (fun k_ => some k_ ≠ (v1_ : Value).ownBlock) v2_ r3 ∧ Below w.heap.size w w' := by
 have hu31 := Try.underlying31
 have hu55 := Try.underlying55
 have HR0_3 := Aside0.mk hr0_3
 have HC0_3 := Aside0.mk hc0_3
 clear hr0_3 hc0_3
 have HB := Aside0.mk (Below.refl w.heap.size w)
 have H : ((impl_isIndex.f a1 (l0_3.length : Int)).bind fun t550 => (if t550 = true then (if 0 ≤ a1 then (if a1 < (l0_3.length : Int) then ((impl_isIndex.f a2 (((rd_T105 l0_3 a1).f2).length : Int)).bind fun t552 => (if t552 = true then (if 0 ≤ a2 then (if a2 < (((rd_T105 l0_3 a1).f2).length : Int) then ((impl_cloneTable.f ((rd_T55 ((rd_T105 l0_3 a1).f2) a2).f0) ((rd_T55 ((rd_T105 l0_3 a1).f2) a2).f1) ((rd_T55 ((rd_T105 l0_3 a1).f2) a2).f2)).bind fun bt555 => (some (bt555.1, bt555.2.1, bt555.2.2, true))) else (none)) else (none)) else (some (0, ([] : List Int), ([] : List Int), false)))) else (none)) else (none)) else (some (0, ([] : List Int), ([] : List Int), false)))) = some (r1, r2, r3, r4) := h
 clear h
 obtain ⟨t550, A4, H⟩ := bnd H
 obtain rfl | rfl := tt t550
 ·replace H := ip H
  obtain ⟨c6b0, H⟩ := id_ H
  obtain ⟨c7b0, H⟩ := id_ H
  obtain ⟨t552, A8, H⟩ := bnd H
  obtain rfl | rfl := tt t552
  ·replace H := ip H
   obtain ⟨c10b0, H⟩ := id_ H
   obtain ⟨c11b0, H⟩ := id_ H
   obtain ⟨⟨t555, t556, t559⟩, A12, H⟩ := bnd H
   replace H : (some (t555, t556, t559, true)) = some (r1, r2, r3, r4) := H
   simp only [Option.some.injEq, Prod.mk.injEq] at H
   obtain ⟨rfl, rfl, rfl, rfl⟩ := H
   go_enter Try.func41, Try.ntmps41
   go_wp2_with (first | ((with_reducible refine gate_dst (N := 3) rfl ?_); (try (refine gate_guard (by rfl) ?_; dsimp only)); refine bx 3 #[.int .i64 a0_0, .int .i64 a0_1, .int .i64 a0_2, .slice A0_3 l0_3.length c0_3] 31 ?_; intro gb548 hg w13 hbox hb; have GW548 := bz w hg; have GE548 := bz w hg; replace HB := bs hb; have BK548 := Aside0.mk hbox; clear hb hbox hg) | ((with_reducible refine gate_dst (N := 6) rfl ?_); (try (refine gate_guard (by rfl) ?_; dsimp only)); refine bx 6 #[.int .i64 0, .slice none 0 0, .slice none 0 0] 55 ?_; intro gb549 hg w14 hbox hb; have GW549 := bzw w hg; have GE549 := bzw w hg; replace HB := bsw hb; have BK549 := Aside0.mk hbox; have NB548_549 := nl BK548 hg; have NB549_548 := ng BK548 hg; replace BK548 := bb BK548 hb; clear hb hbox hg; have hnb15 := NB548_549.out; have hnc15 := NB549_548.out; obtain ⟨hcz16_0, hcz16_1, hcz16_2, hcz16_3, hfz16_0, hfz16_1, hfz16_2, hfz16_3⟩ := cc4 BK548) | ((with_reducible refine gate_callee (f := 77) rfl ?_); refine gL (some 12) Try.func77 #[.int .i64 a1, .int .i64 (l0_3.length : Int)] ?_; (with_reducible refine (impl_isIndex.calls a1 (l0_3.length : Int) true _ A4.out).mono ?_); rintro e w' ⟨rfl, ⟨nd, rfl⟩⟩; refine ⟨_, rfl, ?_⟩; obtain ⟨p551, q551, ad551, A551_2, c551_2, A551_3, c551_3, e551, _, _, _, _, hx551_0, hx551_1, hx551_2, hx551_3, HC551_2, HR551_2, HC551_3, HR551_3⟩ := aT_T105 HR0_3 HB a1; cases e551) | (go_at_call 77; (with_reducible refine (impl_isIndex.calls a2 (((rd_T105 l0_3 a1).f2).length : Int) true _ A8.out).mono ?_); rintro e w' ⟨rfl, ⟨nd, rfl⟩⟩; obtain ⟨p553, q553, ad553, A553_2, c553_2, A553_3, c553_3, e553, _, _, _, _, hx553_0, hx553_1, hx553_2, hx553_3, HC553_2, HR553_2, HC553_3, HR553_3⟩ := aT_T105 HR0_3 HB a1; obtain rfl : ad551 = ad553 := (by injection e553); have ea_ := Option.some.inj (hx551_2.symm.trans hx553_2); injection ea_ with ea_ en_ ec_; subst ea_; subst ec_; clear en_; have ea_ := Option.some.inj (hx551_3.symm.trans hx553_3); injection ea_ with ea_ en_ ec_; subst ea_; subst ec_; clear en_; obtain ⟨p554, q554, ad554, A554_1, c554_1, A554_2, c554_2, e554, _, _, _, hx554_0, hx554_1, hx554_2, HC554_1, HR554_1, HC554_2, HR554_2⟩ := aT_T55 HR553_3 HB a2; cases e554) | ((with_reducible refine gate_callee (f := 103) rfl ?_); refine gL (some 36) Try.func103 #[.agg #[.int .i64 ((rd_T55 ((rd_T105 l0_3 a1).f2) a2).f0), .slice A554_1 ((rd_T55 ((rd_T105 l0_3 a1).f2) a2).f1).length c554_1, .slice A554_2 ((rd_T55 ((rd_T105 l0_3 a1).f2) a2).f2).length c554_2]] ?_; (with_reducible refine (impl_cloneTable.calls ((rd_T55 ((rd_T105 l0_3 a1).f2) a2).f0) _ _ ((rd_T55 ((rd_T105 l0_3 a1).f2) a2).f1) _ _ ((rd_T55 ((rd_T105 l0_3 a1).f2) a2).f2) t555 t556 t559 _ ?side1 ?side2 ?side3 ?side4 A12.out).mono ?_); (case side1 => exact cb HR554_1); (case side2 => exact HC554_1.out); (case side3 => exact cb HR554_2); (case side4 => exact HC554_2.out); rintro e w17 ⟨v557, v560, rfl, ho0, ho1, hb⟩; refine ⟨_, rfl, ?_⟩; have HO558 := Aside0.mk (Kd.R_lower ho0 (below_size (sbw))); have HO561 := Aside0.mk (Kd.R_lower ho1 (below_size (sbw))); replace BK548 := bb BK548 hb; replace BK549 := bb BK549 hb; replace HB := bsw hb; (try clear hb); (try clear hb2); (try clear hk); (try clear hi); (try clear ho0); (try clear ho1); obtain ⟨hcz18_0, hcz18_1, hcz18_2, hfz18_0, hfz18_1, hfz18_2⟩ := cc3 BK549; obtain ⟨Ao19, co19, eo19⟩ := Kd.R_slice HO558.out; subst eo19; obtain ⟨Ao20, co20, eo20⟩ := Kd.R_slice HO561.out; subst eo20))
   refine bodyPost_ret (results_ct rfl _ _ gb549 55 #[.int .i64 t555, .slice Ao19 t556.length co19, .slice Ao20 t559.length co20] (0, 0) _ rfl (sp BK549) Try.underlying55 rfl (by kernel_rfl)) rfl ?_
   exact ⟨_, _, se, by (with_reducible repeat (first | apply Kd.R_alloc | apply Kd.R_drewN | apply Kd.R_drew)); exact Kd.R_mono (Kd.R_far (p := ⟨gb549, 2, none⟩) (Kd.R_far (p := ⟨gb549, 1, none⟩) (Kd.R_far (p := ⟨gb549, 0, none⟩) (Kd.R_types HO558.out BK549.out (by decide)) (fun _ hk => hk.2) (.int .i64 t555)) (fun _ hk => hk.2) (.slice Ao19 t556.length co19)) (fun _ hk => hk.2) (.slice Ao20 t559.length co20)) (fun _ hk => hk.1), by (with_reducible repeat (first | apply Kd.R_alloc | apply Kd.R_drewN | apply Kd.R_drew)); exact Kd.R_mono (Kd.R_far (p := ⟨gb549, 2, none⟩) (Kd.R_far (p := ⟨gb549, 1, none⟩) (Kd.R_far (p := ⟨gb549, 0, none⟩) (Kd.R_types HO561.out BK549.out (by decide)) (fun _ hk => hk.2) (.int .i64 t555)) (fun _ hk => hk.2) (.slice Ao19 t556.length co19)) (fun _ hk => hk.2) (.slice Ao20 t559.length co20)) (fun _ hk => hk.1), sbw⟩
  ·replace H := im H
   simp only [Option.some.injEq, Prod.mk.injEq] at H
   obtain ⟨rfl, rfl, rfl, rfl⟩ := H
   go_enter Try.func41, Try.ntmps41
   go_wp2_with (first | ((with_reducible refine gate_dst (N := 3) rfl ?_); (try (refine gate_guard (by rfl) ?_; dsimp only)); refine bx 3 #[.int .i64 a0_0, .int .i64 a0_1, .int .i64 a0_2, .slice A0_3 l0_3.length c0_3] 31 ?_; intro gb548 hg w21 hbox hb; have GW548 := bz w hg; have GE548 := bz w hg; replace HB := bs hb; have BK548 := Aside0.mk hbox; clear hb hbox hg) | ((with_reducible refine gate_dst (N := 6) rfl ?_); (try (refine gate_guard (by rfl) ?_; dsimp only)); refine bx 6 #[.int .i64 0, .slice none 0 0, .slice none 0 0] 55 ?_; intro gb549 hg w22 hbox hb; have GW549 := bzw w hg; have GE549 := bzw w hg; replace HB := bsw hb; have BK549 := Aside0.mk hbox; have NB548_549 := nl BK548 hg; have NB549_548 := ng BK548 hg; replace BK548 := bb BK548 hb; clear hb hbox hg; have hnb23 := NB548_549.out; have hnc23 := NB549_548.out; obtain ⟨hcz24_0, hcz24_1, hcz24_2, hcz24_3, hfz24_0, hfz24_1, hfz24_2, hfz24_3⟩ := cc4 BK548) | ((with_reducible refine gate_callee (f := 77) rfl ?_); refine gL (some 12) Try.func77 #[.int .i64 a1, .int .i64 (l0_3.length : Int)] ?_; (with_reducible refine (impl_isIndex.calls a1 (l0_3.length : Int) true _ A4.out).mono ?_); rintro e w' ⟨rfl, ⟨nd, rfl⟩⟩; refine ⟨_, rfl, ?_⟩; obtain ⟨p551, q551, ad551, A551_2, c551_2, A551_3, c551_3, e551, _, _, _, _, hx551_0, hx551_1, hx551_2, hx551_3, HC551_2, HR551_2, HC551_3, HR551_3⟩ := aT_T105 HR0_3 HB a1; cases e551) | (go_at_call 77; (with_reducible refine (impl_isIndex.calls a2 (((rd_T105 l0_3 a1).f2).length : Int) false _ A8.out).mono ?_); rintro e w' ⟨rfl, ⟨nd, rfl⟩⟩; obtain ⟨hcz25_0, hcz25_1, hcz25_2, hfz25_0, hfz25_1, hfz25_2⟩ := cc3 BK549))
   refine bodyPost_ret (results_ct rfl _ _ gb549 55 #[.int .i64 0, .slice none 0 0, .slice none 0 0] (0, 0) _ rfl (sp BK549) Try.underlying55 rfl (by kernel_rfl)) rfl ?_
   exact ⟨_, _, se, sn, sn, sbw⟩
 ·replace H := im H
  simp only [Option.some.injEq, Prod.mk.injEq] at H
  obtain ⟨rfl, rfl, rfl, rfl⟩ := H
  go_enter Try.func41, Try.ntmps41
  go_wp2_with (first | ((with_reducible refine gate_dst (N := 3) rfl ?_); (try (refine gate_guard (by rfl) ?_; dsimp only)); refine bx 3 #[.int .i64 a0_0, .int .i64 a0_1, .int .i64 a0_2, .slice A0_3 l0_3.length c0_3] 31 ?_; intro gb548 hg w26 hbox hb; have GW548 := bz w hg; have GE548 := bz w hg; replace HB := bs hb; have BK548 := Aside0.mk hbox; clear hb hbox hg) | ((with_reducible refine gate_dst (N := 6) rfl ?_); (try (refine gate_guard (by rfl) ?_; dsimp only)); refine bx 6 #[.int .i64 0, .slice none 0 0, .slice none 0 0] 55 ?_; intro gb549 hg w27 hbox hb; have GW549 := bzw w hg; have GE549 := bzw w hg; replace HB := bsw hb; have BK549 := Aside0.mk hbox; have NB548_549 := nl BK548 hg; have NB549_548 := ng BK548 hg; replace BK548 := bb BK548 hb; clear hb hbox hg; have hnb28 := NB548_549.out; have hnc28 := NB549_548.out; obtain ⟨hcz29_0, hcz29_1, hcz29_2, hcz29_3, hfz29_0, hfz29_1, hfz29_2, hfz29_3⟩ := cc4 BK548) | ((with_reducible refine gate_callee (f := 77) rfl ?_); refine gL (some 12) Try.func77 #[.int .i64 a1, .int .i64 (l0_3.length : Int)] ?_; (with_reducible refine (impl_isIndex.calls a1 (l0_3.length : Int) false _ A4.out).mono ?_); rintro e w' ⟨rfl, ⟨nd, rfl⟩⟩; refine ⟨_, rfl, ?_⟩; obtain ⟨hcz30_0, hcz30_1, hcz30_2, hfz30_0, hfz30_1, hfz30_2⟩ := cc3 BK549))
  refine bodyPost_ret (results_ct rfl _ _ gb549 55 #[.int .i64 0, .slice none 0 0, .slice none 0 0] (0, 0) _ rfl (sp BK549) Try.underlying55 rfl (by kernel_rfl)) rfl ?_
  exact ⟨_, _, se, sn, sn, sbw⟩

/-! ### impl_IsSafeMix: function 19 -/
def impl_IsSafeMix.l0 : Nat → Int → List (List Int) → List Int → Int → Int → Int → Int → Int → List (S105) → Option (Bool)
  | 0, _, _, _, _, _, _, _, _, _ => none
  | k + 1, x1, x9, x18, x19, x20, x563000, x563001, x563002, x563003 => if x20 < x19 then (if 0 ≤ x20 then (if x20 < (x18.length : Int) then ((impl_TableIn.f x563000 x563001 x563002 x563003 (rd x18 x20) x1).bind fun bt570 => (if x9.length < 5864062014805 then (impl_IsSafeMix.l0 k x1 (x9 ++ [bt570.2.2.1]) x18 x19 (wrap64 (x20 + 1)) x563000 x563001 x563002 x563003) else (none))) else (none)) else (none)) else ((impl_UnionHasLoop.f k x9).bind fun t582 => (some (!t582)))
def impl_IsSafeMix.f (k : Nat) (a0_0 : Int) (a0_1 : Int) (a0_2 : Int) (l0_3 : List (S105)) (a1 : Int) (a2 : Int) (a3 : Int) : Option (Bool) := (impl_PiecesIn.f k a0_0 a0_1 a0_2 l0_3 a2 a3).bind fun t566 => (impl_IsSafeMix.l0 k a1 (([] : List (List Int))) t566 (t566.length : Int) 0 a0_0 a0_1 a0_2 l0_3)
theorem impl_IsSafeMix.mono_l : ∀ k, (∀ y0 y1 y2 y3 y4 y5 y6 y7 y8, LeO (impl_IsSafeMix.l0 k y0 y1 y2 y3 y4 y5 y6 y7 y8) (impl_IsSafeMix.l0 (k + 1) y0 y1 y2 y3 y4 y5 y6 y7 y8))
  | 0 => fun _ _ _ _ _ _ _ _ _ r h => by simp [impl_IsSafeMix.l0] at h
  | k + 1 => by
    have ih0 := impl_IsSafeMix.mono_l k
    · intro y0 y1 y2 y3 y4 y5 y6 y7 y8
      unfold impl_IsSafeMix.l0
      have m0 := @impl_PiecesIn.mono
      have m1 := @impl_UnionHasLoop.mono
      exact mo
theorem impl_IsSafeMix.mono : ∀ a0 a1 a2 a3 a4 a5 a6 k, LeO (impl_IsSafeMix.f k a0 a1 a2 a3 a4 a5 a6) (impl_IsSafeMix.f (k + 1) a0 a1 a2 a3 a4 a5 a6) := by
  intro a0 a1 a2 a3 a4 a5 a6 k
  have ih0 := impl_IsSafeMix.mono_l k
  unfold impl_IsSafeMix.f
  have m0 := @impl_PiecesIn.mono
  have m1 := @impl_UnionHasLoop.mono
  exact mo
set_option maxHeartbeats 8000000 in
set_option maxRecDepth 100000 in
theorem impl_IsSafeMix.calls (k : Nat) (a0_0 : Int) (a0_1 : Int) (a0_2 : Int) (A0_3 : Option Addr) (c0_3 : Nat) (l0_3 : List (S105)) (a1 : Int) (a2 : Int) (a3 : Int) (r : Bool) (w : World) (hr0_3 : Kd.C k105 w A0_3 l0_3.length l0_3) (hc0_3 : l0_3.length ≤ c0_3) (h : impl_IsSafeMix.f k a0_0 a0_1 a0_2 l0_3 a1 a2 a3 = some r) :
    Calls Try.prog 19 #[.agg #[.int .i64 a0_0, .int .i64 a0_1, .int .i64 a0_2, .slice A0_3 l0_3.length c0_3], .int .i64 a1, .int .i64 a2, .int .i64 a3] w fun e w' => e = .returned (.bool r) ∧ Below w.heap.size w w' := by
 have hu31 := Try.underlying31
 have hu55 := Try.underlying55
 have HR0_3 := Aside0.mk hr0_3
 have HC0_3 := Aside0.mk hc0_3
 clear hr0_3 hc0_3
 have HB := Aside0.mk (Below.refl w.heap.size w)
 have H : ((impl_PiecesIn.f k a0_0 a0_1 a0_2 l0_3 a2 a3).bind fun t566 => (impl_IsSafeMix.l0 k a1 (([] : List (List Int))) t566 (t566.length : Int) 0 a0_0 a0_1 a0_2 l0_3)) = some r := h
 clear h
 obtain ⟨y563, hy563⟩ : ∃ y_ : List (List Int), y_ = (([] : List (List Int))) := ⟨_, rfl⟩
 replace H : ((impl_PiecesIn.f k a0_0 a0_1 a0_2 l0_3 a2 a3).bind fun t566 => (impl_IsSafeMix.l0 k a1 y563 t566 (t566.length : Int) 0 a0_0 a0_1 a0_2 l0_3)) = some r := by first | (rw [hy563]; with_reducible exact H) | (have H2_ := (Option.bind_some _ _).symm.trans H; rw [hy563]; with_reducible exact H2_) | (have H2_ := (Option.bind_some _ _).symm.trans H; with_reducible exact H2_) | with_reducible exact H | (rw [hy563]; exact H) | exact H
 have Ny563 := Aside0.mk hy563
 clear hy563
 obtain ⟨t566, A5, H⟩ := bnd H
 have H' := Aside0.mk H
 clear H
 go_enter Try.func19, Try.ntmps19
 go_wp2_with (first | ((with_reducible refine gate_dst (N := 4) rfl ?_); refine bx 4 #[.int .i64 a0_0, .int .i64 a0_1, .int .i64 a0_2, .slice A0_3 l0_3.length c0_3] 31 ?_; intro gb562 hg w6 hbox hb; have GW562 := bz w hg; have GE562 := bz w hg; replace HB := bs hb; have BK562 := Aside0.mk hbox; clear hb hbox hg) | ((with_reducible refine gate_dst (N := 14) rfl ?_); refine Kd.S_lit (Kd.slice 3 (Kd.int .i64)) _ 28 ?hg (N := 14) ?hd (xs := ([] : List (List Int))) (inner := []) (ok := fun _ => True) (okp := fun _ => True) ?hr ?hp (fun _ hk => hk) trivial (Below.refl _ _) (Nat.le_refl _) (by simp) ?_; (case hd => rfl); (case hg => rfl); (case hr => first | (go_simp; done) | (go_simp; rfl)); (case hp => exact (Reps.none _ _)); intro v564 w7 ho8 hb hg_ hnew_; clear hg_ hnew_; (first | rw [← Ny563.out] at ho8 | (simp only [Int.reduceToNat] at ho8; rw [← Ny563.out] at ho8)); have HO565 := Aside0.mk (Kd.S_lower ho8 (below_size (sbw))); replace BK562 := bb BK562 hb; replace HB := bsw hb; clear hb ho8; obtain ⟨hcz9_0, hcz9_1, hcz9_2, hcz9_3, hfz9_0, hfz9_1, hfz9_2, hfz9_3⟩ := cc4 BK562) | ((with_reducible refine gate_callee (f := 17) rfl ?_); refine gL (some 18) Try.func17 #[.agg #[.int .i64 a0_0, .int .i64 a0_1, .int .i64 a0_2, .slice A0_3 l0_3.length c0_3], .int .i64 a2, .int .i64 a3] ?_; (with_reducible refine (impl_PiecesIn.calls k a0_0 a0_1 a0_2 _ _ l0_3 a2 a3 t566 _ ?side1 ?side2 A5.out).mono ?_); (case side1 => exact cb HR0_3); (case side2 => exact HC0_3.out); rintro e w10 ⟨v567, rfl, ho0, hb⟩; refine ⟨_, rfl, ?_⟩; replace HO565 := Aside0.mk (Kd.S_elder' (ss HO565) (Kd.R_base ho0) hb); have HO568 := Aside0.mk (Kd.R_lower ho0 (below_size (sbw))); replace BK562 := bb BK562 hb; replace HB := bsw hb; (try clear hb); (try clear hb2); (try clear hk); (try clear hi); (try clear ho0); obtain ⟨Ao11, co11, eo11⟩ := Kd.R_slice HO568.out; subst eo11))
 go_loopg [9, 20] k (fun kq v9 v20 w' => ∃ (x9_1 : List (List Int)) (x20_1 : Int), v20 = .int .i64 x20_1 ∧ Aside0 (impl_IsSafeMix.l0 kq a1 x9_1 t566 (t566.length : Int) x20_1 a0_0 a0_1 a0_2 l0_3 = some r) ∧ Aside0 (kq ≤ k) ∧ Aside0 (Kd.S (Kd.slice 3 (Kd.int .i64)) 28 w' w.heap.size (fun k_ => some k_ ≠ ((.slice Ao11 t566.length co11) : Value).ownBlock) v9 x9_1) ∧ Aside0 (Kd.R (Kd.int .i64) 3 w' w.heap.size (fun _ => True) (.slice Ao11 t566.length co11) t566) ∧ Aside0 (w'.heap[gb562]? = some (.cells #[.int .i64 a0_0, .int .i64 a0_1, .int .i64 a0_2, (.slice A0_3 l0_3.length c0_3)] 31 (0, 0))) ∧ Aside0 (Below w.heap.size w w'))
 case atStart => exact ⟨(y563), (0), sc, H', kk0, ⟨by (with_reducible repeat (first | apply Kd.S_alloc | apply Kd.S_drewN | apply Kd.S_drew)); exact Kd.S_mono HO565.out (fun _ hk => hk.2)⟩, ⟨sr HO568⟩, ⟨sk BK562⟩, ⟨sbw⟩⟩
 case round =>
  clear H'
  obtain ⟨x9_1, x20_1, rfl, HA, HK1, HO_9, HO_18, BK562, HB⟩ := hrel
  cases gk with
  | zero => exact absurd HA.out (by simp [impl_IsSafeMix.l0])
  | succ k1 =>
   have H := HA.out
   clear HA
   simp only [impl_IsSafeMix.l0] at H
   obtain ⟨c12, H⟩ | ⟨c12, H⟩ := ie_ H
   ·have c12b0 := decide_eq_true c12
    clear c12
    obtain ⟨c13b0, H⟩ := id_ H
    obtain ⟨c14b0, H⟩ := id_ H
    obtain ⟨⟨t570, t571, t574, t577⟩, A15, H⟩ := bnd H
    replace H : (if x9_1.length < 5864062014805 then (impl_IsSafeMix.l0 k1 a1 (x9_1 ++ [t574]) t566 (t566.length : Int) (wrap64 (x20_1 + 1)) a0_0 a0_1 a0_2 l0_3) else (none)) = some r := H
    obtain ⟨LMc16, H⟩ := il_ H
    obtain ⟨y579, hy579⟩ : ∃ y_ : List (List Int), y_ = (x9_1 ++ [t574]) := ⟨_, rfl⟩
    replace H : (impl_IsSafeMix.l0 k1 a1 y579 t566 (t566.length : Int) (wrap64 (x20_1 + 1)) a0_0 a0_1 a0_2 l0_3) = some r := by first | (rw [hy579]; with_reducible exact H) | (have H2_ := (Option.bind_some _ _).symm.trans H; rw [hy579]; with_reducible exact H2_) | (have H2_ := (Option.bind_some _ _).symm.trans H; with_reducible exact H2_) | with_reducible exact H | (rw [hy579]; exact H) | exact H
    have Ny579 := Aside0.mk hy579
    clear hy579
    have H' := Aside0.mk H
    clear H
    have p569 : 0 ≤ (x20_1 : Int) := sa
    have q569 : x20_1 < (t566.length : Int) := sa
    obtain ⟨ad569, e569, hx569_0⟩ := Kd.at_int (Kd.R_reads' HO_18.out).2.2 x20_1 p569 q569
    cases e569
    replace p569 := eq_true p569
    replace q569 := eq_true q569
    obtain ⟨hcz17_0, hcz17_1, hcz17_2, hcz17_3, hfz17_0, hfz17_1, hfz17_2, hfz17_3⟩ := cc4 BK562
    go_wp2_with (first | ((with_reducible refine gate_callee (f := 41) rfl ?_); refine gL (some 28) Try.func41 #[.agg #[.int .i64 a0_0, .int .i64 a0_1, .int .i64 a0_2, .slice A0_3 l0_3.length c0_3], .int .i64 (rd t566 x20_1), .int .i64 a1] ?_; (with_reducible refine (impl_TableIn.calls a0_0 a0_1 a0_2 _ _ l0_3 (rd t566 x20_1) a1 t570 t571 t574 t577 _ ?side1 ?side2 A15.out).mono ?_); (case side1 => exact cb HR0_3); (case side2 => exact HC0_3.out); rintro e w18 ⟨v572, v575, rfl, ho0, ho1, hb⟩; refine ⟨_, rfl, ?_⟩; replace HO_9 := Aside0.mk (Kd.S_mono (Kd.S_told (Kd.S_told (Kd.S_old (ss HO_9) hb) (Kd.R_base ho0)) (Kd.R_base ho1)) (fun _ h_ => h_.1)); have HO573 := Aside0.mk (Kd.R_lower (Kd.R_new' ho0 (Kd.R_lt (sr HO_18))) (below_size (sbw))); have HO576 := Aside0.mk (Kd.R_lower (Kd.R_new' ho1 (Kd.R_lt (sr HO_18))) (below_size (sbw))); replace HO_18 := Aside0.mk (Kd.R_mono (Kd.R_told (Kd.R_told (Kd.R_old (sr HO_18) hb) (Kd.R_base ho0)) (Kd.R_base ho1)) (fun _ h_ => h_.1)); replace BK562 := bb BK562 hb; replace HB := bsw hb; (try clear hb); (try clear hb2); (try clear hk); (try clear hi); (try clear ho0); (try clear ho1)) | ((with_reducible refine gate_dst (N := 12) rfl ?_); refine bx 12 #[.int .i64 0, .slice none 0 0, .slice none 0 0] 55 ?_; intro gb578 hg w19 hbox hb; replace HO_9 := Aside0.mk (Kd.S_below (ss HO_9) hb); replace HO_18 := Aside0.mk (Kd.R_below (sr HO_18) hb); replace HO573 := Aside0.mk (Kd.R_below (sr HO573) hb); replace HO576 := Aside0.mk (Kd.R_below (sr HO576) hb); have GW578 := bzw w hg; have GE578 := bzw w hg; replace HB := bsw hb; have BK578 := Aside0.mk hbox; have NB562_578 := nl BK562 hg; have NB578_562 := ng BK562 hg; replace BK562 := bb BK562 hb; clear hb hbox hg; have hnb20 := NB578_562.out; have hnc20 := NB562_578.out; obtain ⟨hcz21_0, hcz21_1, hcz21_2, hfz21_0, hfz21_1, hfz21_2⟩ := cc3 BK578; obtain ⟨Ao22, co22, eo22⟩ := Kd.R_slice HO573.out; subst eo22; obtain ⟨Ao23, co23, eo23⟩ := Kd.R_slice HO576.out; subst eo23) | ((with_reducible refine gate_store (t := 55) (p := 12) rfl ?_); refine store_event (t := 55) (p := 12) (v := ?vo_w24) (w1 := (((w19.setCell ⟨gb578, 0, none⟩ (.int .i64 t570)).setCell ⟨gb578, 1, none⟩ (.slice Ao22 t571.length co22)).setCell ⟨gb578, 2, none⟩ (.slice Ao23 t574.length co23))) ?hg ?ho ?hn ?hr ?_; (case ho => rfl); (case hg => rfl); (case hn => rfl); (case hr => first | (go_simp; done) | (go_simp; rfl)); intro w24 hw; replace HO_9 : Aside0 (Kd.S (Kd.slice 3 (Kd.int .i64)) 28 w24 w.heap.size (fun k_ => some k_ ≠ (.slice (some ad569) t566.length co11 : Value).ownBlock ∧ some k_ ≠ (.slice Ao22 t571.length co22 : Value).ownBlock ∧ some k_ ≠ (.slice Ao23 t574.length co23 : Value).ownBlock) u9 x9_1) := ⟨(by rw [hw]; exact (by (with_reducible repeat (first | apply Kd.S_alloc | apply Kd.S_drewN | apply Kd.S_drew)); exact Kd.S_mono (Kd.S_far (p := ⟨gb578, 2, none⟩) (Kd.S_far (p := ⟨gb578, 1, none⟩) (Kd.S_far (p := ⟨gb578, 0, none⟩) (Kd.S_types HO_9.out BK578.out (by decide)) (fun _ hk => hk.2) (.int .i64 t570)) (fun _ hk => hk.2) (.slice Ao22 t571.length co22)) (fun _ hk => hk.2) (.slice Ao23 t574.length co23)) (fun _ hk => ⟨hk.1.1.1, ⟨hk.1.1.2, hk.1.2⟩⟩)))⟩; replace HO_18 : Aside0 (Kd.R (Kd.int .i64) 3 w24 w.heap.size (fun k_ => some k_ ≠ (.slice Ao22 t571.length co22 : Value).ownBlock ∧ some k_ ≠ (.slice Ao23 t574.length co23 : Value).ownBlock) (.slice (some ad569) t566.length co11) t566) := ⟨(by rw [hw]; exact (by (with_reducible repeat (first | apply Kd.R_alloc | apply Kd.R_drewN | apply Kd.R_drew)); exact Kd.R_mono (Kd.R_far (p := ⟨gb578, 2, none⟩) (Kd.R_far (p := ⟨gb578, 1, none⟩) (Kd.R_far (p := ⟨gb578, 0, none⟩) (Kd.R_types HO_18.out BK578.out (by decide)) (fun _ hk => hk.2) (.int .i64 t570)) (fun _ hk => hk.2) (.slice Ao22 t571.length co22)) (fun _ hk => hk.2) (.slice Ao23 t574.length co23)) (fun _ hk => ⟨hk.1.1.2, hk.1.2⟩)))⟩; replace HO573 : Aside0 (Kd.R (Kd.int .i64) 3 w24 w.heap.size (fun k_ => some k_ ≠ (.slice (some ad569) t566.length co11 : Value).ownBlock ∧ some k_ ≠ (.slice Ao23 t574.length co23 : Value).ownBlock) (.slice Ao22 t571.length co22) t571) := ⟨(by rw [hw]; exact (by (with_reducible repeat (first | apply Kd.R_alloc | apply Kd.R_drewN | apply Kd.R_drew)); exact Kd.R_mono (Kd.R_far (p := ⟨gb578, 2, none⟩) (Kd.R_far (p := ⟨gb578, 1, none⟩) (Kd.R_far (p := ⟨gb578, 0, none⟩) (Kd.R_types HO573.out BK578.out (by decide)) (fun _ hk => hk.2) (.int .i64 t570)) (fun _ hk => hk.2) (.slice Ao22 t571.length co22)) (fun _ hk => hk.2) (.slice Ao23 t574.length co23)) (fun _ hk => ⟨hk.1.2, hk.1.1⟩)))⟩; replace HO576 : Aside0 (Kd.R (Kd.int .i64) 3 w24 w.heap.size (fun k_ => some k_ ≠ (.slice (some ad569) t566.length co11 : Value).ownBlock ∧ some k_ ≠ (.slice Ao22 t571.length co22 : Value).ownBlock) (.slice Ao23 t574.length co23) t574) := ⟨(by rw [hw]; exact (by (with_reducible repeat (first | apply Kd.R_alloc | apply Kd.R_drewN | apply Kd.R_drew)); exact Kd.R_mono (Kd.R_far (p := ⟨gb578, 2, none⟩) (Kd.R_far (p := ⟨gb578, 1, none⟩) (Kd.R_far (p := ⟨gb578, 0, none⟩) (Kd.R_types HO576.out BK578.out (by decide)) (fun _ hk => hk.2) (.int .i64 t570)) (fun _ hk => hk.2) (.slice Ao22 t571.length co22)) (fun _ hk => hk.2) (.slice Ao23 t574.length co23)) (fun _ hk => ⟨hk.1.2, hk.1.1⟩)))⟩; replace BK562 : Aside0 (w24.heap[gb562]? = some (.cells #[.int .i64 a0_0, .int .i64 a0_1, .int .i64 a0_2, .slice A0_3 l0_3.length c0_3] 31 (0, 0))) := ⟨(by rw [hw]; exact (sp BK562))⟩; replace BK578 : Aside0 (w24.heap[gb578]? = some (.cells #[.int .i64 t570, .slice Ao22 t571.length co22, .slice Ao23 t574.length co23] 55 (0, 0))) := ⟨(by rw [hw]; exact (sp BK578))⟩; replace HB : Aside0 (Below w.heap.size w w24) := ⟨(by rw [hw]; exact (sbw))⟩; clear hw; obtain ⟨hcz25_0, hcz25_1, hcz25_2, hfz25_0, hfz25_1, hfz25_2⟩ := cc3 BK578) | ((with_reducible refine gate_builtin (b := .append) (xs := #[.tmp 31, .tmp 34]) rfl ?_); at_builtin; refine Kd.S_append (Kd.slice 3 (Kd.int .i64)) (w0 := w) w.heap.size rfl (.tmp 31) (.tmp 34) 24 28 (.slice none 0 0) 24 rfl Try.underlying24 info28 rfl (by decide) (by omega) u9 x9_1 t574 [.slice Ao23 t574.length co23] (fun k_ => some k_ ≠ (.slice (some ad569) t566.length co11 : Value).ownBlock ∧ some k_ ≠ (.slice Ao22 t571.length co22 : Value).ownBlock) (fun k_ => some k_ = (.slice Ao23 t574.length co23 : Value).ownBlock) rfl rfl ?aP (fun k_ hk_ => ((Kd.R_mono (ok' := fun k_ => ((fun k_ => some k_ ≠ (.slice (some ad569) t566.length co11 : Value).ownBlock ∧ some k_ ≠ (.slice Ao22 t571.length co22 : Value).ownBlock)) k_ ∧ some k_ ≠ (u9 : Value).ownBlock) (Kd.R_apart' (HO576.out) (Kd.S_typed HO_9.out) (by decide)) (fun k_ hk => ⟨⟨hk.1.1, hk.1.2⟩, hk.2⟩))).1 k_ hk_.symm) ?aF ?aO ?aB ?aS ?aL ?_; (case aP => exact Kd.M_row (Kd.R_mono (Kd.R_tight rfl (Kd.R_mono (ok' := fun k_ => ((fun k_ => some k_ ≠ (.slice (some ad569) t566.length co11 : Value).ownBlock ∧ some k_ ≠ (.slice Ao22 t571.length co22 : Value).ownBlock)) k_ ∧ some k_ ≠ (u9 : Value).ownBlock) (Kd.R_apart' (HO576.out) (Kd.S_typed HO_9.out) (by decide)) (fun k_ hk => ⟨⟨hk.1.1, hk.1.2⟩, hk.2⟩))) (fun _ h_ => h_))); (case aB => exact (sbw)); (case aF => exact (fun k_ hk => ⟨Kd.fresh' (Kd.R_lt (sr HO_18)) k_ hk, Kd.fresh' (Kd.R_lt (sr HO573)) k_ hk⟩)); (case aO => exact (by (with_reducible repeat (first | apply Kd.S_alloc | apply Kd.S_drewN | apply Kd.S_drew)); exact Kd.S_mono HO_9.out (fun k_ hk => ⟨⟨hk.1, hk.2.1⟩, fun e_ => hk.2.2 e_⟩))); (case aS => exact (below_size (sbw))); (case aL => have := LMc16.out; omega); intro v580 w26 ho hb hg hat; rw [← Ny579.out] at ho; replace HO_18 := Aside0.mk (Kd.R_over' (sr HO_18) (Kd.S_typed (ss HO_9)) (by decide) hg); replace BK562 := Aside0.mk (blk_grown (g := gb562) (o := .cells #[.int .i64 a0_0, .int .i64 a0_1, .int .i64 a0_2, .slice A0_3 l0_3.length c0_3] 31 (0, 0)) (sk BK562) hg (Kd.S_ne HO_9.out BK562.out (by decide))); replace HO573 := Aside0.mk (Kd.R_over' (sr HO573) (Kd.S_typed (ss HO_9)) (by decide) hg); replace BK578 := Aside0.mk (blk_grown (g := gb578) (o := .cells #[.int .i64 t570, .slice Ao22 t571.length co22, .slice Ao23 t574.length co23] 55 (0, 0)) (sk BK578) hg (Kd.S_ne HO_9.out BK578.out (by decide))); replace HB := Aside0.mk hb; have HO581 := Aside0.mk ho; clear HO_9 HO576; clear ho hb hg hat))
    go_roundg k1
    case measure => have := HK1.out; omega
    case rel => exact ⟨(y579), (wrap64 (x20_1 + 1)), sc, H', kk1, ⟨by (with_reducible repeat (first | apply Kd.S_alloc | apply Kd.S_drewN | apply Kd.S_drew)); exact Kd.S_mono HO581.out (fun _ hk => hk.1)⟩, ⟨by (with_reducible repeat (first | apply Kd.R_alloc | apply Kd.R_drewN | apply Kd.R_drew)); exact Kd.R_mono HO_18.out (fun _ hk => trivial)⟩, ⟨sk BK562⟩, ⟨sbw⟩⟩
   ·have c12b0 := decide_eq_false c12
    clear c12
    obtain ⟨t582, A27, H⟩ := bnd H
    obtain rfl := Option.some.inj H
    obtain ⟨Ao28, co28, eo28⟩ := Kd.S_slice HO_9.out
    subst eo28
    go_wp2_with (first | ((with_reducible refine gate_callee (f := 14) rfl ?_); refine gL (some 38) Try.func14 #[.slice Ao28 x9_1.length co28] ?_; (with_reducible refine (impl_UnionHasLoop.calls k1 _ _ x9_1 t582 _ ?side1 ?side2 A27.out).mono ?_); (case side1 => repeat (first | exact (Kd.S_reads' HO_9.out).2.2 | (with_reducible refine Kd.C_alloc ?_ _) | (with_reducible refine Kd.C_drewN ?_ _) | (with_reducible refine Kd.C_drew ?_))); (case side2 => exact (Kd.S_reads' HO_9.out).2.1); rintro e w29 ⟨rfl, hb⟩; refine ⟨_, rfl, ?_⟩; replace HO_9 := Aside0.mk (Kd.S_below (ss HO_9) hb); replace HO_18 := Aside0.mk (Kd.R_below (sr HO_18) hb); replace BK562 := bb BK562 hb; replace HB := bsw hb; (try clear hb); (try clear hb2); (try clear hk); (try clear hi)))
    go_ret
    exact ⟨se, sbw⟩

/-! ### laws_at: function 20 -/
def laws_at.f (l0 : List Int) (a1 : Int) : Option (Int) := if a1 < (l0.length : Int) then (if 0 ≤ a1 then (some (wrap64 (rd l0 a1))) else (none)) else (some (Int.tmod (wrap64 ((wrap64 (a1 * 31)) + (wrap64 ((l0.length : Int) * 7)))) 256))
set_option maxHeartbeats 8000000 in
set_option maxRecDepth 100000 in
theorem laws_at.calls (A0 : Option Addr) (c0 : Nat) (l0 : List Int) (a1 : Int) (r : Int) (w : World) (hr0 : Kd.C (Kd.int .u8) w A0 l0.length l0) (hc0 : l0.length ≤ c0) (h : laws_at.f l0 a1 = some r) :
    Calls Try.prog 20 #[.slice A0 l0.length c0, .int .i64 a1] w fun e w' => e = .returned (.int .i64 r) ∧ Drawn0 w w' := by
 have HR0 := Aside0.mk hr0
 have HC0 := Aside0.mk hc0
 clear hr0 hc0
 have H : (if a1 < (l0.length : Int) then (if 0 ≤ a1 then (some (wrap64 (rd l0 a1))) else (none)) else (some (Int.tmod (wrap64 ((wrap64 (a1 * 31)) + (wrap64 ((l0.length : Int) * 7)))) 256))) = some r := h
 clear h
 obtain ⟨c3, H⟩ | ⟨c3, H⟩ := ie_ H
 ·have c3b0 := decide_eq_true c3
  clear c3
  obtain ⟨c4b0, H⟩ := id_ H
  obtain rfl := Option.some.inj H
  have p583 : 0 ≤ (a1 : Int) := sa
  have q583 : a1 < (l0.length : Int) := sa
  obtain ⟨ad583, e583, hx583_0⟩ := Kd.at_int HR0.out a1 p583 q583
  cases e583
  replace p583 := eq_true p583
  replace q583 := eq_true q583
  go_enter Try.func20, Try.ntmps20
  go_wp2
  go_ret
  exact ⟨sc, sd⟩
 ·have c3b0 := decide_eq_false c3
  clear c3
  obtain rfl := Option.some.inj H
  go_enter Try.func20, Try.ntmps20
  go_wp2
  go_ret
  exact ⟨sc, sd⟩

/-! ### impl_nextIn: function 81 -/
def impl_nextIn.f (a0_0 : Int) (a0_1 : Int) (a0_2 : Int) (l0_3 : List (S105)) (a1 : Int) (a2 : Int) (a3 : Int) : Option (Int × Bool) := (impl_TableIn.f a0_0 a0_1 a0_2 l0_3 a1 a2).bind fun bt585 => (if bt585.2.2.2 = true then ((impl_isIndex.f a3 (bt585.2.2.1.length : Int)).bind fun t594 => (if t594 = true then (if 0 ≤ a3 then (if a3 < (bt585.2.2.1.length : Int) then (some (rd bt585.2.2.1 a3, true)) else (none)) else (none)) else (some ((-1), false)))) else (some ((-1), false)))
set_option maxHeartbeats 8000000 in
set_option maxRecDepth 100000 in
theorem impl_nextIn.calls (a0_0 : Int) (a0_1 : Int) (a0_2 : Int) (A0_3 : Option Addr) (c0_3 : Nat) (l0_3 : List (S105)) (a1 : Int) (a2 : Int) (a3 : Int) (r1 : Int) (r2 : Bool) (w : World) (hr0_3 : Kd.C k105 w A0_3 l0_3.length l0_3) (hc0_3 : l0_3.length ≤ c0_3) (h : impl_nextIn.f a0_0 a0_1 a0_2 l0_3 a1 a2 a3 = some (r1, r2)) :
    Calls Try.prog 81 #[.agg #[.int .i64 a0_0, .int .i64 a0_1, .int .i64 a0_2, .slice A0_3 l0_3.length c0_3], .int .i64 a1, .int .i64 a2, .int .i64 a3] w fun e w' => e = .returned (.tuple #[.int .i64 r1, .bool r2]) ∧ Below w.heap.size w w' := by
 have hu31 := Try.underlying31
 have hu55 := Try.underlying55
 have HR0_3 := Aside0.mk hr0_3
 have HC0_3 := Aside0.mk hc0_3
 clear hr0_3 hc0_3
 have HB := Aside0.mk (Below.refl w.heap.size w)
 have H : ((impl_TableIn.f a0_0 a0_1 a0_2 l0_3 a1 a2).bind fun bt585 => (if bt585.2.2.2 = true then ((impl_isIndex.f a3 (bt585.2.2.1.length : Int)).bind fun t594 => (if t594 = true then (if 0 ≤ a3 then (if a3 < (bt585.2.2.1.length : Int) then (some (rd bt585.2.2.1 a3, true)) else (none)) else (none)) else (some ((-1), false)))) else (some ((-1), false)))) = some (r1, r2) := h
 clear h
 obtain ⟨⟨t585, t586, t589, t592⟩, A5, H⟩ := bnd H
 replace H : (if t592 = true then ((impl_isIndex.f a3 (t589.length : Int)).bind fun t594 => (if t594 = true then (if 0 ≤ a3 then (if a3 < (t589.length : Int) then (some (rd t589 a3, true)) else (none)) else (none)) else (some ((-1), false)))) else (some ((-1), false))) = some (r1, r2) := H
 obtain rfl | rfl := tt t592
 ·replace H := ip H
  obtain ⟨t594, A7, H⟩ := bnd H
  obtain rfl | rfl := tt t594
  ·replace H := ip H
   obtain ⟨c9b0, H⟩ := id_ H
   obtain ⟨c10b0, H⟩ := id_ H
   simp only [Option.some.injEq, Prod.mk.injEq] at H
   obtain ⟨rfl, rfl⟩ := H
   go_enter Try.func81, Try.ntmps81
   go_wp2_with (first | ((with_reducible refine gate_dst (N := 4) rfl ?_); (try (refine gate_guard (by rfl) ?_; dsimp only)); refine bx 4 #[.int .i64 a0_0, .int .i64 a0_1, .int .i64 a0_2, .slice A0_3 l0_3.length c0_3] 31 ?_; intro gb584 hg w11 hbox hb; have GW584 := bz w hg; have GE584 := bz w hg; replace HB := bs hb; have BK584 := Aside0.mk hbox; clear hb hbox hg; obtain ⟨hcz12_0, hcz12_1, hcz12_2, hcz12_3, hfz12_0, hfz12_1, hfz12_2, hfz12_3⟩ := cc4 BK584) | ((with_reducible refine gate_callee (f := 41) rfl ?_); refine gL (some 16) Try.func41 #[.agg #[.int .i64 a0_0, .int .i64 a0_1, .int .i64 a0_2, .slice A0_3 l0_3.length c0_3], .int .i64 a1, .int .i64 a2] ?_; (with_reducible refine (impl_TableIn.calls a0_0 a0_1 a0_2 _ _ l0_3 a1 a2 t585 t586 t589 true _ ?side1 ?side2 A5.out).mono ?_); (case side1 => exact cb HR0_3); (case side2 => exact HC0_3.out); rintro e w13 ⟨v587, v590, rfl, ho0, ho1, hb⟩; refine ⟨_, rfl, ?_⟩; have HO588 := Aside0.mk (Kd.R_lower ho0 (below_size (sbw))); have HO591 := Aside0.mk (Kd.R_lower ho1 (below_size (sbw))); replace BK584 := bb BK584 hb; replace HB := bsw hb; (try clear hb); (try clear hb2); (try clear hk); (try clear hi); (try clear ho0); (try clear ho1)) | ((with_reducible refine gate_dst (N := 10) rfl ?_); (try (refine gate_guard (by rfl) ?_; dsimp only)); refine bx 10 #[.int .i64 0, .slice none 0 0, .slice none 0 0] 55 ?_; intro gb593 hg w14 hbox hb; replace HO588 := Aside0.mk (Kd.R_below (sr HO588) hb); replace HO591 := Aside0.mk (Kd.R_below (sr HO591) hb); have GW593 := bzw w hg; have GE593 := bzw w hg; replace HB := bsw hb; have BK593 := Aside0.mk hbox; have NB584_593 := nl BK584 hg; have NB593_584 := ng BK584 hg; replace BK584 := bb BK584 hb; clear hb hbox hg; have hnb15 := NB593_584.out; have hnc15 := NB584_593.out; obtain ⟨hcz16_0, hcz16_1, hcz16_2, hfz16_0, hfz16_1, hfz16_2⟩ := cc3 BK593; obtain ⟨Ao17, co17, eo17⟩ := Kd.R_slice HO588.out; subst eo17; obtain ⟨Ao18, co18, eo18⟩ := Kd.R_slice HO591.out; subst eo18) | (go_at_call 77; (with_reducible refine (impl_isIndex.calls a3 (t589.length : Int) true _ A7.out).mono ?_); rintro e w' ⟨rfl, ⟨nd, rfl⟩⟩; have p595 : 0 ≤ (a3 : Int) := sa; have q595 : a3 < (t589.length : Int) := sa; obtain ⟨ad595, e595, hx595_0⟩ := Kd.at_int (Kd.R_reads' HO591.out).2.2 a3 p595 q595; cases e595; have hn595_0 : ad595.block ≠ gb593 := Kd.own_blk (Kd.R_ne HO591.out BK593.out (by decide)); have hn595_1 : ad595.block ≠ gb593 := Kd.own_blk (Kd.R_ne HO591.out BK593.out (by decide)); have hn595_2 : ad595.block ≠ gb593 := Kd.own_blk (Kd.R_ne HO591.out BK593.out (by decide)); replace hx595_0 := (cell_far (p := ⟨gb593, 0, none⟩) (by first | (rw [add_block]; exact hn595_0) | (show (Addr.add _ _).block ≠ _; rw [add_block]; exact hn595_0) | exact hn595_0) (.int .i64 t585)).trans hx595_0; replace hx595_0 := (cell_far (p := ⟨gb593, 1, none⟩) (by first | (rw [add_block]; exact hn595_1) | (show (Addr.add _ _).block ≠ _; rw [add_block]; exact hn595_1) | exact hn595_1) (.slice Ao17 t586.length co17)).trans hx595_0; replace hx595_0 := (cell_far (p := ⟨gb593, 2, none⟩) (by first | (rw [add_block]; exact hn595_2) | (show (Addr.add _ _).block ≠ _; rw [add_block]; exact hn595_2) | exact hn595_2) (.slice (some ad595) t589.length co18)).trans hx595_0; clear hn595_0; clear hn595_1; clear hn595_2; replace p595 := eq_true p595; replace q595 := eq_true q595))
   go_ret2
   exact ⟨se, sbw⟩
  ·replace H := im H
   simp only [Option.some.injEq, Prod.mk.injEq] at H
   obtain ⟨rfl, rfl⟩ := H
   go_enter Try.func81, Try.ntmps81
   go_wp2_with (first | ((with_reducible refine gate_dst (N := 4) rfl ?_); (try (refine gate_guard (by rfl) ?_; dsimp only)); refine bx 4 #[.int .i64 a0_0, .int .i64 a0_1, .int .i64 a0_2, .slice A0_3 l0_3.length c0_3] 31 ?_; intro gb584 hg w19 hbox hb; have GW584 := bz w hg; have GE584 := bz w hg; replace HB := bs hb; have BK584 := Aside0.mk hbox; clear hb hbox hg; obtain ⟨hcz20_0, hcz20_1, hcz20_2, hcz20_3, hfz20_0, hfz20_1, hfz20_2, hfz20_3⟩ := cc4 BK584) | ((with_reducible refine gate_callee (f := 41) rfl ?_); refine gL (some 16) Try.func41 #[.agg #[.int .i64 a0_0, .int .i64 a0_1, .int .i64 a0_2, .slice A0_3 l0_3.length c0_3], .int .i64 a1, .int .i64 a2] ?_; (with_reducible refine (impl_TableIn.calls a0_0 a0_1 a0_2 _ _ l0_3 a1 a2 t585 t586 t589 true _ ?side1 ?side2 A5.out).mono ?_); (case side1 => exact cb HR0_3); (case side2 => exact HC0_3.out); rintro e w21 ⟨v587, v590, rfl, ho0, ho1, hb⟩; refine ⟨_, rfl, ?_⟩; have HO588 := Aside0.mk (Kd.R_lower ho0 (below_size (sbw))); have HO591 := Aside0.mk (Kd.R_lower ho1 (below_size (sbw))); replace BK584 := bb BK584 hb; replace HB := bsw hb; (try clear hb); (try clear hb2); (try clear hk); (try clear hi); (try clear ho0); (try clear ho1)) | ((with_reducible refine gate_dst (N := 10) rfl ?_); (try (refine gate_guard (by rfl) ?_; dsimp only)); refine bx 10 #[.int .i64 0, .slice none 0 0, .slice none 0 0] 55 ?_; intro gb593 hg w22 hbox hb; replace HO588 := Aside0.mk (Kd.R_below (sr HO588) hb); replace HO591 := Aside0.mk (Kd.R_below (sr HO591) hb); have GW593 := bzw w hg; have GE593 := bzw w hg; replace HB := bsw hb; have BK593 := Aside0.mk hbox; have NB584_593 := nl BK584 hg; have NB593_584 := ng BK584 hg; replace BK584 := bb BK584 hb; clear hb hbox hg; have hnb23 := NB593_584.out; have hnc23 := NB584_593.out; obtain ⟨hcz24_0, hcz24_1, hcz24_2, hfz24_0, hfz24_1, hfz24_2⟩ := cc3 BK593; obtain ⟨Ao25, co25, eo25⟩ := Kd.R_slice HO588.out; subst eo25; obtain ⟨Ao26, co26, eo26⟩ := Kd.R_slice HO591.out; subst eo26) | (go_at_call 77; (with_reducible refine (impl_isIndex.calls a3 (t589.length : Int) false _ A7.out).mono ?_); rintro e w' ⟨rfl, ⟨nd, rfl⟩⟩))
   go_ret2
   exact ⟨se, sbw⟩
 ·replace H := im H
  simp only [Option.some.injEq, Prod.mk.injEq] at H
  obtain ⟨rfl, rfl⟩ := H
  go_enter Try.func81, Try.ntmps81
  go_wp2_with (first | ((with_reducible refine gate_dst (N := 4) rfl ?_); (try (refine gate_guard (by rfl) ?_; dsimp only)); refine bx 4 #[.int .i64 a0_0, .int .i64 a0_1, .int .i64 a0_2, .slice A0_3 l0_3.length c0_3] 31 ?_; intro gb584 hg w27 hbox hb; have GW584 := bz w hg; have GE584 := bz w hg; replace HB := bs hb; have BK584 := Aside0.mk hbox; clear hb hbox hg; obtain ⟨hcz28_0, hcz28_1, hcz28_2, hcz28_3, hfz28_0, hfz28_1, hfz28_2, hfz28_3⟩ := cc4 BK584) | ((with_reducible refine gate_callee (f := 41) rfl ?_); refine gL (some 16) Try.func41 #[.agg #[.int .i64 a0_0, .int .i64 a0_1, .int .i64 a0_2, .slice A0_3 l0_3.length c0_3], .int .i64 a1, .int .i64 a2] ?_; (with_reducible refine (impl_TableIn.calls a0_0 a0_1 a0_2 _ _ l0_3 a1 a2 t585 t586 t589 false _ ?side1 ?side2 A5.out).mono ?_); (case side1 => exact cb HR0_3); (case side2 => exact HC0_3.out); rintro e w29 ⟨v587, v590, rfl, ho0, ho1, hb⟩; refine ⟨_, rfl, ?_⟩; have HO588 := Aside0.mk (Kd.R_lower ho0 (below_size (sbw))); have HO591 := Aside0.mk (Kd.R_lower ho1 (below_size (sbw))); replace BK584 := bb BK584 hb; replace HB := bsw hb; (try clear hb); (try clear hb2); (try clear hk); (try clear hi); (try clear ho0); (try clear ho1)) | ((with_reducible refine gate_dst (N := 10) rfl ?_); (try (refine gate_guard (by rfl) ?_; dsimp only)); refine bx 10 #[.int .i64 0, .slice none 0 0, .slice none 0 0] 55 ?_; intro gb593 hg w30 hbox hb; replace HO588 := Aside0.mk (Kd.R_below (sr HO588) hb); replace HO591 := Aside0.mk (Kd.R_below (sr HO591) hb); have GW593 := bzw w hg; have GE593 := bzw w hg; replace HB := bsw hb; have BK593 := Aside0.mk hbox; have NB584_593 := nl BK584 hg; have NB593_584 := ng BK584 hg; replace BK584 := bb BK584 hb; clear hb hbox hg; have hnb31 := NB593_584.out; have hnc31 := NB584_593.out; obtain ⟨hcz32_0, hcz32_1, hcz32_2, hfz32_0, hfz32_1, hfz32_2⟩ := cc3 BK593; obtain ⟨Ao33, co33, eo33⟩ := Kd.R_slice HO588.out; subst eo33; obtain ⟨Ao34, co34, eo34⟩ := Kd.R_slice HO591.out; subst eo34))
  go_ret2
  exact ⟨se, sbw⟩

/-! ### impl_MixOf: function 21 -/
def impl_MixOf.l0 : Nat → Int → List Int → List Int → Int → Int → Int → Int → Int → List (S105) → Option (List Int)
  | 0, _, _, _, _, _, _, _, _, _ => none
  | k + 1, x1, x7, x13, x14, x15, x597000, x597001, x597002, x597003 => if x15 < x14 then (if 0 ≤ x15 then (if x15 < (x13.length : Int) then ((impl_nextIn.f x597000 x597001 x597002 x597003 (rd x13 x15) x1 x15).bind fun bt601 => (if x7.length < 17592186044416 then (impl_MixOf.l0 k x1 (x7 ++ [bt601.1]) x13 x14 (wrap64 (x15 + 1)) x597000 x597001 x597002 x597003) else (none))) else (none)) else (none)) else (some x7)
def impl_MixOf.f (k : Nat) (a0_0 : Int) (a0_1 : Int) (a0_2 : Int) (l0_3 : List (S105)) (a1 : Int) (l2 : List Int) : Option (List Int) := impl_MixOf.l0 k a1 (([] : List Int)) l2 (l2.length : Int) 0 a0_0 a0_1 a0_2 l0_3
theorem impl_MixOf.mono_l : ∀ k, (∀ y0 y1 y2 y3 y4 y5 y6 y7 y8, LeO (impl_MixOf.l0 k y0 y1 y2 y3 y4 y5 y6 y7 y8) (impl_MixOf.l0 (k + 1) y0 y1 y2 y3 y4 y5 y6 y7 y8))
  | 0 => fun _ _ _ _ _ _ _ _ _ r h => by simp [impl_MixOf.l0] at h
  | k + 1 => by
    have ih0 := impl_MixOf.mono_l k
    · intro y0 y1 y2 y3 y4 y5 y6 y7 y8
      unfold impl_MixOf.l0
      exact mo
theorem impl_MixOf.mono : ∀ a0 a1 a2 a3 a4 a5 k, LeO (impl_MixOf.f k a0 a1 a2 a3 a4 a5) (impl_MixOf.f (k + 1) a0 a1 a2 a3 a4 a5) := by
  intro a0 a1 a2 a3 a4 a5 k
  have ih0 := impl_MixOf.mono_l k
  unfold impl_MixOf.f
  exact mo
set_option maxHeartbeats 8000000 in
set_option maxRecDepth 100000 in
theorem impl_MixOf.calls (k : Nat) (a0_0 : Int) (a0_1 : Int) (a0_2 : Int) (A0_3 : Option Addr) (c0_3 : Nat) (l0_3 : List (S105)) (a1 : Int) (A2 : Option Addr) (c2 : Nat) (l2 : List Int) (r : List Int) (w : World) (hr0_3 : Kd.C k105 w A0_3 l0_3.length l0_3) (hc0_3 : l0_3.length ≤ c0_3) (hr2 : Kd.C (Kd.int .i64) w A2 l2.length l2) (hc2 : l2.length ≤ c2) (h : impl_MixOf.f k a0_0 a0_1 a0_2 l0_3 a1 l2 = some r) :
    Calls Try.prog 21 #[.agg #[.int .i64 a0_0, .int .i64 a0_1, .int .i64 a0_2, .slice A0_3 l0_3.length c0_3], .int .i64 a1, .slice A2 l2.length c2] w fun e w' => ∃ v0_ : Value, e = .returned (v0_) ∧ Kd.R (Kd.int .i64) 3 w' w.heap.size (fun _ => True) v0_ r ∧ Below w.heap.size w w' := by
 have hu31 := Try.underlying31
 have HR0_3 := Aside0.mk hr0_3
 have HC0_3 := Aside0.mk hc0_3
 clear hr0_3 hc0_3
 have HR2 := Aside0.mk hr2
 have HC2 := Aside0.mk hc2
 clear hr2 hc2
 have HB := Aside0.mk (Below.refl w.heap.size w)
 have H : (impl_MixOf.l0 k a1 (([] : List Int)) l2 (l2.length : Int) 0 a0_0 a0_1 a0_2 l0_3) = some r := h
 clear h
 obtain ⟨y597, hy597⟩ : ∃ y_ : List Int, y_ = (([] : List Int)) := ⟨_, rfl⟩
 replace H : (impl_MixOf.l0 k a1 y597 l2 (l2.length : Int) 0 a0_0 a0_1 a0_2 l0_3) = some r := by first | (rw [hy597]; with_reducible exact H) | (have H2_ := (Option.bind_some _ _).symm.trans H; rw [hy597]; with_reducible exact H2_) | (have H2_ := (Option.bind_some _ _).symm.trans H; with_reducible exact H2_) | with_reducible exact H | (rw [hy597]; exact H) | exact H
 have Ny597 := Aside0.mk hy597
 clear hy597
 have H' := Aside0.mk H
 clear H
 go_enter Try.func21, Try.ntmps21
 go_wp2_with (first | ((with_reducible refine gate_dst (N := 3) rfl ?_); refine bx 3 #[.int .i64 a0_0, .int .i64 a0_1, .int .i64 a0_2, .slice A0_3 l0_3.length c0_3] 31 ?_; intro gb596 hg w4 hbox hb; have GW596 := bz w hg; have GE596 := bz w hg; replace HB := bs hb; have BK596 := Aside0.mk hbox; clear hb hbox hg) | ((with_reducible refine gate_dst (N := 12) rfl ?_); refine Kd.R_lit (Kd.int .i64) _ 3 ?hg (N := 12) ?hd (xs := ([] : List Int)) (inner := []) (ok := fun _ => True) (okp := fun _ => True) ?hr ?hp (fun _ hk => hk) trivial (Below.refl _ _) (Nat.le_refl _) (by simp) ?_; (case hd => rfl); (case hg => rfl); (case hr => first | (go_simp; done) | (go_simp; rfl)); (case hp => exact (Reps.none _ _)); intro v598 w5 ho6 hb hg_ hnew_; clear hg_ hnew_; (first | rw [← Ny597.out] at ho6 | (simp only [Int.reduceToNat] at ho6; rw [← Ny597.out] at ho6)); have HO599 := Aside0.mk (Kd.R_lower ho6 (below_size (sbw))); replace BK596 := bb BK596 hb; replace HB := bsw hb; clear hb ho6))
 go_loopg [7, 15] k (fun kq v7 v15 w' => ∃ (x7_1 : List Int) (x15_1 : Int), v15 = .int .i64 x15_1 ∧ Aside0 (impl_MixOf.l0 kq a1 x7_1 l2 (l2.length : Int) x15_1 a0_0 a0_1 a0_2 l0_3 = some r) ∧ Aside0 (kq ≤ k) ∧ Aside0 (Kd.R (Kd.int .i64) 3 w' w.heap.size (fun _ => True) v7 x7_1) ∧ Aside0 (w'.heap[gb596]? = some (.cells #[.int .i64 a0_0, .int .i64 a0_1, .int .i64 a0_2, (.slice A0_3 l0_3.length c0_3)] 31 (0, 0))) ∧ Aside0 (Below w.heap.size w w'))
 case atStart => exact ⟨(y597), (0), sc, H', kk0, ⟨sr HO599⟩, ⟨sk BK596⟩, ⟨sbw⟩⟩
 case round =>
  clear H'
  obtain ⟨x7_1, x15_1, rfl, HA, HK1, HO_7, BK596, HB⟩ := hrel
  cases gk with
  | zero => exact absurd HA.out (by simp [impl_MixOf.l0])
  | succ k1 =>
   have H := HA.out
   clear HA
   simp only [impl_MixOf.l0] at H
   obtain ⟨c7, H⟩ | ⟨c7, H⟩ := ie_ H
   ·have c7b0 := decide_eq_true c7
    clear c7
    obtain ⟨c8b0, H⟩ := id_ H
    obtain ⟨c9b0, H⟩ := id_ H
    obtain ⟨⟨t601, t602⟩, A10, H⟩ := bnd H
    replace H : (if x7_1.length < 17592186044416 then (impl_MixOf.l0 k1 a1 (x7_1 ++ [t601]) l2 (l2.length : Int) (wrap64 (x15_1 + 1)) a0_0 a0_1 a0_2 l0_3) else (none)) = some r := H
    obtain ⟨LMc11, H⟩ := il_ H
    obtain ⟨y603, hy603⟩ : ∃ y_ : List Int, y_ = (x7_1 ++ [t601]) := ⟨_, rfl⟩
    replace H : (impl_MixOf.l0 k1 a1 y603 l2 (l2.length : Int) (wrap64 (x15_1 + 1)) a0_0 a0_1 a0_2 l0_3) = some r := by first | (rw [hy603]; with_reducible exact H) | (have H2_ := (Option.bind_some _ _).symm.trans H; rw [hy603]; with_reducible exact H2_) | (have H2_ := (Option.bind_some _ _).symm.trans H; with_reducible exact H2_) | with_reducible exact H | (rw [hy603]; exact H) | exact H
    have Ny603 := Aside0.mk hy603
    clear hy603
    have H' := Aside0.mk H
    clear H
    obtain ⟨p600, q600, ad600, e600, _, hx600_0⟩ := at_i HR2 HB x15_1
    cases e600
    obtain ⟨hcz12_0, hcz12_1, hcz12_2, hcz12_3, hfz12_0, hfz12_1, hfz12_2, hfz12_3⟩ := cc4 BK596
    go_wp2_with (first | ((with_reducible refine gate_callee (f := 81) rfl ?_); refine gL (some 25) Try.func81 #[.agg #[.int .i64 a0_0, .int .i64 a0_1, .int .i64 a0_2, .slice A0_3 l0_3.length c0_3], .int .i64 (rd l2 x15_1), .int .i64 a1, .int .i64 x15_1] ?_; (with_reducible refine (impl_nextIn.calls a0_0 a0_1 a0_2 _ _ l0_3 (rd l2 x15_1) a1 x15_1 t601 t602 _ ?side1 ?side2 A10.out).mono ?_); (case side1 => exact cb HR0_3); (case side2 => exact HC0_3.out); rintro e w13 ⟨rfl, hb⟩; refine ⟨_, rfl, ?_⟩; replace HO_7 := Aside0.mk (Kd.R_below (sr HO_7) hb); replace BK596 := bb BK596 hb; replace HB := bsw hb; (try clear hb); (try clear hb2); (try clear hk); (try clear hi)) | ((with_reducible refine gate_builtin (b := .append) (xs := #[.tmp 28, .tmp 30]) rfl ?_); at_builtin; refine Kd.R_append (Kd.int .i64) (w0 := w) w.heap.size rfl (.tmp 28) (.tmp 30) 28 3 (.int .i64 0) 8 rfl Try.underlying28 info3 rfl (by decide) (by omega) u7 x7_1 t601 [.int .i64 t601] (fun _ => True) (fun _ => False) rfl rfl ?aP (fun _ hk => hk.elim) ?aF ?aO ?aB ?aS ?aL ?_; (case aP => exact rfl); (case aB => exact (sbw)); (case aF => exact (fun _ _ => trivial)); (case aO => exact (sr HO_7)); (case aS => exact (below_size (sbw))); (case aL => have := LMc11.out; omega); intro v604 w14 ho hb hg hat; rw [← Ny603.out] at ho; replace BK596 := Aside0.mk (blk_grown (g := gb596) (o := .cells #[.int .i64 a0_0, .int .i64 a0_1, .int .i64 a0_2, .slice A0_3 l0_3.length c0_3] 31 (0, 0)) (sk BK596) hg (Kd.R_ne HO_7.out BK596.out (by decide))); replace HB := Aside0.mk hb; have HO605 := Aside0.mk ho; clear HO_7; clear ho hb hg hat))
    go_roundg k1
    case measure => have := HK1.out; omega
    case rel => exact ⟨(y603), (wrap64 (x15_1 + 1)), sc, H', kk1, ⟨sr HO605⟩, ⟨sk BK596⟩, ⟨sbw⟩⟩
   ·have c7b0 := decide_eq_false c7
    clear c7
    obtain rfl := Option.some.inj H
    go_wp2
    go_ret
    exact ⟨_, se, sr HO_7, sbw⟩

end Go.Proofs.Ytiihaabhjphaeaa.QFnMixtures
