/- What the Go functions of the law FnExactMixOf come to, as Lean functions, and that they do: by a program of the session, out of the kit's printer. Conditions: none. (squeezed). -/
import Derived.Test.YtadpbpocbfjboaaSq
import Derived.Test.YtadpbpocbfjboaaQFnExactMixOfx0
namespace Go.Proofs.Ytadpbpocbfjboaa.QFnExactMixOf
open Go.RowKit Go.Proofs.YtadpbpocbfjboaaW.PrintWords Go.Proofs.YtadpbpocbfjboaaW.PrintLast Go.Proofs.YtadpbpocbfjboaaW.PrintMore Go.Proofs.Ytadpbpocbfjboaa.Open Go.Proofs.Ytadpbpocbfjboaa.Sq
attribute [local go_sem] max2_int min2_int max_two min_two max_three min_three max_four min_four   -- for this text's walks alone
attribute [local go_sem] isSome_set
set_option linter.unusedVariables false
set_option linter.unusedSimpArgs false

/-! ### impl_isIndex: function 57 -/
def impl_isIndex.f (a0 : Int) (a1 : Int) : Option (Bool) := if a0 ≥ 0 then (some (decide (a0 < a1))) else (some false)
set_option maxHeartbeats 8000000 in
set_option maxRecDepth 100000 in
theorem impl_isIndex.calls (a0 : Int) (a1 : Int) (r : Bool) (w : World) (h : impl_isIndex.f a0 a1 = some r) :
    Calls Try.prog 57 #[.int .i64 a0, .int .i64 a1] w fun e w' => e = .returned (.bool r) ∧ Drawn0 w w' := by
 have H : (if a0 ≥ 0 then (some (decide (a0 < a1))) else (some false)) = some r := h
 clear h
 obtain ⟨c3, H⟩ | ⟨c3, H⟩ := ie_ H
 ·have c3b0 := decide_eq_true c3
  clear c3
  obtain rfl := Option.some.inj H
  go_enter Try.func57, Try.ntmps57
  go_wp2
  go_ret
  exact ⟨sc, sd⟩
 ·have c3b0 := decide_eq_false c3
  clear c3
  obtain rfl := Option.some.inj H
  go_enter Try.func57, Try.ntmps57
  go_wp2
  go_ret
  exact ⟨sc, sd⟩

/-! ### slices_Clone_int_int: function 93 -/
def slices_Clone_int_int.f (l0 : List Int) : Option (List Int) := if l0.length < 17592186044416 then some l0 else none
set_option maxHeartbeats 8000000 in
set_option maxRecDepth 100000 in
theorem slices_Clone_int_int.calls (A0 : Option Addr) (c0 : Nat) (l0 : List Int) (r : List Int) (w : World) (hr0 : Kd.C (Kd.int .i64) w A0 l0.length l0) (hc0 : l0.length ≤ c0) (h : slices_Clone_int_int.f l0 = some r) :
    Calls Try.prog 93 #[.slice A0 l0.length c0] w fun e w' => ∃ v0_ : Value, e = .returned (v0_) ∧ Kd.R (Kd.int .i64) 3 w' w.heap.size (fun _ => True) v0_ r ∧ Below w.heap.size w w' := by
 have hu := Try.underlying37
 unfold slices_Clone_int_int.f at h
 by_cases hm : l0.length < 17592186044416
 rotate_left
 ·rw [if_neg hm] at h
  cases h
 rw [if_pos hm] at h
 obtain rfl := Option.some.inj h
 cases A0 with
 | none =>
  have hz : l0 = [] := by
   obtain ⟨_, _, h3⟩ := hr0
   refine List.length_eq_zero_iff.mp (Classical.byContradiction fun hne => ?_)
   obtain ⟨ad, e, _⟩ := h3 (by omega)
   cases e
  subst hz
  have he := Go.Lib.run_eql_slice_nil (P := Try.prog) w 37 3 none 0 c0 0 0 hu
  go_enter Try.func93, Try.ntmps93
  go_wp2
  go_ret
  exact ⟨_, rfl, Kd.R_nil _ _ _ _ _, Below.refl _ _⟩
 | some ad =>
  have he := Go.Lib.run_eql_slice_nil (P := Try.prog) w 37 3 (some ad) l0.length c0 0 0 hu
  go_enter Try.func93, Try.ntmps93
  go_wp2_with (first | ((with_reducible refine gate_dst (N := 5) rfl ?_); refine Kd.R_lit (Kd.int .i64) _ 3 ?hg (N := 5) ?hd (xs := ([] : List Int)) (inner := []) (ok := fun _ => True) (okp := fun _ => True) ?hr ?hp (fun _ hk => hk) trivial (Below.refl _ _) (Nat.le_refl _) (by simp) ?_; (case hd => rfl); (case hg => rfl); (case hr => first | (go_simp; done) | (go_simp; rfl)); (case hp => exact (Reps.none _ _)); intro v5 w5 ho5 hb5 hg_ hnew_; clear hg_ hnew_) | ((with_reducible refine gate_dst (N := 7) rfl ?_); refine Kd.R_append_rows (Kd.int .i64) (w0 := w) w.heap.size rfl (.tmp 5) (.tmp 6) 37 3 (.int .i64 0) 8 rfl Try.underlying37 info3 rfl (by decide) (by omega) v5 [] l0 _ _ _ (fun _ => True) (fun _ => False) rfl rfl ?aO ?aR (fun _ _ h => h) (fun _ h => h.elim) ?aF ?aB ?aS ?aL ?_; (case aR => exact Kd.C_below hr0 hb5); (case aB => exact hb5); (case aF => exact (fun _ _ => trivial)); (case aO => exact ho5); (case aS => exact below_size hb5); (case aL => simp only [List.length_nil]; omega); intro v7 w7 ho7 hb7 hg7 hat7))
  go_ret
  rw [List.nil_append] at ho7
  exact ⟨v7, rfl, ho7, hb7⟩

/-! ### impl_cloneTable: function 70 -/
def impl_cloneTable.f (a0_0 : Int) (l0_1 : List Int) (l0_2 : List Int) : Option (Int × List Int × List Int) := (slices_Clone_int_int.f l0_1).bind fun t268 => ((slices_Clone_int_int.f l0_2).bind fun t271 => (some (a0_0, t268, t271)))
def impl_cloneTable.T1 : Bool × List (List Nat × List Nat) := (true, [([], []), ([0], [0]), ([], []), ([2], [2]), ([3], [3]), ([], []), ([5], [5]), ([6, 4], [6]), ([1, 4, 7], [1, 4, 7]), ([8, 7, 0, 1, 2, 3, 4, 5, 6, 7, 8], [8])])
def impl_cloneTable.B1 : List Nat := [0, 1, 0, 4, 12, 0, 32, 124, 255, 511]
theorem impl_cloneTable.tab1 : rtab .any (opsOf Try.f70 1) = impl_cloneTable.T1 := by kernel_rfl
theorem impl_cloneTable.bits1 : waitsOk impl_cloneTable.T1.2 impl_cloneTable.B1 = true := by kernel_rfl
set_option maxHeartbeats 8000000 in
set_option maxRecDepth 100000 in
theorem impl_cloneTable.calls (a0_0 : Int) (A0_1 : Option Addr) (c0_1 : Nat) (l0_1 : List Int) (A0_2 : Option Addr) (c0_2 : Nat) (l0_2 : List Int) (r1 : Int) (r2 : List Int) (r3 : List Int) (w : World) (hr0_1 : Kd.C (Kd.int .i64) w A0_1 l0_1.length l0_1) (hc0_1 : l0_1.length ≤ c0_1) (hr0_2 : Kd.C (Kd.int .i64) w A0_2 l0_2.length l0_2) (hc0_2 : l0_2.length ≤ c0_2) (h : impl_cloneTable.f a0_0 l0_1 l0_2 = some (r1, r2, r3)) :
    Calls Try.prog 70 #[.agg #[.int .i64 a0_0, .slice A0_1 l0_1.length c0_1, .slice A0_2 l0_2.length c0_2]] w fun e w' => ∃ v1_ v2_ : Value, e = .returned (.agg #[.int .i64 r1, v1_, v2_]) ∧ Kd.R (Kd.int .i64) 3 w' w.heap.size (fun k_ => some k_ ≠ (v2_ : Value).ownBlock) v1_ r2 ∧ Kd.R (Kd.int .i64) 3 w' w.heap.size (fun k_ => some k_ ≠ (v1_ : Value).ownBlock) v2_ r3 ∧ Below w.heap.size w w' := by
 have hu44 := Try.underlying44
 have HR0_1 := Aside0.mk hr0_1
 have HC0_1 := Aside0.mk hc0_1
 clear hr0_1 hc0_1
 have HR0_2 := Aside0.mk hr0_2
 have HC0_2 := Aside0.mk hc0_2
 clear hr0_2 hc0_2
 have HB := Aside0.mk (Below.refl w.heap.size w)
 have H : ((slices_Clone_int_int.f l0_1).bind fun t268 => ((slices_Clone_int_int.f l0_2).bind fun t271 => (some (a0_0, t268, t271)))) = some (r1, r2, r3) := h
 clear h
 obtain ⟨t268, A2, H⟩ := bnd H
 obtain ⟨t271, A3, H⟩ := bnd H
 simp only [Option.some.injEq, Prod.mk.injEq] at H
 obtain ⟨rfl, rfl, rfl⟩ := H
 go_enter Try.func70, Try.ntmps70
 try go_wp2_with (first | ((with_reducible refine gate_dst (N := 1) rfl ?_); refine bx 1 #[.int .i64 a0_0, .slice A0_1 l0_1.length c0_1, .slice A0_2 l0_2.length c0_2] 44 ?_; intro gb266 hg w4 hbox hb; have BK266 := Aside0.mk hbox; have GW266 := bz w hg; have GE266 := bz w hg; replace HB := bs hb; clear hb hbox hg) | ((with_reducible refine gate_dst (N := 2) rfl ?_); refine bx 2 #[.int .i64 0, .slice none 0 0, .slice none 0 0] 44 ?_; intro gb267 hg w5 hbox hb; have BK267 := Aside0.mk hbox; have GW267 := bzw w hg; have GE267 := bzw w hg; replace HB := bsw hb; have NB266_267 := nl BK266 hg; have NB267_266 := ng BK266 hg; replace BK266 := bb BK266 hb; clear hb hbox hg))
 replace BK266 := Aside0.mk (blk_drew BK266.out)
 replace BK267 := Aside0.mk (blk_drew BK267.out)
 replace HB := Aside0.mk (below_drew1 HB.out)
 refine start_ (n := 10) (S := fun w' => w'.cell? ⟨gb266, 0, none⟩ = some (.int .i64 a0_0) ∧ w'.cell? ⟨gb266, 1, none⟩ = some (.slice A0_1 l0_1.length c0_1) ∧ w'.cell? ⟨gb266, 2, none⟩ = some (.slice A0_2 l0_2.length c0_2)) (ds := []) #[false, false, false, false, false, false, false, false, false, false] (by kernel_rfl) rfl rfl ⟨bc0 BK266, bc1 BK266, bc2 BK266⟩ (fun hHeld => ?_); refine with_tabW impl_cloneTable.tab1 impl_cloneTable.bits1 (fun HT_ HW_ => ?_)
 generalize w5.drew = w6 at BK266 BK267 HB hHeld ⊢
 refine put 0 3 #[true, false, false, false, false, false, false, false, false, false] HT_ ?_
 refine put 2 5 #[true, false, true, false, false, false, false, false, false, false] HT_ ?_
 refine put 5 8 #[true, false, true, false, false, true, false, false, false, false] HT_ ?_
 refine tat3 1 4 #[true, true, true, false, false, true, false, false, false, false] HT_ HW_ hHeld ?_
 refine tat3 3 6 #[true, true, true, true, false, true, false, false, false, false] HT_ HW_ hHeld ?_
 refine tat3 6 9 #[true, true, true, true, false, true, true, false, false, false] HT_ HW_ hHeld ?_
 refine one_ (i := 4) (N := some 7) #[true, true, true, true, true, true, true, false, false, false] rfl rfl (one_of HT_.out (by kernel_rfl)) (by decide) (fun K hK => ?_)
 refine goes_ Try.func93 (by kernel_rfl) rfl #[.slice A0_1 l0_1.length c0_1] (by rfl) rfl rfl sl ?_
 with_reducible refine (slices_Clone_int_int.calls _ _ l0_1 t268 _ ?side1 ?side2 A2.out).mono ?_
 (case side1 => exact cb HR0_1)
 (case side2 => exact HC0_1.out)
 rintro e w7 ⟨v269, rfl, ho0, hb⟩
 refine ⟨_, rfl, ?_⟩
 have HO270 := Aside0.mk (Kd.R_lower ho0 (below_size (sbw)))
 replace BK266 := bb BK266 hb
 replace BK267 := bb BK267 hb
 replace HB := bsw hb
 (try clear hb)
 (try clear hb2)
 (try clear hk)
 (try clear hi)
 (try clear ho0)
 refine hK.out _ _ ⟨bc0 BK266, bc1 BK266, bc2 BK266⟩ (fun hHeld => ?_)
 clear hK K
 refine norm_ (a' := ?_) ?_ ?_
 rotate_left
 ·show Act.put _ (some 7) _ = _
  simp only [Act.put, List.setIfInBounds_toArray, List.set_cons_zero, List.set_cons_succ, i64_w, i32_w]
  rfl
 refine one_ (i := 7) (N := some 10) #[true, true, true, true, true, true, true, true, false, false] rfl rfl (one_of HT_.out (by kernel_rfl)) (by decide) (fun K hK => ?_)
 refine goes_ Try.func93 (by kernel_rfl) rfl #[.slice A0_2 l0_2.length c0_2] (by rfl) rfl rfl sl ?_
 with_reducible refine (slices_Clone_int_int.calls _ _ l0_2 t271 _ ?side1 ?side2 A3.out).mono ?_
 (case side1 => exact cb HR0_2)
 (case side2 => exact HC0_2.out)
 rintro e w8 ⟨v272, rfl, ho0, hb⟩
 refine ⟨_, rfl, ?_⟩
 have HO273 := Aside0.mk (Kd.R_lower (Kd.R_new' ho0 (Kd.R_lt (sr HO270))) (below_size (sbw)))
 replace HO270 := Aside0.mk (Kd.R_elder' (sr HO270) (Kd.R_base ho0) hb)
 replace BK266 := bb BK266 hb
 replace BK267 := bb BK267 hb
 replace HB := bsw hb
 (try clear hb)
 (try clear hb2)
 (try clear hk)
 (try clear hi)
 (try clear ho0)
 obtain ⟨Ao9, co9, eo9⟩ := Kd.R_slice HO273.out
 (first | subst eo9 | (injection eo9 with f1_ f2_ f3_; have f4_ := f1_.symm; have f5_ := f3_.symm; clear f1_ f2_ f3_; subst f4_; subst f5_))
 obtain ⟨Ao10, co10, eo10⟩ := Kd.R_slice HO270.out
 (first | subst eo10 | (injection eo10 with f1_ f2_ f3_; have f4_ := f1_.symm; have f5_ := f3_.symm; clear f1_ f2_ f3_; subst f4_; subst f5_))
 refine hK.out _ _ ⟨bc0 BK266, bc1 BK266, bc2 BK266⟩ (fun hHeld => ?_)
 clear hK K
 refine norm_ (a' := ?_) ?_ ?_
 rotate_left
 ·show Act.put _ (some 10) _ = _
  simp only [Act.put, List.setIfInBounds_toArray, List.set_cons_zero, List.set_cons_succ, i64_w, i32_w]
  rfl
 refine put 8 11 #[true, true, true, true, true, true, true, true, true, false] HT_ ?_
 refine one_ (i := 9) (N := none) #[true, true, true, true, true, true, true, true, true, true] rfl rfl (one_of HT_.out (by kernel_rfl)) (by decide) (fun K hK => ?_)
 obtain ⟨hs11, hfs11⟩ := cc1 BK267
 have hns11_0 := NB266_267.out
 have hms11_0 := NB267_266.out
 have hs12 := bc1 BK267
 have hfs12 := bf BK267 1
 have hns12_0 := NB266_267.out
 have hms12_0 := NB267_266.out
 have hs13 := bc2 BK267
 have hfs13 := bf BK267 2
 have hns13_0 := NB266_267.out
 have hms13_0 := NB267_266.out
 refine skip_ (w1 := ?_) (by rfl) rfl ?_ ?_
 rotate_left
 ·go_simp
  rfl
 refine hK.out _ _ ⟨((cell_far (p := ⟨gb267, _, none⟩) NB266_267.out _).trans (((cell_far (p := ⟨gb267, _, none⟩) NB266_267.out _).trans (((cell_far (p := ⟨gb267, _, none⟩) NB266_267.out _).trans (hHeld.1)))))), ((cell_far (p := ⟨gb267, _, none⟩) NB266_267.out _).trans (((cell_far (p := ⟨gb267, _, none⟩) NB266_267.out _).trans (((cell_far (p := ⟨gb267, _, none⟩) NB266_267.out _).trans (hHeld.2.1)))))), ((cell_far (p := ⟨gb267, _, none⟩) NB266_267.out _).trans (((cell_far (p := ⟨gb267, _, none⟩) NB266_267.out _).trans (((cell_far (p := ⟨gb267, _, none⟩) NB266_267.out _).trans (hHeld.2.2))))))⟩ (fun hHeld => ?_)
 clear hK K
 refine done_ (done_of HT_.out (by kernel_rfl)) ?_
 try go_wp2
 refine bodyPost_ret (results_cell_row rfl _ _ gb267 44 #[.int .i64 a0_0, .slice Ao10 t268.length co10, .slice Ao9 t271.length co9] (0, 0) _ rfl (sp BK267) Try.underlying44 rfl (by kernel_rfl)) rfl ?_
 exact ⟨_, _, se, by (with_reducible repeat (first | apply Kd.R_alloc | apply Kd.R_drewN | apply Kd.R_drew)); exact Kd.R_mono (Kd.R_far (p := ⟨gb267, 2, none⟩) (Kd.R_far (p := ⟨gb267, 1, none⟩) (Kd.R_far (p := ⟨gb267, 0, none⟩) (Kd.R_types HO270.out BK267.out (by decide)) (fun _ hk => hk.2) (.int .i64 a0_0)) (fun _ hk => hk.2) (.slice Ao10 t268.length co10)) (fun _ hk => hk.2) (.slice Ao9 t271.length co9)) (fun _ hk => hk.1.2), by (with_reducible repeat (first | apply Kd.R_alloc | apply Kd.R_drewN | apply Kd.R_drew)); exact Kd.R_mono (Kd.R_far (p := ⟨gb267, 2, none⟩) (Kd.R_far (p := ⟨gb267, 1, none⟩) (Kd.R_far (p := ⟨gb267, 0, none⟩) (Kd.R_types HO273.out BK267.out (by decide)) (fun _ hk => hk.2) (.int .i64 a0_0)) (fun _ hk => hk.2) (.slice Ao10 t268.length co10)) (fun _ hk => hk.2) (.slice Ao9 t271.length co9)) (fun _ hk => hk.1.2), sbw⟩

/-! ### impl_TableIn: function 35 -/
def impl_TableIn.f (a0_0 : Int) (a0_1 : Int) (a0_2 : Int) (l0_3 : List (S69)) (a1 : Int) (a2 : Int) : Option (Int × List Int × List Int × Bool) := (impl_isIndex.f a1 (l0_3.length : Int)).bind fun t276 => (if t276 = true then (if 0 ≤ a1 then (if a1 < (l0_3.length : Int) then ((impl_isIndex.f a2 (((rd_T69 l0_3 a1).f2).length : Int)).bind fun t278 => (if t278 = true then (if 0 ≤ a2 then (if a2 < (((rd_T69 l0_3 a1).f2).length : Int) then ((impl_cloneTable.f ((rd_T44 ((rd_T69 l0_3 a1).f2) a2).f0) ((rd_T44 ((rd_T69 l0_3 a1).f2) a2).f1) ((rd_T44 ((rd_T69 l0_3 a1).f2) a2).f2)).bind fun bt281 => (some (bt281.1, bt281.2.1, bt281.2.2, true))) else (none)) else (none)) else (some (0, ([] : List Int), ([] : List Int), false)))) else (none)) else (none)) else (some (0, ([] : List Int), ([] : List Int), false)))
set_option maxHeartbeats 8000000 in
set_option maxRecDepth 100000 in
theorem impl_TableIn.calls (a0_0 : Int) (a0_1 : Int) (a0_2 : Int) (A0_3 : Option Addr) (c0_3 : Nat) (l0_3 : List (S69)) (a1 : Int) (a2 : Int) (r1 : Int) (r2 : List Int) (r3 : List Int) (r4 : Bool) (w : World) (hr0_3 : Kd.C k69 w A0_3 l0_3.length l0_3) (hc0_3 : l0_3.length ≤ c0_3) (h : impl_TableIn.f a0_0 a0_1 a0_2 l0_3 a1 a2 = some (r1, r2, r3, r4)) :
    Calls Try.prog 35 #[.agg #[.int .i64 a0_0, .int .i64 a0_1, .int .i64 a0_2, .slice A0_3 l0_3.length c0_3], .int .i64 a1, .int .i64 a2] w fun e w' => ∃ v1_ v2_ : Value, e = .returned (.tuple #[.agg #[.int .i64 r1, v1_, v2_], .bool r4]) ∧ Kd.R (Kd.int .i64) 3 w' w.heap.size (fun k_ => some k_ ≠ (v2_ : Value).ownBlock) v1_ r2 ∧ Kd.R (Kd.int .i64) 3 w' w.heap.size (fun k_ => some k_ ≠ (v1_ : Value).ownBlock) v2_ r3 ∧ Below w.heap.size w w' := by
 have hu29 := Try.underlying29
 have hu44 := Try.underlying44
 have HR0_3 := Aside0.mk hr0_3
 have HC0_3 := Aside0.mk hc0_3
 clear hr0_3 hc0_3
 have HB := Aside0.mk (Below.refl w.heap.size w)
 have H : ((impl_isIndex.f a1 (l0_3.length : Int)).bind fun t276 => (if t276 = true then (if 0 ≤ a1 then (if a1 < (l0_3.length : Int) then ((impl_isIndex.f a2 (((rd_T69 l0_3 a1).f2).length : Int)).bind fun t278 => (if t278 = true then (if 0 ≤ a2 then (if a2 < (((rd_T69 l0_3 a1).f2).length : Int) then ((impl_cloneTable.f ((rd_T44 ((rd_T69 l0_3 a1).f2) a2).f0) ((rd_T44 ((rd_T69 l0_3 a1).f2) a2).f1) ((rd_T44 ((rd_T69 l0_3 a1).f2) a2).f2)).bind fun bt281 => (some (bt281.1, bt281.2.1, bt281.2.2, true))) else (none)) else (none)) else (some (0, ([] : List Int), ([] : List Int), false)))) else (none)) else (none)) else (some (0, ([] : List Int), ([] : List Int), false)))) = some (r1, r2, r3, r4) := h
 clear h
 obtain ⟨t276, A4, H⟩ := bnd H
 obtain rfl | rfl := tt t276
 ·replace H := ip H
  obtain ⟨c6b0, H⟩ := id_ H
  obtain ⟨c7b0, H⟩ := id_ H
  obtain ⟨t278, A8, H⟩ := bnd H
  obtain rfl | rfl := tt t278
  ·replace H := ip H
   obtain ⟨c10b0, H⟩ := id_ H
   obtain ⟨c11b0, H⟩ := id_ H
   obtain ⟨⟨t281, t282, t285⟩, A12, H⟩ := bnd H
   replace H : (some (t281, t282, t285, true)) = some (r1, r2, r3, r4) := H
   simp only [Option.some.injEq, Prod.mk.injEq] at H
   obtain ⟨rfl, rfl, rfl, rfl⟩ := H
   go_enter Try.func35, Try.ntmps35
   go_wp2_with (first | ((with_reducible refine gate_dst (N := 3) rfl ?_); (try (refine gate_guard (by rfl) ?_; dsimp only)); refine bx 3 #[.int .i64 a0_0, .int .i64 a0_1, .int .i64 a0_2, .slice A0_3 l0_3.length c0_3] 29 ?_; intro gb274 hg w13 hbox hb; have BK274 := Aside0.mk hbox; have GW274 := bz w hg; have GE274 := bz w hg; replace HB := bs hb; clear hb hbox hg) | ((with_reducible refine gate_dst (N := 6) rfl ?_); (try (refine gate_guard (by rfl) ?_; dsimp only)); refine bx 6 #[.int .i64 0, .slice none 0 0, .slice none 0 0] 44 ?_; intro gb275 hg w14 hbox hb; have BK275 := Aside0.mk hbox; have GW275 := bzw w hg; have GE275 := bzw w hg; replace HB := bsw hb; have NB274_275 := nl BK274 hg; have NB275_274 := ng BK274 hg; replace BK274 := bb BK274 hb; clear hb hbox hg; have hnb15 := NB274_275.out; have hnc15 := NB275_274.out; obtain ⟨hcz16_0, hcz16_1, hcz16_2, hcz16_3, hfz16_0, hfz16_1, hfz16_2, hfz16_3⟩ := cc4 BK274) | ((with_reducible refine gate_callee (f := 57) rfl ?_); refine gL (some 12) Try.func57 #[.int .i64 a1, .int .i64 (l0_3.length : Int)] ?_; (with_reducible refine (impl_isIndex.calls a1 (l0_3.length : Int) true _ A4.out).mono ?_); rintro e w' ⟨rfl, ⟨nd, rfl⟩⟩; refine ⟨_, rfl, ?_⟩; obtain ⟨p277, q277, ad277, A277_2, c277_2, A277_3, c277_3, e277, _, _, _, _, hx277_0, hx277_1, hx277_2, hx277_3, HC277_2, HR277_2, HC277_3, HR277_3⟩ := aT_T69 HR0_3 HB a1; cases e277) | (go_at_call 57; (with_reducible refine (impl_isIndex.calls a2 (((rd_T69 l0_3 a1).f2).length : Int) true _ A8.out).mono ?_); rintro e w' ⟨rfl, ⟨nd, rfl⟩⟩; obtain ⟨p279, q279, ad279, A279_2, c279_2, A279_3, c279_3, e279, _, _, _, _, hx279_0, hx279_1, hx279_2, hx279_3, HC279_2, HR279_2, HC279_3, HR279_3⟩ := aT_T69 HR0_3 HB a1; obtain rfl : ad277 = ad279 := (by injection e279); have ea_ := Option.some.inj (hx277_2.symm.trans hx279_2); injection ea_ with ea_ en_ ec_; subst ea_; subst ec_; clear en_; have ea_ := Option.some.inj (hx277_3.symm.trans hx279_3); injection ea_ with ea_ en_ ec_; subst ea_; subst ec_; clear en_; obtain ⟨p280, q280, ad280, A280_1, c280_1, A280_2, c280_2, e280, _, _, _, hx280_0, hx280_1, hx280_2, HC280_1, HR280_1, HC280_2, HR280_2⟩ := aT_T44 HR279_3 HB a2; cases e280) | ((with_reducible refine gate_callee (f := 70) rfl ?_); refine gL (some 36) Try.func70 #[.agg #[.int .i64 ((rd_T44 ((rd_T69 l0_3 a1).f2) a2).f0), .slice A280_1 ((rd_T44 ((rd_T69 l0_3 a1).f2) a2).f1).length c280_1, .slice A280_2 ((rd_T44 ((rd_T69 l0_3 a1).f2) a2).f2).length c280_2]] ?_; (with_reducible refine (impl_cloneTable.calls ((rd_T44 ((rd_T69 l0_3 a1).f2) a2).f0) _ _ ((rd_T44 ((rd_T69 l0_3 a1).f2) a2).f1) _ _ ((rd_T44 ((rd_T69 l0_3 a1).f2) a2).f2) t281 t282 t285 _ ?side1 ?side2 ?side3 ?side4 A12.out).mono ?_); (case side1 => exact cb HR280_1); (case side2 => exact HC280_1.out); (case side3 => exact cb HR280_2); (case side4 => exact HC280_2.out); rintro e w17 ⟨v283, v286, rfl, ho0, ho1, hb⟩; refine ⟨_, rfl, ?_⟩; have HO284 := Aside0.mk (Kd.R_lower ho0 (below_size (sbw))); have HO287 := Aside0.mk (Kd.R_lower ho1 (below_size (sbw))); replace BK274 := bb BK274 hb; replace BK275 := bb BK275 hb; replace HB := bsw hb; (try clear hb); (try clear hb2); (try clear hk); (try clear hi); (try clear ho0); (try clear ho1); obtain ⟨hcz18_0, hcz18_1, hcz18_2, hfz18_0, hfz18_1, hfz18_2⟩ := cc3 BK275; obtain ⟨Ao19, co19, eo19⟩ := Kd.R_slice HO284.out; subst eo19; obtain ⟨Ao20, co20, eo20⟩ := Kd.R_slice HO287.out; subst eo20))
   refine bodyPost_ret (results_ct rfl _ _ gb275 44 #[.int .i64 t281, .slice Ao19 t282.length co19, .slice Ao20 t285.length co20] (0, 0) _ rfl (sp BK275) Try.underlying44 rfl (by kernel_rfl)) rfl ?_
   exact ⟨_, _, se, by (with_reducible repeat (first | apply Kd.R_alloc | apply Kd.R_drewN | apply Kd.R_drew)); exact Kd.R_mono (Kd.R_far (p := ⟨gb275, 2, none⟩) (Kd.R_far (p := ⟨gb275, 1, none⟩) (Kd.R_far (p := ⟨gb275, 0, none⟩) (Kd.R_types HO284.out BK275.out (by decide)) (fun _ hk => hk.2) (.int .i64 t281)) (fun _ hk => hk.2) (.slice Ao19 t282.length co19)) (fun _ hk => hk.2) (.slice Ao20 t285.length co20)) (fun _ hk => hk.1), by (with_reducible repeat (first | apply Kd.R_alloc | apply Kd.R_drewN | apply Kd.R_drew)); exact Kd.R_mono (Kd.R_far (p := ⟨gb275, 2, none⟩) (Kd.R_far (p := ⟨gb275, 1, none⟩) (Kd.R_far (p := ⟨gb275, 0, none⟩) (Kd.R_types HO287.out BK275.out (by decide)) (fun _ hk => hk.2) (.int .i64 t281)) (fun _ hk => hk.2) (.slice Ao19 t282.length co19)) (fun _ hk => hk.2) (.slice Ao20 t285.length co20)) (fun _ hk => hk.1), sbw⟩
  ·replace H := im H
   simp only [Option.some.injEq, Prod.mk.injEq] at H
   obtain ⟨rfl, rfl, rfl, rfl⟩ := H
   go_enter Try.func35, Try.ntmps35
   go_wp2_with (first | ((with_reducible refine gate_dst (N := 3) rfl ?_); (try (refine gate_guard (by rfl) ?_; dsimp only)); refine bx 3 #[.int .i64 a0_0, .int .i64 a0_1, .int .i64 a0_2, .slice A0_3 l0_3.length c0_3] 29 ?_; intro gb274 hg w21 hbox hb; have BK274 := Aside0.mk hbox; have GW274 := bz w hg; have GE274 := bz w hg; replace HB := bs hb; clear hb hbox hg) | ((with_reducible refine gate_dst (N := 6) rfl ?_); (try (refine gate_guard (by rfl) ?_; dsimp only)); refine bx 6 #[.int .i64 0, .slice none 0 0, .slice none 0 0] 44 ?_; intro gb275 hg w22 hbox hb; have BK275 := Aside0.mk hbox; have GW275 := bzw w hg; have GE275 := bzw w hg; replace HB := bsw hb; have NB274_275 := nl BK274 hg; have NB275_274 := ng BK274 hg; replace BK274 := bb BK274 hb; clear hb hbox hg; have hnb23 := NB274_275.out; have hnc23 := NB275_274.out; obtain ⟨hcz24_0, hcz24_1, hcz24_2, hcz24_3, hfz24_0, hfz24_1, hfz24_2, hfz24_3⟩ := cc4 BK274) | ((with_reducible refine gate_callee (f := 57) rfl ?_); refine gL (some 12) Try.func57 #[.int .i64 a1, .int .i64 (l0_3.length : Int)] ?_; (with_reducible refine (impl_isIndex.calls a1 (l0_3.length : Int) true _ A4.out).mono ?_); rintro e w' ⟨rfl, ⟨nd, rfl⟩⟩; refine ⟨_, rfl, ?_⟩; obtain ⟨p277, q277, ad277, A277_2, c277_2, A277_3, c277_3, e277, _, _, _, _, hx277_0, hx277_1, hx277_2, hx277_3, HC277_2, HR277_2, HC277_3, HR277_3⟩ := aT_T69 HR0_3 HB a1; cases e277) | (go_at_call 57; (with_reducible refine (impl_isIndex.calls a2 (((rd_T69 l0_3 a1).f2).length : Int) false _ A8.out).mono ?_); rintro e w' ⟨rfl, ⟨nd, rfl⟩⟩; obtain ⟨hcz25_0, hcz25_1, hcz25_2, hfz25_0, hfz25_1, hfz25_2⟩ := cc3 BK275))
   refine bodyPost_ret (results_ct rfl _ _ gb275 44 #[.int .i64 0, .slice none 0 0, .slice none 0 0] (0, 0) _ rfl (sp BK275) Try.underlying44 rfl (by kernel_rfl)) rfl ?_
   exact ⟨_, _, se, sn, sn, sbw⟩
 ·replace H := im H
  simp only [Option.some.injEq, Prod.mk.injEq] at H
  obtain ⟨rfl, rfl, rfl, rfl⟩ := H
  go_enter Try.func35, Try.ntmps35
  go_wp2_with (first | ((with_reducible refine gate_dst (N := 3) rfl ?_); (try (refine gate_guard (by rfl) ?_; dsimp only)); refine bx 3 #[.int .i64 a0_0, .int .i64 a0_1, .int .i64 a0_2, .slice A0_3 l0_3.length c0_3] 29 ?_; intro gb274 hg w26 hbox hb; have BK274 := Aside0.mk hbox; have GW274 := bz w hg; have GE274 := bz w hg; replace HB := bs hb; clear hb hbox hg) | ((with_reducible refine gate_dst (N := 6) rfl ?_); (try (refine gate_guard (by rfl) ?_; dsimp only)); refine bx 6 #[.int .i64 0, .slice none 0 0, .slice none 0 0] 44 ?_; intro gb275 hg w27 hbox hb; have BK275 := Aside0.mk hbox; have GW275 := bzw w hg; have GE275 := bzw w hg; replace HB := bsw hb; have NB274_275 := nl BK274 hg; have NB275_274 := ng BK274 hg; replace BK274 := bb BK274 hb; clear hb hbox hg; have hnb28 := NB274_275.out; have hnc28 := NB275_274.out; obtain ⟨hcz29_0, hcz29_1, hcz29_2, hcz29_3, hfz29_0, hfz29_1, hfz29_2, hfz29_3⟩ := cc4 BK274) | ((with_reducible refine gate_callee (f := 57) rfl ?_); refine gL (some 12) Try.func57 #[.int .i64 a1, .int .i64 (l0_3.length : Int)] ?_; (with_reducible refine (impl_isIndex.calls a1 (l0_3.length : Int) false _ A4.out).mono ?_); rintro e w' ⟨rfl, ⟨nd, rfl⟩⟩; refine ⟨_, rfl, ?_⟩; obtain ⟨hcz30_0, hcz30_1, hcz30_2, hfz30_0, hfz30_1, hfz30_2⟩ := cc3 BK275))
  refine bodyPost_ret (results_ct rfl _ _ gb275 44 #[.int .i64 0, .slice none 0 0, .slice none 0 0] (0, 0) _ rfl (sp BK275) Try.underlying44 rfl (by kernel_rfl)) rfl ?_
  exact ⟨_, _, se, sn, sn, sbw⟩

/-! ### impl_nextIn: function 71 -/
def impl_nextIn.f (a0_0 : Int) (a0_1 : Int) (a0_2 : Int) (l0_3 : List (S69)) (a1 : Int) (a2 : Int) (a3 : Int) : Option (Int × Bool) := (impl_TableIn.f a0_0 a0_1 a0_2 l0_3 a1 a2).bind fun bt289 => (if bt289.2.2.2 = true then ((impl_isIndex.f a3 (bt289.2.2.1.length : Int)).bind fun t298 => (if t298 = true then (if 0 ≤ a3 then (if a3 < (bt289.2.2.1.length : Int) then (some (rd bt289.2.2.1 a3, true)) else (none)) else (none)) else (some ((-1), false)))) else (some ((-1), false)))
set_option maxHeartbeats 8000000 in
set_option maxRecDepth 100000 in
theorem impl_nextIn.calls (a0_0 : Int) (a0_1 : Int) (a0_2 : Int) (A0_3 : Option Addr) (c0_3 : Nat) (l0_3 : List (S69)) (a1 : Int) (a2 : Int) (a3 : Int) (r1 : Int) (r2 : Bool) (w : World) (hr0_3 : Kd.C k69 w A0_3 l0_3.length l0_3) (hc0_3 : l0_3.length ≤ c0_3) (h : impl_nextIn.f a0_0 a0_1 a0_2 l0_3 a1 a2 a3 = some (r1, r2)) :
    Calls Try.prog 71 #[.agg #[.int .i64 a0_0, .int .i64 a0_1, .int .i64 a0_2, .slice A0_3 l0_3.length c0_3], .int .i64 a1, .int .i64 a2, .int .i64 a3] w fun e w' => e = .returned (.tuple #[.int .i64 r1, .bool r2]) ∧ Below w.heap.size w w' := by
 have hu29 := Try.underlying29
 have hu44 := Try.underlying44
 have HR0_3 := Aside0.mk hr0_3
 have HC0_3 := Aside0.mk hc0_3
 clear hr0_3 hc0_3
 have HB := Aside0.mk (Below.refl w.heap.size w)
 have H : ((impl_TableIn.f a0_0 a0_1 a0_2 l0_3 a1 a2).bind fun bt289 => (if bt289.2.2.2 = true then ((impl_isIndex.f a3 (bt289.2.2.1.length : Int)).bind fun t298 => (if t298 = true then (if 0 ≤ a3 then (if a3 < (bt289.2.2.1.length : Int) then (some (rd bt289.2.2.1 a3, true)) else (none)) else (none)) else (some ((-1), false)))) else (some ((-1), false)))) = some (r1, r2) := h
 clear h
 obtain ⟨⟨t289, t290, t293, t296⟩, A5, H⟩ := bnd H
 replace H : (if t296 = true then ((impl_isIndex.f a3 (t293.length : Int)).bind fun t298 => (if t298 = true then (if 0 ≤ a3 then (if a3 < (t293.length : Int) then (some (rd t293 a3, true)) else (none)) else (none)) else (some ((-1), false)))) else (some ((-1), false))) = some (r1, r2) := H
 obtain rfl | rfl := tt t296
 ·replace H := ip H
  obtain ⟨t298, A7, H⟩ := bnd H
  obtain rfl | rfl := tt t298
  ·replace H := ip H
   obtain ⟨c9b0, H⟩ := id_ H
   obtain ⟨c10b0, H⟩ := id_ H
   simp only [Option.some.injEq, Prod.mk.injEq] at H
   obtain ⟨rfl, rfl⟩ := H
   go_enter Try.func71, Try.ntmps71
   go_wp2_with (first | ((with_reducible refine gate_dst (N := 4) rfl ?_); (try (refine gate_guard (by rfl) ?_; dsimp only)); refine bx 4 #[.int .i64 a0_0, .int .i64 a0_1, .int .i64 a0_2, .slice A0_3 l0_3.length c0_3] 29 ?_; intro gb288 hg w11 hbox hb; have BK288 := Aside0.mk hbox; have GW288 := bz w hg; have GE288 := bz w hg; replace HB := bs hb; clear hb hbox hg; obtain ⟨hcz12_0, hcz12_1, hcz12_2, hcz12_3, hfz12_0, hfz12_1, hfz12_2, hfz12_3⟩ := cc4 BK288) | ((with_reducible refine gate_callee (f := 35) rfl ?_); refine gL (some 16) Try.func35 #[.agg #[.int .i64 a0_0, .int .i64 a0_1, .int .i64 a0_2, .slice A0_3 l0_3.length c0_3], .int .i64 a1, .int .i64 a2] ?_; (with_reducible refine (impl_TableIn.calls a0_0 a0_1 a0_2 _ _ l0_3 a1 a2 t289 t290 t293 true _ ?side1 ?side2 A5.out).mono ?_); (case side1 => exact cb HR0_3); (case side2 => exact HC0_3.out); rintro e w13 ⟨v291, v294, rfl, ho0, ho1, hb⟩; refine ⟨_, rfl, ?_⟩; have HO292 := Aside0.mk (Kd.R_lower ho0 (below_size (sbw))); have HO295 := Aside0.mk (Kd.R_lower ho1 (below_size (sbw))); replace BK288 := bb BK288 hb; replace HB := bsw hb; (try clear hb); (try clear hb2); (try clear hk); (try clear hi); (try clear ho0); (try clear ho1)) | ((with_reducible refine gate_dst (N := 10) rfl ?_); (try (refine gate_guard (by rfl) ?_; dsimp only)); refine bx 10 #[.int .i64 0, .slice none 0 0, .slice none 0 0] 44 ?_; intro gb297 hg w14 hbox hb; replace HO292 := Aside0.mk (Kd.R_below (sr HO292) hb); replace HO295 := Aside0.mk (Kd.R_below (sr HO295) hb); have BK297 := Aside0.mk hbox; have GW297 := bzw w hg; have GE297 := bzw w hg; replace HB := bsw hb; have NB288_297 := nl BK288 hg; have NB297_288 := ng BK288 hg; replace BK288 := bb BK288 hb; clear hb hbox hg; have hnb15 := NB297_288.out; have hnc15 := NB288_297.out; obtain ⟨hcz16_0, hcz16_1, hcz16_2, hfz16_0, hfz16_1, hfz16_2⟩ := cc3 BK297; obtain ⟨Ao17, co17, eo17⟩ := Kd.R_slice HO292.out; subst eo17; obtain ⟨Ao18, co18, eo18⟩ := Kd.R_slice HO295.out; subst eo18) | (go_at_call 57; (with_reducible refine (impl_isIndex.calls a3 (t293.length : Int) true _ A7.out).mono ?_); rintro e w' ⟨rfl, ⟨nd, rfl⟩⟩; have p299 : 0 ≤ (a3 : Int) := sa; have q299 : a3 < (t293.length : Int) := sa; obtain ⟨ad299, e299, hx299_0⟩ := Kd.at_int (Kd.R_reads' HO295.out).2.2 a3 p299 q299; cases e299; have hn299_0 : ad299.block ≠ gb297 := Kd.own_blk (Kd.R_ne HO295.out BK297.out (by decide)); have hn299_1 : ad299.block ≠ gb297 := Kd.own_blk (Kd.R_ne HO295.out BK297.out (by decide)); have hn299_2 : ad299.block ≠ gb297 := Kd.own_blk (Kd.R_ne HO295.out BK297.out (by decide)); replace hx299_0 := (cell_far (p := ⟨gb297, 0, none⟩) (by first | (rw [add_block]; exact hn299_0) | (show (Addr.add _ _).block ≠ _; rw [add_block]; exact hn299_0) | exact hn299_0) (.int .i64 t289)).trans hx299_0; replace hx299_0 := (cell_far (p := ⟨gb297, 1, none⟩) (by first | (rw [add_block]; exact hn299_1) | (show (Addr.add _ _).block ≠ _; rw [add_block]; exact hn299_1) | exact hn299_1) (.slice Ao17 t290.length co17)).trans hx299_0; replace hx299_0 := (cell_far (p := ⟨gb297, 2, none⟩) (by first | (rw [add_block]; exact hn299_2) | (show (Addr.add _ _).block ≠ _; rw [add_block]; exact hn299_2) | exact hn299_2) (.slice (some ad299) t293.length co18)).trans hx299_0; clear hn299_0; clear hn299_1; clear hn299_2; replace p299 := eq_true p299; replace q299 := eq_true q299))
   go_ret2
   exact ⟨se, sbw⟩
  ·replace H := im H
   simp only [Option.some.injEq, Prod.mk.injEq] at H
   obtain ⟨rfl, rfl⟩ := H
   go_enter Try.func71, Try.ntmps71
   go_wp2_with (first | ((with_reducible refine gate_dst (N := 4) rfl ?_); (try (refine gate_guard (by rfl) ?_; dsimp only)); refine bx 4 #[.int .i64 a0_0, .int .i64 a0_1, .int .i64 a0_2, .slice A0_3 l0_3.length c0_3] 29 ?_; intro gb288 hg w19 hbox hb; have BK288 := Aside0.mk hbox; have GW288 := bz w hg; have GE288 := bz w hg; replace HB := bs hb; clear hb hbox hg; obtain ⟨hcz20_0, hcz20_1, hcz20_2, hcz20_3, hfz20_0, hfz20_1, hfz20_2, hfz20_3⟩ := cc4 BK288) | ((with_reducible refine gate_callee (f := 35) rfl ?_); refine gL (some 16) Try.func35 #[.agg #[.int .i64 a0_0, .int .i64 a0_1, .int .i64 a0_2, .slice A0_3 l0_3.length c0_3], .int .i64 a1, .int .i64 a2] ?_; (with_reducible refine (impl_TableIn.calls a0_0 a0_1 a0_2 _ _ l0_3 a1 a2 t289 t290 t293 true _ ?side1 ?side2 A5.out).mono ?_); (case side1 => exact cb HR0_3); (case side2 => exact HC0_3.out); rintro e w21 ⟨v291, v294, rfl, ho0, ho1, hb⟩; refine ⟨_, rfl, ?_⟩; have HO292 := Aside0.mk (Kd.R_lower ho0 (below_size (sbw))); have HO295 := Aside0.mk (Kd.R_lower ho1 (below_size (sbw))); replace BK288 := bb BK288 hb; replace HB := bsw hb; (try clear hb); (try clear hb2); (try clear hk); (try clear hi); (try clear ho0); (try clear ho1)) | ((with_reducible refine gate_dst (N := 10) rfl ?_); (try (refine gate_guard (by rfl) ?_; dsimp only)); refine bx 10 #[.int .i64 0, .slice none 0 0, .slice none 0 0] 44 ?_; intro gb297 hg w22 hbox hb; replace HO292 := Aside0.mk (Kd.R_below (sr HO292) hb); replace HO295 := Aside0.mk (Kd.R_below (sr HO295) hb); have BK297 := Aside0.mk hbox; have GW297 := bzw w hg; have GE297 := bzw w hg; replace HB := bsw hb; have NB288_297 := nl BK288 hg; have NB297_288 := ng BK288 hg; replace BK288 := bb BK288 hb; clear hb hbox hg; have hnb23 := NB297_288.out; have hnc23 := NB288_297.out; obtain ⟨hcz24_0, hcz24_1, hcz24_2, hfz24_0, hfz24_1, hfz24_2⟩ := cc3 BK297; obtain ⟨Ao25, co25, eo25⟩ := Kd.R_slice HO292.out; subst eo25; obtain ⟨Ao26, co26, eo26⟩ := Kd.R_slice HO295.out; subst eo26) | (go_at_call 57; (with_reducible refine (impl_isIndex.calls a3 (t293.length : Int) false _ A7.out).mono ?_); rintro e w' ⟨rfl, ⟨nd, rfl⟩⟩))
   go_ret2
   exact ⟨se, sbw⟩
 ·replace H := im H
  simp only [Option.some.injEq, Prod.mk.injEq] at H
  obtain ⟨rfl, rfl⟩ := H
  go_enter Try.func71, Try.ntmps71
  go_wp2_with (first | ((with_reducible refine gate_dst (N := 4) rfl ?_); (try (refine gate_guard (by rfl) ?_; dsimp only)); refine bx 4 #[.int .i64 a0_0, .int .i64 a0_1, .int .i64 a0_2, .slice A0_3 l0_3.length c0_3] 29 ?_; intro gb288 hg w27 hbox hb; have BK288 := Aside0.mk hbox; have GW288 := bz w hg; have GE288 := bz w hg; replace HB := bs hb; clear hb hbox hg; obtain ⟨hcz28_0, hcz28_1, hcz28_2, hcz28_3, hfz28_0, hfz28_1, hfz28_2, hfz28_3⟩ := cc4 BK288) | ((with_reducible refine gate_callee (f := 35) rfl ?_); refine gL (some 16) Try.func35 #[.agg #[.int .i64 a0_0, .int .i64 a0_1, .int .i64 a0_2, .slice A0_3 l0_3.length c0_3], .int .i64 a1, .int .i64 a2] ?_; (with_reducible refine (impl_TableIn.calls a0_0 a0_1 a0_2 _ _ l0_3 a1 a2 t289 t290 t293 false _ ?side1 ?side2 A5.out).mono ?_); (case side1 => exact cb HR0_3); (case side2 => exact HC0_3.out); rintro e w29 ⟨v291, v294, rfl, ho0, ho1, hb⟩; refine ⟨_, rfl, ?_⟩; have HO292 := Aside0.mk (Kd.R_lower ho0 (below_size (sbw))); have HO295 := Aside0.mk (Kd.R_lower ho1 (below_size (sbw))); replace BK288 := bb BK288 hb; replace HB := bsw hb; (try clear hb); (try clear hb2); (try clear hk); (try clear hi); (try clear ho0); (try clear ho1)) | ((with_reducible refine gate_dst (N := 10) rfl ?_); (try (refine gate_guard (by rfl) ?_; dsimp only)); refine bx 10 #[.int .i64 0, .slice none 0 0, .slice none 0 0] 44 ?_; intro gb297 hg w30 hbox hb; replace HO292 := Aside0.mk (Kd.R_below (sr HO292) hb); replace HO295 := Aside0.mk (Kd.R_below (sr HO295) hb); have BK297 := Aside0.mk hbox; have GW297 := bzw w hg; have GE297 := bzw w hg; replace HB := bsw hb; have NB288_297 := nl BK288 hg; have NB297_288 := ng BK288 hg; replace BK288 := bb BK288 hb; clear hb hbox hg; have hnb31 := NB297_288.out; have hnc31 := NB288_297.out; obtain ⟨hcz32_0, hcz32_1, hcz32_2, hfz32_0, hfz32_1, hfz32_2⟩ := cc3 BK297; obtain ⟨Ao33, co33, eo33⟩ := Kd.R_slice HO292.out; subst eo33; obtain ⟨Ao34, co34, eo34⟩ := Kd.R_slice HO295.out; subst eo34))
  go_ret2
  exact ⟨se, sbw⟩

/-! ### impl_MixOf: function 41 -/
def impl_MixOf.l0 : Nat → Int → List Int → List Int → Int → Int → Int → Int → Int → List (S69) → Option (List Int)
  | 0, _, _, _, _, _, _, _, _, _ => none
  | k + 1, x1, x7, x13, x14, x15, x301000, x301001, x301002, x301003 => if x15 < x14 then (if 0 ≤ x15 then (if x15 < (x13.length : Int) then ((impl_nextIn.f x301000 x301001 x301002 x301003 (rd x13 x15) x1 x15).bind fun bt305 => (if x7.length < 17592186044416 then (impl_MixOf.l0 k x1 (x7 ++ [bt305.1]) x13 x14 (wrap64 (x15 + 1)) x301000 x301001 x301002 x301003) else (none))) else (none)) else (none)) else (some x7)
def impl_MixOf.f (k : Nat) (a0_0 : Int) (a0_1 : Int) (a0_2 : Int) (l0_3 : List (S69)) (a1 : Int) (l2 : List Int) : Option (List Int) := impl_MixOf.l0 k a1 (([] : List Int)) l2 (l2.length : Int) 0 a0_0 a0_1 a0_2 l0_3
theorem impl_MixOf.mono_l : ∀ k, (∀ y0 y1 y2 y3 y4 y5 y6 y7 y8, LeO (impl_MixOf.l0 k y0 y1 y2 y3 y4 y5 y6 y7 y8) (impl_MixOf.l0 (k + 1) y0 y1 y2 y3 y4 y5 y6 y7 y8))
  | 0 => fun _ _ _ _ _ _ _ _ _ r h => by simp [impl_MixOf.l0] at h
  | k + 1 => by
    have ih0 := impl_MixOf.mono_l k
    · intro y0 y1 y2 y3 y4 y5 y6 y7 y8
      unfold impl_MixOf.l0
      exact mo
theorem impl_MixOf.mono : ∀ a0 a1 a2 a3 a4 a5 k, LeO (impl_MixOf.f k a0 a1 a2 a3 a4 a5) (impl_MixOf.f (k + 1) a0 a1 a2 a3 a4 a5) := by
  intro a0 a1 a2 a3 a4 a5 k
  have ih0 := impl_MixOf.mono_l k
  unfold impl_MixOf.f
  exact mo
set_option maxHeartbeats 8000000 in
set_option maxRecDepth 100000 in
theorem impl_MixOf.calls (k : Nat) (a0_0 : Int) (a0_1 : Int) (a0_2 : Int) (A0_3 : Option Addr) (c0_3 : Nat) (l0_3 : List (S69)) (a1 : Int) (A2 : Option Addr) (c2 : Nat) (l2 : List Int) (r : List Int) (w : World) (hr0_3 : Kd.C k69 w A0_3 l0_3.length l0_3) (hc0_3 : l0_3.length ≤ c0_3) (hr2 : Kd.C (Kd.int .i64) w A2 l2.length l2) (hc2 : l2.length ≤ c2) (h : impl_MixOf.f k a0_0 a0_1 a0_2 l0_3 a1 l2 = some r) :
    Calls Try.prog 41 #[.agg #[.int .i64 a0_0, .int .i64 a0_1, .int .i64 a0_2, .slice A0_3 l0_3.length c0_3], .int .i64 a1, .slice A2 l2.length c2] w fun e w' => ∃ v0_ : Value, e = .returned (v0_) ∧ Kd.R (Kd.int .i64) 3 w' w.heap.size (fun _ => True) v0_ r ∧ Below w.heap.size w w' := by
 have hu29 := Try.underlying29
 have HR0_3 := Aside0.mk hr0_3
 have HC0_3 := Aside0.mk hc0_3
 clear hr0_3 hc0_3
 have HR2 := Aside0.mk hr2
 have HC2 := Aside0.mk hc2
 clear hr2 hc2
 have HB := Aside0.mk (Below.refl w.heap.size w)
 have H : (impl_MixOf.l0 k a1 (([] : List Int)) l2 (l2.length : Int) 0 a0_0 a0_1 a0_2 l0_3) = some r := h
 clear h
 obtain ⟨y301, hy301⟩ : ∃ y_ : List Int, y_ = (([] : List Int)) := ⟨_, rfl⟩
 replace H : (impl_MixOf.l0 k a1 y301 l2 (l2.length : Int) 0 a0_0 a0_1 a0_2 l0_3) = some r := by first | (rw [hy301]; with_reducible exact H) | (have H2_ := (Option.bind_some _ _).symm.trans H; rw [hy301]; with_reducible exact H2_) | (have H2_ := (Option.bind_some _ _).symm.trans H; with_reducible exact H2_) | with_reducible exact H | (rw [hy301]; exact H) | exact H
 have Ny301 := Aside0.mk hy301
 clear hy301
 have H' := Aside0.mk H
 clear H
 go_enter Try.func41, Try.ntmps41
 go_wp2_with (first | ((with_reducible refine gate_dst (N := 3) rfl ?_); refine bx 3 #[.int .i64 a0_0, .int .i64 a0_1, .int .i64 a0_2, .slice A0_3 l0_3.length c0_3] 29 ?_; intro gb300 hg w4 hbox hb; have BK300 := Aside0.mk hbox; have GW300 := bz w hg; have GE300 := bz w hg; replace HB := bs hb; clear hb hbox hg) | ((with_reducible refine gate_dst (N := 12) rfl ?_); refine Kd.R_lit (Kd.int .i64) _ 3 ?hg (N := 12) ?hd (xs := ([] : List Int)) (inner := []) (ok := fun _ => True) (okp := fun _ => True) ?hr ?hp (fun _ hk => hk) trivial (Below.refl _ _) (Nat.le_refl _) (by simp) ?_; (case hd => rfl); (case hg => rfl); (case hr => first | (go_simp; done) | (go_simp; rfl)); (case hp => exact (Reps.none _ _)); intro v302 w5 ho6 hb hg_ hnew_; clear hg_ hnew_; (first | rw [← Ny301.out] at ho6 | (simp only [Int.reduceToNat] at ho6; rw [← Ny301.out] at ho6)); have HO303 := Aside0.mk (Kd.R_lower ho6 (below_size (sbw))); replace BK300 := bb BK300 hb; replace HB := bsw hb; clear hb ho6))
 go_loopg [7, 15] k (fun kq v7 v15 w' => ∃ (x7_1 : List Int) (x15_1 : Int), v15 = .int .i64 x15_1 ∧ Aside0 (impl_MixOf.l0 kq a1 x7_1 l2 (l2.length : Int) x15_1 a0_0 a0_1 a0_2 l0_3 = some r) ∧ Aside0 (kq ≤ k) ∧ Aside0 (Kd.R (Kd.int .i64) 3 w' w.heap.size (fun _ => True) v7 x7_1) ∧ Aside0 (w'.heap[gb300]? = some (.cells #[.int .i64 a0_0, .int .i64 a0_1, .int .i64 a0_2, (.slice A0_3 l0_3.length c0_3)] 29 (0, 0))) ∧ Aside0 (Below w.heap.size w w'))
 case atStart => exact ⟨(y301), (0), sc, H', kk0, ⟨sr HO303⟩, ⟨sk BK300⟩, ⟨sbw⟩⟩
 case round =>
  clear H'
  obtain ⟨x7_1, x15_1, rfl, HA, HK1, HO_7, BK300, HB⟩ := hrel
  cases gk with
  | zero => exact absurd HA.out (by simp [impl_MixOf.l0])
  | succ k1 =>
   have H := HA.out
   clear HA
   simp only [impl_MixOf.l0] at H
   obtain ⟨c7, H⟩ | ⟨c7, H⟩ := ie_ H
   ·have c7b0 := decide_eq_true c7
    clear c7
    obtain ⟨c8b0, H⟩ := id_ H
    obtain ⟨c9b0, H⟩ := id_ H
    obtain ⟨⟨t305, t306⟩, A10, H⟩ := bnd H
    replace H : (if x7_1.length < 17592186044416 then (impl_MixOf.l0 k1 a1 (x7_1 ++ [t305]) l2 (l2.length : Int) (wrap64 (x15_1 + 1)) a0_0 a0_1 a0_2 l0_3) else (none)) = some r := H
    obtain ⟨LMc11, H⟩ := il_ H
    obtain ⟨y307, hy307⟩ : ∃ y_ : List Int, y_ = (x7_1 ++ [t305]) := ⟨_, rfl⟩
    replace H : (impl_MixOf.l0 k1 a1 y307 l2 (l2.length : Int) (wrap64 (x15_1 + 1)) a0_0 a0_1 a0_2 l0_3) = some r := by first | (rw [hy307]; with_reducible exact H) | (have H2_ := (Option.bind_some _ _).symm.trans H; rw [hy307]; with_reducible exact H2_) | (have H2_ := (Option.bind_some _ _).symm.trans H; with_reducible exact H2_) | with_reducible exact H | (rw [hy307]; exact H) | exact H
    have Ny307 := Aside0.mk hy307
    clear hy307
    have H' := Aside0.mk H
    clear H
    obtain ⟨p304, q304, ad304, e304, _, hx304_0⟩ := at_i HR2 HB x15_1
    cases e304
    obtain ⟨hcz12_0, hcz12_1, hcz12_2, hcz12_3, hfz12_0, hfz12_1, hfz12_2, hfz12_3⟩ := cc4 BK300
    go_wp2_with (first | ((with_reducible refine gate_callee (f := 71) rfl ?_); refine gL (some 25) Try.func71 #[.agg #[.int .i64 a0_0, .int .i64 a0_1, .int .i64 a0_2, .slice A0_3 l0_3.length c0_3], .int .i64 (rd l2 x15_1), .int .i64 a1, .int .i64 x15_1] ?_; (with_reducible refine (impl_nextIn.calls a0_0 a0_1 a0_2 _ _ l0_3 (rd l2 x15_1) a1 x15_1 t305 t306 _ ?side1 ?side2 A10.out).mono ?_); (case side1 => exact cb HR0_3); (case side2 => exact HC0_3.out); rintro e w13 ⟨rfl, hb⟩; refine ⟨_, rfl, ?_⟩; replace HO_7 := Aside0.mk (Kd.R_below (sr HO_7) hb); replace BK300 := bb BK300 hb; replace HB := bsw hb; (try clear hb); (try clear hb2); (try clear hk); (try clear hi)) | ((with_reducible refine gate_builtin (b := .append) (xs := #[.tmp 28, .tmp 30]) rfl ?_); at_builtin; refine Kd.R_append (Kd.int .i64) (w0 := w) w.heap.size rfl (.tmp 28) (.tmp 30) 37 3 (.int .i64 0) 8 rfl Try.underlying37 info3 rfl (by decide) (by omega) u7 x7_1 t305 [.int .i64 t305] (fun _ => True) (fun _ => False) rfl rfl ?aP (fun _ hk => hk.elim) ?aF ?aO ?aB ?aS ?aL ?_; (case aP => exact rfl); (case aB => exact (sbw)); (case aF => exact (fun _ _ => trivial)); (case aO => exact (sr HO_7)); (case aS => exact (below_size (sbw))); (case aL => have := LMc11.out; omega); intro v308 w14 ho hb hg hat; rw [← Ny307.out] at ho; replace BK300 := Aside0.mk (blk_grown (g := gb300) (o := .cells #[.int .i64 a0_0, .int .i64 a0_1, .int .i64 a0_2, .slice A0_3 l0_3.length c0_3] 29 (0, 0)) (sk BK300) hg (Kd.R_ne HO_7.out BK300.out (by decide))); replace HB := Aside0.mk hb; have HO309 := Aside0.mk ho; clear HO_7; clear ho hb hg hat))
    go_roundg k1
    case measure => have := HK1.out; omega
    case rel => exact ⟨(y307), (wrap64 (x15_1 + 1)), sc, H', kk1, ⟨sr HO309⟩, ⟨sk BK300⟩, ⟨sbw⟩⟩
   ·have c7b0 := decide_eq_false c7
    clear c7
    obtain rfl := Option.some.inj H
    go_wp2
    go_ret
    exact ⟨_, se, sr HO_7, sbw⟩

end Go.Proofs.Ytadpbpocbfjboaa.QFnExactMixOf
