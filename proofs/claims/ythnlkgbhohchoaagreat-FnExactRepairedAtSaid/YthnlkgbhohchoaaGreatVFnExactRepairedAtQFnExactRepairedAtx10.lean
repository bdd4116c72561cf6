/- Printed by a program of the session. Conditions: none. (squeezed). -/
import Derived.Test.YthnlkgbhohchoaaGreatVFnExactRepairedAtQFnExactRepairedAtx7
import Derived.Test.YthnlkgbhohchoaaGreatVFnExactRepairedAtQFnExactRepairedAtx9
namespace Go.Proofs.YthnlkgbhohchoaaGreat.QFnExactRepairedAt
set_option maxHeartbeats 8000000
set_option maxRecDepth 100000
open Go.RowKit Go.Proofs.YthnlkgbhohchoaaGreatW.PrintWords Go.Proofs.YthnlkgbhohchoaaGreatW.PrintLast Go.Proofs.YthnlkgbhohchoaaGreatW.PrintMore Go.Proofs.YthnlkgbhohchoaaGreat.Open Go.Proofs.YthnlkgbhohchoaaGreat.Sq
attribute [local go_sem] max2_int min2_int max_two min_two max_three min_three max_four min_four   -- for this text's walks alone
attribute [local go_sem] isSome_set
set_option linter.unusedVariables false
set_option linter.unusedSimpArgs false

theorem a10_1 {P : Prop} (h : P := by (with_reducible repeat (first | apply Kd.R_alloc | apply Kd.R_drewN | apply Kd.R_drew)); exact Kd.R_mono (h3 HO397 BK399) (fun _ hk => hk.1)) : P := h
theorem a10_0 {P : Prop} (h : P := by (with_reducible repeat (first | apply Kd.R_alloc | apply Kd.R_drewN | apply Kd.R_drew)); exact Kd.R_mono (h3 HO394 BK399) (fun _ hk => hk.1)) : P := h
mutual
def spec_RepairHop.j0 : Nat → Int → List Int → Int → Bool → Int → Int → Int → List (S76) → Int → List Int → List Int → Option (Int)
  | 0, _, _, _, _, _, _, _, _, _, _, _ => none
  | k + 1, x1, x4, x12, x48, x388000, x388001, x388002, x388003, x400000, x400001, x400002 => if x48 = true then (some (-1)) else (if 0 ≤ x12 then (if x12 < (x388003.length : Int) then ((spec_AltsOf.f k x400000 x400001 x400002 ((rd_T76 x388003 x12).f1) x388001 x1).bind fun t402 => (spec_RepairHop.l0 k x4 t402 0)) else (none)) else (none))
def spec_RepairHop.l0 : Nat → List Int → List Int → Int → Option (Int)
  | 0, _, _, _ => none
  | k + 1, x4, x15, x16 => if x16 < (x15.length : Int) then (if 0 ≤ x16 then ((spec_l15Has.f k x4 (rd x15 x16)).bind fun t406 => (if t406 = true then (spec_RepairHop.l0 k x4 x15 (wrap64 (x16 + 1))) else (some (rd x15 x16)))) else (none)) else (some (-1))
end
def spec_RepairHop.f (k : Nat) (a0_0 : Int) (a0_1 : Int) (a0_2 : Int) (l0_3 : List (S76)) (a1 : Int) (a2 : Int) (a3 : Int) (l4 : List Int) : Option (Int) := (spec_HopAt.f k a0_0 a0_1 a0_2 l0_3 a1 a2 a3).bind fun t388 => ((spec_l15Has.f k l4 t388).bind fun t389 => (if t389 = true then ((spec_PieceAt.f k a0_0 a0_1 a0_2 l0_3 a3).bind fun t390 => ((spec_TableIn.f a0_0 a0_1 a0_2 l0_3 t390 a2).bind fun bt391 => (if t388 < 0 then (spec_RepairHop.j0 k a1 l4 t390 true a0_0 a0_1 a0_2 l0_3 bt391.1 bt391.2.1 bt391.2.2.1) else (if bt391.2.2.2 = true then ((spec_IsCalm.f k a0_0 a0_1 a0_2 l0_3 a3).bind fun t400 => (spec_RepairHop.j0 k a1 l4 t390 (!t400) a0_0 a0_1 a0_2 l0_3 bt391.1 bt391.2.1 bt391.2.2.1)) else (spec_RepairHop.j0 k a1 l4 t390 true a0_0 a0_1 a0_2 l0_3 bt391.1 bt391.2.1 bt391.2.2.1))))) else (some t388)))
theorem spec_RepairHop.mono_l : ∀ k, (∀ y0 y1 y2 y3 y4 y5 y6 y7 y8 y9 y10, LeO (spec_RepairHop.j0 k y0 y1 y2 y3 y4 y5 y6 y7 y8 y9 y10) (spec_RepairHop.j0 (k + 1) y0 y1 y2 y3 y4 y5 y6 y7 y8 y9 y10)) ∧ (∀ y0 y1 y2, LeO (spec_RepairHop.l0 k y0 y1 y2) (spec_RepairHop.l0 (k + 1) y0 y1 y2))
  | 0 => ⟨fun _ _ _ _ _ _ _ _ _ _ _ r h => by simp [spec_RepairHop.j0] at h, fun _ _ _ r h => by simp [spec_RepairHop.l0] at h⟩
  | k + 1 => by
    obtain ⟨ih0, ih1⟩ := spec_RepairHop.mono_l k
    refine ⟨?_, ?_⟩
    · intro y0 y1 y2 y3 y4 y5 y6 y7 y8 y9 y10
      unfold spec_RepairHop.j0
      have m0 := @spec_AltsOf.mono
      have m1 := @spec_HopAt.mono
      have m2 := @spec_IsCalm.mono
      have m3 := @spec_PieceAt.mono
      have m4 := @spec_l15Has.mono
      exact mo
    · intro y0 y1 y2
      unfold spec_RepairHop.l0
      have m0 := @spec_AltsOf.mono
      have m1 := @spec_HopAt.mono
      have m2 := @spec_IsCalm.mono
      have m3 := @spec_PieceAt.mono
      have m4 := @spec_l15Has.mono
      exact mo
theorem spec_RepairHop.mono : ∀ a0 a1 a2 a3 a4 a5 a6 a7 k, LeO (spec_RepairHop.f k a0 a1 a2 a3 a4 a5 a6 a7) (spec_RepairHop.f (k + 1) a0 a1 a2 a3 a4 a5 a6 a7) := by
  intro a0 a1 a2 a3 a4 a5 a6 a7 k
  obtain ⟨ih0, ih1⟩ := spec_RepairHop.mono_l k
  unfold spec_RepairHop.f
  have m0 := @spec_AltsOf.mono
  have m1 := @spec_HopAt.mono
  have m2 := @spec_IsCalm.mono
  have m3 := @spec_PieceAt.mono
  have m4 := @spec_l15Has.mono
  exact mo
def spec_RepairHop.T8 : Bool × List (List Nat × List Nat) := (true, [([], []), ([], []), ([1], [1]), ([], []), ([2, 3], [2, 3]), ([4], [4]), ([5], [5]), ([], []), ([7], [7]), ([], []), ([0, 6, 8, 9], [0, 6, 8, 9]), ([10, 10, 0, 1, 2, 3, 4, 5, 6, 7, 8, 9, 10], [10])])
def spec_RepairHop.B8 : List Nat := [0, 0, 2, 0, 14, 30, 62, 0, 128, 0, 1023, 2047]
theorem spec_RepairHop.tab8 : rtab .any (opsOf Tryz.f32 8) = spec_RepairHop.T8 := by kernel_rfl
theorem spec_RepairHop.bits8 : waitsOk spec_RepairHop.T8.2 spec_RepairHop.B8 = true := by kernel_rfl
theorem spec_RepairHop.calls (k : Nat) (a0_0 : Int) (a0_1 : Int) (a0_2 : Int) (A0_3 : Option Addr) (c0_3 : Nat) (l0_3 : List (S76)) (a1 : Int) (a2 : Int) (a3 : Int) (A4 : Option Addr) (c4 : Nat) (l4 : List Int) (r : Int) (w : World) (hr0_3 : Kd.C k76 w A0_3 l0_3.length l0_3) (hc0_3 : l0_3.length ≤ c0_3) (hr4 : Kd.C (Kd.int .i64) w A4 l4.length l4) (hc4 : l4.length ≤ c4) (h : spec_RepairHop.f k a0_0 a0_1 a0_2 l0_3 a1 a2 a3 l4 = some r) :
    Calls Tryz.prog 32 #[.agg #[.int .i64 a0_0, .int .i64 a0_1, .int .i64 a0_2, .slice A0_3 l0_3.length c0_3], .int .i64 a1, .int .i64 a2, .int .i64 a3, .slice A4 l4.length c4] w fun e w' => e = .returned (.int .i64 r) ∧ Below w.heap.size w w' := by
 have hu32 := Tryz.underlying32
 have hu50 := Tryz.underlying50
 have HR0_3 := am hr0_3
 have HC0_3 := am hc0_3
 clear hr0_3 hc0_3
 have HR4 := am hr4
 have HC4 := am hc4
 clear hr4 hc4
 have HB := am (Below.refl w.heap.size w)
 have H := h; unfold spec_RepairHop.f at H
 clear h
 obtain ⟨t388, A6, H⟩ := bnd H
 obtain ⟨t389, A7, H⟩ := bnd H
 obtain rfl | rfl := tt t389
 ·replace H := ip H
  obtain ⟨t390, A9, H⟩ := bnd H
  obtain ⟨⟨t391, t392, t395, t398⟩, A10, H⟩ := bnd H
  try dsimp only at H
  have HC11 := am H
  clear H
  go_enter Tryz.func32, Tryz.ntmps32
  go_upto_region 6 with (first | ((with_reducible refine gd 5 rfl ?_); refine bx 5 #[.int .i64 a0_0, .int .i64 a0_1, .int .i64 a0_2, .slice A0_3 l0_3.length c0_3] 32 ?_; intro gb387 hg w12 hbox hb; have GW387 := bz w hg; have GE387 := bz w hg; replace HB := bs hb; have BK387 := am hbox; clear hb hbox hg; obtain ⟨_, _, _, _, _, _, _, _⟩ := cc4 BK387) | ((with_reducible refine gc 62 rfl ?_); refine gL (some 21) Tryz.func62 #[.agg #[.int .i64 a0_0, .int .i64 a0_1, .int .i64 a0_2, .slice A0_3 l0_3.length c0_3], .int .i64 a1, .int .i64 a2, .int .i64 a3] ?_; (with_reducible refine (spec_HopAt.calls k a0_0 a0_1 a0_2 _ _ l0_3 a1 a2 a3 t388 _ ?side1 ?side2 A6.out).mono ?_); (case side1 => exact cb HR0_3); (case side2 => exact HC0_3.out); rintro e w14 ⟨rfl, hb⟩; refine ⟨_, rfl, ?_⟩; replace BK387 := bb BK387 hb; replace HB := bsw hb; (try clear hb)) | ((with_reducible refine gc 63 rfl ?_); refine gL (some 24) Tryz.func63 #[.slice A4 l4.length c4, .int .i64 t388] ?_; (with_reducible refine (spec_l15Has.calls k _ _ l4 t388 true _ ?side1 ?side2 A7.out).mono ?_); (case side1 => exact cb HR4); (case side2 => exact HC4.out); rintro e w' ⟨rfl, ⟨nd, rfl⟩⟩; refine ⟨_, rfl, ?_⟩; obtain ⟨_, _, _, _, _, _, _, _⟩ := cc4 BK387) | ((with_reducible refine gc 64 rfl ?_); refine gL (some 29) Tryz.func64 #[.agg #[.int .i64 a0_0, .int .i64 a0_1, .int .i64 a0_2, .slice A0_3 l0_3.length c0_3], .int .i64 a3] ?_; (with_reducible refine (spec_PieceAt.calls k a0_0 a0_1 a0_2 _ _ l0_3 a3 t390 _ ?side1 ?side2 A9.out).mono ?_); (case side1 => exact cb HR0_3); (case side2 => exact HC0_3.out); rintro e w16 ⟨rfl, hb⟩; refine ⟨_, rfl, ?_⟩; replace BK387 := bb BK387 hb; replace HB := bsw hb; (try clear hb); obtain ⟨_, _, _, _, _, _, _, _⟩ := cc4 BK387) | ((with_reducible refine gc 65 rfl ?_); refine gL (some 34) Tryz.func65 #[.agg #[.int .i64 a0_0, .int .i64 a0_1, .int .i64 a0_2, .slice A0_3 l0_3.length c0_3], .int .i64 t390, .int .i64 a2] ?_; (with_reducible refine (spec_TableIn.calls a0_0 a0_1 a0_2 _ _ l0_3 t390 a2 t391 t392 t395 t398 _ ?side1 ?side2 A10.out).mono ?_); (case side1 => exact cb HR0_3); (case side2 => exact HC0_3.out); rintro e w18 ⟨v393, v396, rfl, ho0, ho1, hb⟩; refine ⟨_, rfl, ?_⟩; have HO394 := am (Kd.R_lower ho0 (below_size (sbw))); have HO397 := am (Kd.R_lower ho1 (below_size (sbw))); replace BK387 := bb BK387 hb; replace HB := bsw hb; (try clear hb); (try clear ho0); (try clear ho1)) | ((with_reducible refine gd 13 rfl ?_); refine bx 13 #[.int .i64 0, .slice none 0 0, .slice none 0 0] 50 ?_; intro gb399 hg w19 hbox hb; replace HO394 := rb HO394 hb; replace HO397 := rb HO397 hb; have GW399 := bzw w hg; have GE399 := bzw w hg; replace HB := bsw hb; have BK399 := am hbox; have NB387_399 := nl BK387 hg; have NB399_387 := ng BK387 hg; replace BK387 := bb BK387 hb; clear hb hbox hg; have hnb20 := NB399_387.out; have hnc20 := NB387_399.out; obtain ⟨_, _, _, _, _, _⟩ := cc3 BK399; obtain ⟨Ao22, co22, eo22⟩ := Kd.R_slice HO394.out; subst eo22; obtain ⟨Ao23, co23, eo23⟩ := Kd.R_slice HO397.out; subst eo23))
  (try simp only [Act.put, List.setIfInBounds_toArray, List.set_cons_zero, List.set_cons_succ])
  go_cut [48] (fun v48 wc => ∃ (kq : Nat) (x48_10 : Bool), v48 = .bool x48_10 ∧ Aside0 (spec_RepairHop.j0 kq a1 l4 t390 x48_10 a0_0 a0_1 a0_2 l0_3 t391 t392 t395 = some r) ∧ Aside0 (kq ≤ k) ∧ Aside0 (Kd.R (Kd.int .i64) 3 wc w.heap.size (fun k_ => some k_ ≠ ((.slice Ao23 t395.length co23) : Value).ownBlock) (.slice Ao22 t392.length co22) t392) ∧ Aside0 (Kd.R (Kd.int .i64) 3 wc w.heap.size (fun k_ => some k_ ≠ ((.slice Ao22 t392.length co22) : Value).ownBlock) (.slice Ao23 t395.length co23) t395) ∧ Aside0 (wc.heap[gb387]? = some (.cells #[.int .i64 a0_0, .int .i64 a0_1, .int .i64 a0_2, (.slice A0_3 l0_3.length c0_3)] 32 (0, 0))) ∧ Aside0 (wc.heap[gb399]? = some (.cells #[.int .i64 t391, (.slice Ao22 t392.length co22), (.slice Ao23 t395.length co23)] 50 (0, 0))) ∧ Aside0 (Below w.heap.size w wc))
  case first =>
   have H := HC11.out
   clear HC11
   obtain ⟨-, c24b0, H⟩ | ⟨-, c24b0, H⟩ := ic_ H
   ·(first | rw [c24b0] | (simp only [i64_w, i32_w]; rw [c24b0]) | rw [c24b1] | skip)
    have H' := am H
    clear H
    go_wp2
    go_meet
    case rel => exact ⟨_, (true), sc, H', ⟨by first | omega | exact Nat.le_refl _⟩, ⟨a10_0⟩, ⟨a10_1⟩, ⟨sp BK387⟩, ⟨sp BK399⟩, ⟨sbw⟩⟩
   ·(first | rw [c24b0] | (simp only [i64_w, i32_w]; rw [c24b0]) | rw [c24b1] | skip)
    obtain rfl | rfl := tt t398
    ·replace H := ip H
     obtain ⟨t400, A26, H⟩ := bnd H
     have H' := am H
     clear H
     have hnb27 := NB387_399.out
     have hnc27 := NB399_387.out
     obtain ⟨_, _, _, _, _, _, _, _⟩ := cc4 BK387
     go_wp2_with (first | (go_at_call 66; (with_reducible refine (spec_IsCalm.calls k a0_0 a0_1 a0_2 _ _ l0_3 a3 t400 _ ?side1 ?side2 A26.out).mono ?_); (case side1 => exact Kd.C_below HR0_3.out (sbw)); (case side2 => exact HC0_3.out); rintro e w29 ⟨rfl, hb⟩; replace HO394 := am (Kd.R_below (s3 HO394 BK399) hb); replace HO397 := am (Kd.R_below (s3 HO397 BK399) hb); replace BK387 := am (blk_below (g := gb387) (o := .cells #[.int .i64 a0_0, .int .i64 a0_1, .int .i64 a0_2, .slice A0_3 l0_3.length c0_3] 32 (0, 0)) (sp BK387) hb); replace BK399 := am (blk_below (g := gb399) (o := .cells #[.int .i64 t391, .slice Ao22 t392.length co22, .slice Ao23 t395.length co23] 50 (0, 0)) (sp BK399) hb); replace HB := bsw hb; (try clear hb)))
     go_meet
     case rel => exact ⟨_, (!t400), sc, H', ⟨by first | omega | exact Nat.le_refl _⟩, ⟨sr HO394⟩, ⟨sr HO397⟩, ⟨sk BK387⟩, ⟨sk BK399⟩, ⟨sbw⟩⟩
    ·replace H := im H
     have H' := am H
     clear H
     go_wp2
     go_meet
     case rel => exact ⟨_, (true), sc, H', ⟨by first | omega | exact Nat.le_refl _⟩, ⟨a10_0⟩, ⟨a10_1⟩, ⟨sp BK387⟩, ⟨sp BK399⟩, ⟨sbw⟩⟩
  case rest =>
   clear HC11
   try clear c4
   obtain ⟨kq, x48_10, rfl, HA, HJ10, HO_400001, HO_400002, BK387, BK399, HB⟩ := hcut
   cases kq with
   | zero => exact absurd HA.out (by simp [spec_RepairHop.j0])
   | succ kj10 =>
    have H := HA.out
    clear HA
    simp only [spec_RepairHop.j0] at H
    obtain rfl | rfl := tt x48_10
    ·replace H := ip H
     obtain rfl := Option.some.inj H
     go_wp2
     go_ret
     exact ⟨se, sbw⟩
    ·replace H := im H
     obtain ⟨c31b0, H⟩ := id_ H
     obtain ⟨c32b0, H⟩ := id_ H
     obtain ⟨t402, A33, H⟩ := bnd H
     have H' := am H
     clear H
     try go_wp2
     replace HO_400001 := am (Kd.R_drew HO_400001.out)
     replace HO_400002 := am (Kd.R_drew HO_400002.out)
     replace BK387 := am (blk_drew BK387.out)
     replace BK399 := am (blk_drew BK399.out)
     replace HB := am (below_drew1 HB.out)
     obtain ⟨p401, q401, ad401, A401_2, c401_2, A401_3, c401_3, e401, hw401_0, hw401_1, hw401_2, hw401_3, hx401_0, hx401_1, hx401_2, hx401_3, HC401_2, HR401_2, HC401_3, HR401_3⟩ := aT_T76 HR0_3 HB t390
     cases e401
     refine start_ (n := 12) (S := fun w' => w'.cell? ⟨gb399, 0, none⟩ = some (.int .i64 t391) ∧ w'.cell? ⟨gb399, 1, none⟩ = some (.slice Ao22 t392.length co22) ∧ w'.cell? ⟨gb399, 2, none⟩ = some (.slice Ao23 t395.length co23) ∧ w'.cell? ⟨gb387, 0, none⟩ = some (.int .i64 a0_0) ∧ w'.cell? ⟨gb387, 1, none⟩ = some (.int .i64 a0_1) ∧ w'.cell? ⟨gb387, 2, none⟩ = some (.int .i64 a0_2) ∧ w'.cell? ⟨gb387, 3, none⟩ = some (.slice (some ad401) l0_3.length c0_3) ∧ w'.cell? (ad401.add ((t390).toNat * 4)) = some (.int .i64 ((rd_T76 l0_3 t390).f0.f0)) ∧ w'.cell? ⟨(ad401.add ((t390).toNat * 4)).block, (ad401.add ((t390).toNat * 4)).off + 1, none⟩ = some (.int .i64 ((rd_T76 l0_3 t390).f0.f1)) ∧ w'.cell? ⟨(ad401.add ((t390).toNat * 4)).block, (ad401.add ((t390).toNat * 4)).off + 2, none⟩ = some (.slice A401_2 ((rd_T76 l0_3 t390).f1).length c401_2) ∧ w'.cell? ⟨(ad401.add ((t390).toNat * 4)).block, (ad401.add ((t390).toNat * 4)).off + 3, none⟩ = some (.slice A401_3 ((rd_T76 l0_3 t390).f2).length c401_3)) (ds := []) (bt 12 0) (by kernel_rfl) rfl (by kernel_rfl) ⟨bc0 BK399, bc1 BK399, bc2 BK399, bc0 BK387, bc1 BK387, bc2 BK387, bc3 BK387, (hb_ HB hw401_0), (hb_ HB hw401_1), (hb_ HB hw401_2), (hb_ HB hw401_3)⟩ (fun hHeld => ?_); refine with_tabW spec_RepairHop.tab8 spec_RepairHop.bits8 (fun HT_ HW_ => ?_)
     generalize wc.drew = w34 at HO_400001 HO_400002 BK387 BK399 HB HR401_2 HR401_3 hx401_0 hx401_1 hx401_2 hx401_3 hHeld ⊢
     refine r4_ 1 3 7 9 ?_
     refine tv_ 0 ?_
     refine tv_ 2 ?_
     refine r2_ 4 5 ?_
     refine tv_ 6 ?_
     refine tv_ 8 ?_
     refine ow_ 10 (fun K hK => ?_)
     refine goes_ Tryz.func67 (by kernel_rfl) rfl #[.agg #[.int .i64 t391, .slice Ao22 t392.length co22, .slice Ao23 t395.length co23], .slice A401_2 ((rd_T76 l0_3 t390).f1).length c401_2, .int .i64 a0_1, .int .i64 a1] (by rfl) rfl rfl sl ?_
     with_reducible refine (spec_AltsOf.calls kj10 t391 _ _ t392 _ _ t395 _ _ ((rd_T76 l0_3 t390).f1) a0_1 a1 t402 _ ?side1 ?side2 ?side3 ?side4 ?side5 ?side6 A33.out).mono ?_
     (case side1 => exact cr HO_400001)
     (case side2 => exact (Kd.R_reads' HO_400001.out).2.1)
     (case side3 => exact cr HO_400002)
     (case side4 => exact (Kd.R_reads' HO_400002.out).2.1)
     (case side5 => exact cb HR401_2)
     (case side6 => exact HC401_2.out)
     rintro e w35 ⟨v403, rfl, ho0, hb⟩
     refine ⟨_, rfl, ?_⟩
     have HO404 := am (Kd.R_lower (Kd.R_new' (Kd.R_new' ho0 (Kd.R_lt (sr HO_400001))) (Kd.R_lt (sr HO_400002))) (below_size (sbw)))
     replace HO_400001 := am (Kd.R_elder' (sr HO_400001) (Kd.R_base ho0) hb)
     replace HO_400002 := am (Kd.R_elder' (sr HO_400002) (Kd.R_base ho0) hb)
     replace BK387 := bb BK387 hb
     replace BK399 := bb BK399 hb
     replace HB := bsw hb
     (try clear hb)
     (try clear ho0)
     refine hw_ hK ⟨bc0 BK399, bc1 BK399, bc2 BK399, bc0 BK387, bc1 BK387, bc2 BK387, bc3 BK387, (hb_ HB hw401_0), (hb_ HB hw401_1), (hb_ HB hw401_2), (hb_ HB hw401_3)⟩ (fun hHeld => ?_)
     clear hK K
     refine r1_ 11 ?_
     refine done_ (done_of HT_.out (by kernel_rfl)) ?_
     try go_wp2
     go_loopg [16] kj10 (fun kq v16 w' => ∃ (x16_2 : Int), v16 = .int .i64 x16_2 ∧ Aside0 (spec_RepairHop.l0 kq l4 t402 x16_2 = some r) ∧ Aside0 (kq ≤ kj10) ∧ Aside0 (Kd.R (Kd.int .i64) 3 w' w.heap.size (fun k_ => some k_ ≠ ((.slice Ao22 t392.length co22) : Value).ownBlock ∧ some k_ ≠ ((.slice Ao23 t395.length co23) : Value).ownBlock) v403 t402) ∧ Aside0 (Kd.R (Kd.int .i64) 3 w' w.heap.size (fun k_ => some k_ ≠ (v403 : Value).ownBlock ∧ some k_ ≠ ((.slice Ao23 t395.length co23) : Value).ownBlock) (.slice Ao22 t392.length co22) t392) ∧ Aside0 (Kd.R (Kd.int .i64) 3 w' w.heap.size (fun k_ => some k_ ≠ (v403 : Value).ownBlock ∧ some k_ ≠ ((.slice Ao22 t392.length co22) : Value).ownBlock) (.slice Ao23 t395.length co23) t395) ∧ Aside0 (w'.heap[gb387]? = some (.cells #[.int .i64 a0_0, .int .i64 a0_1, .int .i64 a0_2, (.slice (some ad401) l0_3.length c0_3)] 32 (0, 0))) ∧ Aside0 (w'.heap[gb399]? = some (.cells #[.int .i64 t391, (.slice Ao22 t392.length co22), (.slice Ao23 t395.length co23)] 50 (0, 0))) ∧ Aside0 (Below w.heap.size w w'))
     case atStart => exact ⟨(0), sc, H', kk0, ⟨by exact rm HO404 (fun _ hk => ⟨hk.1.2, hk.2⟩)⟩, ⟨by exact rm HO_400001 (fun _ hk => ⟨hk.2, hk.1⟩)⟩, ⟨by exact rm HO_400002 (fun _ hk => ⟨hk.2, hk.1⟩)⟩, ⟨sk BK387⟩, ⟨sk BK399⟩, ⟨sbw⟩⟩
     case round =>
      clear H'
      try clear c4
      try clear c31b0
      try clear c32b0
      try clear hx401_0
      try clear hx401_1
      try clear hx401_2
      try clear hx401_3
      try clear p401
      try clear q401
      obtain ⟨x16_2, rfl, HA, HK2, HO_15, HO_400001, HO_400002, BK387, BK399, HB⟩ := hrel
      cases gk with
      | zero => exact absurd HA.out (by simp [spec_RepairHop.l0])
      | succ k2 =>
       have H := HA.out
       clear HA
       simp only [spec_RepairHop.l0] at H
       obtain ⟨-, c36b0, H⟩ | ⟨-, c36b0, H⟩ := ic_ H
       ·obtain ⟨c37b0, H⟩ := id_ H
        obtain ⟨t406, A38, H⟩ := bnd H
        obtain rfl | rfl := tt t406
        ·replace H := ip H
         have H' := am H
         clear H
         obtain ⟨Ao40, co40, eo40⟩ := Kd.R_slice HO_15.out
         subst eo40
         have p405 : 0 ≤ (x16_2 : Int) := sa
         have q405 : x16_2 < (t402.length : Int) := sa
         obtain ⟨ad405, e405, hx405_0⟩ := Kd.at_int (Kd.R_reads' HO_15.out).2.2 x16_2 p405 q405
         cases e405
         replace p405 := eq_true p405
         replace q405 := eq_true q405
         go_wp2_with (first | ((with_reducible refine gc 63 rfl ?_); refine gL (some 71) Tryz.func63 #[.slice A4 l4.length c4, .int .i64 (rd t402 x16_2)] ?_; (with_reducible refine (spec_l15Has.calls k2 _ _ l4 (rd t402 x16_2) true _ ?side1 ?side2 A38.out).mono ?_); (case side1 => exact cb HR4); (case side2 => exact HC4.out); rintro e w' ⟨rfl, ⟨nd, rfl⟩⟩; refine ⟨_, rfl, ?_⟩))
         go_roundg k2
         case measure => have := HJ10.out; have := HK2.out; omega
         case rel => exact ⟨(wrap64 (x16_2 + 1)), sc, H', ⟨by have := HJ10.out; have := HK2.out; omega⟩, ⟨sr HO_15⟩, ⟨sr HO_400001⟩, ⟨sr HO_400002⟩, ⟨sk BK387⟩, ⟨sk BK399⟩, ⟨sbw⟩⟩
        ·replace H := im H
         obtain rfl := Option.some.inj H
         obtain ⟨Ao41, co41, eo41⟩ := Kd.R_slice HO_15.out
         subst eo41
         have p405 : 0 ≤ (x16_2 : Int) := sa
         have q405 : x16_2 < (t402.length : Int) := sa
         obtain ⟨ad405, e405, hx405_0⟩ := Kd.at_int (Kd.R_reads' HO_15.out).2.2 x16_2 p405 q405
         cases e405
         replace p405 := eq_true p405
         replace q405 := eq_true q405
         go_wp2_with (first | ((with_reducible refine gc 63 rfl ?_); refine gL (some 71) Tryz.func63 #[.slice A4 l4.length c4, .int .i64 (rd t402 x16_2)] ?_; (with_reducible refine (spec_l15Has.calls k2 _ _ l4 (rd t402 x16_2) false _ ?side1 ?side2 A38.out).mono ?_); (case side1 => exact cb HR4); (case side2 => exact HC4.out); rintro e w' ⟨rfl, ⟨nd, rfl⟩⟩; refine ⟨_, rfl, ?_⟩; have p407 : 0 ≤ (x16_2 : Int) := sa; have q407 : x16_2 < (t402.length : Int) := sa; obtain ⟨ad407, e407, hx407_0⟩ := Kd.at_int (Kd.R_reads' HO_15.out).2.2 x16_2 p407 q407; obtain rfl : ad405 = ad407 := (by injection e407); replace p407 := eq_true p407; replace q407 := eq_true q407))
         go_ret
         exact ⟨se, sbw⟩
       ·obtain rfl := Option.some.inj H
        obtain ⟨Ao42, co42, eo42⟩ := Kd.R_slice HO_15.out
        subst eo42
        go_wp2
        go_ret
        exact ⟨se, sbw⟩
 ·replace H := im H
  obtain rfl := Option.some.inj H
  go_enter Tryz.func32, Tryz.ntmps32
  go_wp2_with (first | ((with_reducible refine gd 5 rfl ?_); refine bx 5 #[.int .i64 a0_0, .int .i64 a0_1, .int .i64 a0_2, .slice A0_3 l0_3.length c0_3] 32 ?_; intro gb387 hg w43 hbox hb; have GW387 := bz w hg; have GE387 := bz w hg; replace HB := bs hb; have BK387 := am hbox; clear hb hbox hg; obtain ⟨_, _, _, _, _, _, _, _⟩ := cc4 BK387) | ((with_reducible refine gc 62 rfl ?_); refine gL (some 21) Tryz.func62 #[.agg #[.int .i64 a0_0, .int .i64 a0_1, .int .i64 a0_2, .slice A0_3 l0_3.length c0_3], .int .i64 a1, .int .i64 a2, .int .i64 a3] ?_; (with_reducible refine (spec_HopAt.calls k a0_0 a0_1 a0_2 _ _ l0_3 a1 a2 a3 t388 _ ?side1 ?side2 A6.out).mono ?_); (case side1 => exact cb HR0_3); (case side2 => exact HC0_3.out); rintro e w45 ⟨rfl, hb⟩; refine ⟨_, rfl, ?_⟩; replace BK387 := bb BK387 hb; replace HB := bsw hb; (try clear hb)) | ((with_reducible refine gc 63 rfl ?_); refine gL (some 24) Tryz.func63 #[.slice A4 l4.length c4, .int .i64 t388] ?_; (with_reducible refine (spec_l15Has.calls k _ _ l4 t388 false _ ?side1 ?side2 A7.out).mono ?_); (case side1 => exact cb HR4); (case side2 => exact HC4.out); rintro e w' ⟨rfl, ⟨nd, rfl⟩⟩; refine ⟨_, rfl, ?_⟩))
  go_ret
  exact ⟨se, sbw⟩

end Go.Proofs.YthnlkgbhohchoaaGreat.QFnExactRepairedAt
