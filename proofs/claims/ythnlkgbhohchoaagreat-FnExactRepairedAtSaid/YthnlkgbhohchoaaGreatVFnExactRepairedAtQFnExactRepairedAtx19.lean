/- Printed by a program of the session. Conditions: none. (squeezed). -/
import Derived.Test.YthnlkgbhohchoaaGreatVFnExactRepairedAtQFnExactRepairedAtx14
import Derived.Test.YthnlkgbhohchoaaGreatVFnExactRepairedAtQFnExactRepairedAtx18
namespace Go.Proofs.YthnlkgbhohchoaaGreat.QFnExactRepairedAt
set_option maxHeartbeats 8000000
set_option maxRecDepth 100000
open Go.RowKit Go.Proofs.YthnlkgbhohchoaaGreatW.PrintWords Go.Proofs.YthnlkgbhohchoaaGreatW.PrintLast Go.Proofs.YthnlkgbhohchoaaGreatW.PrintMore Go.Proofs.YthnlkgbhohchoaaGreat.Open Go.Proofs.YthnlkgbhohchoaaGreat.Sq
attribute [local go_sem] max2_int min2_int max_two min_two max_three min_three max_four min_four   -- for this text's walks alone
attribute [local go_sem] isSome_set
set_option linter.unusedVariables false
set_option linter.unusedSimpArgs false

mutual
def impl_RepairHop.j0 : Nat → Int → Int → Int → List Int → Bool → Int → Int → Int → List (S76) → Option (Int)
  | 0, _, _, _, _, _, _, _, _, _ => none
  | k + 1, x1, x2, x3, x4, x34, x653000, x653001, x653002, x653003 => if x34 = true then (some (-1)) else ((impl_PieceAt.f x653000 x653001 x653002 x653003 x3).bind fun t656 => ((impl_TableIn.f x653000 x653001 x653002 x653003 t656 x2).bind fun bt657 => (if 0 ≤ t656 then (if t656 < (x653003.length : Int) then ((impl_AltsOf.f k bt657.1 bt657.2.1 bt657.2.2.1 ((rd_T76 x653003 t656).f1) x653001 x1).bind fun t667 => (impl_RepairHop.l0 k x4 t667 (t667.length : Int) 0)) else (none)) else (none))))
def impl_RepairHop.l0 : Nat → List Int → List Int → Int → Int → Option (Int)
  | 0, _, _, _, _ => none
  | k + 1, x4, x55, x56, x57 => if x57 < x56 then (if 0 ≤ x57 then (if x57 < (x55.length : Int) then ((slices_Contains_int_int.f k x4 (rd x55 x57)).bind fun t671 => (if t671 = true then (impl_RepairHop.l0 k x4 x55 x56 (wrap64 (x57 + 1))) else (some (rd x55 x57)))) else (none)) else (none)) else (some (-1))
end
def impl_RepairHop.f (k : Nat) (a0_0 : Int) (a0_1 : Int) (a0_2 : Int) (l0_3 : List (S76)) (a1 : Int) (a2 : Int) (a3 : Int) (l4 : List Int) : Option (Int) := (impl_HopAt.f k a0_0 a0_1 a0_2 l0_3 a1 a2 a3).bind fun t653 => ((slices_Contains_int_int.f k l4 t653).bind fun t654 => (if t654 = true then (if t653 < 0 then (impl_RepairHop.j0 k a1 a2 a3 l4 true a0_0 a0_1 a0_2 l0_3) else ((impl_IsCalm.f k a0_0 a0_1 a0_2 l0_3 a3).bind fun t655 => (impl_RepairHop.j0 k a1 a2 a3 l4 (!t655) a0_0 a0_1 a0_2 l0_3))) else (some t653)))
theorem impl_RepairHop.mono_l : ∀ k, (∀ y0 y1 y2 y3 y4 y5 y6 y7 y8, LeO (impl_RepairHop.j0 k y0 y1 y2 y3 y4 y5 y6 y7 y8) (impl_RepairHop.j0 (k + 1) y0 y1 y2 y3 y4 y5 y6 y7 y8)) ∧ (∀ y0 y1 y2 y3, LeO (impl_RepairHop.l0 k y0 y1 y2 y3) (impl_RepairHop.l0 (k + 1) y0 y1 y2 y3))
  | 0 => ⟨fun _ _ _ _ _ _ _ _ _ r h => by simp [impl_RepairHop.j0] at h, fun _ _ _ _ r h => by simp [impl_RepairHop.l0] at h⟩
  | k + 1 => by
    obtain ⟨ih0, ih1⟩ := impl_RepairHop.mono_l k
    refine ⟨?_, ?_⟩
    · intro y0 y1 y2 y3 y4 y5 y6 y7 y8
      unfold impl_RepairHop.j0
      have m0 := @impl_AltsOf.mono
      have m1 := @impl_HopAt.mono
      have m2 := @impl_IsCalm.mono
      have m3 := @slices_Contains_int_int.mono
      exact mo
    · intro y0 y1 y2 y3
      unfold impl_RepairHop.l0
      have m0 := @impl_AltsOf.mono
      have m1 := @impl_HopAt.mono
      have m2 := @impl_IsCalm.mono
      have m3 := @slices_Contains_int_int.mono
      exact mo
theorem impl_RepairHop.mono : ∀ a0 a1 a2 a3 a4 a5 a6 a7 k, LeO (impl_RepairHop.f k a0 a1 a2 a3 a4 a5 a6 a7) (impl_RepairHop.f (k + 1) a0 a1 a2 a3 a4 a5 a6 a7) := by
  intro a0 a1 a2 a3 a4 a5 a6 a7 k
  obtain ⟨ih0, ih1⟩ := impl_RepairHop.mono_l k
  unfold impl_RepairHop.f
  have m0 := @impl_AltsOf.mono
  have m1 := @impl_HopAt.mono
  have m2 := @impl_IsCalm.mono
  have m3 := @slices_Contains_int_int.mono
  exact mo
def impl_RepairHop.T8 : Bool × List (List Nat × List Nat) := (true, [([], []), ([], []), ([1], [1]), ([], []), ([2, 3], [2, 3]), ([4], [4]), ([5], [5]), ([], []), ([7], [7]), ([], []), ([0, 6, 8, 9], [0, 6, 8, 9]), ([10], [10]), ([], [])])
def impl_RepairHop.B8 : List Nat := [0, 0, 2, 0, 14, 30, 62, 0, 128, 0, 1023, 2047, 0]
theorem impl_RepairHop.tab8 : rtab .any (opsOf Tryz.f35 8) = impl_RepairHop.T8 := by kernel_rfl
theorem impl_RepairHop.bits8 : waitsOk impl_RepairHop.T8.2 impl_RepairHop.B8 = true := by kernel_rfl
theorem impl_RepairHop.calls (k : Nat) (a0_0 : Int) (a0_1 : Int) (a0_2 : Int) (A0_3 : Option Addr) (c0_3 : Nat) (l0_3 : List (S76)) (a1 : Int) (a2 : Int) (a3 : Int) (A4 : Option Addr) (c4 : Nat) (l4 : List Int) (r : Int) (w : World) (hr0_3 : Kd.C k76 w A0_3 l0_3.length l0_3) (hc0_3 : l0_3.length ≤ c0_3) (hr4 : Kd.C (Kd.int .i64) w A4 l4.length l4) (hc4 : l4.length ≤ c4) (h : impl_RepairHop.f k a0_0 a0_1 a0_2 l0_3 a1 a2 a3 l4 = some r) :
    Calls Tryz.prog 35 #[.agg #[.int .i64 a0_0, .int .i64 a0_1, .int .i64 a0_2, .slice A0_3 l0_3.length c0_3], .int .i64 a1, .int .i64 a2, .int .i64 a3, .slice A4 l4.length c4] w fun e w' => e = .returned (.int .i64 r) ∧ Below w.heap.size w w' := by
 have hu32 := Tryz.underlying32
 have hu50 := Tryz.underlying50
 have HR0_3 := am hr0_3
 have HC0_3 := am hc0_3
 clear hr0_3 hc0_3
 have HR4 := am hr4
 have HC4 := am hc4
 clear hr4 hc4
 have HB := am (Below.refl w.heap.size w)
 have H := h; unfold impl_RepairHop.f at H
 clear h
 obtain ⟨t653, A6, H⟩ := bnd H
 obtain ⟨t654, A7, H⟩ := bnd H
 obtain rfl | rfl := tt t654
 ·replace H := ip H
  have HC9 := am H
  clear H
  go_enter Tryz.func35, Tryz.ntmps35
  go_upto_region 4 with (first | ((with_reducible refine gd 5 rfl ?_); refine bx 5 #[.int .i64 a0_0, .int .i64 a0_1, .int .i64 a0_2, .slice A0_3 l0_3.length c0_3] 32 ?_; intro gb652 hg w10 hbox hb; have GW652 := bz w hg; have GE652 := bz w hg; replace HB := bs hb; have BK652 := am hbox; clear hb hbox hg; obtain ⟨_, _, _, _, _, _, _, _⟩ := cc4 BK652) | ((with_reducible refine gc 70 rfl ?_); refine gL (some 21) Tryz.func70 #[.agg #[.int .i64 a0_0, .int .i64 a0_1, .int .i64 a0_2, .slice A0_3 l0_3.length c0_3], .int .i64 a1, .int .i64 a2, .int .i64 a3] ?_; (with_reducible refine (impl_HopAt.calls k a0_0 a0_1 a0_2 _ _ l0_3 a1 a2 a3 t653 _ ?side1 ?side2 A6.out).mono ?_); (case side1 => exact cb HR0_3); (case side2 => exact HC0_3.out); rintro e w12 ⟨rfl, hb⟩; refine ⟨_, rfl, ?_⟩; replace BK652 := bb BK652 hb; replace HB := bsw hb; (try clear hb)) | ((with_reducible refine gc 71 rfl ?_); refine gL (some 24) Tryz.func71 #[.slice A4 l4.length c4, .int .i64 t653] ?_; (with_reducible refine (slices_Contains_int_int.calls k _ _ l4 t653 true _ ?side1 ?side2 A7.out).mono ?_); (case side1 => exact cb HR4); (case side2 => exact HC4.out); rintro e w' ⟨rfl, ⟨nd, rfl⟩⟩; refine ⟨_, rfl, ?_⟩))
  (try simp only [Act.put, List.setIfInBounds_toArray, List.set_cons_zero, List.set_cons_succ])
  go_cut [34] (fun v34 wc => ∃ (kq : Nat) (x34_8 : Bool), v34 = .bool x34_8 ∧ Aside0 (impl_RepairHop.j0 kq a1 a2 a3 l4 x34_8 a0_0 a0_1 a0_2 l0_3 = some r) ∧ Aside0 (kq ≤ k) ∧ Aside0 (wc.heap[gb652]? = some (.cells #[.int .i64 a0_0, .int .i64 a0_1, .int .i64 a0_2, (.slice A0_3 l0_3.length c0_3)] 32 (0, 0))) ∧ Aside0 (Below w.heap.size w wc))
  case first =>
   have H := HC9.out
   clear HC9
   obtain ⟨-, c13b0, H⟩ | ⟨-, c13b0, H⟩ := ic_ H
   ·(first | rw [c13b0] | (simp only [i64_w, i32_w]; rw [c13b0]) | rw [c13b1] | skip)
    have H' := am H
    clear H
    go_wp2
    go_meet
    case rel => exact ⟨_, (true), sc, H', ⟨by first | omega | exact Nat.le_refl _⟩, ⟨sk BK652⟩, ⟨sbw⟩⟩
   ·(first | rw [c13b0] | (simp only [i64_w, i32_w]; rw [c13b0]) | rw [c13b1] | skip)
    obtain ⟨t655, A14, H⟩ := bnd H
    have H' := am H
    clear H
    obtain ⟨_, _, _, _, _, _, _, _⟩ := cc4 BK652
    go_wp2_with (first | (go_at_call 72; (with_reducible refine (impl_IsCalm.calls k a0_0 a0_1 a0_2 _ _ l0_3 a3 t655 _ ?side1 ?side2 A14.out).mono ?_); (case side1 => exact cb HR0_3); (case side2 => exact HC0_3.out); rintro e w16 ⟨rfl, hb⟩; replace BK652 := bb BK652 hb; replace HB := bsw hb; (try clear hb)))
    go_meet
    case rel => exact ⟨_, (!t655), sc, H', ⟨by first | omega | exact Nat.le_refl _⟩, ⟨sk BK652⟩, ⟨sbw⟩⟩
  case rest =>
   clear HC9
   try clear c4
   obtain ⟨kq, x34_8, rfl, HA, HJ8, BK652, HB⟩ := hcut
   cases kq with
   | zero => exact absurd HA.out (by simp [impl_RepairHop.j0])
   | succ kj8 =>
    have H := HA.out
    clear HA
    simp only [impl_RepairHop.j0] at H
    obtain rfl | rfl := tt x34_8
    ·replace H := ip H
     obtain rfl := Option.some.inj H
     go_wp2
     go_ret
     exact ⟨se, sbw⟩
    ·replace H := im H
     obtain ⟨t656, A18, H⟩ := bnd H
     obtain ⟨⟨t657, t658, t661, t664⟩, A19, H⟩ := bnd H
     try dsimp only at H
     obtain ⟨c20b0, H⟩ := id_ H
     obtain ⟨c21b0, H⟩ := id_ H
     obtain ⟨t667, A22, H⟩ := bnd H
     have H' := am H
     clear H
     obtain ⟨hcz23_0, hcz23_1, hcz23_2, hcz23_3, hfz23_0, hfz23_1, hfz23_2, hfz23_3⟩ := cc4 BK652
     try go_wp2_with (first | ((with_reducible refine gc 73 rfl ?_); refine gL (some 37) Tryz.func73 #[.agg #[.int .i64 a0_0, .int .i64 a0_1, .int .i64 a0_2, .slice A0_3 l0_3.length c0_3], .int .i64 a3] ?_; (with_reducible refine (impl_PieceAt.calls a0_0 a0_1 a0_2 _ _ l0_3 a3 t656 _ ?side1 ?side2 A18.out).mono ?_); (case side1 => exact cb HR0_3); (case side2 => exact HC0_3.out); rintro e w24 ⟨rfl, hb⟩; refine ⟨_, rfl, ?_⟩; replace BK652 := bb BK652 hb; replace HB := bsw hb; (try clear hb); obtain ⟨_, _, _, _, _, _, _, _⟩ := cc4 BK652) | ((with_reducible refine gc 74 rfl ?_); refine gL (some 42) Tryz.func74 #[.agg #[.int .i64 a0_0, .int .i64 a0_1, .int .i64 a0_2, .slice A0_3 l0_3.length c0_3], .int .i64 t656, .int .i64 a2] ?_; (with_reducible refine (impl_TableIn.calls a0_0 a0_1 a0_2 _ _ l0_3 t656 a2 t657 t658 t661 t664 _ ?side1 ?side2 A19.out).mono ?_); (case side1 => exact cb HR0_3); (case side2 => exact HC0_3.out); rintro e w26 ⟨v659, v662, rfl, ho0, ho1, hb⟩; refine ⟨_, rfl, ?_⟩; have HO660 := am (Kd.R_lower ho0 (below_size (sbw))); have HO663 := am (Kd.R_lower ho1 (below_size (sbw))); replace BK652 := bb BK652 hb; replace HB := bsw hb; (try clear hb); (try clear ho0); (try clear ho1)) | ((with_reducible refine gd 13 rfl ?_); refine bx 13 #[.int .i64 0, .slice none 0 0, .slice none 0 0] 50 ?_; intro gb665 hg w27 hbox hb; replace HO660 := rb HO660 hb; replace HO663 := rb HO663 hb; have GW665 := bzw w hg; have GE665 := bzw w hg; replace HB := bsw hb; have BK665 := am hbox; have NB652_665 := nl BK652 hg; have NB665_652 := ng BK652 hg; replace BK652 := bb BK652 hb; clear hb hbox hg; have hnb28 := NB665_652.out; have hnc28 := NB652_665.out; obtain ⟨_, _, _, _, _, _⟩ := cc3 BK665; obtain ⟨Ao30, co30, eo30⟩ := Kd.R_slice HO660.out; subst eo30; obtain ⟨Ao31, co31, eo31⟩ := Kd.R_slice HO663.out; subst eo31))
     have n0_ : Aside0 (Kd.R (Kd.int .i64) 3 (((w27.setCell ⟨gb665, 0, none⟩ (.int .i64 t657)).setCell ⟨gb665, 1, none⟩ (.slice Ao30 t658.length co30)).setCell ⟨gb665, 2, none⟩ (.slice Ao31 t661.length co31)) w.heap.size (fun k_ => some k_ ≠ (.slice Ao31 t661.length co31 : Value).ownBlock) (.slice Ao30 t658.length co30) t658) := ⟨by (with_reducible repeat (first | apply Kd.R_alloc | apply Kd.R_drewN | apply Kd.R_drew)); exact Kd.R_mono (h3 HO660 BK665) (fun _ hk => hk.1)⟩
     have n1_ : Aside0 (Kd.R (Kd.int .i64) 3 (((w27.setCell ⟨gb665, 0, none⟩ (.int .i64 t657)).setCell ⟨gb665, 1, none⟩ (.slice Ao30 t658.length co30)).setCell ⟨gb665, 2, none⟩ (.slice Ao31 t661.length co31)) w.heap.size (fun k_ => some k_ ≠ (.slice Ao30 t658.length co30 : Value).ownBlock) (.slice Ao31 t661.length co31) t661) := ⟨by (with_reducible repeat (first | apply Kd.R_alloc | apply Kd.R_drewN | apply Kd.R_drew)); exact Kd.R_mono (h3 HO663 BK665) (fun _ hk => hk.1)⟩
     have n2_ : Aside0 ((((w27.setCell ⟨gb665, 0, none⟩ (.int .i64 t657)).setCell ⟨gb665, 1, none⟩ (.slice Ao30 t658.length co30)).setCell ⟨gb665, 2, none⟩ (.slice Ao31 t661.length co31)).heap[gb652]? = some (.cells #[.int .i64 a0_0, .int .i64 a0_1, .int .i64 a0_2, .slice A0_3 l0_3.length c0_3] 32 (0, 0))) := ⟨sp BK652⟩
     have n3_ : Aside0 ((((w27.setCell ⟨gb665, 0, none⟩ (.int .i64 t657)).setCell ⟨gb665, 1, none⟩ (.slice Ao30 t658.length co30)).setCell ⟨gb665, 2, none⟩ (.slice Ao31 t661.length co31)).heap[gb665]? = some (.cells #[.int .i64 t657, .slice Ao30 t658.length co30, .slice Ao31 t661.length co31] 50 (0, 0))) := ⟨sp BK665⟩
     have n4_ : Aside0 (Below w.heap.size w (((w27.setCell ⟨gb665, 0, none⟩ (.int .i64 t657)).setCell ⟨gb665, 1, none⟩ (.slice Ao30 t658.length co30)).setCell ⟨gb665, 2, none⟩ (.slice Ao31 t661.length co31))) := ⟨sbw⟩
     (try clear HO660)
     (try clear HO663)
     (try clear BK652)
     (try clear BK665)
     (try clear HB)
     generalize (((w27.setCell ⟨gb665, 0, none⟩ (.int .i64 t657)).setCell ⟨gb665, 1, none⟩ (.slice Ao30 t658.length co30)).setCell ⟨gb665, 2, none⟩ (.slice Ao31 t661.length co31)) = w32 at n0_ n1_ n2_ n3_ n4_ ⊢
     have HO660 := n0_
     have HO663 := n1_
     have BK652 := n2_
     have BK665 := n3_
     have HB := n4_
     clear n0_ n1_ n2_ n3_ n4_
     replace HO660 := am (Kd.R_drew HO660.out)
     replace HO663 := am (Kd.R_drew HO663.out)
     replace BK652 := am (blk_drew BK652.out)
     replace BK665 := am (blk_drew BK665.out)
     replace HB := am (below_drew1 HB.out)
     obtain ⟨p666, q666, ad666, A666_2, c666_2, A666_3, c666_3, e666, hw666_0, hw666_1, hw666_2, hw666_3, hx666_0, hx666_1, hx666_2, hx666_3, HC666_2, HR666_2, HC666_3, HR666_3⟩ := aT_T76 HR0_3 HB t656
     cases e666
     refine start_ (n := 13) (S := fun w' => w'.cell? ⟨gb665, 0, none⟩ = some (.int .i64 t657) ∧ w'.cell? ⟨gb665, 1, none⟩ = some (.slice Ao30 t658.length co30) ∧ w'.cell? ⟨gb665, 2, none⟩ = some (.slice Ao31 t661.length co31) ∧ w'.cell? ⟨gb652, 0, none⟩ = some (.int .i64 a0_0) ∧ w'.cell? ⟨gb652, 1, none⟩ = some (.int .i64 a0_1) ∧ w'.cell? ⟨gb652, 2, none⟩ = some (.int .i64 a0_2) ∧ w'.cell? ⟨gb652, 3, none⟩ = some (.slice (some ad666) l0_3.length c0_3) ∧ w'.cell? (ad666.add ((t656).toNat * 4)) = some (.int .i64 ((rd_T76 l0_3 t656).f0.f0)) ∧ w'.cell? ⟨(ad666.add ((t656).toNat * 4)).block, (ad666.add ((t656).toNat * 4)).off + 1, none⟩ = some (.int .i64 ((rd_T76 l0_3 t656).f0.f1)) ∧ w'.cell? ⟨(ad666.add ((t656).toNat * 4)).block, (ad666.add ((t656).toNat * 4)).off + 2, none⟩ = some (.slice A666_2 ((rd_T76 l0_3 t656).f1).length c666_2) ∧ w'.cell? ⟨(ad666.add ((t656).toNat * 4)).block, (ad666.add ((t656).toNat * 4)).off + 3, none⟩ = some (.slice A666_3 ((rd_T76 l0_3 t656).f2).length c666_3)) (ds := []) (bt 13 0) (by kernel_rfl) rfl (by kernel_rfl) ⟨bc0 BK665, bc1 BK665, bc2 BK665, bc0 BK652, bc1 BK652, bc2 BK652, bc3 BK652, (hb_ HB hw666_0), (hb_ HB hw666_1), (hb_ HB hw666_2), (hb_ HB hw666_3)⟩ (fun hHeld => ?_); refine with_tabW impl_RepairHop.tab8 impl_RepairHop.bits8 (fun HT_ HW_ => ?_)
     generalize w32.drew = w33 at HO660 HO663 BK652 BK665 HB HR666_2 HR666_3 hx666_0 hx666_1 hx666_2 hx666_3 hHeld ⊢
     refine r5_ 1 3 7 9 12 ?_
     refine tv_ 0 ?_
     refine tv_ 2 ?_
     refine r2_ 4 5 ?_
     refine tv_ 6 ?_
     refine tv_ 8 ?_
     refine ow_ 10 (fun K hK => ?_)
     refine goes_ Tryz.func25 (by kernel_rfl) rfl #[.agg #[.int .i64 t657, .slice Ao30 t658.length co30, .slice Ao31 t661.length co31], .slice A666_2 ((rd_T76 l0_3 t656).f1).length c666_2, .int .i64 a0_1, .int .i64 a1] (by rfl) rfl rfl sl ?_
     with_reducible refine (impl_AltsOf.calls kj8 t657 _ _ t658 _ _ t661 _ _ ((rd_T76 l0_3 t656).f1) a0_1 a1 t667 _ ?side1 ?side2 ?side3 ?side4 ?side5 ?side6 A22.out).mono ?_
     (case side1 => exact cr HO660)
     (case side2 => exact (Kd.R_reads' HO660.out).2.1)
     (case side3 => exact cr HO663)
     (case side4 => exact (Kd.R_reads' HO663.out).2.1)
     (case side5 => exact cb HR666_2)
     (case side6 => exact HC666_2.out)
     rintro e w34 ⟨v668, rfl, ho0, hb⟩
     refine ⟨_, rfl, ?_⟩
     have HO669 := am (Kd.R_lower (Kd.R_new' (Kd.R_new' ho0 (Kd.R_lt (sr HO660))) (Kd.R_lt (sr HO663))) (below_size (sbw)))
     replace HO660 := am (Kd.R_elder' (sr HO660) (Kd.R_base ho0) hb)
     replace HO663 := am (Kd.R_elder' (sr HO663) (Kd.R_base ho0) hb)
     replace BK652 := bb BK652 hb
     replace BK665 := bb BK665 hb
     replace HB := bsw hb
     (try clear hb)
     (try clear ho0)
     obtain ⟨Ao35, co35, eo35⟩ := Kd.R_slice HO669.out
     (first | subst eo35 | (injection eo35 with f1_ f2_ f3_; have f4_ := f1_.symm; have f5_ := f3_.symm; clear f1_ f2_ f3_; subst f4_; subst f5_))
     refine hw_ hK ⟨bc0 BK665, bc1 BK665, bc2 BK665, bc0 BK652, bc1 BK652, bc2 BK652, bc3 BK652, (hb_ HB hw666_0), (hb_ HB hw666_1), (hb_ HB hw666_2), (hb_ HB hw666_3)⟩ (fun hHeld => ?_)
     clear hK K
     refine r1_ 11 ?_
     refine done_ (done_of HT_.out (by kernel_rfl)) ?_
     try go_wp2
     go_loopg [57] kj8 (fun kq v57 w' => ∃ (x57_2 : Int), v57 = .int .i64 x57_2 ∧ Aside0 (impl_RepairHop.l0 kq l4 t667 (t667.length : Int) x57_2 = some r) ∧ Aside0 (kq ≤ kj8) ∧ Aside0 (Kd.R (Kd.int .i64) 3 w' w.heap.size (fun k_ => some k_ ≠ ((.slice Ao30 t658.length co30) : Value).ownBlock ∧ some k_ ≠ ((.slice Ao31 t661.length co31) : Value).ownBlock) (.slice Ao35 t667.length co35) t667) ∧ Aside0 (Kd.R (Kd.int .i64) 3 w' w.heap.size (fun k_ => some k_ ≠ ((.slice Ao35 t667.length co35) : Value).ownBlock ∧ some k_ ≠ ((.slice Ao31 t661.length co31) : Value).ownBlock) (.slice Ao30 t658.length co30) t658) ∧ Aside0 (Kd.R (Kd.int .i64) 3 w' w.heap.size (fun k_ => some k_ ≠ ((.slice Ao35 t667.length co35) : Value).ownBlock ∧ some k_ ≠ ((.slice Ao30 t658.length co30) : Value).ownBlock) (.slice Ao31 t661.length co31) t661) ∧ Aside0 (w'.heap[gb652]? = some (.cells #[.int .i64 a0_0, .int .i64 a0_1, .int .i64 a0_2, (.slice (some ad666) l0_3.length c0_3)] 32 (0, 0))) ∧ Aside0 (w'.heap[gb665]? = some (.cells #[.int .i64 t657, (.slice Ao30 t658.length co30), (.slice Ao31 t661.length co31)] 50 (0, 0))) ∧ Aside0 (Below w.heap.size w w'))
     case atStart => exact ⟨(0), sc, H', kk0, ⟨by exact rm HO669 (fun _ hk => ⟨hk.1.2, hk.2⟩)⟩, ⟨by exact rm HO660 (fun _ hk => ⟨hk.2, hk.1⟩)⟩, ⟨by exact rm HO663 (fun _ hk => ⟨hk.2, hk.1⟩)⟩, ⟨sk BK652⟩, ⟨sk BK665⟩, ⟨sbw⟩⟩
     case round =>
      clear H'
      try clear c4
      try clear c20b0
      try clear c21b0
      try clear hcz23_0
      try clear hcz23_1
      try clear hcz23_2
      try clear hcz23_3
      try clear hfz23_0
      try clear hfz23_1
      try clear hfz23_2
      try clear hfz23_3
      try clear hx666_0
      try clear hx666_1
      try clear hx666_2
      try clear hx666_3
      try clear p666
      try clear q666
      obtain ⟨x57_2, rfl, HA, HK2, HO_55, HO_666001, HO_666002, BK652, BK665, HB⟩ := hrel
      cases gk with
      | zero => exact absurd HA.out (by simp [impl_RepairHop.l0])
      | succ k2 =>
       have H := HA.out
       clear HA
       simp only [impl_RepairHop.l0] at H
       obtain ⟨-, c36b0, H⟩ | ⟨-, c36b0, H⟩ := ic_ H
       ·obtain ⟨c37b0, H⟩ := id_ H
        obtain ⟨c38b0, H⟩ := id_ H
        obtain ⟨t671, A39, H⟩ := bnd H
        obtain rfl | rfl := tt t671
        ·replace H := ip H
         have H' := am H
         clear H
         have p670 : 0 ≤ (x57_2 : Int) := sa
         have q670 : x57_2 < (t667.length : Int) := sa
         obtain ⟨ad670, e670, hx670_0⟩ := Kd.at_int (Kd.R_reads' HO_55.out).2.2 x57_2 p670 q670
         cases e670
         replace p670 := eq_true p670
         replace q670 := eq_true q670
         go_wp2_with (first | ((with_reducible refine gc 71 rfl ?_); refine gL (some 63) Tryz.func71 #[.slice A4 l4.length c4, .int .i64 (rd t667 x57_2)] ?_; (with_reducible refine (slices_Contains_int_int.calls k2 _ _ l4 (rd t667 x57_2) true _ ?side1 ?side2 A39.out).mono ?_); (case side1 => exact cb HR4); (case side2 => exact HC4.out); rintro e w' ⟨rfl, ⟨nd, rfl⟩⟩; refine ⟨_, rfl, ?_⟩))
         go_roundg k2
         case measure => have := HJ8.out; have := HK2.out; omega
         case rel => exact ⟨(wrap64 (x57_2 + 1)), sc, H', ⟨by have := HJ8.out; have := HK2.out; omega⟩, ⟨sr HO_55⟩, ⟨sr HO_666001⟩, ⟨sr HO_666002⟩, ⟨sk BK652⟩, ⟨sk BK665⟩, ⟨sbw⟩⟩
        ·replace H := im H
         obtain rfl := Option.some.inj H
         have p670 : 0 ≤ (x57_2 : Int) := sa
         have q670 : x57_2 < (t667.length : Int) := sa
         obtain ⟨ad670, e670, hx670_0⟩ := Kd.at_int (Kd.R_reads' HO_55.out).2.2 x57_2 p670 q670
         cases e670
         replace p670 := eq_true p670
         replace q670 := eq_true q670
         go_wp2_with (first | ((with_reducible refine gc 71 rfl ?_); refine gL (some 63) Tryz.func71 #[.slice A4 l4.length c4, .int .i64 (rd t667 x57_2)] ?_; (with_reducible refine (slices_Contains_int_int.calls k2 _ _ l4 (rd t667 x57_2) false _ ?side1 ?side2 A39.out).mono ?_); (case side1 => exact cb HR4); (case side2 => exact HC4.out); rintro e w' ⟨rfl, ⟨nd, rfl⟩⟩; refine ⟨_, rfl, ?_⟩))
         go_ret
         exact ⟨se, sbw⟩
       ·obtain rfl := Option.some.inj H
        go_wp2
        go_ret
        exact ⟨se, sbw⟩
 ·replace H := im H
  obtain rfl := Option.some.inj H
  go_enter Tryz.func35, Tryz.ntmps35
  go_wp2_with (first | ((with_reducible refine gd 5 rfl ?_); refine bx 5 #[.int .i64 a0_0, .int .i64 a0_1, .int .i64 a0_2, .slice A0_3 l0_3.length c0_3] 32 ?_; intro gb652 hg w41 hbox hb; have GW652 := bz w hg; have GE652 := bz w hg; replace HB := bs hb; have BK652 := am hbox; clear hb hbox hg; obtain ⟨_, _, _, _, _, _, _, _⟩ := cc4 BK652) | ((with_reducible refine gc 70 rfl ?_); refine gL (some 21) Tryz.func70 #[.agg #[.int .i64 a0_0, .int .i64 a0_1, .int .i64 a0_2, .slice A0_3 l0_3.length c0_3], .int .i64 a1, .int .i64 a2, .int .i64 a3] ?_; (with_reducible refine (impl_HopAt.calls k a0_0 a0_1 a0_2 _ _ l0_3 a1 a2 a3 t653 _ ?side1 ?side2 A6.out).mono ?_); (case side1 => exact cb HR0_3); (case side2 => exact HC0_3.out); rintro e w43 ⟨rfl, hb⟩; refine ⟨_, rfl, ?_⟩; replace BK652 := bb BK652 hb; replace HB := bsw hb; (try clear hb)) | ((with_reducible refine gc 71 rfl ?_); refine gL (some 24) Tryz.func71 #[.slice A4 l4.length c4, .int .i64 t653] ?_; (with_reducible refine (slices_Contains_int_int.calls k _ _ l4 t653 false _ ?side1 ?side2 A7.out).mono ?_); (case side1 => exact cb HR4); (case side2 => exact HC4.out); rintro e w' ⟨rfl, ⟨nd, rfl⟩⟩; refine ⟨_, rfl, ?_⟩))
  go_ret
  exact ⟨se, sbw⟩

def impl_RepairedAt.l0 : Nat → Int → Int → List (List Int) → List Int → List Int → Int → Int → Int → Int → Int → List (S76) → Option (List Int)
  | 0, _, _, _, _, _, _, _, _, _, _, _ => none
  | k + 1, x1, x2, x4, x11, x22, x23, x24, x673000, x673001, x673002, x673003 => if x24 < x23 then (if 0 ≤ x24 then (if x24 < (x22.length : Int) then (if x24 < (x4.length : Int) then ((impl_RepairHop.f k x673000 x673001 x673002 x673003 x24 x1 (wrap64 (x2 + (rd x22 x24))) (rd_L2 x4 x24)).bind fun t682 => (if x11.length < 17592186044416 then (impl_RepairedAt.l0 k x1 x2 x4 (x11 ++ [t682]) x22 x23 (wrap64 (x24 + 1)) x673000 x673001 x673002 x673003) else (none))) else ((impl_RepairHop.f k x673000 x673001 x673002 x673003 x24 x1 (wrap64 (x2 + (rd x22 x24))) (([] : List Int))).bind fun t686 => (if x11.length < 17592186044416 then (impl_RepairedAt.l0 k x1 x2 x4 (x11 ++ [t686]) x22 x23 (wrap64 (x24 + 1)) x673000 x673001 x673002 x673003) else (none)))) else (none)) else (none)) else (some x11)
def impl_RepairedAt.f (k : Nat) (a0_0 : Int) (a0_1 : Int) (a0_2 : Int) (l0_3 : List (S76)) (a1 : Int) (a2 : Int) (l3 : List Int) (l4 : List (List Int)) : Option (List Int) := (some (([] : List Int) : List Int)).bind fun y673 => ((impl_isMoment.f k a0_0 a0_1 a0_2 l0_3 a2 l3).bind fun t676 => (if t676 = true then (impl_RepairedAt.l0 k a1 a2 l4 y673 l3 (l3.length : Int) 0 a0_0 a0_1 a0_2 l0_3) else (some y673)))
theorem impl_RepairedAt.mono_l : ∀ k, (∀ y0 y1 y2 y3 y4 y5 y6 y7 y8 y9 y10, LeO (impl_RepairedAt.l0 k y0 y1 y2 y3 y4 y5 y6 y7 y8 y9 y10) (impl_RepairedAt.l0 (k + 1) y0 y1 y2 y3 y4 y5 y6 y7 y8 y9 y10))
  | 0 => fun _ _ _ _ _ _ _ _ _ _ _ r h => by simp [impl_RepairedAt.l0] at h
  | k + 1 => by
    have ih0 := impl_RepairedAt.mono_l k
    · intro y0 y1 y2 y3 y4 y5 y6 y7 y8 y9 y10
      unfold impl_RepairedAt.l0
      have m0 := @impl_RepairHop.mono
      have m1 := @impl_isMoment.mono
      exact mo
theorem impl_RepairedAt.mono : ∀ a0 a1 a2 a3 a4 a5 a6 a7 k, LeO (impl_RepairedAt.f k a0 a1 a2 a3 a4 a5 a6 a7) (impl_RepairedAt.f (k + 1) a0 a1 a2 a3 a4 a5 a6 a7) := by
  intro a0 a1 a2 a3 a4 a5 a6 a7 k
  have ih0 := impl_RepairedAt.mono_l k
  unfold impl_RepairedAt.f
  have m0 := @impl_RepairHop.mono
  have m1 := @impl_isMoment.mono
  exact mo
theorem impl_RepairedAt.calls (k : Nat) (a0_0 : Int) (a0_1 : Int) (a0_2 : Int) (A0_3 : Option Addr) (c0_3 : Nat) (l0_3 : List (S76)) (a1 : Int) (a2 : Int) (A3 : Option Addr) (c3 : Nat) (l3 : List Int) (A4 : Option Addr) (c4 : Nat) (l4 : List (List Int)) (r : List Int) (w : World) (hr0_3 : Kd.C k76 w A0_3 l0_3.length l0_3) (hc0_3 : l0_3.length ≤ c0_3) (hr3 : Kd.C (Kd.int .i64) w A3 l3.length l3) (hc3 : l3.length ≤ c3) (hr4 : Kd.C (Kd.slice 3 (Kd.int .i64)) w A4 l4.length l4) (hc4 : l4.length ≤ c4) (h : impl_RepairedAt.f k a0_0 a0_1 a0_2 l0_3 a1 a2 l3 l4 = some r) :
    Calls Tryz.prog 11 #[.agg #[.int .i64 a0_0, .int .i64 a0_1, .int .i64 a0_2, .slice A0_3 l0_3.length c0_3], .int .i64 a1, .int .i64 a2, .slice A3 l3.length c3, .slice A4 l4.length c4] w fun e w' => ∃ v0_ : Value, e = .returned (v0_) ∧ Kd.R (Kd.int .i64) 3 w' w.heap.size (fun _ => True) v0_ r ∧ Below w.heap.size w w' := by
 have hu32 := Tryz.underlying32
 have HR0_3 := am hr0_3
 have HC0_3 := am hc0_3
 clear hr0_3 hc0_3
 have HR3 := am hr3
 have HC3 := am hc3
 clear hr3 hc3
 have HR4 := am hr4
 have HC4 := am hc4
 clear hr4 hc4
 have HB := am (Below.refl w.heap.size w)
 have H := h; unfold impl_RepairedAt.f at H
 clear h
 obtain ⟨y673, Ny673, H⟩ := iy_ H
 obtain ⟨t676, A6, H⟩ := bnd H
 obtain rfl | rfl := tt t676
 ·replace H := ip H
  have H' := am H
  clear H
  go_enter Tryz.func11, Tryz.ntmps11
  go_wp2_with (first | ((with_reducible refine gd 5 rfl ?_); refine bx 5 #[.int .i64 a0_0, .int .i64 a0_1, .int .i64 a0_2, .slice A0_3 l0_3.length c0_3] 32 ?_; intro gb672 hg w8 hbox hb; have GW672 := bz w hg; have GE672 := bz w hg; replace HB := bs hb; have BK672 := am hbox; clear hb hbox hg) | ((with_reducible refine gd 15 rfl ?_); refine rl_ (Kd.int .i64) 3 15 ?_; intro v674 w9 ho10 hb; (first | rw [← Ny673.out] at ho10 | (simp only [Int.reduceToNat] at ho10; rw [← Ny673.out] at ho10)); have HO675 := am (Kd.R_lower ho10 (below_size (sbw))); replace BK672 := bb BK672 hb; replace HB := bsw hb; clear hb ho10; obtain ⟨_, _, _, _, _, _, _, _⟩ := cc4 BK672) | ((with_reducible refine gc 34 rfl ?_); refine gL (some 19) Tryz.func34 #[.agg #[.int .i64 a0_0, .int .i64 a0_1, .int .i64 a0_2, .slice A0_3 l0_3.length c0_3], .int .i64 a2, .slice A3 l3.length c3] ?_; (with_reducible refine (impl_isMoment.calls k a0_0 a0_1 a0_2 _ _ l0_3 a2 _ _ l3 true _ ?side1 ?side2 ?side3 ?side4 A6.out).mono ?_); (case side1 => exact cb HR0_3); (case side2 => exact HC0_3.out); (case side3 => exact cb HR3); (case side4 => exact HC3.out); rintro e w12 ⟨rfl, hb⟩; refine ⟨_, rfl, ?_⟩; replace HO675 := rb HO675 hb; replace BK672 := bb BK672 hb; replace HB := bsw hb; (try clear hb); (try clear hk)))
  go_loopg [11, 24] k (fun kq v11 v24 w' => ∃ (x11_1 : List Int) (x24_1 : Int), v24 = .int .i64 x24_1 ∧ Aside0 (impl_RepairedAt.l0 kq a1 a2 l4 x11_1 l3 (l3.length : Int) x24_1 a0_0 a0_1 a0_2 l0_3 = some r) ∧ Aside0 (kq ≤ k) ∧ Aside0 (Kd.R (Kd.int .i64) 3 w' w.heap.size (fun _ => True) v11 x11_1) ∧ Aside0 (w'.heap[gb672]? = some (.cells #[.int .i64 a0_0, .int .i64 a0_1, .int .i64 a0_2, (.slice A0_3 l0_3.length c0_3)] 32 (0, 0))) ∧ Aside0 (Below w.heap.size w w'))
  case atStart => exact ⟨(y673), (0), sc, H', kk0, ⟨sr HO675⟩, ⟨sk BK672⟩, ⟨sbw⟩⟩
  case round =>
   clear H'
   obtain ⟨x11_1, x24_1, rfl, HA, HK1, HO_11, BK672, HB⟩ := hrel
   cases gk with
   | zero => exact absurd HA.out (by simp [impl_RepairedAt.l0])
   | succ k1 =>
    have H := HA.out
    clear HA
    simp only [impl_RepairedAt.l0] at H
    obtain ⟨-, c13b0, H⟩ | ⟨-, c13b0, H⟩ := ic_ H
    ·obtain ⟨c14b0, H⟩ := id_ H
     obtain ⟨c15b0, H⟩ := id_ H
     obtain ⟨y678, hy678⟩ : ∃ y_ : List Int, y_ = (([] : List Int)) := ⟨_, rfl⟩
     replace H : (if x24_1 < (l4.length : Int) then ((impl_RepairHop.f k1 a0_0 a0_1 a0_2 l0_3 x24_1 a1 (wrap64 (a2 + (rd l3 x24_1))) (rd_L2 l4 x24_1)).bind fun t682 => (if x11_1.length < 17592186044416 then (impl_RepairedAt.l0 k1 a1 a2 l4 (x11_1 ++ [t682]) l3 (l3.length : Int) (wrap64 (x24_1 + 1)) a0_0 a0_1 a0_2 l0_3) else (none))) else ((impl_RepairHop.f k1 a0_0 a0_1 a0_2 l0_3 x24_1 a1 (wrap64 (a2 + (rd l3 x24_1))) y678).bind fun t686 => (if x11_1.length < 17592186044416 then (impl_RepairedAt.l0 k1 a1 a2 l4 (x11_1 ++ [t686]) l3 (l3.length : Int) (wrap64 (x24_1 + 1)) a0_0 a0_1 a0_2 l0_3) else (none)))) = some r := ry hy678 H
     have Ny678 := am hy678
     clear hy678
     obtain ⟨-, c16b0, H⟩ | ⟨-, c16b0, H⟩ := ic_ H
     ·obtain ⟨t682, A17, H⟩ := bnd H
      obtain ⟨LMc18, H⟩ := il_ H
      obtain ⟨y683, hy683⟩ : ∃ y_ : List Int, y_ = (x11_1 ++ [t682]) := ⟨_, rfl⟩
      replace H : (impl_RepairedAt.l0 k1 a1 a2 l4 y683 l3 (l3.length : Int) (wrap64 (x24_1 + 1)) a0_0 a0_1 a0_2 l0_3) = some r := ry hy683 H
      have Ny683 := am hy683
      clear hy683
      have H' := am H
      clear H
      obtain ⟨p677, q677, ad677, e677, _, hx677_0⟩ := at_i HR3 HB x24_1
      cases e677
      go_wp2_with (first | ((with_reducible refine gd 29 rfl ?_); refine rl_ (Kd.int .i64) 3 29 ?_; intro v679 w19 ho20 hb; (first | rw [← Ny678.out] at ho20 | (simp only [Int.reduceToNat] at ho20; rw [← Ny678.out] at ho20)); have HO680 := am (Kd.R_lower (Kd.R_new' ho20 (Kd.R_lt (sr HO_11))) (below_size (sbw))); replace HO_11 := am (Kd.R_elder' (sr HO_11) (Kd.R_base ho20) hb); replace BK672 := bb BK672 hb; replace HB := bsw hb; clear hb ho20; obtain ⟨p681, q681, ad681, A681_0, c681_0, e681, _, hx681_0, HC681_0, HR681_0⟩ := aT_L2 HR4 HB x24_1; cases e681; obtain ⟨_, _, _, _, _, _, _, _⟩ := cc4 BK672) | ((with_reducible refine gc 35 rfl ?_); refine gL (some 46) Tryz.func35 #[.agg #[.int .i64 a0_0, .int .i64 a0_1, .int .i64 a0_2, .slice A0_3 l0_3.length c0_3], .int .i64 x24_1, .int .i64 a1, .int .i64 (wrap64 (a2 + (rd l3 x24_1))), .slice A681_0 (rd_L2 l4 x24_1).length c681_0] ?_; (with_reducible refine (impl_RepairHop.calls k1 a0_0 a0_1 a0_2 _ _ l0_3 x24_1 a1 (wrap64 (a2 + (rd l3 x24_1))) _ _ (rd_L2 l4 x24_1) t682 _ ?side1 ?side2 ?side3 ?side4 A17.out).mono ?_); (case side1 => exact cb HR0_3); (case side2 => exact HC0_3.out); (case side3 => exact cb HR681_0); (case side4 => exact HC681_0.out); rintro e w22 ⟨rfl, hb⟩; refine ⟨_, rfl, ?_⟩; replace HO_11 := rb HO_11 hb; replace HO680 := rb HO680 hb; replace BK672 := bb BK672 hb; replace HB := bsw hb; (try clear hb); (try clear hk)) | ((with_reducible refine gate_builtin (b := .append) (xs := #[.tmp 38, .tmp 47]) rfl ?_); at_builtin; refine Kd.R_append (Kd.int .i64) (w0 := w) w.heap.size rfl (.tmp 38) (.tmp 47) 25 3 (.int .i64 0) 8 rfl Tryz.underlying25 info3 rfl (by decide) (by omega) u11 x11_1 t682 [.int .i64 t682] (fun k_ => some k_ ≠ (v679 : Value).ownBlock) (fun _ => False) rfl rfl ?aP (fun _ hk => hk.elim) ?aF ?aO ?aB ?aS ?aL ?_; (case aP => exact rfl); (case aB => exact (sbw)); (case aF => exact (fun k_ hk => Kd.fresh' (Kd.R_lt (sr HO680)) k_ hk)); (case aO => exact (by exact rm HO_11 (fun _ hk => hk.2))); (case aS => exact (below_size (sbw))); (case aL => have := LMc18.out; omega); intro v684 w23 ho hb hg hat; rw [← Ny683.out] at ho; replace BK672 := am (blk_grown (g := gb672) (o := .cells #[.int .i64 a0_0, .int .i64 a0_1, .int .i64 a0_2, .slice A0_3 l0_3.length c0_3] 32 (0, 0)) (sk BK672) hg (Kd.R_ne HO_11.out BK672.out (by decide))); replace HO680 := am (Kd.R_after (ok := (fun _ => True)) (sr HO680) hg hat); replace HB := am hb; have HO685 := am ho; clear HO_11; clear ho hb hg hat))
      go_roundg k1
      case measure => have := HK1.out; omega
      case rel => exact ⟨(y683), (wrap64 (x24_1 + 1)), sc, H', kk1, ⟨by exact rm HO685 (fun _ hk => trivial)⟩, ⟨sk BK672⟩, ⟨sbw⟩⟩
     ·obtain ⟨t686, A24, H⟩ := bnd H
      obtain ⟨LMc25, H⟩ := il_ H
      obtain ⟨y687, hy687⟩ : ∃ y_ : List Int, y_ = (x11_1 ++ [t686]) := ⟨_, rfl⟩
      replace H : (impl_RepairedAt.l0 k1 a1 a2 l4 y687 l3 (l3.length : Int) (wrap64 (x24_1 + 1)) a0_0 a0_1 a0_2 l0_3) = some r := ry hy687 H
      have Ny687 := am hy687
      clear hy687
      have H' := am H
      clear H
      obtain ⟨p677, q677, ad677, e677, _, hx677_0⟩ := at_i HR3 HB x24_1
      cases e677
      go_wp2_with (first | ((with_reducible refine gd 29 rfl ?_); refine rl_ (Kd.int .i64) 3 29 ?_; intro v679 w26 ho27 hb; (first | rw [← Ny678.out] at ho27 | (simp only [Int.reduceToNat] at ho27; rw [← Ny678.out] at ho27)); have HO680 := am (Kd.R_lower (Kd.R_new' ho27 (Kd.R_lt (sr HO_11))) (below_size (sbw))); replace HO_11 := am (Kd.R_elder' (sr HO_11) (Kd.R_base ho27) hb); replace BK672 := bb BK672 hb; replace HB := bsw hb; clear hb ho27; obtain ⟨_, _, _, _, _, _, _, _⟩ := cc4 BK672; obtain ⟨Ao29, co29, eo29⟩ := Kd.R_slice HO680.out; subst eo29) | ((with_reducible refine gc 35 rfl ?_); refine gL (some 46) Tryz.func35 #[.agg #[.int .i64 a0_0, .int .i64 a0_1, .int .i64 a0_2, .slice A0_3 l0_3.length c0_3], .int .i64 x24_1, .int .i64 a1, .int .i64 (wrap64 (a2 + (rd l3 x24_1))), .slice Ao29 y678.length co29] ?_; (with_reducible refine (impl_RepairHop.calls k1 a0_0 a0_1 a0_2 _ _ l0_3 x24_1 a1 (wrap64 (a2 + (rd l3 x24_1))) _ _ y678 t686 _ ?side1 ?side2 ?side3 ?side4 A24.out).mono ?_); (case side1 => exact cb HR0_3); (case side2 => exact HC0_3.out); (case side3 => exact cr HO680); (case side4 => exact (Kd.R_reads' HO680.out).2.1); rintro e w30 ⟨rfl, hb⟩; refine ⟨_, rfl, ?_⟩; replace HO_11 := rb HO_11 hb; replace HO680 := rb HO680 hb; replace BK672 := bb BK672 hb; replace HB := bsw hb; (try clear hb); (try clear hk)) | ((with_reducible refine gate_builtin (b := .append) (xs := #[.tmp 38, .tmp 47]) rfl ?_); at_builtin; refine Kd.R_append (Kd.int .i64) (w0 := w) w.heap.size rfl (.tmp 38) (.tmp 47) 25 3 (.int .i64 0) 8 rfl Tryz.underlying25 info3 rfl (by decide) (by omega) u11 x11_1 t686 [.int .i64 t686] (fun k_ => some k_ ≠ (.slice Ao29 y678.length co29 : Value).ownBlock) (fun _ => False) rfl rfl ?aP (fun _ hk => hk.elim) ?aF ?aO ?aB ?aS ?aL ?_; (case aP => exact rfl); (case aB => exact (sbw)); (case aF => exact (fun k_ hk => Kd.fresh' (Kd.R_lt (sr HO680)) k_ hk)); (case aO => exact (by exact rm HO_11 (fun _ hk => hk.2))); (case aS => exact (below_size (sbw))); (case aL => have := LMc25.out; omega); intro v688 w31 ho hb hg hat; rw [← Ny687.out] at ho; replace BK672 := am (blk_grown (g := gb672) (o := .cells #[.int .i64 a0_0, .int .i64 a0_1, .int .i64 a0_2, .slice A0_3 l0_3.length c0_3] 32 (0, 0)) (sk BK672) hg (Kd.R_ne HO_11.out BK672.out (by decide))); replace HO680 := am (Kd.R_after (ok := (fun _ => True)) (sr HO680) hg hat); replace HB := am hb; have HO689 := am ho; clear HO_11; clear ho hb hg hat))
      go_roundg k1
      case measure => have := HK1.out; omega
      case rel => exact ⟨(y687), (wrap64 (x24_1 + 1)), sc, H', kk1, ⟨by exact rm HO689 (fun _ hk => trivial)⟩, ⟨sk BK672⟩, ⟨sbw⟩⟩
    ·obtain rfl := Option.some.inj H
     go_wp2
     go_ret
     exact ⟨_, se, sr HO_11, sbw⟩
 ·replace H := im H
  obtain rfl := Option.some.inj H
  go_enter Tryz.func11, Tryz.ntmps11
  go_wp2_with (first | ((with_reducible refine gd 5 rfl ?_); refine bx 5 #[.int .i64 a0_0, .int .i64 a0_1, .int .i64 a0_2, .slice A0_3 l0_3.length c0_3] 32 ?_; intro gb672 hg w32 hbox hb; have GW672 := bz w hg; have GE672 := bz w hg; replace HB := bs hb; have BK672 := am hbox; clear hb hbox hg) | ((with_reducible refine gd 15 rfl ?_); refine rl_ (Kd.int .i64) 3 15 ?_; intro v674 w33 ho34 hb; (first | rw [← Ny673.out] at ho34 | (simp only [Int.reduceToNat] at ho34; rw [← Ny673.out] at ho34)); have HO675 := am (Kd.R_lower ho34 (below_size (sbw))); replace BK672 := bb BK672 hb; replace HB := bsw hb; clear hb ho34; obtain ⟨_, _, _, _, _, _, _, _⟩ := cc4 BK672) | ((with_reducible refine gc 34 rfl ?_); refine gL (some 19) Tryz.func34 #[.agg #[.int .i64 a0_0, .int .i64 a0_1, .int .i64 a0_2, .slice A0_3 l0_3.length c0_3], .int .i64 a2, .slice A3 l3.length c3] ?_; (with_reducible refine (impl_isMoment.calls k a0_0 a0_1 a0_2 _ _ l0_3 a2 _ _ l3 false _ ?side1 ?side2 ?side3 ?side4 A6.out).mono ?_); (case side1 => exact cb HR0_3); (case side2 => exact HC0_3.out); (case side3 => exact cb HR3); (case side4 => exact HC3.out); rintro e w36 ⟨rfl, hb⟩; refine ⟨_, rfl, ?_⟩; replace HO675 := rb HO675 hb; replace BK672 := bb BK672 hb; replace HB := bsw hb; (try clear hb); (try clear hk)))
  go_ret
  exact ⟨_, se, sr HO675, sbw⟩

end Go.Proofs.YthnlkgbhohchoaaGreat.QFnExactRepairedAt
