/- Printed by a program of the session. Conditions: none. (squeezed). -/
import Derived.Test.YtiihaabhjphaeaaVFnSwitchedQFnSwitchedx20
namespace Go.Proofs.Ytiihaabhjphaeaa.QFnSwitched
set_option maxHeartbeats 8000000
set_option maxRecDepth 100000
open Go.RowKit Go.Proofs.YtiihaabhjphaeaaW.PrintWords Go.Proofs.YtiihaabhjphaeaaW.PrintLast Go.Proofs.YtiihaabhjphaeaaW.PrintMore Go.Proofs.Ytiihaabhjphaeaa.Open Go.Proofs.Ytiihaabhjphaeaa.Sq
attribute [local go_sem] max2_int min2_int max_two min_two max_three min_three max_four min_four   -- for this text's walks alone
attribute [local go_sem] isSome_set
set_option linter.unusedVariables false
set_option linter.unusedSimpArgs false

mutual
def spec_l17Piece.j0 : Nat → Bool → Int → Int → Int → List (S105) → Int → Int → List (S134) → List (S55) → Option (Bool)
  | 0, _, _, _, _, _, _, _, _, _ => none
  | k + 1, x17, x686000, x686001, x686002, x686003, x687000, x687001, x687002, x687003 => if x17 = true then (some false) else (spec_l17Piece.l0 k 0 x686000 x686001 x686002 x686003 x687000 x687001 x687002 x687003)
def spec_l17Piece.l0 : Nat → Int → Int → Int → Int → List (S105) → Int → Int → List (S134) → List (S55) → Option (Bool)
  | 0, _, _, _, _, _, _, _, _, _ => none
  | k + 1, x5, x686000, x686001, x686002, x686003, x687000, x687001, x687002, x687003 => if x5 < x686000 then (if 0 ≤ x5 then (if x5 < (x687003.length : Int) then ((spec_TableOf.f k x687002 x686000 x686001 x5).bind fun bt689 => ((spec_EqualTables.f k ((rd_T55 x687003 x5).f0) ((rd_T55 x687003 x5).f1) ((rd_T55 x687003 x5).f2) bt689.1 bt689.2.1 bt689.2.2).bind fun t696 => (if t696 = true then (spec_l17Piece.l0 k (wrap64 (x5 + 1)) x686000 x686001 x686002 x686003 x687000 x687001 x687002 x687003) else (some false)))) else (none)) else (none)) else (some true)
end
def spec_l17Piece.f (k : Nat) (a0_0 : Int) (a0_1 : Int) (a0_2 : Int) (l0_3 : List (S105)) (a1_0 : Int) (a1_1 : Int) (l1_2 : List (S134)) (l1_3 : List (S55)) : Option (Bool) := if (l1_3.length : Int) = a0_0 then ((spec_IsSpan.f a1_0 a1_1).bind fun t687 => (spec_l17Piece.j0 k (!t687) a0_0 a0_1 a0_2 l0_3 a1_0 a1_1 l1_2 l1_3)) else (spec_l17Piece.j0 k true a0_0 a0_1 a0_2 l0_3 a1_0 a1_1 l1_2 l1_3)
theorem spec_l17Piece.mono_l : ∀ k, (∀ y0 y1 y2 y3 y4 y5 y6 y7 y8, LeO (spec_l17Piece.j0 k y0 y1 y2 y3 y4 y5 y6 y7 y8) (spec_l17Piece.j0 (k + 1) y0 y1 y2 y3 y4 y5 y6 y7 y8)) ∧ (∀ y0 y1 y2 y3 y4 y5 y6 y7 y8, LeO (spec_l17Piece.l0 k y0 y1 y2 y3 y4 y5 y6 y7 y8) (spec_l17Piece.l0 (k + 1) y0 y1 y2 y3 y4 y5 y6 y7 y8))
  | 0 => ⟨fun _ _ _ _ _ _ _ _ _ r h => by simp [spec_l17Piece.j0] at h, fun _ _ _ _ _ _ _ _ _ r h => by simp [spec_l17Piece.l0] at h⟩
  | k + 1 => by
    obtain ⟨ih0, ih1⟩ := spec_l17Piece.mono_l k
    refine ⟨?_, ?_⟩
    · intro y0 y1 y2 y3 y4 y5 y6 y7 y8
      unfold spec_l17Piece.j0
      have m0 := @spec_EqualTables.mono
      have m1 := @spec_TableOf.mono
      exact mo
    · intro y0 y1 y2 y3 y4 y5 y6 y7 y8
      unfold spec_l17Piece.l0
      have m0 := @spec_EqualTables.mono
      have m1 := @spec_TableOf.mono
      exact mo
theorem spec_l17Piece.mono : ∀ a0 a1 a2 a3 a4 a5 a6 a7 k, LeO (spec_l17Piece.f k a0 a1 a2 a3 a4 a5 a6 a7) (spec_l17Piece.f (k + 1) a0 a1 a2 a3 a4 a5 a6 a7) := by
  intro a0 a1 a2 a3 a4 a5 a6 a7 k
  obtain ⟨ih0, ih1⟩ := spec_l17Piece.mono_l k
  unfold spec_l17Piece.f
  have m0 := @spec_EqualTables.mono
  have m1 := @spec_TableOf.mono
  exact mo
def spec_l17Piece.T6 : Bool × List (List Nat × List Nat) := (true, [([], []), ([0], [0]), ([], []), ([1, 2], [1, 2]), ([3], [3]), ([], []), ([5], [5]), ([], []), ([7], [7]), ([], []), ([9], [9]), ([], []), ([6, 8, 10, 11], [6, 8, 10, 11]), ([4, 12, 12], [4, 12]), ([13], [13])])
def spec_l17Piece.B6 : List Nat := [0, 1, 0, 7, 15, 0, 32, 0, 128, 0, 512, 0, 4064, 8191, 16383]
theorem spec_l17Piece.tab6 : rtab .any (opsOf Try.f102 6) = spec_l17Piece.T6 := by kernel_rfl
theorem spec_l17Piece.bits6 : waitsOk spec_l17Piece.T6.2 spec_l17Piece.B6 = true := by kernel_rfl
theorem spec_l17Piece.calls (k : Nat) (a0_0 : Int) (a0_1 : Int) (a0_2 : Int) (A0_3 : Option Addr) (c0_3 : Nat) (l0_3 : List (S105)) (a1_0 : Int) (a1_1 : Int) (A1_2 : Option Addr) (c1_2 : Nat) (l1_2 : List (S134)) (A1_3 : Option Addr) (c1_3 : Nat) (l1_3 : List (S55)) (r : Bool) (w : World) (hr0_3 : Kd.C k105 w A0_3 l0_3.length l0_3) (hc0_3 : l0_3.length ≤ c0_3) (hr1_2 : Kd.C k134 w A1_2 l1_2.length l1_2) (hc1_2 : l1_2.length ≤ c1_2) (hr1_3 : Kd.C k55 w A1_3 l1_3.length l1_3) (hc1_3 : l1_3.length ≤ c1_3) (h : spec_l17Piece.f k a0_0 a0_1 a0_2 l0_3 a1_0 a1_1 l1_2 l1_3 = some r) :
    Calls Try.prog 102 #[.agg #[.int .i64 a0_0, .int .i64 a0_1, .int .i64 a0_2, .slice A0_3 l0_3.length c0_3], .agg #[.int .i64 a1_0, .int .i64 a1_1, .slice A1_2 l1_2.length c1_2, .slice A1_3 l1_3.length c1_3]] w fun e w' => e = .returned (.bool r) ∧ Below w.heap.size w w' := by
 have hu31 := Try.underlying31
 have hu105 := Try.underlying105
 have hu102 := Try.underlying102
 have hu55 := Try.underlying55
 have HR0_3 := am hr0_3
 have HC0_3 := am hc0_3
 clear hr0_3 hc0_3
 have HR1_2 := am hr1_2
 have HC1_2 := am hc1_2
 clear hr1_2 hc1_2
 have HR1_3 := am hr1_3
 have HC1_3 := am hc1_3
 clear hr1_3 hc1_3
 have HB := am (Below.refl w.heap.size w)
 have H := h; unfold spec_l17Piece.f at H
 clear h
 have HC3 := am H
 clear H
 go_enter Try.func102, Try.ntmps102
 go_upto_region 1 with (first | ((with_reducible refine gd 2 rfl ?_); refine bx 2 #[.int .i64 a0_0, .int .i64 a0_1, .int .i64 a0_2, .slice A0_3 l0_3.length c0_3] 31 ?_; intro gb685 hg w4 hbox hb; have GW685 := bz w hg; have GE685 := bz w hg; replace HB := bs hb; have BK685 := am hbox; clear hb hbox hg) | ((with_reducible refine gd 3 rfl ?_); refine bx 3 #[.int .i64 a1_0, .int .i64 a1_1, .slice A1_2 l1_2.length c1_2, .slice A1_3 l1_3.length c1_3] 105 ?_; intro gb686 hg w5 hbox hb; have GW686 := bzw w hg; have GE686 := bzw w hg; replace HB := bsw hb; have BK686 := am hbox; have NB685_686 := nl BK685 hg; have NB686_685 := ng BK685 hg; replace BK685 := bb BK685 hb; clear hb hbox hg))
 (try simp only [Act.put, List.setIfInBounds_toArray, List.set_cons_zero, List.set_cons_succ])
 go_cut [17] (fun v17 wc => ∃ (kq : Nat) (x17_2 : Bool), v17 = .bool x17_2 ∧ Aside0 (spec_l17Piece.j0 kq x17_2 a0_0 a0_1 a0_2 l0_3 a1_0 a1_1 l1_2 l1_3 = some r) ∧ Aside0 (kq ≤ k) ∧ Aside0 (wc.heap[gb685]? = some (.cells #[.int .i64 a0_0, .int .i64 a0_1, .int .i64 a0_2, (.slice A0_3 l0_3.length c0_3)] 31 (0, 0))) ∧ Aside0 (wc.heap[gb686]? = some (.cells #[.int .i64 a1_0, .int .i64 a1_1, (.slice A1_2 l1_2.length c1_2), (.slice A1_3 l1_3.length c1_3)] 105 (0, 0))) ∧ Aside0 (Below w.heap.size w wc))
 case first =>
  have H := HC3.out
  clear HC3
  obtain ⟨-, c6b0, c6b1, H⟩ | ⟨c6, c6b0, c6b1, H⟩ := ib_ H
  ·(first | rw [c6b0] | (simp only [i64_w, i32_w]; rw [c6b0]) | rw [c6b1] | skip)
   obtain ⟨t687, A7, H⟩ := bnd H
   have H' := am H
   clear H
   have hnb8 := NB686_685.out
   have hnc8 := NB685_686.out
   obtain ⟨hcz9_0, hcz9_1, hcz9_2, hcz9_3, hfz9_0, hfz9_1, hfz9_2, hfz9_3⟩ := cc4 BK686
   obtain ⟨hcz10_0, hcz10_1, hcz10_2, hcz10_3, hfz10_0, hfz10_1, hfz10_2, hfz10_3⟩ := cc4 BK685
   go_wp2_with (first | (go_at_call 80; (with_reducible refine (spec_IsSpan.calls a1_0 a1_1 t687 _ A7.out).mono ?_); rintro e w11 ⟨rfl, hb⟩; replace BK685 := bb BK685 hb; replace BK686 := bb BK686 hb; replace HB := bsw hb; (try clear hb)))
   go_meet
   case rel => exact ⟨_, (!t687), sc, H', ⟨by first | omega | exact Nat.le_refl _⟩, ⟨sk BK685⟩, ⟨sk BK686⟩, ⟨sbw⟩⟩
  ·(first | rw [c6b0] | (simp only [i64_w, i32_w]; rw [c6b0]) | rw [c6b1] | skip)
   have H' := am H
   clear H
   have hnb12 := NB686_685.out
   have hnc12 := NB685_686.out
   obtain ⟨hcz13_0, hcz13_1, hcz13_2, hcz13_3, hfz13_0, hfz13_1, hfz13_2, hfz13_3⟩ := cc4 BK686
   obtain ⟨hcz14_0, hcz14_1, hcz14_2, hcz14_3, hfz14_0, hfz14_1, hfz14_2, hfz14_3⟩ := cc4 BK685
   go_wp2
   go_meet
   case rel => exact ⟨_, (true), sc, H', ⟨by first | omega | exact Nat.le_refl _⟩, ⟨sk BK685⟩, ⟨sk BK686⟩, ⟨sbw⟩⟩
 case rest =>
  clear HC3
  obtain ⟨kq, x17_2, rfl, HA, HJ2, BK685, BK686, HB⟩ := hcut
  cases kq with
  | zero => exact absurd HA.out (by simp [spec_l17Piece.j0])
  | succ kj2 =>
   have H := HA.out
   clear HA
   simp only [spec_l17Piece.j0] at H
   obtain rfl | rfl := tt x17_2
   ·replace H := ip H
    obtain rfl := Option.some.inj H
    go_wp2
    go_ret
    exact ⟨se, sbw⟩
   ·replace H := im H
    have H' := am H
    clear H
    go_wp2
    go_loopg [5] kj2 (fun kq v5 w' => ∃ (x5_2 : Int), v5 = .int .i64 x5_2 ∧ Aside0 (spec_l17Piece.l0 kq x5_2 a0_0 a0_1 a0_2 l0_3 a1_0 a1_1 l1_2 l1_3 = some r) ∧ Aside0 (kq ≤ kj2) ∧ Aside0 (w'.heap[gb685]? = some (.cells #[.int .i64 a0_0, .int .i64 a0_1, .int .i64 a0_2, (.slice A0_3 l0_3.length c0_3)] 31 (0, 0))) ∧ Aside0 (w'.heap[gb686]? = some (.cells #[.int .i64 a1_0, .int .i64 a1_1, (.slice A1_2 l1_2.length c1_2), (.slice A1_3 l1_3.length c1_3)] 105 (0, 0))) ∧ Aside0 (Below w.heap.size w w'))
    case atStart => exact ⟨(0), sc, H', kk0, ⟨sk BK685⟩, ⟨sk BK686⟩, ⟨sbw⟩⟩
    case round =>
     clear H'
     obtain ⟨x5_2, rfl, HA, HK2, BK685, BK686, HB⟩ := hrel
     cases gk with
     | zero => exact absurd HA.out (by simp [spec_l17Piece.l0])
     | succ k2 =>
      have H := HA.out
      clear HA
      simp only [spec_l17Piece.l0] at H
      obtain ⟨-, c16b0, H⟩ | ⟨-, c16b0, H⟩ := ic_ H
      ·obtain ⟨c17b0, H⟩ := id_ H
       obtain ⟨c18b0, H⟩ := id_ H
       obtain ⟨⟨t689, t690, t693⟩, A19, H⟩ := bnd H
       try dsimp only at H
       obtain ⟨t696, A20, H⟩ := bnd H
       obtain rfl | rfl := tt t696
       ·replace H := ip H
        have H' := am H
        clear H
        have hnb22 := NB685_686.out
        have hnc22 := NB686_685.out
        obtain ⟨hcz23_0, hcz23_1, hcz23_2, hcz23_3, hfz23_0, hfz23_1, hfz23_2, hfz23_3⟩ := cc4 BK685
        try go_wp2
        replace BK685 := am (blk_drew BK685.out)
        replace BK686 := am (blk_drew BK686.out)
        replace HB := am (below_drew1 HB.out)
        obtain ⟨p688, q688, ad688, A688_1, c688_1, A688_2, c688_2, e688, hw688_0, hw688_1, hw688_2, hx688_0, hx688_1, hx688_2, HC688_1, HR688_1, HC688_2, HR688_2⟩ := aT_T55 HR1_3 HB x5_2
        cases e688
        refine start_ (n := 15) (S := fun w' => w'.cell? ⟨gb686, 0, none⟩ = some (.int .i64 a1_0) ∧ w'.cell? ⟨gb686, 1, none⟩ = some (.int .i64 a1_1) ∧ w'.cell? ⟨gb686, 2, none⟩ = some (.slice A1_2 l1_2.length c1_2) ∧ w'.cell? ⟨gb686, 3, none⟩ = some (.slice (some ad688) l1_3.length c1_3) ∧ w'.cell? ⟨gb685, 0, none⟩ = some (.int .i64 a0_0) ∧ w'.cell? ⟨gb685, 1, none⟩ = some (.int .i64 a0_1) ∧ w'.cell? ⟨gb685, 2, none⟩ = some (.int .i64 a0_2) ∧ w'.cell? ⟨gb685, 3, none⟩ = some (.slice A0_3 l0_3.length c0_3) ∧ w'.cell? (ad688.add ((x5_2).toNat * 3)) = some (.int .i64 ((rd_T55 l1_3 x5_2).f0)) ∧ w'.cell? ⟨(ad688.add ((x5_2).toNat * 3)).block, (ad688.add ((x5_2).toNat * 3)).off + 1, none⟩ = some (.slice A688_1 ((rd_T55 l1_3 x5_2).f1).length c688_1) ∧ w'.cell? ⟨(ad688.add ((x5_2).toNat * 3)).block, (ad688.add ((x5_2).toNat * 3)).off + 2, none⟩ = some (.slice A688_2 ((rd_T55 l1_3 x5_2).f2).length c688_2)) (ds := []) #[false, false, false, false, false, false, false, false, false, false, false, false, false, false, false] (by kernel_rfl) rfl rfl ⟨bc0 BK686, bc1 BK686, bc2 BK686, bc3 BK686, bc0 BK685, bc1 BK685, bc2 BK685, bc3 BK685, (hb_ HB hw688_0), (hb_ HB hw688_1), (hb_ HB hw688_2)⟩ (fun hHeld => ?_); refine with_tabW spec_l17Piece.tab6 spec_l17Piece.bits6 (fun HT_ HW_ => ?_)
        generalize wr.drew = w24 at BK685 BK686 HB HR688_1 HR688_2 hx688_0 hx688_1 hx688_2 hHeld ⊢
        refine put 0 24 (bt 15 1) HT_ ?_
        refine put 2 26 (bt 15 5) HT_ ?_
        refine put 5 29 (bt 15 37) HT_ ?_
        refine put 7 31 (bt 15 165) HT_ ?_
        refine put 9 33 (bt 15 677) HT_ ?_
        refine put 11 35 (bt 15 2725) HT_ ?_
        refine tat11 1 25 (bt 15 2727) HT_ HW_ hHeld ?_
        refine put 3 27 (bt 15 2735) HT_ ?_
        refine tat11 4 28 (bt 15 2751) HT_ HW_ hHeld ?_
        refine tat11 6 30 (bt 15 2815) HT_ HW_ hHeld ?_
        refine tat11 8 32 (bt 15 3071) HT_ HW_ hHeld ?_
        refine tat11 10 34 (bt 15 4095) HT_ HW_ hHeld ?_
        refine on 12 36 (bt 15 8191) HT_ (fun K hK => ?_)
        refine goes_ Try.func149 (by kernel_rfl) rfl #[.slice A1_2 l1_2.length c1_2, .int .i64 a0_0, .int .i64 a0_1, .int .i64 x5_2] (by rfl) rfl rfl sl ?_
        with_reducible refine (spec_TableOf.calls k2 _ _ l1_2 a0_0 a0_1 x5_2 t689 t690 t693 _ ?side1 ?side2 A19.out).mono ?_
        (case side1 => exact cb HR1_2)
        (case side2 => exact HC1_2.out)
        rintro e w25 ⟨v691, v694, rfl, ho0, ho1, hb⟩
        refine ⟨_, rfl, ?_⟩
        have HO692 := am (Kd.R_lower ho0 (below_size (sbw)))
        have HO695 := am (Kd.R_lower ho1 (below_size (sbw)))
        replace BK685 := bb BK685 hb
        replace BK686 := bb BK686 hb
        replace HB := bsw hb
        (try clear hb)
        (try clear hb2)
        (try clear hk)
        (try clear hi)
        (try clear ho0)
        (try clear ho1)
        obtain ⟨Ao26, co26, eo26⟩ := Kd.R_slice HO692.out
        (first | subst eo26 | (injection eo26 with f1_ f2_ f3_; have f4_ := f1_.symm; have f5_ := f3_.symm; clear f1_ f2_ f3_; subst f4_; subst f5_))
        obtain ⟨Ao27, co27, eo27⟩ := Kd.R_slice HO695.out
        (first | subst eo27 | (injection eo27 with f1_ f2_ f3_; have f4_ := f1_.symm; have f5_ := f3_.symm; clear f1_ f2_ f3_; subst f4_; subst f5_))
        refine hK.out _ _ ⟨bc0 BK686, bc1 BK686, bc2 BK686, bc3 BK686, bc0 BK685, bc1 BK685, bc2 BK685, bc3 BK685, (hb_ HB hw688_0), (hb_ HB hw688_1), (hb_ HB hw688_2)⟩ (fun hHeld => ?_)
        clear hK K
        refine nm 36 ?_
        refine on 13 37 (bt 15 16383) HT_ (fun K hK => ?_)
        refine goes_ Try.func148 (by kernel_rfl) rfl #[.agg #[.int .i64 ((rd_T55 l1_3 x5_2).f0), .slice A688_1 ((rd_T55 l1_3 x5_2).f1).length c688_1, .slice A688_2 ((rd_T55 l1_3 x5_2).f2).length c688_2], .agg #[.int .i64 t689, .slice Ao26 t690.length co26, .slice Ao27 t693.length co27]] (by rfl) rfl rfl sl ?_
        with_reducible refine (spec_EqualTables.calls k2 ((rd_T55 l1_3 x5_2).f0) _ _ ((rd_T55 l1_3 x5_2).f1) _ _ ((rd_T55 l1_3 x5_2).f2) t689 _ _ t690 _ _ t693 true _ ?side1 ?side2 ?side3 ?side4 ?side5 ?side6 ?side7 ?side8 A20.out).mono ?_
        (case side1 => exact cb HR688_1)
        (case side2 => exact HC688_1.out)
        (case side3 => exact cb HR688_2)
        (case side4 => exact HC688_2.out)
        (case side5 => exact cr HO692)
        (case side6 => exact (Kd.R_reads' HO692.out).2.1)
        (case side7 => exact cr HO695)
        (case side8 => exact (Kd.R_reads' HO695.out).2.1)
        rintro e w28 ⟨rfl, hb⟩
        refine ⟨_, rfl, ?_⟩
        replace HO692 := rb HO692 hb
        replace HO695 := rb HO695 hb
        replace BK685 := bb BK685 hb
        replace BK686 := bb BK686 hb
        replace HB := bsw hb
        (try clear hb)
        (try clear hb2)
        (try clear hk)
        (try clear hi)
        refine hK.out _ _ ⟨bc0 BK686, bc1 BK686, bc2 BK686, bc3 BK686, bc0 BK685, bc1 BK685, bc2 BK685, bc3 BK685, (hb_ HB hw688_0), (hb_ HB hw688_1), (hb_ HB hw688_2)⟩ (fun hHeld => ?_)
        clear hK K
        refine nm 37 ?_
        refine put 14 38 (bt 15 32767) HT_ ?_
        refine done_ (done_of HT_.out (by kernel_rfl)) ?_
        try go_wp2
        go_roundg k2
        case measure => have := HJ2.out; have := HK2.out; omega
        case rel => exact ⟨(wrap64 (x5_2 + 1)), sc, H', ⟨by have := HJ2.out; have := HK2.out; omega⟩, ⟨sk BK685⟩, ⟨sk BK686⟩, ⟨sbw⟩⟩
       ·replace H := im H
        obtain rfl := Option.some.inj H
        have hnb29 := NB685_686.out
        have hnc29 := NB686_685.out
        obtain ⟨hcz30_0, hcz30_1, hcz30_2, hcz30_3, hfz30_0, hfz30_1, hfz30_2, hfz30_3⟩ := cc4 BK685
        try go_wp2
        replace BK685 := am (blk_drew BK685.out)
        replace BK686 := am (blk_drew BK686.out)
        replace HB := am (below_drew1 HB.out)
        obtain ⟨p688, q688, ad688, A688_1, c688_1, A688_2, c688_2, e688, hw688_0, hw688_1, hw688_2, hx688_0, hx688_1, hx688_2, HC688_1, HR688_1, HC688_2, HR688_2⟩ := aT_T55 HR1_3 HB x5_2
        cases e688
        refine start_ (n := 15) (S := fun w' => w'.cell? ⟨gb686, 0, none⟩ = some (.int .i64 a1_0) ∧ w'.cell? ⟨gb686, 1, none⟩ = some (.int .i64 a1_1) ∧ w'.cell? ⟨gb686, 2, none⟩ = some (.slice A1_2 l1_2.length c1_2) ∧ w'.cell? ⟨gb686, 3, none⟩ = some (.slice (some ad688) l1_3.length c1_3) ∧ w'.cell? ⟨gb685, 0, none⟩ = some (.int .i64 a0_0) ∧ w'.cell? ⟨gb685, 1, none⟩ = some (.int .i64 a0_1) ∧ w'.cell? ⟨gb685, 2, none⟩ = some (.int .i64 a0_2) ∧ w'.cell? ⟨gb685, 3, none⟩ = some (.slice A0_3 l0_3.length c0_3) ∧ w'.cell? (ad688.add ((x5_2).toNat * 3)) = some (.int .i64 ((rd_T55 l1_3 x5_2).f0)) ∧ w'.cell? ⟨(ad688.add ((x5_2).toNat * 3)).block, (ad688.add ((x5_2).toNat * 3)).off + 1, none⟩ = some (.slice A688_1 ((rd_T55 l1_3 x5_2).f1).length c688_1) ∧ w'.cell? ⟨(ad688.add ((x5_2).toNat * 3)).block, (ad688.add ((x5_2).toNat * 3)).off + 2, none⟩ = some (.slice A688_2 ((rd_T55 l1_3 x5_2).f2).length c688_2)) (ds := []) #[false, false, false, false, false, false, false, false, false, false, false, false, false, false, false] (by kernel_rfl) rfl rfl ⟨bc0 BK686, bc1 BK686, bc2 BK686, bc3 BK686, bc0 BK685, bc1 BK685, bc2 BK685, bc3 BK685, (hb_ HB hw688_0), (hb_ HB hw688_1), (hb_ HB hw688_2)⟩ (fun hHeld => ?_); refine with_tabW spec_l17Piece.tab6 spec_l17Piece.bits6 (fun HT_ HW_ => ?_)
        generalize wr.drew = w31 at BK685 BK686 HB HR688_1 HR688_2 hx688_0 hx688_1 hx688_2 hHeld ⊢
        refine put 0 24 (bt 15 1) HT_ ?_
        refine put 2 26 (bt 15 5) HT_ ?_
        refine put 5 29 (bt 15 37) HT_ ?_
        refine put 7 31 (bt 15 165) HT_ ?_
        refine put 9 33 (bt 15 677) HT_ ?_
        refine put 11 35 (bt 15 2725) HT_ ?_
        refine tat11 1 25 (bt 15 2727) HT_ HW_ hHeld ?_
        refine put 3 27 (bt 15 2735) HT_ ?_
        refine tat11 4 28 (bt 15 2751) HT_ HW_ hHeld ?_
        refine tat11 6 30 (bt 15 2815) HT_ HW_ hHeld ?_
        refine tat11 8 32 (bt 15 3071) HT_ HW_ hHeld ?_
        refine tat11 10 34 (bt 15 4095) HT_ HW_ hHeld ?_
        refine on 12 36 (bt 15 8191) HT_ (fun K hK => ?_)
        refine goes_ Try.func149 (by kernel_rfl) rfl #[.slice A1_2 l1_2.length c1_2, .int .i64 a0_0, .int .i64 a0_1, .int .i64 x5_2] (by rfl) rfl rfl sl ?_
        with_reducible refine (spec_TableOf.calls k2 _ _ l1_2 a0_0 a0_1 x5_2 t689 t690 t693 _ ?side1 ?side2 A19.out).mono ?_
        (case side1 => exact cb HR1_2)
        (case side2 => exact HC1_2.out)
        rintro e w32 ⟨v691, v694, rfl, ho0, ho1, hb⟩
        refine ⟨_, rfl, ?_⟩
        have HO692 := am (Kd.R_lower ho0 (below_size (sbw)))
        have HO695 := am (Kd.R_lower ho1 (below_size (sbw)))
        replace BK685 := bb BK685 hb
        replace BK686 := bb BK686 hb
        replace HB := bsw hb
        (try clear hb)
        (try clear hb2)
        (try clear hk)
        (try clear hi)
        (try clear ho0)
        (try clear ho1)
        obtain ⟨Ao33, co33, eo33⟩ := Kd.R_slice HO692.out
        (first | subst eo33 | (injection eo33 with f1_ f2_ f3_; have f4_ := f1_.symm; have f5_ := f3_.symm; clear f1_ f2_ f3_; subst f4_; subst f5_))
        obtain ⟨Ao34, co34, eo34⟩ := Kd.R_slice HO695.out
        (first | subst eo34 | (injection eo34 with f1_ f2_ f3_; have f4_ := f1_.symm; have f5_ := f3_.symm; clear f1_ f2_ f3_; subst f4_; subst f5_))
        refine hK.out _ _ ⟨bc0 BK686, bc1 BK686, bc2 BK686, bc3 BK686, bc0 BK685, bc1 BK685, bc2 BK685, bc3 BK685, (hb_ HB hw688_0), (hb_ HB hw688_1), (hb_ HB hw688_2)⟩ (fun hHeld => ?_)
        clear hK K
        refine nm 36 ?_
        refine on 13 37 (bt 15 16383) HT_ (fun K hK => ?_)
        refine goes_ Try.func148 (by kernel_rfl) rfl #[.agg #[.int .i64 ((rd_T55 l1_3 x5_2).f0), .slice A688_1 ((rd_T55 l1_3 x5_2).f1).length c688_1, .slice A688_2 ((rd_T55 l1_3 x5_2).f2).length c688_2], .agg #[.int .i64 t689, .slice Ao33 t690.length co33, .slice Ao34 t693.length co34]] (by rfl) rfl rfl sl ?_
        with_reducible refine (spec_EqualTables.calls k2 ((rd_T55 l1_3 x5_2).f0) _ _ ((rd_T55 l1_3 x5_2).f1) _ _ ((rd_T55 l1_3 x5_2).f2) t689 _ _ t690 _ _ t693 false _ ?side1 ?side2 ?side3 ?side4 ?side5 ?side6 ?side7 ?side8 A20.out).mono ?_
        (case side1 => exact cb HR688_1)
        (case side2 => exact HC688_1.out)
        (case side3 => exact cb HR688_2)
        (case side4 => exact HC688_2.out)
        (case side5 => exact cr HO692)
        (case side6 => exact (Kd.R_reads' HO692.out).2.1)
        (case side7 => exact cr HO695)
        (case side8 => exact (Kd.R_reads' HO695.out).2.1)
        rintro e w35 ⟨rfl, hb⟩
        refine ⟨_, rfl, ?_⟩
        replace HO692 := rb HO692 hb
        replace HO695 := rb HO695 hb
        replace BK685 := bb BK685 hb
        replace BK686 := bb BK686 hb
        replace HB := bsw hb
        (try clear hb)
        (try clear hb2)
        (try clear hk)
        (try clear hi)
        refine hK.out _ _ ⟨bc0 BK686, bc1 BK686, bc2 BK686, bc3 BK686, bc0 BK685, bc1 BK685, bc2 BK685, bc3 BK685, (hb_ HB hw688_0), (hb_ HB hw688_1), (hb_ HB hw688_2)⟩ (fun hHeld => ?_)
        clear hK K
        refine nm 37 ?_
        refine put 14 38 (bt 15 32767) HT_ ?_
        refine done_ (done_of HT_.out (by kernel_rfl)) ?_
        try go_wp2
        go_ret
        exact ⟨se, sbw⟩
      ·obtain rfl := Option.some.inj H
       have hnb36 := NB685_686.out
       have hnc36 := NB686_685.out
       obtain ⟨hcz37_0, hcz37_1, hcz37_2, hcz37_3, hfz37_0, hfz37_1, hfz37_2, hfz37_3⟩ := cc4 BK685
       go_wp2
       go_ret
       exact ⟨se, sbw⟩

end Go.Proofs.Ytiihaabhjphaeaa.QFnSwitched
