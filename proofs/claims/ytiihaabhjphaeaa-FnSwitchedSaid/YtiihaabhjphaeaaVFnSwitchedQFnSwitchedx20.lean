/- Printed by a program of the session. Conditions: none. (squeezed). -/
import Derived.Test.YtiihaabhjphaeaaVFnSwitchedQFnSwitchedx19
namespace Go.Proofs.Ytiihaabhjphaeaa.QFnSwitched
set_option maxHeartbeats 8000000
set_option maxRecDepth 100000
open Go.RowKit Go.Proofs.YtiihaabhjphaeaaW.PrintWords Go.Proofs.YtiihaabhjphaeaaW.PrintLast Go.Proofs.YtiihaabhjphaeaaW.PrintMore Go.Proofs.Ytiihaabhjphaeaa.Open Go.Proofs.Ytiihaabhjphaeaa.Sq
attribute [local go_sem] max2_int min2_int max_two min_two max_three min_three max_four min_four   -- for this text's walks alone
attribute [local go_sem] isSome_set
set_option linter.unusedVariables false
set_option linter.unusedSimpArgs false

theorem a20_2 {P : Prop} (h : P := by repeat (first | (with_reducible first | exact HI660.out | apply IsS152.alloc | apply IsS152.drewN | apply IsS152.drew | apply IsS152.set_1 | apply IsS152.set_2 | refine IsS152.far ?_ NB660_656.out _) | exact HI660.out)) : P := h
theorem a20_1 {P : Prop} (h : P := by repeat (first | (with_reducible first | exact HI660.out | apply IsS152.alloc | apply IsS152.drewN | apply IsS152.drew | apply IsS152.set_1 | apply IsS152.set_2 | refine IsS152.far ?_ NB660_656.out _ | refine IsS152.far ?_ NB660_669.out _) | exact HI660.out)) : P := h
theorem a20_0 {P : Prop} (h : P := by repeat (first | (with_reducible first | exact HB.out | apply below_alloc | apply pw_below_drewN | apply below_drew1 | refine below_set ?_ (IsS152.ge HI660.out) | refine below_set ?_ GE656.out) | exact HB.out)) : P := h
def spec_DrawHopAt.f (k : Nat) (l0 : List Int) : Option (Int × Int × Int × (List (S105)) × Int × Int × Int) := (spec_l1New.f k l0).bind fun bt657 => ((spec_l17Any.f k bt657.1 bt657.2.1 bt657.2.2).bind fun bt661 => ((spec_l1Below.f bt657.1 bt661.2.2.2.2.1 bt661.2.2.2.2.2 7).bind fun bt670 => ((spec_l1Below.f bt657.1 bt670.2.1 bt670.2.2 6).bind fun bt673 => ((spec_l4Raw.f bt657.1 bt673.2.1 bt673.2.2).bind fun bt676 => (some (bt661.1, bt661.2.1, bt661.2.2.1, bt661.2.2.2.1, wrap64 (bt670.1 - 1), bt673.1, bt676.1))))))
theorem spec_DrawHopAt.mono : ∀ a0 k, LeO (spec_DrawHopAt.f k a0) (spec_DrawHopAt.f (k + 1) a0) := by
  intro a0 k
  unfold spec_DrawHopAt.f
  have m0 := @spec_l17Any.mono
  have m1 := @spec_l1New.mono
  exact mo
def spec_DrawHopAt.T5 : Bool × List (List Nat × List Nat) := (true, [([], []), ([], []), ([], []), ([], []), ([3], [3]), ([0, 4, 0], [0]), ([1, 5, 0, 1, 5], [1]), ([2, 6, 0, 1, 2, 5, 6], [2]), ([4, 7, 0, 1, 2, 3, 4, 5, 6, 7], [4])])
def spec_DrawHopAt.B5 : List Nat := [0, 0, 0, 0, 8, 25, 59, 127, 255]
theorem spec_DrawHopAt.tab5 : rtab .any (opsOf Try.f39 5) = spec_DrawHopAt.T5 := by kernel_rfl
theorem spec_DrawHopAt.bits5 : waitsOk spec_DrawHopAt.T5.2 spec_DrawHopAt.B5 = true := by kernel_rfl
theorem spec_DrawHopAt.calls (k : Nat) (A0 : Option Addr) (c0 : Nat) (l0 : List Int) (r1 : Int) (r2 : Int) (r3 : Int) (r4 : List (S105)) (r5 : Int) (r6 : Int) (r7 : Int) (w : World) (hr0 : Kd.C (Kd.int .u8) w A0 l0.length l0) (hc0 : l0.length ≤ c0) (h : spec_DrawHopAt.f k l0 = some (r1, r2, r3, r4, r5, r6, r7)) :
    Calls Try.prog 39 #[.slice A0 l0.length c0] w fun e w' => ∃ v3_ : Value, e = .returned (.tuple #[.agg #[.int .i64 r1, .int .i64 r2, .int .i64 r3, v3_], .int .i64 r5, .int .i64 r6, .int .i64 r7]) ∧ Kd.S k105 105 w' w.heap.size (fun _ => True) v3_ r4 ∧ Below w.heap.size w w' := by
 have hu31 := Try.underlying31
 have HR0 := am hr0
 have HC0 := am hc0
 clear hr0 hc0
 have HB := am (Below.refl w.heap.size w)
 have H := h; unfold spec_DrawHopAt.f at H
 clear h
 obtain ⟨⟨t657, t658, t659⟩, A2, H⟩ := bnd H
 try dsimp only at H
 obtain ⟨⟨t661, t662, t663, t664, t667, t668⟩, A3, H⟩ := bnd H
 try dsimp only at H
 obtain ⟨⟨t670, t671, t672⟩, A4, H⟩ := bnd H
 try dsimp only at H
 obtain ⟨⟨t673, t674, t675⟩, A5, H⟩ := bnd H
 try dsimp only at H
 obtain ⟨⟨t676, t677, t678⟩, A6, H⟩ := bnd H
 try dsimp only at H
 simp only [Option.some.injEq, Prod.mk.injEq] at H
 obtain ⟨rfl, rfl, rfl, rfl, rfl, rfl, rfl⟩ := H
 go_enter Try.func39, Try.ntmps39
 try go_wp2_with (first | ((with_reducible refine gd 2 rfl ?_); refine bx 2 #[.int .i64 0, .int .i64 0, .int .i64 0, .slice none 0 0] 31 ?_; intro gb656 hg w7 hbox hb; have GW656 := bz w hg; have GE656 := bz w hg; replace HB := bs hb; have BK656 := am hbox; clear hb hbox hg) | ((with_reducible refine gc 75 rfl ?_); refine gL (some 11) Try.func75 #[.slice A0 l0.length c0] ?_; (with_reducible refine (spec_l1New.calls k _ _ l0 t657 t658 t659 w _ ?side1 ?side2 ?side3 A2.out).mono ?_); (case side1 => repeat (first | (with_reducible first | exact HB.out | apply below_alloc | apply pw_below_drewN | apply below_drew1 | refine below_set ?_ GE656.out) | exact HB.out)); (case side2 => exact HR0.out); (case side3 => exact HC0.out); rintro e w8 ⟨g660, rfl, hi, hb, hb2⟩; refine ⟨_, rfl, ?_⟩; replace HB := am hb; have HI660 := am hi; have NB660_656 := am (IsS152.ne_blk hi (blk_below (g := gb656) (o := .cells #[.int .i64 0, .int .i64 0, .int .i64 0, .slice none 0 0] 31 (0, 0)) (sk BK656) hb2) (by decide)); have NB656_660 := am (Ne.symm (IsS152.ne_blk hi (blk_below (g := gb656) (o := .cells #[.int .i64 0, .int .i64 0, .int .i64 0, .slice none 0 0] 31 (0, 0)) (sk BK656) hb2) (by decide))); replace BK656 := bb BK656 hb2; (try clear hb); (try clear hb2); (try clear hk); (try clear hi)) | ((with_reducible refine gc 78 rfl ?_); refine gL (some 13) Try.func78 #[.pointer (some ⟨g660, 0, none⟩)] ?_; (with_reducible refine (spec_l17Any.calls k g660 t657 t658 t659 t661 t662 t663 t664 t667 t668 w _ ?side1 ?side2 A3.out).mono ?_); (case side1 => repeat (first | (with_reducible first | exact HI660.out | apply IsS152.alloc | apply IsS152.drewN | apply IsS152.drew | apply IsS152.set_1 | apply IsS152.set_2 | refine IsS152.far ?_ NB660_656.out _) | exact HI660.out)); (case side2 => repeat (first | (with_reducible first | exact HB.out | apply below_alloc | apply pw_below_drewN | apply below_drew1 | refine below_set ?_ (IsS152.ge HI660.out) | refine below_set ?_ GE656.out) | exact HB.out)); rintro e w9 ⟨v665, rfl, ho0, hi, hb, hk⟩; refine ⟨_, rfl, ?_⟩; replace BK656 := am (KeepBut.blk hk (g' := gb656) (o := .cells #[.int .i64 0, .int .i64 0, .int .i64 0, .slice none 0 0] 31 (0, 0)) (sk BK656) NB656_660.out (by simp)); have HO666 := am (Kd.S_lower ho0 (below_size a20_0)); replace HB := am hb; replace HI660 := am hi; (try clear hb); (try clear hb2); (try clear hk); (try clear hi); (try clear ho0)) | ((with_reducible refine gd 7 rfl ?_); refine bx 7 #[.int .i64 0, .int .i64 0, .int .i64 0, .slice none 0 0] 31 ?_; intro gb669 hg w10 hbox hb; replace HO666 := am (Kd.S_below (ss HO666) hb); have BK669 := am hbox; have GW669 := am ((by rw [hg]; exact (below_size a20_0) : w.heap.size ≤ gb669)); have GE669 := am ((by rw [hg]; exact (below_size a20_0) : w.heap.size ≤ gb669)); replace HB := am (below_step a20_0 hb); have NB656_669 := nl BK656 hg; have NB669_656 := ng BK656 hg; replace BK656 := bb BK656 hb; have NB660_669 := am ((by rw [hg]; exact Nat.ne_of_lt (IsS152.lt (show IsS152 w _ g660 t657 t667 t668 from a20_2)) : g660 ≠ gb669)); have NB669_660 := am ((by rw [hg]; exact Nat.ne_of_gt (IsS152.lt (show IsS152 w _ g660 t657 t667 t668 from a20_2)) : gb669 ≠ g660)); replace HI660 := am (IsS152.below a20_2 hb); clear hb hbox hg; have hnb11 := NB669_656.out; have hnc11 := NB656_669.out; have hnb12 := NB669_660.out; have hnc12 := NB660_669.out; obtain ⟨hcz13_0, hcz13_1, hcz13_2, hcz13_3, hfz13_0, hfz13_1, hfz13_2, hfz13_3⟩ := cc4 BK669; obtain ⟨Ao14, co14, eo14⟩ := Kd.S_slice HO666.out; subst eo14) | ((with_reducible refine gc 76 rfl ?_); refine gL (some 15) Try.func76 #[.pointer (some ⟨g660, 0, none⟩), .int .i64 7] ?_; (with_reducible refine (spec_l1Below.calls g660 t657 t667 t668 7 t670 t671 t672 w _ ?side1 ?side2 A4.out).mono ?_); (case side1 => repeat (first | (with_reducible first | exact HI660.out | apply IsS152.alloc | apply IsS152.drewN | apply IsS152.drew | apply IsS152.set_1 | apply IsS152.set_2 | refine IsS152.far ?_ NB660_656.out _ | refine IsS152.far ?_ NB660_669.out _) | exact HI660.out)); (case side2 => repeat (first | (with_reducible first | exact HB.out | apply below_alloc | apply pw_below_drewN | apply below_drew1 | refine below_set ?_ (IsS152.ge HI660.out) | refine below_set ?_ GE656.out | refine below_set ?_ GE669.out) | exact HB.out)); rintro e w15 ⟨rfl, hi, hb, hk⟩; refine ⟨_, rfl, ?_⟩; replace BK656 := am (KeepBut.blk hk (g' := gb656) (o := .cells #[.int .i64 0, .int .i64 0, .int .i64 0, .slice none 0 0] 31 (0, 0)) (sp BK656) NB656_660.out (by simp)); replace HO666 := am (Kd.S_mono (Kd.S_keep (IsS152.apartS (show IsS152 w _ g660 t657 t667 t668 from a20_1) (by (with_reducible repeat (first | apply Kd.S_alloc | apply Kd.S_drewN | apply Kd.S_drew)); exact (Kd.S_mono (Kd.S_far (p := ⟨gb669, 3, none⟩) (Kd.S_far (p := ⟨gb669, 2, none⟩) (Kd.S_far (p := ⟨gb669, 1, none⟩) (Kd.S_far (p := ⟨gb669, 0, none⟩) (Kd.S_types HO666.out BK669.out (by decide)) (fun _ hk => hk.2) (.int .i64 t661)) (fun _ hk => hk.2) (.int .i64 t662)) (fun _ hk => hk.2) (.int .i64 t663)) (fun _ hk => hk.2) (.slice Ao14 t664.length co14)) (fun _ h_ => h_.1))) (by decide)) hk (fun _ h => h.2)) (fun _ h => h.1)); replace BK669 := am (KeepBut.blk hk (g' := gb669) (o := .cells #[.int .i64 t661, .int .i64 t662, .int .i64 t663, .slice Ao14 t664.length co14] 31 (0, 0)) (sp BK669) NB669_660.out (by simp)); replace HB := am hb; replace HI660 := am hi; (try clear hb); (try clear hb2); (try clear hk); (try clear hi)) | ((with_reducible refine gc 76 rfl ?_); refine gL (some 18) Try.func76 #[.pointer (some ⟨g660, 0, none⟩), .int .i64 6] ?_; (with_reducible refine (spec_l1Below.calls g660 t657 t671 t672 6 t673 t674 t675 w _ ?side1 ?side2 A5.out).mono ?_); (case side1 => repeat (first | (with_reducible first | exact HI660.out | apply IsS152.alloc | apply IsS152.drewN | apply IsS152.drew | apply IsS152.set_1 | apply IsS152.set_2 | refine IsS152.far ?_ NB660_656.out _ | refine IsS152.far ?_ NB660_669.out _) | exact HI660.out)); (case side2 => repeat (first | (with_reducible first | exact HB.out | apply below_alloc | apply pw_below_drewN | apply below_drew1 | refine below_set ?_ (IsS152.ge HI660.out) | refine below_set ?_ GE656.out | refine below_set ?_ GE669.out) | exact HB.out)); rintro e w16 ⟨rfl, hi, hb, hk⟩; refine ⟨_, rfl, ?_⟩; replace BK656 := am (KeepBut.blk hk (g' := gb656) (o := .cells #[.int .i64 0, .int .i64 0, .int .i64 0, .slice none 0 0] 31 (0, 0)) (sk BK656) NB656_660.out (by simp)); replace HO666 := am (Kd.S_mono (Kd.S_keep (IsS152.apartS (show IsS152 w _ g660 t657 t671 t672 from a20_1) (ss HO666) (by decide)) hk (fun _ h => h.2)) (fun _ h => h.1)); replace BK669 := am (KeepBut.blk hk (g' := gb669) (o := .cells #[.int .i64 t661, .int .i64 t662, .int .i64 t663, .slice Ao14 t664.length co14] 31 (0, 0)) (sk BK669) NB669_660.out (by simp)); replace HB := am hb; replace HI660 := am hi; (try clear hb); (try clear hb2); (try clear hk); (try clear hi)))
 replace HO666 := am (Kd.S_drew HO666.out)
 replace BK656 := am (blk_drew BK656.out)
 replace BK669 := am (blk_drew BK669.out)
 replace HI660 := am (IsS152.drew HI660.out)
 replace HB := am (below_drew1 HB.out)
 refine start_ (n := 9) (S := fun w' => w'.cell? ⟨gb669, 0, none⟩ = some (.int .i64 t661) ∧ w'.cell? ⟨gb669, 1, none⟩ = some (.int .i64 t662) ∧ w'.cell? ⟨gb669, 2, none⟩ = some (.int .i64 t663) ∧ w'.cell? ⟨gb669, 3, none⟩ = some (.slice Ao14 t664.length co14)) (ds := []) #[false, false, false, false, false, false, false, false, false] (by kernel_rfl) rfl rfl ⟨bc0 BK669, bc1 BK669, bc2 BK669, bc3 BK669⟩ (fun hHeld => ?_); refine with_tabW spec_DrawHopAt.tab5 spec_DrawHopAt.bits5 (fun HT_ HW_ => ?_)
 generalize w16.drew = w17 at HO666 BK656 BK669 HI660 HB hHeld ⊢
 refine put 1 20 (bt 9 2) HT_ ?_
 refine put 2 21 (bt 9 6) HT_ ?_
 refine put 3 22 (bt 9 14) HT_ ?_
 refine tat4 0 19 (bt 9 15) HT_ HW_ hHeld ?_
 refine on 4 23 (bt 9 31) HT_ (fun K hK => ?_)
 refine goes_ Try.func89 (by kernel_rfl) rfl #[.pointer (some ⟨g660, 0, none⟩)] (by rfl) rfl rfl sl ?_
 with_reducible refine (spec_l4Raw.calls g660 t657 t674 t675 t676 t677 t678 w _ ?side1 ?side2 A6.out).mono ?_
 (case side1 => repeat (first | (with_reducible first | exact HI660.out | apply IsS152.alloc | apply IsS152.drewN | apply IsS152.drew | apply IsS152.set_1 | apply IsS152.set_2 | refine IsS152.far ?_ NB660_656.out _ | refine IsS152.far ?_ NB660_669.out _) | exact HI660.out))
 (case side2 => repeat (first | (with_reducible first | exact HB.out | apply below_alloc | apply pw_below_drewN | apply below_drew1 | refine below_set ?_ (IsS152.ge HI660.out) | refine below_set ?_ GE656.out | refine below_set ?_ GE669.out) | exact HB.out))
 rintro e w18 ⟨rfl, hi, hb, hk⟩
 refine ⟨_, rfl, ?_⟩
 replace BK656 := am (KeepBut.blk hk (g' := gb656) (o := .cells #[.int .i64 0, .int .i64 0, .int .i64 0, .slice none 0 0] 31 (0, 0)) (sk BK656) NB656_660.out (by simp))
 replace HO666 := am (Kd.S_mono (Kd.S_keep (IsS152.apartS (show IsS152 w _ g660 t657 t674 t675 from a20_1) (ss HO666) (by decide)) hk (fun _ h => h.2)) (fun _ h => h.1))
 replace BK669 := am (KeepBut.blk hk (g' := gb669) (o := .cells #[.int .i64 t661, .int .i64 t662, .int .i64 t663, .slice Ao14 t664.length co14] 31 (0, 0)) (sk BK669) NB669_660.out (by simp))
 replace HB := am hb
 replace HI660 := am hi
 (try clear hb)
 (try clear hb2)
 (try clear hk)
 (try clear hi)
 refine hK.out _ _ ⟨bc0 BK669, bc1 BK669, bc2 BK669, bc3 BK669⟩ (fun hHeld => ?_)
 clear hK K
 refine nm 23 ?_
 refine one_ (i := 5) (N := none) (bt 9 63) rfl rfl (one_of HT_.out (by kernel_rfl)) (by decide) (fun K hK => ?_)
 obtain ⟨hs19, hfs19⟩ := cc1 BK656
 have hns19_1 := NB669_656.out
 have hms19_1 := NB656_669.out
 have hs20 := bc1 BK656
 have hfs20 := bf BK656 1
 have hns20_1 := NB669_656.out
 have hms20_1 := NB656_669.out
 have hs21 := bc2 BK656
 have hfs21 := bf BK656 2
 have hns21_1 := NB669_656.out
 have hms21_1 := NB656_669.out
 have hs22 := bc3 BK656
 have hfs22 := bf BK656 3
 have hns22_1 := NB669_656.out
 have hms22_1 := NB656_669.out
 refine skip_ (w1 := ?_) (by rfl) rfl ?_ ?_
 rotate_left
 ·go_simp
  rfl
 refine hK.out _ _ ⟨((cell_far (p := ⟨gb656, _, none⟩) NB669_656.out _).trans (((cell_far (p := ⟨gb656, _, none⟩) NB669_656.out _).trans (((cell_far (p := ⟨gb656, _, none⟩) NB669_656.out _).trans (((cell_far (p := ⟨gb656, _, none⟩) NB669_656.out _).trans (hHeld.1)))))))), ((cell_far (p := ⟨gb656, _, none⟩) NB669_656.out _).trans (((cell_far (p := ⟨gb656, _, none⟩) NB669_656.out _).trans (((cell_far (p := ⟨gb656, _, none⟩) NB669_656.out _).trans (((cell_far (p := ⟨gb656, _, none⟩) NB669_656.out _).trans (hHeld.2.1)))))))), ((cell_far (p := ⟨gb656, _, none⟩) NB669_656.out _).trans (((cell_far (p := ⟨gb656, _, none⟩) NB669_656.out _).trans (((cell_far (p := ⟨gb656, _, none⟩) NB669_656.out _).trans (((cell_far (p := ⟨gb656, _, none⟩) NB669_656.out _).trans (hHeld.2.2.1)))))))), ((cell_far (p := ⟨gb656, _, none⟩) NB669_656.out _).trans (((cell_far (p := ⟨gb656, _, none⟩) NB669_656.out _).trans (((cell_far (p := ⟨gb656, _, none⟩) NB669_656.out _).trans (((cell_far (p := ⟨gb656, _, none⟩) NB669_656.out _).trans (hHeld.2.2.2))))))))⟩ (fun hHeld => ?_)
 clear hK K
 refine put 6 3 (bt 9 127) HT_ ?_
 refine put 7 4 (bt 9 255) HT_ ?_
 refine put 8 5 (bt 9 511) HT_ ?_
 refine done_ (done_of HT_.out (by kernel_rfl)) ?_
 try go_wp2
 refine bodyPost_ret (results_list (rs := [.cell 2 31, .tmp 3, .tmp 4, .tmp 5]) rfl (by simp) (.cell gb656 31 #[.int .i64 t661, .int .i64 t662, .int .i64 t663, .slice Ao14 t664.length co14] (0, 0) _ rfl (sp BK656) Try.underlying31 rfl (by kernel_rfl) (.tmp (.tmp (.tmp .nil))))) rfl ?_
 exact ⟨_, se, by (with_reducible repeat (first | apply Kd.S_alloc | apply Kd.S_drewN | apply Kd.S_drew)); exact Kd.S_mono (Kd.S_far (p := ⟨gb656, 3, none⟩) (Kd.S_far (p := ⟨gb656, 2, none⟩) (Kd.S_far (p := ⟨gb656, 1, none⟩) (Kd.S_far (p := ⟨gb656, 0, none⟩) (Kd.S_types HO666.out BK656.out (by decide)) (fun _ hk => hk.2) (.int .i64 t661)) (fun _ hk => hk.2) (.int .i64 t662)) (fun _ hk => hk.2) (.int .i64 t663)) (fun _ hk => hk.2) (.slice Ao14 t664.length co14)) (fun _ hk => trivial), by repeat (first | (with_reducible first | exact HB.out | apply below_alloc | apply pw_below_drewN | apply below_drew1 | refine below_set ?_ (IsS152.ge HI660.out) | refine below_set ?_ GE656.out | refine below_set ?_ GE669.out) | exact HB.out)⟩

def spec_EqualInts.l0 : Nat → List Int → List Int → Int → Option (Bool)
  | 0, _, _, _ => none
  | k + 1, x0, x1, x5 => if x5 < (x0.length : Int) then (if 0 ≤ x5 then (if x5 < (x1.length : Int) then (if (rd x0 x5) = (rd x1 x5) then (spec_EqualInts.l0 k x0 x1 (wrap64 (x5 + 1))) else (some false)) else (none)) else (none)) else (some true)
def spec_EqualInts.f (k : Nat) (l0 : List Int) (l1 : List Int) : Option (Bool) := if (l0.length : Int) = (l1.length : Int) then (spec_EqualInts.l0 k l0 l1 0) else (some false)
theorem spec_EqualInts.mono_l : ∀ k, (∀ y0 y1 y2, LeO (spec_EqualInts.l0 k y0 y1 y2) (spec_EqualInts.l0 (k + 1) y0 y1 y2))
  | 0 => fun _ _ _ r h => by simp [spec_EqualInts.l0] at h
  | k + 1 => by
    have ih0 := spec_EqualInts.mono_l k
    · intro y0 y1 y2
      unfold spec_EqualInts.l0
      exact mo
theorem spec_EqualInts.mono : ∀ a0 a1 k, LeO (spec_EqualInts.f k a0 a1) (spec_EqualInts.f (k + 1) a0 a1) := by
  intro a0 a1 k
  have ih0 := spec_EqualInts.mono_l k
  unfold spec_EqualInts.f
  exact mo
theorem spec_EqualInts.calls (k : Nat) (A0 : Option Addr) (c0 : Nat) (l0 : List Int) (A1 : Option Addr) (c1 : Nat) (l1 : List Int) (r : Bool) (w : World) (hr0 : Kd.C (Kd.int .i64) w A0 l0.length l0) (hc0 : l0.length ≤ c0) (hr1 : Kd.C (Kd.int .i64) w A1 l1.length l1) (hc1 : l1.length ≤ c1) (h : spec_EqualInts.f k l0 l1 = some r) :
    Calls Try.prog 175 #[.slice A0 l0.length c0, .slice A1 l1.length c1] w fun e w' => e = .returned (.bool r) ∧ Drawn0 w w' := by
 have HR0 := am hr0
 have HC0 := am hc0
 clear hr0 hc0
 have HR1 := am hr1
 have HC1 := am hc1
 clear hr1 hc1
 have H := h; unfold spec_EqualInts.f at H
 clear h
 obtain ⟨c3, c3b0, c3b1, H⟩ | ⟨c3, c3b0, c3b1, H⟩ := ib_ H
 ·have c3b2 : (l0.length == l1.length) = true := by first | simpa using c3 | (simp at c3 ⊢; omega)
  clear c3
  have H' := am H
  clear H
  go_enter Try.func175, Try.ntmps175
  go_wp2
  repeat (go_quiet (fail); try go_wp2)
  go_loopg [5] k (fun kq v5 w' => ∃ (x5_1 : Int), v5 = .int .i64 x5_1 ∧ Aside0 (spec_EqualInts.l0 kq l0 l1 x5_1 = some r) ∧ Aside0 (kq ≤ k) ∧ Drawn0 w w')
  case atStart => exact ⟨(0), sc, H', kk0, sd⟩
  case round =>
   clear H'
   try clear c3
   try clear c3b0
   try clear c3b1
   try clear c3b2
   obtain ⟨x5_1, rfl, HA, HK1, ⟨m1, rfl⟩⟩ := hrel
   cases gk with
   | zero => exact absurd HA.out (by simp [spec_EqualInts.l0])
   | succ k1 =>
    have H := HA.out
    clear HA
    simp only [spec_EqualInts.l0] at H
    obtain ⟨-, c4b0, H⟩ | ⟨-, c4b0, H⟩ := ic_ H
    ·obtain ⟨c5b0, H⟩ := id_ H
     obtain ⟨c6b0, H⟩ := id_ H
     obtain ⟨-, c7b0, c7b1, H⟩ | ⟨c7, c7b0, c7b1, H⟩ := ib_ H
     ·have H' := am H
      clear H
      have p679 : 0 ≤ (x5_1 : Int) := sa
      have q679 : x5_1 < (l0.length : Int) := sa
      obtain ⟨ad679, e679, hx679_0⟩ := Kd.at_int HR0.out x5_1 p679 q679
      cases e679
      replace p679 := eq_true p679
      replace q679 := eq_true q679
      have p680 : 0 ≤ (x5_1 : Int) := sa
      have q680 : x5_1 < (l1.length : Int) := sa
      obtain ⟨ad680, e680, hx680_0⟩ := Kd.at_int HR1.out x5_1 p680 q680
      cases e680
      replace p680 := eq_true p680
      replace q680 := eq_true q680
      go_wp2
      repeat (go_quiet (fail); try go_wp2)
      go_roundg k1
      case measure => have := HK1.out; omega
      case rel => exact ⟨(wrap64 (x5_1 + 1)), sc, H', kk1, sd⟩
     ·obtain rfl := Option.some.inj H
      have p679 : 0 ≤ (x5_1 : Int) := sa
      have q679 : x5_1 < (l0.length : Int) := sa
      obtain ⟨ad679, e679, hx679_0⟩ := Kd.at_int HR0.out x5_1 p679 q679
      cases e679
      replace p679 := eq_true p679
      replace q679 := eq_true q679
      have p680 : 0 ≤ (x5_1 : Int) := sa
      have q680 : x5_1 < (l1.length : Int) := sa
      obtain ⟨ad680, e680, hx680_0⟩ := Kd.at_int HR1.out x5_1 p680 q680
      cases e680
      replace p680 := eq_true p680
      replace q680 := eq_true q680
      go_wp2
      repeat (go_quiet (fail); try go_wp2)
      go_ret
      exact ⟨sc, sd⟩
    ·obtain rfl := Option.some.inj H
     go_wp2
     repeat (go_quiet (fail); try go_wp2)
     go_ret
     exact ⟨sc, sd⟩
 ·have c3b2 : (l0.length == l1.length) = false := by first | simpa using c3 | (simp at c3 ⊢; omega)
  obtain rfl := Option.some.inj H
  go_enter Try.func175, Try.ntmps175
  go_wp2
  repeat (go_quiet (fail); try go_wp2)
  go_ret
  exact ⟨sc, sd⟩

def spec_EqualTables.f (k : Nat) (a0_0 : Int) (l0_1 : List Int) (l0_2 : List Int) (a1_0 : Int) (l1_1 : List Int) (l1_2 : List Int) : Option (Bool) := if a0_0 = a1_0 then ((spec_EqualInts.f k l0_1 l1_1).bind fun t683 => (if t683 = true then ((spec_EqualInts.f k l0_2 l1_2).bind fun t684 => (some t684)) else (some false))) else (some false)
theorem spec_EqualTables.mono : ∀ a0 a1 a2 a3 a4 a5 k, LeO (spec_EqualTables.f k a0 a1 a2 a3 a4 a5) (spec_EqualTables.f (k + 1) a0 a1 a2 a3 a4 a5) := by
  intro a0 a1 a2 a3 a4 a5 k
  unfold spec_EqualTables.f
  have m0 := @spec_EqualInts.mono
  exact mo
theorem e20_0 {P : Prop} (h : P := by
 obtain rfl := Option.some.inj H
 go_enter Try.func148, Try.ntmps148
 go_wp2_with (first | ((with_reducible refine gd 2 rfl ?_); refine bx 2 #[.int .i64 a0_0, .slice A0_1 l0_1.length c0_1, .slice A0_2 l0_2.length c0_2] 55 ?_; intro gb681 hg w7 hbox hb; have GW681 := bz w hg; have GE681 := bz w hg; replace HB := bs hb; have BK681 := am hbox; clear hb hbox hg) | ((with_reducible refine gd 3 rfl ?_); refine bx 3 #[.int .i64 a1_0, .slice A1_1 l1_1.length c1_1, .slice A1_2 l1_2.length c1_2] 55 ?_; intro gb682 hg w8 hbox hb; have GW682 := bzw w hg; have GE682 := bzw w hg; replace HB := bsw hb; have BK682 := am hbox; have NB681_682 := nl BK681 hg; have NB682_681 := ng BK681 hg; replace BK681 := bb BK681 hb; clear hb hbox hg; have hnb9 := NB681_682.out; have hnc9 := NB682_681.out; obtain ⟨hcz10_0, hcz10_1, hcz10_2, hfz10_0, hfz10_1, hfz10_2⟩ := cc3 BK681; obtain ⟨hcz11_0, hcz11_1, hcz11_2, hfz11_0, hfz11_1, hfz11_2⟩ := cc3 BK682) | (have _ := A6; go_at_call 175; (with_reducible refine (spec_EqualInts.calls k _ _ l0_1 _ _ l1_1 true _ ?side1 ?side2 ?side3 ?side4 A4.out).mono ?_); (case side1 => exact cb HR0_1); (case side2 => exact HC0_1.out); (case side3 => exact cb HR1_1); (case side4 => exact HC1_1.out); rintro e w' ⟨rfl, ⟨nd, rfl⟩⟩) | (have _ := A6; go_at_call 175; (with_reducible refine (spec_EqualInts.calls k _ _ l0_2 _ _ l1_2 t684 _ ?side1 ?side2 ?side3 ?side4 A6.out).mono ?_); (case side1 => exact cbw HR0_2); (case side2 => exact HC0_2.out); (case side3 => exact cbw HR1_2); (case side4 => exact HC1_2.out); rintro e w' ⟨rfl, ⟨nd, rfl⟩⟩) | (go_at_call 175; (with_reducible refine (spec_EqualInts.calls k _ _ l0_1 _ _ l1_1 false _ ?side1 ?side2 ?side3 ?side4 A4.out).mono ?_); (case side1 => exact cb HR0_1); (case side2 => exact HC0_1.out); (case side3 => exact cb HR1_1); (case side4 => exact HC1_1.out); rintro e w' ⟨rfl, ⟨nd, rfl⟩⟩))
 first
 | have _ := A4
   go_ret
   exact ⟨se, sbw⟩
 | go_ret
   exact ⟨se, sbw⟩
   ) : P := h
theorem spec_EqualTables.calls (k : Nat) (a0_0 : Int) (A0_1 : Option Addr) (c0_1 : Nat) (l0_1 : List Int) (A0_2 : Option Addr) (c0_2 : Nat) (l0_2 : List Int) (a1_0 : Int) (A1_1 : Option Addr) (c1_1 : Nat) (l1_1 : List Int) (A1_2 : Option Addr) (c1_2 : Nat) (l1_2 : List Int) (r : Bool) (w : World) (hr0_1 : Kd.C (Kd.int .i64) w A0_1 l0_1.length l0_1) (hc0_1 : l0_1.length ≤ c0_1) (hr0_2 : Kd.C (Kd.int .i64) w A0_2 l0_2.length l0_2) (hc0_2 : l0_2.length ≤ c0_2) (hr1_1 : Kd.C (Kd.int .i64) w A1_1 l1_1.length l1_1) (hc1_1 : l1_1.length ≤ c1_1) (hr1_2 : Kd.C (Kd.int .i64) w A1_2 l1_2.length l1_2) (hc1_2 : l1_2.length ≤ c1_2) (h : spec_EqualTables.f k a0_0 l0_1 l0_2 a1_0 l1_1 l1_2 = some r) :
    Calls Try.prog 148 #[.agg #[.int .i64 a0_0, .slice A0_1 l0_1.length c0_1, .slice A0_2 l0_2.length c0_2], .agg #[.int .i64 a1_0, .slice A1_1 l1_1.length c1_1, .slice A1_2 l1_2.length c1_2]] w fun e w' => e = .returned (.bool r) ∧ Below w.heap.size w w' := by
 have hu55 := Try.underlying55
 have HR0_1 := am hr0_1
 have HC0_1 := am hc0_1
 clear hr0_1 hc0_1
 have HR0_2 := am hr0_2
 have HC0_2 := am hc0_2
 clear hr0_2 hc0_2
 have HR1_1 := am hr1_1
 have HC1_1 := am hc1_1
 clear hr1_1 hc1_1
 have HR1_2 := am hr1_2
 have HC1_2 := am hc1_2
 clear hr1_2 hc1_2
 have HB := am (Below.refl w.heap.size w)
 have H := h; unfold spec_EqualTables.f at H
 clear h
 obtain ⟨-, c3b0, c3b1, H⟩ | ⟨c3, c3b0, c3b1, H⟩ := ib_ H
 ·obtain ⟨t683, A4, H⟩ := bnd H
  obtain rfl | rfl := tt t683
  ·replace H := ip H
   obtain ⟨t684, A6, H⟩ := bnd H
   exact e20_0
  ·replace H := im H
   exact e20_0
 ·exact e20_0
end Go.Proofs.Ytiihaabhjphaeaa.QFnSwitched
