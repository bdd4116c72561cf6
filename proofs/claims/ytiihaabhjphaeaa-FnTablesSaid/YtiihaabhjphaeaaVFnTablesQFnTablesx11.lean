/- What the Go functions of the law FnTables come to, as Lean functions, and that they do: by a program of the session, out of the kit's printer. Conditions: none. (squeezed). -/
import Derived.Test.YtiihaabhjphaeaaVFnTablesSq
import Derived.Test.YtiihaabhjphaeaaVFnTablesQFnTablesx0
import Derived.Test.YtiihaabhjphaeaaVFnTablesQFnTablesx1
import Derived.Test.YtiihaabhjphaeaaVFnTablesQFnTablesx3
import Derived.Test.YtiihaabhjphaeaaVFnTablesQFnTablesx10
namespace Go.Proofs.Ytiihaabhjphaeaa.QFnTables
open Go.RowKit Go.Proofs.YtiihaabhjphaeaaW.PrintWords Go.Proofs.YtiihaabhjphaeaaW.PrintLast Go.Proofs.YtiihaabhjphaeaaW.PrintMore Go.Proofs.Ytiihaabhjphaeaa.Open Go.Proofs.Ytiihaabhjphaeaa.Sq
attribute [local go_sem] max2_int min2_int max_two min_two max_three min_three max_four min_four   -- for this text's walks alone
attribute [local go_sem] isSome_set
set_option linter.unusedVariables false
set_option linter.unusedSimpArgs false

/-! ### spec_DrawIsTable: function 63 -/
def spec_DrawIsTable.f (k : Nat) (l0 : List Int) : Option (Int × List Int × List Int × Int × Int) := (spec_l1New.f k l0).bind fun bt443 => ((spec_l15Any.f k bt443.1 bt443.2.1 bt443.2.2).bind fun bt447 => ((spec_l1Int.f bt443.1 bt447.2.2.2.1 bt447.2.2.2.2 (([6, 6, 6, 5, 0] : List Int))).bind fun bt460 => ((spec_l1Int.f bt443.1 bt460.2.1 bt460.2.2 (([4, 4, 0, 6] : List Int))).bind fun bt466 => (some (bt447.1, bt447.2.1, bt447.2.2.1, bt460.1, bt466.1)))))
theorem spec_DrawIsTable.mono : ∀ a0 k, LeO (spec_DrawIsTable.f k a0) (spec_DrawIsTable.f (k + 1) a0) := by
  intro a0 k
  unfold spec_DrawIsTable.f
  have m0 := @spec_l15Any.mono
  have m1 := @spec_l1New.mono
  exact mo
def spec_DrawIsTable.T3 : Bool × List (List Nat × List Nat) := (true, [([], []), ([], []), ([], []), ([1, 2], [1, 2]), ([], []), ([], []), ([4, 5, 3], [4, 5]), ([0, 6, 0], [0]), ([3, 7, 0, 1, 2, 3, 7], [3]), ([6, 8, 0, 1, 2, 3, 4, 5, 6, 7, 8], [6])])
def spec_DrawIsTable.B3 : List Nat := [0, 0, 0, 6, 0, 0, 62, 127, 255, 511]
theorem spec_DrawIsTable.tab3 : rtab .any (opsOf Try.f63 3) = spec_DrawIsTable.T3 := by kernel_rfl
theorem spec_DrawIsTable.bits3 : waitsOk spec_DrawIsTable.T3.2 spec_DrawIsTable.B3 = true := by kernel_rfl
set_option maxHeartbeats 8000000 in
set_option maxRecDepth 100000 in
theorem spec_DrawIsTable.calls (k : Nat) (A0 : Option Addr) (c0 : Nat) (l0 : List Int) (r1 : Int) (r2 : List Int) (r3 : List Int) (r4 : Int) (r5 : Int) (w : World) (hr0 : Kd.C (Kd.int .u8) w A0 l0.length l0) (hc0 : l0.length ≤ c0) (h : spec_DrawIsTable.f k l0 = some (r1, r2, r3, r4, r5)) :
    Calls Try.prog 63 #[.slice A0 l0.length c0] w fun e w' => ∃ v1_ v2_ : Value, e = .returned (.tuple #[.agg #[.int .i64 r1, v1_, v2_], .int .i64 r4, .int .i64 r5]) ∧ Kd.R (Kd.int .i64) 3 w' w.heap.size (fun k_ => some k_ ≠ (v2_ : Value).ownBlock) v1_ r2 ∧ Kd.R (Kd.int .i64) 3 w' w.heap.size (fun k_ => some k_ ≠ (v1_ : Value).ownBlock) v2_ r3 ∧ Below w.heap.size w w' := by
 have hu55 := Try.underlying55
 have HR0 := Aside0.mk hr0
 have HC0 := Aside0.mk hc0
 clear hr0 hc0
 have HB := Aside0.mk (Below.refl w.heap.size w)
 have H : ((spec_l1New.f k l0).bind fun bt443 => ((spec_l15Any.f k bt443.1 bt443.2.1 bt443.2.2).bind fun bt447 => ((spec_l1Int.f bt443.1 bt447.2.2.2.1 bt447.2.2.2.2 (([6, 6, 6, 5, 0] : List Int))).bind fun bt460 => ((spec_l1Int.f bt443.1 bt460.2.1 bt460.2.2 (([4, 4, 0, 6] : List Int))).bind fun bt466 => (some (bt447.1, bt447.2.1, bt447.2.2.1, bt460.1, bt466.1)))))) = some (r1, r2, r3, r4, r5) := h
 clear h
 obtain ⟨⟨t443, t444, t445⟩, A2, H⟩ := bnd H
 replace H : ((spec_l15Any.f k t443 t444 t445).bind fun bt447 => ((spec_l1Int.f t443 bt447.2.2.2.1 bt447.2.2.2.2 (([6, 6, 6, 5, 0] : List Int))).bind fun bt460 => ((spec_l1Int.f t443 bt460.2.1 bt460.2.2 (([4, 4, 0, 6] : List Int))).bind fun bt466 => (some (bt447.1, bt447.2.1, bt447.2.2.1, bt460.1, bt466.1))))) = some (r1, r2, r3, r4, r5) := H
 obtain ⟨⟨t447, t448, t451, t454, t455⟩, A3, H⟩ := bnd H
 replace H : ((spec_l1Int.f t443 t454 t455 (([6, 6, 6, 5, 0] : List Int))).bind fun bt460 => ((spec_l1Int.f t443 bt460.2.1 bt460.2.2 (([4, 4, 0, 6] : List Int))).bind fun bt466 => (some (t447, t448, t451, bt460.1, bt466.1)))) = some (r1, r2, r3, r4, r5) := H
 obtain ⟨y457, hy457⟩ : ∃ y_ : List Int, y_ = (([6, 6, 6, 5, 0] : List Int)) := ⟨_, rfl⟩
 replace H : ((spec_l1Int.f t443 t454 t455 y457).bind fun bt460 => ((spec_l1Int.f t443 bt460.2.1 bt460.2.2 (([4, 4, 0, 6] : List Int))).bind fun bt466 => (some (t447, t448, t451, bt460.1, bt466.1)))) = some (r1, r2, r3, r4, r5) := by first | (rw [hy457]; with_reducible exact H) | (have H2_ := (Option.bind_some _ _).symm.trans H; rw [hy457]; with_reducible exact H2_) | (have H2_ := (Option.bind_some _ _).symm.trans H; with_reducible exact H2_) | with_reducible exact H | (rw [hy457]; exact H) | exact H
 have Ny457 := Aside0.mk hy457
 clear hy457
 obtain ⟨⟨t460, t461, t462⟩, A4, H⟩ := bnd H
 replace H : ((spec_l1Int.f t443 t461 t462 (([4, 4, 0, 6] : List Int))).bind fun bt466 => (some (t447, t448, t451, t460, bt466.1))) = some (r1, r2, r3, r4, r5) := H
 obtain ⟨y463, hy463⟩ : ∃ y_ : List Int, y_ = (([4, 4, 0, 6] : List Int)) := ⟨_, rfl⟩
 replace H : ((spec_l1Int.f t443 t461 t462 y463).bind fun bt466 => (some (t447, t448, t451, t460, bt466.1))) = some (r1, r2, r3, r4, r5) := by first | (rw [hy463]; with_reducible exact H) | (have H2_ := (Option.bind_some _ _).symm.trans H; rw [hy463]; with_reducible exact H2_) | (have H2_ := (Option.bind_some _ _).symm.trans H; with_reducible exact H2_) | with_reducible exact H | (rw [hy463]; exact H) | exact H
 have Ny463 := Aside0.mk hy463
 clear hy463
 obtain ⟨⟨t466, t467, t468⟩, A5, H⟩ := bnd H
 replace H : (some (t447, t448, t451, t460, t466)) = some (r1, r2, r3, r4, r5) := H
 simp only [Option.some.injEq, Prod.mk.injEq] at H
 obtain ⟨rfl, rfl, rfl, rfl, rfl⟩ := H
 go_enter Try.func63, Try.ntmps63
 try go_wp2_with (first | ((with_reducible refine gate_dst (N := 2) rfl ?_); refine bx 2 #[.int .i64 0, .slice none 0 0, .slice none 0 0] 55 ?_; intro gb442 hg w6 hbox hb; have GW442 := bz w hg; have GE442 := bz w hg; replace HB := bs hb; have BK442 := Aside0.mk hbox; clear hb hbox hg) | ((with_reducible refine gate_callee (f := 75) rfl ?_); refine gL (some 8) Try.func75 #[.slice A0 l0.length c0] ?_; (with_reducible refine (spec_l1New.calls k _ _ l0 t443 t444 t445 w _ ?side1 ?side2 ?side3 A2.out).mono ?_); (case side1 => repeat (first | (with_reducible first | exact HB.out | apply below_alloc | apply pw_below_drewN | apply below_drew1 | refine below_set ?_ GE442.out) | exact HB.out)); (case side2 => exact HR0.out); (case side3 => exact HC0.out); rintro e w7 ⟨g446, rfl, hi, hb, hb2⟩; refine ⟨_, rfl, ?_⟩; replace HB := Aside0.mk hb; have HI446 := Aside0.mk hi; have NB446_442 := Aside0.mk (IsS152.ne_blk hi (blk_below (g := gb442) (o := .cells #[.int .i64 0, .slice none 0 0, .slice none 0 0] 55 (0, 0)) (sk BK442) hb2) (by decide)); have NB442_446 := Aside0.mk (Ne.symm (IsS152.ne_blk hi (blk_below (g := gb442) (o := .cells #[.int .i64 0, .slice none 0 0, .slice none 0 0] 55 (0, 0)) (sk BK442) hb2) (by decide))); replace BK442 := bb BK442 hb2; (try clear hb); (try clear hb2); (try clear hk); (try clear hi)) | ((with_reducible refine gate_callee (f := 130) rfl ?_); refine gL (some 10) Try.func130 #[.pointer (some ⟨g446, 0, none⟩)] ?_; (with_reducible refine (spec_l15Any.calls k g446 t443 t444 t445 t447 t448 t451 t454 t455 w _ ?side1 ?side2 A3.out).mono ?_); (case side1 => repeat (first | (with_reducible first | exact HI446.out | apply IsS152.alloc | apply IsS152.drewN | apply IsS152.drew | apply IsS152.set_1 | apply IsS152.set_2 | refine IsS152.far ?_ NB446_442.out _) | exact HI446.out)); (case side2 => repeat (first | (with_reducible first | exact HB.out | apply below_alloc | apply pw_below_drewN | apply below_drew1 | refine below_set ?_ (IsS152.ge HI446.out) | refine below_set ?_ GE442.out) | exact HB.out)); rintro e w8 ⟨v449, v452, rfl, ho0, ho1, hi, hb, hk⟩; refine ⟨_, rfl, ?_⟩; replace BK442 := Aside0.mk (KeepBut.blk hk (g' := gb442) (o := .cells #[.int .i64 0, .slice none 0 0, .slice none 0 0] 55 (0, 0)) (sk BK442) NB442_446.out (by simp)); have HO450 := Aside0.mk (Kd.R_lower ho0 (below_size (by repeat (first | (with_reducible first | exact HB.out | apply below_alloc | apply pw_below_drewN | apply below_drew1 | refine below_set ?_ (IsS152.ge HI446.out) | refine below_set ?_ GE442.out) | exact HB.out)))); have HO453 := Aside0.mk (Kd.R_lower ho1 (below_size (by repeat (first | (with_reducible first | exact HB.out | apply below_alloc | apply pw_below_drewN | apply below_drew1 | refine below_set ?_ (IsS152.ge HI446.out) | refine below_set ?_ GE442.out) | exact HB.out)))); replace HB := Aside0.mk hb; replace HI446 := Aside0.mk hi; (try clear hb); (try clear hb2); (try clear hk); (try clear hi); (try clear ho0); (try clear ho1)) | ((with_reducible refine gate_dst (N := 6) rfl ?_); refine bx 6 #[.int .i64 0, .slice none 0 0, .slice none 0 0] 55 ?_; intro gb456 hg w9 hbox hb; replace HO450 := Aside0.mk (Kd.R_below (sr HO450) hb); replace HO453 := Aside0.mk (Kd.R_below (sr HO453) hb); have BK456 := Aside0.mk hbox; have GW456 := Aside0.mk ((by rw [hg]; exact (below_size (by repeat (first | (with_reducible first | exact HB.out | apply below_alloc | apply pw_below_drewN | apply below_drew1 | refine below_set ?_ (IsS152.ge HI446.out) | refine below_set ?_ GE442.out) | exact HB.out))) : w.heap.size ≤ gb456)); have GE456 := Aside0.mk ((by rw [hg]; exact (below_size (by repeat (first | (with_reducible first | exact HB.out | apply below_alloc | apply pw_below_drewN | apply below_drew1 | refine below_set ?_ (IsS152.ge HI446.out) | refine below_set ?_ GE442.out) | exact HB.out))) : w.heap.size ≤ gb456)); replace HB := Aside0.mk (below_step (by repeat (first | (with_reducible first | exact HB.out | apply below_alloc | apply pw_below_drewN | apply below_drew1 | refine below_set ?_ (IsS152.ge HI446.out) | refine below_set ?_ GE442.out) | exact HB.out)) hb); have NB442_456 := nl BK442 hg; have NB456_442 := ng BK442 hg; replace BK442 := bb BK442 hb; have NB446_456 := Aside0.mk ((by rw [hg]; exact Nat.ne_of_lt (IsS152.lt (show IsS152 w _ g446 t443 t454 t455 from by repeat (first | (with_reducible first | exact HI446.out | apply IsS152.alloc | apply IsS152.drewN | apply IsS152.drew | apply IsS152.set_1 | apply IsS152.set_2 | refine IsS152.far ?_ NB446_442.out _) | exact HI446.out))) : g446 ≠ gb456)); have NB456_446 := Aside0.mk ((by rw [hg]; exact Nat.ne_of_gt (IsS152.lt (show IsS152 w _ g446 t443 t454 t455 from by repeat (first | (with_reducible first | exact HI446.out | apply IsS152.alloc | apply IsS152.drewN | apply IsS152.drew | apply IsS152.set_1 | apply IsS152.set_2 | refine IsS152.far ?_ NB446_442.out _) | exact HI446.out))) : gb456 ≠ g446)); replace HI446 := Aside0.mk (IsS152.below (by repeat (first | (with_reducible first | exact HI446.out | apply IsS152.alloc | apply IsS152.drewN | apply IsS152.drew | apply IsS152.set_1 | apply IsS152.set_2 | refine IsS152.far ?_ NB446_442.out _) | exact HI446.out)) hb); clear hb hbox hg; have hnb10 := NB456_442.out; have hnc10 := NB442_456.out; have hnb11 := NB456_446.out; have hnc11 := NB446_456.out; obtain ⟨hcz12_0, hcz12_1, hcz12_2, hfz12_0, hfz12_1, hfz12_2⟩ := cc3 BK456; obtain ⟨Ao13, co13, eo13⟩ := Kd.R_slice HO450.out; subst eo13; obtain ⟨Ao14, co14, eo14⟩ := Kd.R_slice HO453.out; subst eo14))
 have n0_ : Aside0 (Kd.R (Kd.int .i64) 3 (((w9.setCell ⟨gb456, 0, none⟩ (.int .i64 t447)).setCell ⟨gb456, 1, none⟩ (.slice Ao13 t448.length co13)).setCell ⟨gb456, 2, none⟩ (.slice Ao14 t451.length co14)) w.heap.size (fun k_ => some k_ ≠ (.slice Ao14 t451.length co14 : Value).ownBlock) (.slice Ao13 t448.length co13) t448) := ⟨by (with_reducible repeat (first | apply Kd.R_alloc | apply Kd.R_drewN | apply Kd.R_drew)); exact Kd.R_mono (Kd.R_far (p := ⟨gb456, 2, none⟩) (Kd.R_far (p := ⟨gb456, 1, none⟩) (Kd.R_far (p := ⟨gb456, 0, none⟩) (Kd.R_types HO450.out BK456.out (by decide)) (fun _ hk => by first | exact hk.2 | exact hk | exact hk.1 | exact hk.1.1 | exact hk.2 | (simp_all; done)) (.int .i64 t447)) (fun _ hk => by first | exact hk.2 | exact hk | exact hk.1 | exact hk.1.1 | exact hk.2 | (simp_all; done)) (.slice Ao13 t448.length co13)) (fun _ hk => by first | exact hk.2 | exact hk | exact hk.1 | exact hk.1.1 | exact hk.2 | (simp_all; done)) (.slice Ao14 t451.length co14)) (fun _ hk => by first | exact hk.1 | exact hk | exact hk.1 | exact hk.1.1 | exact hk.2 | (simp_all; done))⟩
 have n1_ : Aside0 (Kd.R (Kd.int .i64) 3 (((w9.setCell ⟨gb456, 0, none⟩ (.int .i64 t447)).setCell ⟨gb456, 1, none⟩ (.slice Ao13 t448.length co13)).setCell ⟨gb456, 2, none⟩ (.slice Ao14 t451.length co14)) w.heap.size (fun k_ => some k_ ≠ (.slice Ao13 t448.length co13 : Value).ownBlock) (.slice Ao14 t451.length co14) t451) := ⟨by (with_reducible repeat (first | apply Kd.R_alloc | apply Kd.R_drewN | apply Kd.R_drew)); exact Kd.R_mono (Kd.R_far (p := ⟨gb456, 2, none⟩) (Kd.R_far (p := ⟨gb456, 1, none⟩) (Kd.R_far (p := ⟨gb456, 0, none⟩) (Kd.R_types HO453.out BK456.out (by decide)) (fun _ hk => by first | exact hk.2 | exact hk | exact hk.1 | exact hk.1.1 | exact hk.2 | (simp_all; done)) (.int .i64 t447)) (fun _ hk => by first | exact hk.2 | exact hk | exact hk.1 | exact hk.1.1 | exact hk.2 | (simp_all; done)) (.slice Ao13 t448.length co13)) (fun _ hk => by first | exact hk.2 | exact hk | exact hk.1 | exact hk.1.1 | exact hk.2 | (simp_all; done)) (.slice Ao14 t451.length co14)) (fun _ hk => by first | exact hk.1 | exact hk | exact hk.1 | exact hk.1.1 | exact hk.2 | (simp_all; done))⟩
 have n2_ : Aside0 ((((w9.setCell ⟨gb456, 0, none⟩ (.int .i64 t447)).setCell ⟨gb456, 1, none⟩ (.slice Ao13 t448.length co13)).setCell ⟨gb456, 2, none⟩ (.slice Ao14 t451.length co14)).heap[gb442]? = some (.cells #[.int .i64 0, .slice none 0 0, .slice none 0 0] 55 (0, 0))) := ⟨sp BK442⟩
 have n3_ : Aside0 ((((w9.setCell ⟨gb456, 0, none⟩ (.int .i64 t447)).setCell ⟨gb456, 1, none⟩ (.slice Ao13 t448.length co13)).setCell ⟨gb456, 2, none⟩ (.slice Ao14 t451.length co14)).heap[gb456]? = some (.cells #[.int .i64 t447, .slice Ao13 t448.length co13, .slice Ao14 t451.length co14] 55 (0, 0))) := ⟨sp BK456⟩
 have n4_ : Aside0 (IsS152 w (((w9.setCell ⟨gb456, 0, none⟩ (.int .i64 t447)).setCell ⟨gb456, 1, none⟩ (.slice Ao13 t448.length co13)).setCell ⟨gb456, 2, none⟩ (.slice Ao14 t451.length co14)) g446 t443 t454 t455) := ⟨by repeat (first | (with_reducible first | exact HI446.out | apply IsS152.alloc | apply IsS152.drewN | apply IsS152.drew | apply IsS152.set_1 | apply IsS152.set_2 | refine IsS152.far ?_ NB446_442.out _ | refine IsS152.far ?_ NB446_456.out _) | exact HI446.out)⟩
 have n5_ : Aside0 (Below w.heap.size w (((w9.setCell ⟨gb456, 0, none⟩ (.int .i64 t447)).setCell ⟨gb456, 1, none⟩ (.slice Ao13 t448.length co13)).setCell ⟨gb456, 2, none⟩ (.slice Ao14 t451.length co14))) := ⟨by repeat (first | (with_reducible first | exact HB.out | apply below_alloc | apply pw_below_drewN | apply below_drew1 | refine below_set ?_ (IsS152.ge HI446.out) | refine below_set ?_ GE442.out | refine below_set ?_ GE456.out) | exact HB.out)⟩
 (try clear HO450)
 (try clear HO453)
 (try clear BK442)
 (try clear BK456)
 (try clear HI446)
 (try clear HB)
 generalize (((w9.setCell ⟨gb456, 0, none⟩ (.int .i64 t447)).setCell ⟨gb456, 1, none⟩ (.slice Ao13 t448.length co13)).setCell ⟨gb456, 2, none⟩ (.slice Ao14 t451.length co14)) = w15 at n0_ n1_ n2_ n3_ n4_ n5_ ⊢
 have HO450 := n0_
 have HO453 := n1_
 have BK442 := n2_
 have BK456 := n3_
 have HI446 := n4_
 have HB := n5_
 clear n0_ n1_ n2_ n3_ n4_ n5_
 replace HO450 := Aside0.mk (Kd.R_drew HO450.out)
 replace HO453 := Aside0.mk (Kd.R_drew HO453.out)
 replace BK442 := Aside0.mk (blk_drew BK442.out)
 replace BK456 := Aside0.mk (blk_drew BK456.out)
 replace HI446 := Aside0.mk (IsS152.drew HI446.out)
 replace HB := Aside0.mk (below_drew1 HB.out)
 refine start_ (n := 10) (S := fun w' => True) (ds := []) #[false, false, false, false, false, false, false, false, false, false] (by kernel_rfl) rfl rfl trivial (fun hHeld => ?_); refine with_tabW spec_DrawIsTable.tab3 spec_DrawIsTable.bits3 (fun HT_ HW_ => ?_)
 generalize w15.drew = w16 at HO450 HO453 BK442 BK456 HI446 HB hHeld ⊢
 refine put 1 12 #[false, true, false, false, false, false, false, false, false, false] HT_ ?_
 refine put 4 15 #[false, true, false, false, true, false, false, false, false, false] HT_ ?_
 refine inv_at [0, 2, 3, 5, 6, 7, 8, 9] (fun a0_ b a w' => ∃ (v458 : Value) (v464 : Value), a = putSel a0_ b [(0, 11, .agg #[.int .i64 t447, .slice Ao13 t448.length co13, .slice Ao14 t451.length co14]), (2, 13, v458), (3, 14, .int .i64 t460), (5, 16, v464), (6, 17, .int .i64 t466), (8, 3, .int .i64 t460), (9, 4, .int .i64 t466)] ∧ (Kd.R (Kd.int .i64) 3 w' w.heap.size (fun k_ => some k_ ≠ (.slice Ao14 t451.length co14 : Value).ownBlock) (.slice Ao13 t448.length co13) t448) ∧ (Kd.R (Kd.int .i64) 3 w' w.heap.size (fun k_ => some k_ ≠ (.slice Ao13 t448.length co13 : Value).ownBlock) (.slice Ao14 t451.length co14) t451) ∧ (b 7 = false → w'.heap[gb442]? = some (.cells #[.int .i64 0, .slice none 0 0, .slice none 0 0] 55 (0, 0))) ∧ (w'.heap[gb456]? = some (.cells #[.int .i64 t447, .slice Ao13 t448.length co13, .slice Ao14 t451.length co14] 55 (0, 0))) ∧ (b 3 = false → IsS152 w w' g446 t443 t454 t455) ∧ (Below w.heap.size w w') ∧ (b 2 = true → Kd.R (Kd.int .i64) 3 w' w.heap.size (fun k_ => some k_ ≠ (.slice Ao13 t448.length co13 : Value).ownBlock ∧ some k_ ≠ (.slice Ao14 t451.length co14 : Value).ownBlock) v458 y457) ∧ (b 3 = true → b 6 = false → IsS152 w w' g446 t443 t461 t462) ∧ (b 5 = true → Kd.R (Kd.int .i64) 3 w' w.heap.size (fun k_ => some k_ ≠ (.slice Ao13 t448.length co13 : Value).ownBlock ∧ some k_ ≠ (.slice Ao14 t451.length co14 : Value).ownBlock) v464 y463) ∧ (b 6 = true → IsS152 w w' g446 t443 t467 t468) ∧ (b 7 = true → w'.heap[gb442]? = some (.cells #[.int .i64 t447, .slice Ao13 t448.length co13, .slice Ao14 t451.length co14] 55 (0, 0)))) HT_.out HW_.out (by kernel_rfl) (by kernel_rfl) ?_ ?_ ?_
 ·exact ⟨.bool false, .bool false, by simp only [putSel, Bool.false_eq_true, if_false], HO450.out, HO453.out, fun _ => BK442.out, BK456.out, fun _ => HI446.out, HB.out, fun h_ => absurd h_ (by decide), fun h_ => absurd h_ (by decide), fun h_ => absurd h_ (by decide), fun h_ => absurd h_ (by decide), fun h_ => absurd h_ (by decide)⟩
 ·skip
  clear BK442 BK456 HB HI446 HO450 HO453
  refine steps_cons ?_ ?_
  ·rintro b a w' ⟨v458, v464, ha, Q_HO450, Q_HO453, Q_BK442, Q_BK456, Q_HI446, Q_HB, Q_HO459, Q_HI446_e3, Q_HO465, Q_HI446_e6, Q_BK442_e7⟩ hb_ hon hoff
   refine ⟨_, rfl, fun K hK => ?_⟩
   have e6 : a.tmps[6]? = some (.pointer (some ⟨gb456, 0, none⟩)) := by rw [ha]; exact (putSel_off rfl).trans rfl
   replace ha := Aside0.mk ha
   have HO450 := Aside0.mk Q_HO450
   have HO453 := Aside0.mk Q_HO453
   have BK442 := Aside0.mk (Q_BK442 (hoff 7 (by kernel_rfl)))
   have BK456 := Aside0.mk Q_BK456
   have HB := Aside0.mk Q_HB
   have hc0_ : w'.cell? ⟨gb456, 0, none⟩ = some (.int .i64 t447) := bc0 BK456
   have hc1_ : w'.cell? ⟨gb456, 1, none⟩ = some (.slice Ao13 t448.length co13) := bc1 BK456
   have hc2_ : w'.cell? ⟨gb456, 2, none⟩ = some (.slice Ao14 t451.length co14) := bc2 BK456
   refine value_ (w1 := w') (v := .agg #[.int .i64 t447, .slice Ao13 t448.length co13, .slice Ao14 t451.length co14]) (by rfl) rfl ?_ ?_
   ·go_simp
    (try simp only [i64_w])
    try rfl
   refine hK.out _ _ ⟨v458, v464, (by rw [ha.out]; exact putSel_upk 0 hb_ rfl rfl rfl), Q_HO450, Q_HO453, Q_BK442, Q_BK456, Q_HI446, Q_HB, Q_HO459, Q_HI446_e3, Q_HO465, Q_HI446_e6, fun h0_ => absurd ((hoff 7 (by kernel_rfl)).symm.trans h0_) (by decide)⟩
  refine steps_cons ?_ ?_
  ·rintro b a w' ⟨v458, v464, ha, Q_HO450, Q_HO453, Q_BK442, Q_BK456, Q_HI446, Q_HB, Q_HO459, Q_HI446_e3, Q_HO465, Q_HI446_e6, Q_BK442_e7⟩ hb_ hon hoff
   refine ⟨_, rfl, fun K hK => ?_⟩
   replace ha := Aside0.mk ha
   have HO450 := Aside0.mk Q_HO450
   have HO453 := Aside0.mk Q_HO453
   have BK442 := Aside0.mk (Q_BK442 (hoff 7 (by kernel_rfl)))
   have BK456 := Aside0.mk Q_BK456
   have HI446 := Aside0.mk (Q_HI446 (hoff 3 (by kernel_rfl)))
   have HB := Aside0.mk Q_HB
   refine Kd.R_lit_step (Kd.int .i64) _ 3 ?hg (N := 13) ?hd (xs := ([6, 6, 6, 5, 0] : List Int)) (inner := [.int .i64 6, .int .i64 6, .int .i64 6, .int .i64 5, .int .i64 0]) (ok := fun _ => True) (okp := fun _ => True) ?hr ?hp (fun _ hk => by first | exact hk | exact hk | exact hk.1 | exact hk.1.1 | exact hk.2 | (simp_all; done)) trivial (Below.refl _ _) (Nat.le_refl _) (by simp) ?_; (case hd => rfl); (case hg => rfl); (case hr => first | (go_simp; done) | (go_simp; rfl)); (case hp => exact (Reps.one (show Kd.M (Kd.int .i64) _ _ _ 6 [.int .i64 6] from rfl) (Reps.one (show Kd.M (Kd.int .i64) _ _ _ 6 [.int .i64 6] from rfl) (Reps.one (show Kd.M (Kd.int .i64) _ _ _ 6 [.int .i64 6] from rfl) (Reps.one (show Kd.M (Kd.int .i64) _ _ _ 5 [.int .i64 5] from rfl) (Reps.one (show Kd.M (Kd.int .i64) _ _ _ 0 [.int .i64 0] from rfl) (Reps.none _ _)))))))
   intro v458 w17 ho18 hb hg_ hnew_
   clear hg_ hnew_
   (first | rw [← Ny457.out] at ho18 | (simp only [Int.reduceToNat] at ho18; rw [← Ny457.out] at ho18))
   have n0_ := Aside0.mk (Kd.R_elder' (sr HO450) (Kd.R_base ho18) hb)
   have n1_ := Aside0.mk (Kd.R_elder' (sr HO453) (Kd.R_base ho18) hb)
   have n2_ := Aside0.mk (Kd.R_lower (Kd.R_new' (Kd.R_new' ho18 (Kd.R_lt (sr HO450))) (Kd.R_lt (sr HO453))) (below_size (by repeat (first | (with_reducible first | exact HB.out | apply below_alloc | apply pw_below_drewN | apply below_drew1 | refine below_set ?_ (IsS152.ge HI446.out) | refine below_set ?_ GE442.out | refine below_set ?_ GE456.out) | exact HB.out))))
   have n3_ := Aside0.mk (blk_below (g := gb442) (o := .cells #[.int .i64 0, .slice none 0 0, .slice none 0 0] 55 (0, 0)) (sk BK442) hb)
   have n4_ := Aside0.mk (IsS152.below (by repeat (first | (with_reducible first | exact HI446.out | apply IsS152.alloc | apply IsS152.drewN | apply IsS152.drew | apply IsS152.set_1 | apply IsS152.set_2 | refine IsS152.far ?_ NB446_442.out _ | refine IsS152.far ?_ NB446_456.out _) | exact HI446.out)) hb)
   have n5_ := Aside0.mk (blk_below (g := gb456) (o := .cells #[.int .i64 t447, .slice Ao13 t448.length co13, .slice Ao14 t451.length co14] 55 (0, 0)) (sk BK456) hb)
   have n6_ := Aside0.mk (below_step (by repeat (first | (with_reducible first | exact HB.out | apply below_alloc | apply pw_below_drewN | apply below_drew1 | refine below_set ?_ (IsS152.ge HI446.out) | refine below_set ?_ GE442.out | refine below_set ?_ GE456.out) | exact HB.out)) hb)
   have z_HO465 := fun (h0_ : b 5 = true) => (show Kd.R (Kd.int .i64) 3 w17 w.heap.size (fun k_ => some k_ ≠ (.slice Ao13 t448.length co13 : Value).ownBlock ∧ some k_ ≠ (.slice Ao14 t451.length co14 : Value).ownBlock) v464 y463 from by first | exact (Kd.R_elder' (by (with_reducible repeat (first | apply Kd.R_alloc | apply Kd.R_drewN | apply Kd.R_drew)); exact (Q_HO465 h0_)) (Kd.R_base ho18) hb) | exact Kd.R_mono (Kd.R_elder' (by (with_reducible repeat (first | apply Kd.R_alloc | apply Kd.R_drewN | apply Kd.R_drew)); exact (Q_HO465 h0_)) (Kd.R_base ho18) hb) (fun _ h_ => by first | trivial | exact h_ | exact h_.1))
   clear HO450 HO453 BK442 HI446 BK456 HB
   have HO450 := n0_
   have HO453 := n1_
   have HO459 := n2_
   have BK442 := n3_
   have HI446 := n4_
   have BK456 := n5_
   have HB := n6_
   clear n0_ n1_ n2_ n3_ n4_ n5_ n6_ hb ho18
   refine hK.out _ _ ⟨v458, v464, (by rw [ha.out]; exact putSel_upk 1 hb_ rfl rfl rfl), (by first | exact sr HO450 | exact Kd.R_mono HO450.out (fun _ hk => by first | exact hk.1 | exact hk | exact hk.1 | exact hk.1.1 | exact hk.2 | (simp_all; done)) | exact Kd.R_mono HO450.out (fun _ hk => by first | exact hk.2 | exact hk | exact hk.1 | exact hk.1.1 | exact hk.2 | (simp_all; done))), (by first | exact sr HO453 | exact Kd.R_mono HO453.out (fun _ hk => by first | exact hk.1 | exact hk | exact hk.1 | exact hk.1.1 | exact hk.2 | (simp_all; done)) | exact Kd.R_mono HO453.out (fun _ hk => by first | exact hk.2 | exact hk | exact hk.1 | exact hk.1.1 | exact hk.2 | (simp_all; done))), fun _ => (sk BK442), (sk BK456), fun _ => (by repeat (first | (with_reducible first | exact HI446.out | apply IsS152.alloc | apply IsS152.drewN | apply IsS152.drew | apply IsS152.set_1 | apply IsS152.set_2 | refine IsS152.far ?_ NB446_442.out _ | refine IsS152.far ?_ NB446_456.out _) | exact HI446.out)), (by repeat (first | (with_reducible first | exact HB.out | apply below_alloc | apply pw_below_drewN | apply below_drew1 | refine below_set ?_ (IsS152.ge HI446.out) | refine below_set ?_ GE442.out | refine below_set ?_ GE456.out) | exact HB.out)), fun _ => (by (with_reducible repeat (first | apply Kd.R_alloc | apply Kd.R_drewN | apply Kd.R_drew)); exact Kd.R_mono HO459.out (fun _ hk => by first | exact ⟨hk.1.2, hk.2⟩ | exact hk | exact hk.1 | exact hk.1.1 | exact hk.2 | (simp_all; done))), fun h0_ _ => absurd ((hoff 3 (by kernel_rfl)).symm.trans h0_) (by decide), z_HO465, fun h0_ => absurd ((hoff 6 (by kernel_rfl)).symm.trans h0_) (by decide), fun h0_ => absurd ((hoff 7 (by kernel_rfl)).symm.trans h0_) (by decide)⟩
  refine steps_cons ?_ ?_
  ·rintro b a w' ⟨v458, v464, ha, Q_HO450, Q_HO453, Q_BK442, Q_BK456, Q_HI446, Q_HB, Q_HO459, Q_HI446_e3, Q_HO465, Q_HI446_e6, Q_BK442_e7⟩ hb_ hon hoff
   refine ⟨_, rfl, fun K hK => ?_⟩
   have e12 : a.tmps[12]? = some (.pointer (some ⟨g446, 0, none⟩)) := by rw [ha]; exact (putSel_off rfl).trans rfl
   have e13 : a.tmps[13]? = some (v458) := by rw [ha]; exact putSel_on (e := (2, 13, v458)) 1 rfl rfl (hon 2 (by kernel_rfl)) rfl
   replace ha := Aside0.mk ha
   have HO450 := Aside0.mk Q_HO450
   have HO453 := Aside0.mk Q_HO453
   have BK442 := Aside0.mk (Q_BK442 (hoff 7 (by kernel_rfl)))
   have BK456 := Aside0.mk Q_BK456
   have HI446 := Aside0.mk (Q_HI446 hb_)
   have HB := Aside0.mk Q_HB
   have HO459 := Aside0.mk (Q_HO459 (hon 2 (by kernel_rfl)))
   obtain ⟨Ao20, co20, eo20⟩ := Kd.R_slice HO459.out
   (first | subst eo20 | (injection eo20 with f1_ f2_ f3_; have f4_ := f1_.symm; have f5_ := f3_.symm; clear f1_ f2_ f3_; subst f4_; subst f5_))
   refine goes_ Try.func109 (by kernel_rfl) rfl #[.pointer (some ⟨g446, 0, none⟩), .slice Ao20 y457.length co20] (by rfl) rfl rfl (by first | (simp only [List.map_toArray, List.map_cons, List.map_nil, Act.eval, Array.getD_eq_getD_getElem?, Option.getD_some, e12, e13]; done) | (simp only [List.map_toArray, List.map_cons, List.map_nil, Act.eval, Array.getD_eq_getD_getElem?, Option.getD_some, e12, e13]; rfl)) ?_
   with_reducible refine (spec_l1Int.calls g446 t443 t454 t455 _ _ y457 t460 t461 t462 w _ ?side1 ?side2 ?side3 ?side4 ?side5 A4.out).mono ?_
   (case side1 => repeat (first | (with_reducible first | exact HI446.out | apply IsS152.alloc | apply IsS152.drewN | apply IsS152.drew | apply IsS152.set_1 | apply IsS152.set_2 | refine IsS152.far ?_ NB446_442.out _ | refine IsS152.far ?_ NB446_456.out _) | exact HI446.out))
   (case side2 => repeat (first | (with_reducible first | exact HB.out | apply below_alloc | apply pw_below_drewN | apply below_drew1 | refine below_set ?_ (IsS152.ge HI446.out) | refine below_set ?_ GE442.out | refine below_set ?_ GE456.out) | exact HB.out))
   (case side3 => repeat (first | exact (Kd.R_reads' HO459.out).2.2 | (with_reducible refine Kd.C_alloc ?_ _) | (with_reducible refine Kd.C_drewN ?_ _) | (with_reducible refine Kd.C_drew ?_)))
   (case side4 => exact (Kd.R_reads' HO459.out).2.1)
   (case side5 => exact far_slice (IsS152.own_ne HI446.out HO459.out (by decide)))
   rintro e w21 ⟨rfl, hi, hb, hk⟩
   refine ⟨_, rfl, ?_⟩
   have n0_ := Aside0.mk (KeepBut.blk hk (g' := gb442) (o := .cells #[.int .i64 0, .slice none 0 0, .slice none 0 0] 55 (0, 0)) (sk BK442) NB442_446.out (by simp))
   have n1_ := Aside0.mk (Kd.R_mono (Kd.R_keep (IsS152.apart (show IsS152 w _ g446 t443 t454 t455 from by repeat (first | (with_reducible first | exact HI446.out | apply IsS152.alloc | apply IsS152.drewN | apply IsS152.drew | apply IsS152.set_1 | apply IsS152.set_2 | refine IsS152.far ?_ NB446_442.out _ | refine IsS152.far ?_ NB446_456.out _) | exact HI446.out)) (sr HO450) (by decide)) hk (fun _ h => h.2)) (fun _ h => h.1))
   have n2_ := Aside0.mk (Kd.R_mono (Kd.R_keep (IsS152.apart (show IsS152 w _ g446 t443 t454 t455 from by repeat (first | (with_reducible first | exact HI446.out | apply IsS152.alloc | apply IsS152.drewN | apply IsS152.drew | apply IsS152.set_1 | apply IsS152.set_2 | refine IsS152.far ?_ NB446_442.out _ | refine IsS152.far ?_ NB446_456.out _) | exact HI446.out)) (sr HO453) (by decide)) hk (fun _ h => h.2)) (fun _ h => h.1))
   have n3_ := Aside0.mk (KeepBut.blk hk (g' := gb456) (o := .cells #[.int .i64 t447, .slice Ao13 t448.length co13, .slice Ao14 t451.length co14] 55 (0, 0)) (sk BK456) NB456_446.out (by simp))
   have n4_ := Aside0.mk (Kd.R_mono (Kd.R_keep (IsS152.apart (show IsS152 w _ g446 t443 t454 t455 from by repeat (first | (with_reducible first | exact HI446.out | apply IsS152.alloc | apply IsS152.drewN | apply IsS152.drew | apply IsS152.set_1 | apply IsS152.set_2 | refine IsS152.far ?_ NB446_442.out _ | refine IsS152.far ?_ NB446_456.out _) | exact HI446.out)) (sr HO459) (by decide)) hk (fun _ h => h.2)) (fun _ h => h.1))
   have n5_ := Aside0.mk (hb)
   have n6_ := Aside0.mk (hi)
   have z_HO465 := fun (h0_ : b 5 = true) => (show Kd.R (Kd.int .i64) 3 w21 w.heap.size (fun k_ => some k_ ≠ (.slice Ao13 t448.length co13 : Value).ownBlock ∧ some k_ ≠ (.slice Ao14 t451.length co14 : Value).ownBlock) v464 y463 from by first | exact (Kd.R_mono (Kd.R_keep (IsS152.apart (show IsS152 w _ g446 t443 t454 t455 from by repeat (first | (with_reducible first | exact HI446.out | apply IsS152.alloc | apply IsS152.drewN | apply IsS152.drew | apply IsS152.set_1 | apply IsS152.set_2 | refine IsS152.far ?_ NB446_442.out _ | refine IsS152.far ?_ NB446_456.out _) | exact HI446.out)) (by (with_reducible repeat (first | apply Kd.R_alloc | apply Kd.R_drewN | apply Kd.R_drew)); exact (Q_HO465 h0_)) (by decide)) hk (fun _ h => h.2)) (fun _ h => h.1)) | exact Kd.R_mono (Kd.R_mono (Kd.R_keep (IsS152.apart (show IsS152 w _ g446 t443 t454 t455 from by repeat (first | (with_reducible first | exact HI446.out | apply IsS152.alloc | apply IsS152.drewN | apply IsS152.drew | apply IsS152.set_1 | apply IsS152.set_2 | refine IsS152.far ?_ NB446_442.out _ | refine IsS152.far ?_ NB446_456.out _) | exact HI446.out)) (by (with_reducible repeat (first | apply Kd.R_alloc | apply Kd.R_drewN | apply Kd.R_drew)); exact (Q_HO465 h0_)) (by decide)) hk (fun _ h => h.2)) (fun _ h => h.1)) (fun _ h_ => by first | trivial | exact h_ | exact h_.1))
   clear BK442 HO450 HO453 BK456 HO459 HB HI446
   have BK442 := n0_
   have HO450 := n1_
   have HO453 := n2_
   have BK456 := n3_
   have HO459 := n4_
   have HB := n5_
   have HI446 := n6_
   clear n0_ n1_ n2_ n3_ n4_ n5_ n6_
   (try clear hb)
   (try clear hb2)
   (try clear hk)
   (try clear hi)
   refine hK.out _ _ ⟨.slice Ao20 y457.length co20, v464, (by rw [ha.out]; exact putSel_upk 2 hb_ rfl rfl rfl), (by first | exact sr HO450 | exact Kd.R_mono HO450.out (fun _ hk => by first | exact hk.1 | exact hk | exact hk.1 | exact hk.1.1 | exact hk.2 | (simp_all; done)) | exact Kd.R_mono HO450.out (fun _ hk => by first | exact hk.2 | exact hk | exact hk.1 | exact hk.1.1 | exact hk.2 | (simp_all; done))), (by first | exact sr HO453 | exact Kd.R_mono HO453.out (fun _ hk => by first | exact hk.1 | exact hk | exact hk.1 | exact hk.1.1 | exact hk.2 | (simp_all; done)) | exact Kd.R_mono HO453.out (fun _ hk => by first | exact hk.2 | exact hk | exact hk.1 | exact hk.1.1 | exact hk.2 | (simp_all; done))), fun _ => (sk BK442), (sk BK456), fun h0_ => absurd ((up_self b 3).symm.trans h0_) (by decide), (by repeat (first | (with_reducible first | exact HB.out | apply below_alloc | apply pw_below_drewN | apply below_drew1 | refine below_set ?_ (IsS152.ge HI446.out) | refine below_set ?_ GE442.out | refine below_set ?_ GE456.out) | exact HB.out)), fun _ => (by first | exact sr HO459 | exact Kd.R_mono HO459.out (fun _ hk => by first | exact hk.1 | exact hk | exact hk.1 | exact hk.1.1 | exact hk.2 | (simp_all; done)) | exact Kd.R_mono HO459.out (fun _ hk => by first | exact hk.2 | exact hk | exact hk.1 | exact hk.1.1 | exact hk.2 | (simp_all; done))), fun _ _ => (by repeat (first | (with_reducible first | exact HI446.out | apply IsS152.alloc | apply IsS152.drewN | apply IsS152.drew | apply IsS152.set_1 | apply IsS152.set_2 | refine IsS152.far ?_ NB446_442.out _ | refine IsS152.far ?_ NB446_456.out _) | exact HI446.out)), z_HO465, fun h0_ => absurd ((hoff 6 (by kernel_rfl)).symm.trans h0_) (by decide), fun h0_ => absurd ((hoff 7 (by kernel_rfl)).symm.trans h0_) (by decide)⟩
  refine steps_cons ?_ ?_
  ·rintro b a w' ⟨v458, v464, ha, Q_HO450, Q_HO453, Q_BK442, Q_BK456, Q_HI446, Q_HB, Q_HO459, Q_HI446_e3, Q_HO465, Q_HI446_e6, Q_BK442_e7⟩ hb_ hon hoff
   refine ⟨_, rfl, fun K hK => ?_⟩
   replace ha := Aside0.mk ha
   have HO450 := Aside0.mk Q_HO450
   have HO453 := Aside0.mk Q_HO453
   have BK442 := Aside0.mk (Q_BK442 (hoff 7 (by kernel_rfl)))
   have BK456 := Aside0.mk Q_BK456
   have HB := Aside0.mk Q_HB
   refine Kd.R_lit_step (Kd.int .i64) _ 3 ?hg (N := 16) ?hd (xs := ([4, 4, 0, 6] : List Int)) (inner := [.int .i64 4, .int .i64 4, .int .i64 0, .int .i64 6]) (ok := fun _ => True) (okp := fun _ => True) ?hr ?hp (fun _ hk => by first | exact hk | exact hk | exact hk.1 | exact hk.1.1 | exact hk.2 | (simp_all; done)) trivial (Below.refl _ _) (Nat.le_refl _) (by simp) ?_; (case hd => rfl); (case hg => rfl); (case hr => first | (go_simp; done) | (go_simp; rfl)); (case hp => exact (Reps.one (show Kd.M (Kd.int .i64) _ _ _ 4 [.int .i64 4] from rfl) (Reps.one (show Kd.M (Kd.int .i64) _ _ _ 4 [.int .i64 4] from rfl) (Reps.one (show Kd.M (Kd.int .i64) _ _ _ 0 [.int .i64 0] from rfl) (Reps.one (show Kd.M (Kd.int .i64) _ _ _ 6 [.int .i64 6] from rfl) (Reps.none _ _))))))
   intro v464 w17 ho18 hb hg_ hnew_
   clear hg_ hnew_
   (first | rw [← Ny463.out] at ho18 | (simp only [Int.reduceToNat] at ho18; rw [← Ny463.out] at ho18))
   have n0_ := Aside0.mk (Kd.R_elder' (sr HO450) (Kd.R_base ho18) hb)
   have n1_ := Aside0.mk (Kd.R_elder' (sr HO453) (Kd.R_base ho18) hb)
   have n2_ := Aside0.mk (Kd.R_lower (Kd.R_new' (Kd.R_new' ho18 (Kd.R_lt (sr HO450))) (Kd.R_lt (sr HO453))) (below_size (sbw)))
   have n3_ := Aside0.mk (blk_below (g := gb442) (o := .cells #[.int .i64 0, .slice none 0 0, .slice none 0 0] 55 (0, 0)) (sk BK442) hb)
   have n5_ := Aside0.mk (blk_below (g := gb456) (o := .cells #[.int .i64 t447, .slice Ao13 t448.length co13, .slice Ao14 t451.length co14] 55 (0, 0)) (sk BK456) hb)
   have n6_ := Aside0.mk (below_step (sbw) hb)
   have z_HI446 := fun (h0_ : b 3 = false) => (show IsS152 w w17 g446 t443 t454 t455 from by first | exact (IsS152.below (by repeat (first | (with_reducible first | exact (Q_HI446 h0_) | apply IsS152.alloc | apply IsS152.drewN | apply IsS152.drew | apply IsS152.set_1 | apply IsS152.set_2 | refine IsS152.far ?_ NB446_442.out _ | refine IsS152.far ?_ NB446_456.out _) | exact (Q_HI446 h0_))) hb))
   have z_HO459 := fun (h0_ : b 2 = true) => (show Kd.R (Kd.int .i64) 3 w17 w.heap.size (fun k_ => some k_ ≠ (.slice Ao13 t448.length co13 : Value).ownBlock ∧ some k_ ≠ (.slice Ao14 t451.length co14 : Value).ownBlock) v458 y457 from by first | exact (Kd.R_elder' (by (with_reducible repeat (first | apply Kd.R_alloc | apply Kd.R_drewN | apply Kd.R_drew)); exact (Q_HO459 h0_)) (Kd.R_base ho18) hb) | exact Kd.R_mono (Kd.R_elder' (by (with_reducible repeat (first | apply Kd.R_alloc | apply Kd.R_drewN | apply Kd.R_drew)); exact (Q_HO459 h0_)) (Kd.R_base ho18) hb) (fun _ h_ => by first | trivial | exact h_ | exact h_.1))
   have z_HI446_e3 := fun (h0_ : b 3 = true) (h1_ : b 6 = false) => (show IsS152 w w17 g446 t443 t461 t462 from by first | exact (IsS152.below (by repeat (first | (with_reducible first | exact (Q_HI446_e3 h0_ h1_) | apply IsS152.alloc | apply IsS152.drewN | apply IsS152.drew | apply IsS152.set_1 | apply IsS152.set_2 | refine IsS152.far ?_ NB446_442.out _ | refine IsS152.far ?_ NB446_456.out _) | exact (Q_HI446_e3 h0_ h1_))) hb))
   clear HO450 HO453 BK442 BK456 HB
   have HO450 := n0_
   have HO453 := n1_
   have HO465 := n2_
   have BK442 := n3_
   have BK456 := n5_
   have HB := n6_
   clear n0_ n1_ n2_ n3_ n5_ n6_ hb ho18
   refine hK.out _ _ ⟨v458, v464, (by rw [ha.out]; exact putSel_upk 3 hb_ rfl rfl rfl), (by first | exact sr HO450 | exact Kd.R_mono HO450.out (fun _ hk => by first | exact hk.1 | exact hk | exact hk.1 | exact hk.1.1 | exact hk.2 | (simp_all; done)) | exact Kd.R_mono HO450.out (fun _ hk => by first | exact hk.2 | exact hk | exact hk.1 | exact hk.1.1 | exact hk.2 | (simp_all; done))), (by first | exact sr HO453 | exact Kd.R_mono HO453.out (fun _ hk => by first | exact hk.1 | exact hk | exact hk.1 | exact hk.1.1 | exact hk.2 | (simp_all; done)) | exact Kd.R_mono HO453.out (fun _ hk => by first | exact hk.2 | exact hk | exact hk.1 | exact hk.1.1 | exact hk.2 | (simp_all; done))), fun _ => (sk BK442), (sk BK456), z_HI446, (sbw), z_HO459, z_HI446_e3, fun _ => (by (with_reducible repeat (first | apply Kd.R_alloc | apply Kd.R_drewN | apply Kd.R_drew)); exact Kd.R_mono HO465.out (fun _ hk => by first | exact ⟨hk.1.2, hk.2⟩ | exact hk | exact hk.1 | exact hk.1.1 | exact hk.2 | (simp_all; done))), fun h0_ => absurd ((hoff 6 (by kernel_rfl)).symm.trans h0_) (by decide), fun h0_ => absurd ((hoff 7 (by kernel_rfl)).symm.trans h0_) (by decide)⟩
  refine steps_cons ?_ ?_
  ·rintro b a w' ⟨v458, v464, ha, Q_HO450, Q_HO453, Q_BK442, Q_BK456, Q_HI446, Q_HB, Q_HO459, Q_HI446_e3, Q_HO465, Q_HI446_e6, Q_BK442_e7⟩ hb_ hon hoff
   refine ⟨_, rfl, fun K hK => ?_⟩
   have e15 : a.tmps[15]? = some (.pointer (some ⟨g446, 0, none⟩)) := by rw [ha]; exact (putSel_off rfl).trans rfl
   have e16 : a.tmps[16]? = some (v464) := by rw [ha]; exact putSel_on (e := (5, 16, v464)) 3 rfl rfl (hon 5 (by kernel_rfl)) rfl
   replace ha := Aside0.mk ha
   have HO450 := Aside0.mk Q_HO450
   have HO453 := Aside0.mk Q_HO453
   have BK442 := Aside0.mk (Q_BK442 (hoff 7 (by kernel_rfl)))
   have BK456 := Aside0.mk Q_BK456
   have HB := Aside0.mk Q_HB
   have HO459 := Aside0.mk (Q_HO459 (hon 2 (by kernel_rfl)))
   have HI446 := Aside0.mk (Q_HI446_e3 (hon 3 (by kernel_rfl)) hb_)
   have HO465 := Aside0.mk (Q_HO465 (hon 5 (by kernel_rfl)))
   obtain ⟨Ao24, co24, eo24⟩ := Kd.R_slice HO465.out
   (first | subst eo24 | (injection eo24 with f1_ f2_ f3_; have f4_ := f1_.symm; have f5_ := f3_.symm; clear f1_ f2_ f3_; subst f4_; subst f5_))
   refine goes_ Try.func109 (by kernel_rfl) rfl #[.pointer (some ⟨g446, 0, none⟩), .slice Ao24 y463.length co24] (by rfl) rfl rfl (by first | (simp only [List.map_toArray, List.map_cons, List.map_nil, Act.eval, Array.getD_eq_getD_getElem?, Option.getD_some, e15, e16]; done) | (simp only [List.map_toArray, List.map_cons, List.map_nil, Act.eval, Array.getD_eq_getD_getElem?, Option.getD_some, e15, e16]; rfl)) ?_
   with_reducible refine (spec_l1Int.calls g446 t443 t461 t462 _ _ y463 t466 t467 t468 w _ ?side1 ?side2 ?side3 ?side4 ?side5 A5.out).mono ?_
   (case side1 => repeat (first | (with_reducible first | exact HI446.out | apply IsS152.alloc | apply IsS152.drewN | apply IsS152.drew | apply IsS152.set_1 | apply IsS152.set_2 | refine IsS152.far ?_ NB446_442.out _ | refine IsS152.far ?_ NB446_456.out _) | exact HI446.out))
   (case side2 => repeat (first | (with_reducible first | exact HB.out | apply below_alloc | apply pw_below_drewN | apply below_drew1 | refine below_set ?_ (IsS152.ge HI446.out) | refine below_set ?_ GE442.out | refine below_set ?_ GE456.out) | exact HB.out))
   (case side3 => repeat (first | exact (Kd.R_reads' HO465.out).2.2 | (with_reducible refine Kd.C_alloc ?_ _) | (with_reducible refine Kd.C_drewN ?_ _) | (with_reducible refine Kd.C_drew ?_)))
   (case side4 => exact (Kd.R_reads' HO465.out).2.1)
   (case side5 => exact far_slice (IsS152.own_ne HI446.out HO465.out (by decide)))
   rintro e w25 ⟨rfl, hi, hb, hk⟩
   refine ⟨_, rfl, ?_⟩
   replace BK442 := Aside0.mk (KeepBut.blk hk (g' := gb442) (o := .cells #[.int .i64 0, .slice none 0 0, .slice none 0 0] 55 (0, 0)) (sk BK442) NB442_446.out (by simp))
   replace HO450 := Aside0.mk (Kd.R_mono (Kd.R_keep (IsS152.apart (show IsS152 w _ g446 t443 t461 t462 from by repeat (first | (with_reducible first | exact HI446.out | apply IsS152.alloc | apply IsS152.drewN | apply IsS152.drew | apply IsS152.set_1 | apply IsS152.set_2 | refine IsS152.far ?_ NB446_442.out _ | refine IsS152.far ?_ NB446_456.out _) | exact HI446.out)) (sr HO450) (by decide)) hk (fun _ h => h.2)) (fun _ h => h.1))
   replace HO453 := Aside0.mk (Kd.R_mono (Kd.R_keep (IsS152.apart (show IsS152 w _ g446 t443 t461 t462 from by repeat (first | (with_reducible first | exact HI446.out | apply IsS152.alloc | apply IsS152.drewN | apply IsS152.drew | apply IsS152.set_1 | apply IsS152.set_2 | refine IsS152.far ?_ NB446_442.out _ | refine IsS152.far ?_ NB446_456.out _) | exact HI446.out)) (sr HO453) (by decide)) hk (fun _ h => h.2)) (fun _ h => h.1))
   replace BK456 := Aside0.mk (KeepBut.blk hk (g' := gb456) (o := .cells #[.int .i64 t447, .slice Ao13 t448.length co13, .slice Ao14 t451.length co14] 55 (0, 0)) (sk BK456) NB456_446.out (by simp))
   replace HO459 := Aside0.mk (Kd.R_mono (Kd.R_keep (IsS152.apart (show IsS152 w _ g446 t443 t461 t462 from by repeat (first | (with_reducible first | exact HI446.out | apply IsS152.alloc | apply IsS152.drewN | apply IsS152.drew | apply IsS152.set_1 | apply IsS152.set_2 | refine IsS152.far ?_ NB446_442.out _ | refine IsS152.far ?_ NB446_456.out _) | exact HI446.out)) (sr HO459) (by decide)) hk (fun _ h => h.2)) (fun _ h => h.1))
   replace HO465 := Aside0.mk (Kd.R_mono (Kd.R_keep (IsS152.apart (show IsS152 w _ g446 t443 t461 t462 from by repeat (first | (with_reducible first | exact HI446.out | apply IsS152.alloc | apply IsS152.drewN | apply IsS152.drew | apply IsS152.set_1 | apply IsS152.set_2 | refine IsS152.far ?_ NB446_442.out _ | refine IsS152.far ?_ NB446_456.out _) | exact HI446.out)) (sr HO465) (by decide)) hk (fun _ h => h.2)) (fun _ h => h.1))
   replace HB := Aside0.mk hb
   replace HI446 := Aside0.mk hi
   (try clear hb)
   (try clear hb2)
   (try clear hk)
   (try clear hi)
   refine hK.out _ _ ⟨v458, .slice Ao24 y463.length co24, (by rw [ha.out]; exact putSel_upk 4 hb_ rfl rfl rfl), (by first | exact sr HO450 | exact Kd.R_mono HO450.out (fun _ hk => by first | exact hk.1 | exact hk | exact hk.1 | exact hk.1.1 | exact hk.2 | (simp_all; done)) | exact Kd.R_mono HO450.out (fun _ hk => by first | exact hk.2 | exact hk | exact hk.1 | exact hk.1.1 | exact hk.2 | (simp_all; done))), (by first | exact sr HO453 | exact Kd.R_mono HO453.out (fun _ hk => by first | exact hk.1 | exact hk | exact hk.1 | exact hk.1.1 | exact hk.2 | (simp_all; done)) | exact Kd.R_mono HO453.out (fun _ hk => by first | exact hk.2 | exact hk | exact hk.1 | exact hk.1.1 | exact hk.2 | (simp_all; done))), fun _ => (sk BK442), (sk BK456), fun h0_ => absurd ((hon 3 (by kernel_rfl)).symm.trans h0_) (by decide), (by repeat (first | (with_reducible first | exact HB.out | apply below_alloc | apply pw_below_drewN | apply below_drew1 | refine below_set ?_ (IsS152.ge HI446.out) | refine below_set ?_ GE442.out | refine below_set ?_ GE456.out) | exact HB.out)), fun _ => (by first | exact sr HO459 | exact Kd.R_mono HO459.out (fun _ hk => by first | exact hk.1 | exact hk | exact hk.1 | exact hk.1.1 | exact hk.2 | (simp_all; done)) | exact Kd.R_mono HO459.out (fun _ hk => by first | exact hk.2 | exact hk | exact hk.1 | exact hk.1.1 | exact hk.2 | (simp_all; done))), fun _ h1_ => absurd ((up_self b 6).symm.trans h1_) (by decide), fun _ => (by first | exact sr HO465 | exact Kd.R_mono HO465.out (fun _ hk => by first | exact hk.1 | exact hk | exact hk.1 | exact hk.1.1 | exact hk.2 | (simp_all; done)) | exact Kd.R_mono HO465.out (fun _ hk => by first | exact hk.2 | exact hk | exact hk.1 | exact hk.1.1 | exact hk.2 | (simp_all; done))), fun _ => (by repeat (first | (with_reducible first | exact HI446.out | apply IsS152.alloc | apply IsS152.drewN | apply IsS152.drew | apply IsS152.set_1 | apply IsS152.set_2 | refine IsS152.far ?_ NB446_442.out _ | refine IsS152.far ?_ NB446_456.out _) | exact HI446.out)), fun h0_ => absurd ((hoff 7 (by kernel_rfl)).symm.trans h0_) (by decide)⟩
  refine steps_cons ?_ ?_
  ·rintro b a w' ⟨v458, v464, ha, Q_HO450, Q_HO453, Q_BK442, Q_BK456, Q_HI446, Q_HB, Q_HO459, Q_HI446_e3, Q_HO465, Q_HI446_e6, Q_BK442_e7⟩ hb_ hon hoff
   refine ⟨_, rfl, fun K hK => ?_⟩
   have e2 : a.tmps[2]? = some (.pointer (some ⟨gb442, 0, none⟩)) := by rw [ha]; exact (putSel_off rfl).trans rfl
   have e11 : a.tmps[11]? = some (.agg #[.int .i64 t447, .slice Ao13 t448.length co13, .slice Ao14 t451.length co14]) := by rw [ha]; exact putSel_on (e := (0, 11, .agg #[.int .i64 t447, .slice Ao13 t448.length co13, .slice Ao14 t451.length co14])) 0 rfl rfl (hon 0 (by kernel_rfl)) rfl
   replace ha := Aside0.mk ha
   have HO450 := Aside0.mk Q_HO450
   have HO453 := Aside0.mk Q_HO453
   have BK442 := Aside0.mk (Q_BK442 hb_)
   have BK456 := Aside0.mk Q_BK456
   have HB := Aside0.mk Q_HB
   have HO459 := Aside0.mk (Q_HO459 (hon 2 (by kernel_rfl)))
   have HO465 := Aside0.mk (Q_HO465 (hon 5 (by kernel_rfl)))
   have HI446 := Aside0.mk (Q_HI446_e6 (hon 6 (by kernel_rfl)))
   have hs26 : w'.cell? ⟨gb442, 0, none⟩ = some (.int .i64 0) := bc0 BK442
   have hfs26 := bf BK442 0
   have hns26_1 := NB456_442.out
   have hms26_1 := NB442_456.out
   have hs27 : w'.cell? ⟨gb442, 1, none⟩ = some (.slice none 0 0) := bc1 BK442
   have hfs27 := bf BK442 1
   have hns27_1 := NB456_442.out
   have hms27_1 := NB442_456.out
   have hs28 : w'.cell? ⟨gb442, 2, none⟩ = some (.slice none 0 0) := bc2 BK442
   have hfs28 := bf BK442 2
   have hns28_1 := NB456_442.out
   have hms28_1 := NB442_456.out
   refine skip_ (w1 := ?_) (by rfl) rfl ?_ ?_
   rotate_left
   ·go_simp
    rfl
   refine hK.out _ _ ⟨v458, v464, (by rw [ha.out]; exact putSel_none (v := undef) rfl), (by (with_reducible repeat (first | apply Kd.R_alloc | apply Kd.R_drewN | apply Kd.R_drew)); exact Kd.R_mono (Kd.R_far (p := ⟨gb442, 2, none⟩) (Kd.R_far (p := ⟨gb442, 1, none⟩) (Kd.R_far (p := ⟨gb442, 0, none⟩) (Kd.R_types HO450.out BK442.out (by decide)) (fun _ hk => by first | exact hk.2 | exact hk | exact hk.1 | exact hk.1.1 | exact hk.2 | (simp_all; done)) (.int .i64 t447)) (fun _ hk => by first | exact hk.2 | exact hk | exact hk.1 | exact hk.1.1 | exact hk.2 | (simp_all; done)) (.slice Ao13 t448.length co13)) (fun _ hk => by first | exact hk.2 | exact hk | exact hk.1 | exact hk.1.1 | exact hk.2 | (simp_all; done)) (.slice Ao14 t451.length co14)) (fun _ hk => by first | exact ⟨hk.1.1, ⟨hk.1.2.1, hk.1.2.2⟩⟩ | exact hk | exact hk.1 | exact hk.1.1 | exact hk.2 | (simp_all; done))), (by (with_reducible repeat (first | apply Kd.R_alloc | apply Kd.R_drewN | apply Kd.R_drew)); exact Kd.R_mono (Kd.R_far (p := ⟨gb442, 2, none⟩) (Kd.R_far (p := ⟨gb442, 1, none⟩) (Kd.R_far (p := ⟨gb442, 0, none⟩) (Kd.R_types HO453.out BK442.out (by decide)) (fun _ hk => by first | exact hk.2 | exact hk | exact hk.1 | exact hk.1.1 | exact hk.2 | (simp_all; done)) (.int .i64 t447)) (fun _ hk => by first | exact hk.2 | exact hk | exact hk.1 | exact hk.1.1 | exact hk.2 | (simp_all; done)) (.slice Ao13 t448.length co13)) (fun _ hk => by first | exact hk.2 | exact hk | exact hk.1 | exact hk.1.1 | exact hk.2 | (simp_all; done)) (.slice Ao14 t451.length co14)) (fun _ hk => by first | exact ⟨hk.1.1, ⟨hk.1.2.1, hk.1.2.2⟩⟩ | exact hk | exact hk.1 | exact hk.1.1 | exact hk.2 | (simp_all; done))), fun h0_ => absurd ((up_self b 7).symm.trans h0_) (by decide), (sp BK456), fun h0_ => absurd ((hon 3 (by kernel_rfl)).symm.trans h0_) (by decide), (by repeat (first | (with_reducible first | exact HB.out | apply below_alloc | apply pw_below_drewN | apply below_drew1 | refine below_set ?_ (IsS152.ge HI446.out) | refine below_set ?_ GE442.out | refine below_set ?_ GE456.out) | exact HB.out)), fun _ => (by (with_reducible repeat (first | apply Kd.R_alloc | apply Kd.R_drewN | apply Kd.R_drew)); exact Kd.R_mono (Kd.R_far (p := ⟨gb442, 2, none⟩) (Kd.R_far (p := ⟨gb442, 1, none⟩) (Kd.R_far (p := ⟨gb442, 0, none⟩) (Kd.R_types HO459.out BK442.out (by decide)) (fun _ hk => by first | exact hk.2 | exact hk | exact hk.1 | exact hk.1.1 | exact hk.2 | (simp_all; done)) (.int .i64 t447)) (fun _ hk => by first | exact hk.2 | exact hk | exact hk.1 | exact hk.1.1 | exact hk.2 | (simp_all; done)) (.slice Ao13 t448.length co13)) (fun _ hk => by first | exact hk.2 | exact hk | exact hk.1 | exact hk.1.1 | exact hk.2 | (simp_all; done)) (.slice Ao14 t451.length co14)) (fun _ hk => by first | exact ⟨hk.1.1, ⟨hk.1.2.1, hk.1.2.2⟩⟩ | exact hk | exact hk.1 | exact hk.1.1 | exact hk.2 | (simp_all; done))), fun _ h1_ => absurd ((hon 6 (by kernel_rfl)).symm.trans h1_) (by decide), fun _ => (by (with_reducible repeat (first | apply Kd.R_alloc | apply Kd.R_drewN | apply Kd.R_drew)); exact Kd.R_mono (Kd.R_far (p := ⟨gb442, 2, none⟩) (Kd.R_far (p := ⟨gb442, 1, none⟩) (Kd.R_far (p := ⟨gb442, 0, none⟩) (Kd.R_types HO465.out BK442.out (by decide)) (fun _ hk => by first | exact hk.2 | exact hk | exact hk.1 | exact hk.1.1 | exact hk.2 | (simp_all; done)) (.int .i64 t447)) (fun _ hk => by first | exact hk.2 | exact hk | exact hk.1 | exact hk.1.1 | exact hk.2 | (simp_all; done)) (.slice Ao13 t448.length co13)) (fun _ hk => by first | exact hk.2 | exact hk | exact hk.1 | exact hk.1.1 | exact hk.2 | (simp_all; done)) (.slice Ao14 t451.length co14)) (fun _ hk => by first | exact ⟨hk.1.1, ⟨hk.1.2.1, hk.1.2.2⟩⟩ | exact hk | exact hk.1 | exact hk.1.1 | exact hk.2 | (simp_all; done))), fun _ => (by repeat (first | (with_reducible first | exact HI446.out | apply IsS152.alloc | apply IsS152.drewN | apply IsS152.drew | apply IsS152.set_1 | apply IsS152.set_2 | refine IsS152.far ?_ NB446_442.out _ | refine IsS152.far ?_ NB446_456.out _) | exact HI446.out)), fun _ => (sp BK442)⟩
  refine steps_cons ?_ ?_
  ·rintro b a w' ⟨v458, v464, ha, Q_HO450, Q_HO453, Q_BK442, Q_BK456, Q_HI446, Q_HB, Q_HO459, Q_HI446_e3, Q_HO465, Q_HI446_e6, Q_BK442_e7⟩ hb_ hon hoff
   refine ⟨_, rfl, fun K hK => ?_⟩
   have e14 : a.tmps[14]? = some (.int .i64 t460) := by rw [ha]; exact putSel_on (e := (3, 14, .int .i64 t460)) 2 rfl rfl (hon 3 (by kernel_rfl)) rfl
   replace ha := Aside0.mk ha
   have HO450 := Aside0.mk Q_HO450
   have HO453 := Aside0.mk Q_HO453
   have BK456 := Aside0.mk Q_BK456
   have HB := Aside0.mk Q_HB
   have HO459 := Aside0.mk (Q_HO459 (hon 2 (by kernel_rfl)))
   have HO465 := Aside0.mk (Q_HO465 (hon 5 (by kernel_rfl)))
   have HI446 := Aside0.mk (Q_HI446_e6 (hon 6 (by kernel_rfl)))
   have BK442 := Aside0.mk (Q_BK442_e7 (hon 7 (by kernel_rfl)))
   refine value_ (w1 := w') (v := .int .i64 t460) (by rfl) rfl ?_ ?_
   ·go_simp
    (try simp only [i64_w])
    try rfl
   refine hK.out _ _ ⟨v458, v464, (by rw [ha.out]; exact putSel_upk 5 hb_ rfl rfl rfl), Q_HO450, Q_HO453, fun h0_ => absurd ((hon 7 (by kernel_rfl)).symm.trans h0_) (by decide), Q_BK456, fun h0_ => absurd ((hon 3 (by kernel_rfl)).symm.trans h0_) (by decide), Q_HB, Q_HO459, fun _ h1_ => absurd ((hon 6 (by kernel_rfl)).symm.trans h1_) (by decide), Q_HO465, Q_HI446_e6, Q_BK442_e7⟩
  refine steps_cons ?_ ?_
  ·rintro b a w' ⟨v458, v464, ha, Q_HO450, Q_HO453, Q_BK442, Q_BK456, Q_HI446, Q_HB, Q_HO459, Q_HI446_e3, Q_HO465, Q_HI446_e6, Q_BK442_e7⟩ hb_ hon hoff
   refine ⟨_, rfl, fun K hK => ?_⟩
   have e17 : a.tmps[17]? = some (.int .i64 t466) := by rw [ha]; exact putSel_on (e := (6, 17, .int .i64 t466)) 4 rfl rfl (hon 6 (by kernel_rfl)) rfl
   replace ha := Aside0.mk ha
   have HO450 := Aside0.mk Q_HO450
   have HO453 := Aside0.mk Q_HO453
   have BK456 := Aside0.mk Q_BK456
   have HB := Aside0.mk Q_HB
   have HO459 := Aside0.mk (Q_HO459 (hon 2 (by kernel_rfl)))
   have HO465 := Aside0.mk (Q_HO465 (hon 5 (by kernel_rfl)))
   have HI446 := Aside0.mk (Q_HI446_e6 (hon 6 (by kernel_rfl)))
   have BK442 := Aside0.mk (Q_BK442_e7 (hon 7 (by kernel_rfl)))
   refine value_ (w1 := w') (v := .int .i64 t466) (by rfl) rfl ?_ ?_
   ·go_simp
    (try simp only [i64_w])
    try rfl
   refine hK.out _ _ ⟨v458, v464, (by rw [ha.out]; exact putSel_upk 6 hb_ rfl rfl rfl), Q_HO450, Q_HO453, fun h0_ => absurd ((hon 7 (by kernel_rfl)).symm.trans h0_) (by decide), Q_BK456, fun h0_ => absurd ((hon 3 (by kernel_rfl)).symm.trans h0_) (by decide), Q_HB, Q_HO459, fun _ h1_ => absurd ((hon 6 (by kernel_rfl)).symm.trans h1_) (by decide), Q_HO465, Q_HI446_e6, Q_BK442_e7⟩
  exact steps_nil
 rintro b a w28 hall ⟨v458, v464, ha, Q_HO450, Q_HO453, Q_BK442, Q_BK456, Q_HI446, Q_HB, Q_HO459, Q_HI446_e3, Q_HO465, Q_HI446_e6, Q_BK442_e7⟩
 clear BK442 BK456 HB HI446 HO450 HO453
 have hb0_ := hall 0 (by kernel_rfl)
 have hb2_ := hall 2 (by kernel_rfl)
 have hb3_ := hall 3 (by kernel_rfl)
 have hb5_ := hall 5 (by kernel_rfl)
 have hb6_ := hall 6 (by kernel_rfl)
 have hb7_ := hall 7 (by kernel_rfl)
 have hb8_ := hall 8 (by kernel_rfl)
 have hb9_ := hall 9 (by kernel_rfl)
 subst ha
 simp only [putSel, hb0_, hb2_, hb3_, hb5_, hb6_, hb7_, hb8_, hb9_, if_true, Act.put, List.setIfInBounds_toArray, List.set_cons_zero, List.set_cons_succ]
 have HO450 := Aside0.mk Q_HO450
 clear Q_HO450
 have HO453 := Aside0.mk Q_HO453
 clear Q_HO453 Q_BK442
 have BK456 := Aside0.mk Q_BK456
 clear Q_BK456 Q_HI446
 have HB := Aside0.mk Q_HB
 clear Q_HB
 have HO459 := Aside0.mk (Q_HO459 hb2_)
 clear Q_HO459 Q_HI446_e3
 have HO465 := Aside0.mk (Q_HO465 hb5_)
 clear Q_HO465
 have HI446 := Aside0.mk (Q_HI446_e6 hb6_)
 clear Q_HI446_e6
 have BK442 := Aside0.mk (Q_BK442_e7 hb7_)
 clear Q_BK442_e7 hall hb0_ hb2_ hb3_ hb5_ hb6_ hb7_ hb8_ hb9_
 try go_wp2
 refine bodyPost_ret (results_ctt rfl _ _ gb442 55 #[.int .i64 t447, .slice Ao13 t448.length co13, .slice Ao14 t451.length co14] (0, 0) _ rfl (sk BK442) Try.underlying55 rfl (by kernel_rfl)) rfl ?_
 exact ⟨_, _, se, by (with_reducible repeat (first | apply Kd.R_alloc | apply Kd.R_drewN | apply Kd.R_drew)); exact Kd.R_mono HO450.out (fun _ hk => by first | exact hk.1 | exact hk | exact hk.1 | exact hk.1.1 | exact hk.2 | (simp_all; done)), by (with_reducible repeat (first | apply Kd.R_alloc | apply Kd.R_drewN | apply Kd.R_drew)); exact Kd.R_mono HO453.out (fun _ hk => by first | exact hk.1 | exact hk | exact hk.1 | exact hk.1.1 | exact hk.2 | (simp_all; done)), by repeat (first | (with_reducible first | exact HB.out | apply below_alloc | apply pw_below_drewN | apply below_drew1 | refine below_set ?_ (IsS152.ge HI446.out) | refine below_set ?_ GE442.out | refine below_set ?_ GE456.out) | exact HB.out)⟩

/-! ### spec_DrawRouteOf: function 64 -/
def spec_DrawRouteOf.f (k : Nat) (l0 : List Int) : Option (Int × List Int × List Int × Int) := (spec_l1New.f k l0).bind fun bt470 => ((spec_l15Any.f k bt470.1 bt470.2.1 bt470.2.2).bind fun bt474 => ((spec_l1Below.f bt470.1 bt474.2.2.2.1 bt474.2.2.2.2 8).bind fun bt484 => (some (bt474.1, bt474.2.1, bt474.2.2.1, wrap64 (bt484.1 - 1)))))
theorem spec_DrawRouteOf.mono : ∀ a0 k, LeO (spec_DrawRouteOf.f k a0) (spec_DrawRouteOf.f (k + 1) a0) := by
  intro a0 k
  unfold spec_DrawRouteOf.f
  have m0 := @spec_l15Any.mono
  have m1 := @spec_l1New.mono
  exact mo
set_option maxHeartbeats 8000000 in
set_option maxRecDepth 100000 in
theorem spec_DrawRouteOf.calls (k : Nat) (A0 : Option Addr) (c0 : Nat) (l0 : List Int) (r1 : Int) (r2 : List Int) (r3 : List Int) (r4 : Int) (w : World) (hr0 : Kd.C (Kd.int .u8) w A0 l0.length l0) (hc0 : l0.length ≤ c0) (h : spec_DrawRouteOf.f k l0 = some (r1, r2, r3, r4)) :
    Calls Try.prog 64 #[.slice A0 l0.length c0] w fun e w' => ∃ v1_ v2_ : Value, e = .returned (.tuple #[.agg #[.int .i64 r1, v1_, v2_], .int .i64 r4]) ∧ Kd.R (Kd.int .i64) 3 w' w.heap.size (fun k_ => some k_ ≠ (v2_ : Value).ownBlock) v1_ r2 ∧ Kd.R (Kd.int .i64) 3 w' w.heap.size (fun k_ => some k_ ≠ (v1_ : Value).ownBlock) v2_ r3 ∧ Below w.heap.size w w' := by
 have hu55 := Try.underlying55
 have HR0 := Aside0.mk hr0
 have HC0 := Aside0.mk hc0
 clear hr0 hc0
 have HB := Aside0.mk (Below.refl w.heap.size w)
 have H : ((spec_l1New.f k l0).bind fun bt470 => ((spec_l15Any.f k bt470.1 bt470.2.1 bt470.2.2).bind fun bt474 => ((spec_l1Below.f bt470.1 bt474.2.2.2.1 bt474.2.2.2.2 8).bind fun bt484 => (some (bt474.1, bt474.2.1, bt474.2.2.1, wrap64 (bt484.1 - 1)))))) = some (r1, r2, r3, r4) := h
 clear h
 obtain ⟨⟨t470, t471, t472⟩, A2, H⟩ := bnd H
 replace H : ((spec_l15Any.f k t470 t471 t472).bind fun bt474 => ((spec_l1Below.f t470 bt474.2.2.2.1 bt474.2.2.2.2 8).bind fun bt484 => (some (bt474.1, bt474.2.1, bt474.2.2.1, wrap64 (bt484.1 - 1))))) = some (r1, r2, r3, r4) := H
 obtain ⟨⟨t474, t475, t478, t481, t482⟩, A3, H⟩ := bnd H
 replace H : ((spec_l1Below.f t470 t481 t482 8).bind fun bt484 => (some (t474, t475, t478, wrap64 (bt484.1 - 1)))) = some (r1, r2, r3, r4) := H
 obtain ⟨⟨t484, t485, t486⟩, A4, H⟩ := bnd H
 replace H : (some (t474, t475, t478, wrap64 (t484 - 1))) = some (r1, r2, r3, r4) := H
 simp only [Option.some.injEq, Prod.mk.injEq] at H
 obtain ⟨rfl, rfl, rfl, rfl⟩ := H
 go_enter Try.func64, Try.ntmps64
 try go_wp2_with (first | ((with_reducible refine gate_dst (N := 2) rfl ?_); refine bx 2 #[.int .i64 0, .slice none 0 0, .slice none 0 0] 55 ?_; intro gb469 hg w5 hbox hb; have GW469 := bz w hg; have GE469 := bz w hg; replace HB := bs hb; have BK469 := Aside0.mk hbox; clear hb hbox hg) | ((with_reducible refine gate_callee (f := 75) rfl ?_); refine gL (some 7) Try.func75 #[.slice A0 l0.length c0] ?_; (with_reducible refine (spec_l1New.calls k _ _ l0 t470 t471 t472 w _ ?side1 ?side2 ?side3 A2.out).mono ?_); (case side1 => repeat (first | (with_reducible first | exact HB.out | apply below_alloc | apply pw_below_drewN | apply below_drew1 | refine below_set ?_ GE469.out) | exact HB.out)); (case side2 => exact HR0.out); (case side3 => exact HC0.out); rintro e w6 ⟨g473, rfl, hi, hb, hb2⟩; refine ⟨_, rfl, ?_⟩; replace HB := Aside0.mk hb; have HI473 := Aside0.mk hi; have NB473_469 := Aside0.mk (IsS152.ne_blk hi (blk_below (g := gb469) (o := .cells #[.int .i64 0, .slice none 0 0, .slice none 0 0] 55 (0, 0)) (sk BK469) hb2) (by decide)); have NB469_473 := Aside0.mk (Ne.symm (IsS152.ne_blk hi (blk_below (g := gb469) (o := .cells #[.int .i64 0, .slice none 0 0, .slice none 0 0] 55 (0, 0)) (sk BK469) hb2) (by decide))); replace BK469 := bb BK469 hb2; (try clear hb); (try clear hb2); (try clear hk); (try clear hi)) | ((with_reducible refine gate_callee (f := 130) rfl ?_); refine gL (some 9) Try.func130 #[.pointer (some ⟨g473, 0, none⟩)] ?_; (with_reducible refine (spec_l15Any.calls k g473 t470 t471 t472 t474 t475 t478 t481 t482 w _ ?side1 ?side2 A3.out).mono ?_); (case side1 => repeat (first | (with_reducible first | exact HI473.out | apply IsS152.alloc | apply IsS152.drewN | apply IsS152.drew | apply IsS152.set_1 | apply IsS152.set_2 | refine IsS152.far ?_ NB473_469.out _) | exact HI473.out)); (case side2 => repeat (first | (with_reducible first | exact HB.out | apply below_alloc | apply pw_below_drewN | apply below_drew1 | refine below_set ?_ (IsS152.ge HI473.out) | refine below_set ?_ GE469.out) | exact HB.out)); rintro e w7 ⟨v476, v479, rfl, ho0, ho1, hi, hb, hk⟩; refine ⟨_, rfl, ?_⟩; replace BK469 := Aside0.mk (KeepBut.blk hk (g' := gb469) (o := .cells #[.int .i64 0, .slice none 0 0, .slice none 0 0] 55 (0, 0)) (sk BK469) NB469_473.out (by simp)); have HO477 := Aside0.mk (Kd.R_lower ho0 (below_size (by repeat (first | (with_reducible first | exact HB.out | apply below_alloc | apply pw_below_drewN | apply below_drew1 | refine below_set ?_ (IsS152.ge HI473.out) | refine below_set ?_ GE469.out) | exact HB.out)))); have HO480 := Aside0.mk (Kd.R_lower ho1 (below_size (by repeat (first | (with_reducible first | exact HB.out | apply below_alloc | apply pw_below_drewN | apply below_drew1 | refine below_set ?_ (IsS152.ge HI473.out) | refine below_set ?_ GE469.out) | exact HB.out)))); replace HB := Aside0.mk hb; replace HI473 := Aside0.mk hi; (try clear hb); (try clear hb2); (try clear hk); (try clear hi); (try clear ho0); (try clear ho1)) | ((with_reducible refine gate_dst (N := 5) rfl ?_); refine bx 5 #[.int .i64 0, .slice none 0 0, .slice none 0 0] 55 ?_; intro gb483 hg w8 hbox hb; replace HO477 := Aside0.mk (Kd.R_below (sr HO477) hb); replace HO480 := Aside0.mk (Kd.R_below (sr HO480) hb); have BK483 := Aside0.mk hbox; have GW483 := Aside0.mk ((by rw [hg]; exact (below_size (by repeat (first | (with_reducible first | exact HB.out | apply below_alloc | apply pw_below_drewN | apply below_drew1 | refine below_set ?_ (IsS152.ge HI473.out) | refine below_set ?_ GE469.out) | exact HB.out))) : w.heap.size ≤ gb483)); have GE483 := Aside0.mk ((by rw [hg]; exact (below_size (by repeat (first | (with_reducible first | exact HB.out | apply below_alloc | apply pw_below_drewN | apply below_drew1 | refine below_set ?_ (IsS152.ge HI473.out) | refine below_set ?_ GE469.out) | exact HB.out))) : w.heap.size ≤ gb483)); replace HB := Aside0.mk (below_step (by repeat (first | (with_reducible first | exact HB.out | apply below_alloc | apply pw_below_drewN | apply below_drew1 | refine below_set ?_ (IsS152.ge HI473.out) | refine below_set ?_ GE469.out) | exact HB.out)) hb); have NB469_483 := nl BK469 hg; have NB483_469 := ng BK469 hg; replace BK469 := bb BK469 hb; have NB473_483 := Aside0.mk ((by rw [hg]; exact Nat.ne_of_lt (IsS152.lt (show IsS152 w _ g473 t470 t481 t482 from by repeat (first | (with_reducible first | exact HI473.out | apply IsS152.alloc | apply IsS152.drewN | apply IsS152.drew | apply IsS152.set_1 | apply IsS152.set_2 | refine IsS152.far ?_ NB473_469.out _) | exact HI473.out))) : g473 ≠ gb483)); have NB483_473 := Aside0.mk ((by rw [hg]; exact Nat.ne_of_gt (IsS152.lt (show IsS152 w _ g473 t470 t481 t482 from by repeat (first | (with_reducible first | exact HI473.out | apply IsS152.alloc | apply IsS152.drewN | apply IsS152.drew | apply IsS152.set_1 | apply IsS152.set_2 | refine IsS152.far ?_ NB473_469.out _) | exact HI473.out))) : gb483 ≠ g473)); replace HI473 := Aside0.mk (IsS152.below (by repeat (first | (with_reducible first | exact HI473.out | apply IsS152.alloc | apply IsS152.drewN | apply IsS152.drew | apply IsS152.set_1 | apply IsS152.set_2 | refine IsS152.far ?_ NB473_469.out _) | exact HI473.out)) hb); clear hb hbox hg; have hnb9 := NB483_469.out; have hnc9 := NB469_483.out; have hnb10 := NB483_473.out; have hnc10 := NB473_483.out; obtain ⟨hcz11_0, hcz11_1, hcz11_2, hfz11_0, hfz11_1, hfz11_2⟩ := cc3 BK483; obtain ⟨Ao12, co12, eo12⟩ := Kd.R_slice HO477.out; subst eo12; obtain ⟨Ao13, co13, eo13⟩ := Kd.R_slice HO480.out; subst eo13))
 have n0_ : Aside0 (Kd.R (Kd.int .i64) 3 (((w8.setCell ⟨gb483, 0, none⟩ (.int .i64 t474)).setCell ⟨gb483, 1, none⟩ (.slice Ao12 t475.length co12)).setCell ⟨gb483, 2, none⟩ (.slice Ao13 t478.length co13)) w.heap.size (fun k_ => some k_ ≠ (.slice Ao13 t478.length co13 : Value).ownBlock) (.slice Ao12 t475.length co12) t475) := ⟨by (with_reducible repeat (first | apply Kd.R_alloc | apply Kd.R_drewN | apply Kd.R_drew)); exact Kd.R_mono (Kd.R_far (p := ⟨gb483, 2, none⟩) (Kd.R_far (p := ⟨gb483, 1, none⟩) (Kd.R_far (p := ⟨gb483, 0, none⟩) (Kd.R_types HO477.out BK483.out (by decide)) (fun _ hk => hk.2) (.int .i64 t474)) (fun _ hk => hk.2) (.slice Ao12 t475.length co12)) (fun _ hk => hk.2) (.slice Ao13 t478.length co13)) (fun _ hk => hk.1)⟩
 have n1_ : Aside0 (Kd.R (Kd.int .i64) 3 (((w8.setCell ⟨gb483, 0, none⟩ (.int .i64 t474)).setCell ⟨gb483, 1, none⟩ (.slice Ao12 t475.length co12)).setCell ⟨gb483, 2, none⟩ (.slice Ao13 t478.length co13)) w.heap.size (fun k_ => some k_ ≠ (.slice Ao12 t475.length co12 : Value).ownBlock) (.slice Ao13 t478.length co13) t478) := ⟨by (with_reducible repeat (first | apply Kd.R_alloc | apply Kd.R_drewN | apply Kd.R_drew)); exact Kd.R_mono (Kd.R_far (p := ⟨gb483, 2, none⟩) (Kd.R_far (p := ⟨gb483, 1, none⟩) (Kd.R_far (p := ⟨gb483, 0, none⟩) (Kd.R_types HO480.out BK483.out (by decide)) (fun _ hk => hk.2) (.int .i64 t474)) (fun _ hk => hk.2) (.slice Ao12 t475.length co12)) (fun _ hk => hk.2) (.slice Ao13 t478.length co13)) (fun _ hk => hk.1)⟩
 have n2_ : Aside0 ((((w8.setCell ⟨gb483, 0, none⟩ (.int .i64 t474)).setCell ⟨gb483, 1, none⟩ (.slice Ao12 t475.length co12)).setCell ⟨gb483, 2, none⟩ (.slice Ao13 t478.length co13)).heap[gb469]? = some (.cells #[.int .i64 0, .slice none 0 0, .slice none 0 0] 55 (0, 0))) := ⟨sp BK469⟩
 have n3_ : Aside0 ((((w8.setCell ⟨gb483, 0, none⟩ (.int .i64 t474)).setCell ⟨gb483, 1, none⟩ (.slice Ao12 t475.length co12)).setCell ⟨gb483, 2, none⟩ (.slice Ao13 t478.length co13)).heap[gb483]? = some (.cells #[.int .i64 t474, .slice Ao12 t475.length co12, .slice Ao13 t478.length co13] 55 (0, 0))) := ⟨sp BK483⟩
 have n4_ : Aside0 (IsS152 w (((w8.setCell ⟨gb483, 0, none⟩ (.int .i64 t474)).setCell ⟨gb483, 1, none⟩ (.slice Ao12 t475.length co12)).setCell ⟨gb483, 2, none⟩ (.slice Ao13 t478.length co13)) g473 t470 t481 t482) := ⟨by repeat (first | (with_reducible first | exact HI473.out | apply IsS152.alloc | apply IsS152.drewN | apply IsS152.drew | apply IsS152.set_1 | apply IsS152.set_2 | refine IsS152.far ?_ NB473_469.out _ | refine IsS152.far ?_ NB473_483.out _) | exact HI473.out)⟩
 have n5_ : Aside0 (Below w.heap.size w (((w8.setCell ⟨gb483, 0, none⟩ (.int .i64 t474)).setCell ⟨gb483, 1, none⟩ (.slice Ao12 t475.length co12)).setCell ⟨gb483, 2, none⟩ (.slice Ao13 t478.length co13))) := ⟨by repeat (first | (with_reducible first | exact HB.out | apply below_alloc | apply pw_below_drewN | apply below_drew1 | refine below_set ?_ (IsS152.ge HI473.out) | refine below_set ?_ GE469.out | refine below_set ?_ GE483.out) | exact HB.out)⟩
 (try clear HO477)
 (try clear HO480)
 (try clear BK469)
 (try clear BK483)
 (try clear HI473)
 (try clear HB)
 generalize (((w8.setCell ⟨gb483, 0, none⟩ (.int .i64 t474)).setCell ⟨gb483, 1, none⟩ (.slice Ao12 t475.length co12)).setCell ⟨gb483, 2, none⟩ (.slice Ao13 t478.length co13)) = w14 at n0_ n1_ n2_ n3_ n4_ n5_ ⊢
 have HO477 := n0_
 have HO480 := n1_
 have BK469 := n2_
 have BK483 := n3_
 have HI473 := n4_
 have HB := n5_
 clear n0_ n1_ n2_ n3_ n4_ n5_
 replace HO477 := Aside0.mk (Kd.R_drew HO477.out)
 replace HO480 := Aside0.mk (Kd.R_drew HO480.out)
 replace BK469 := Aside0.mk (blk_drew BK469.out)
 replace BK483 := Aside0.mk (blk_drew BK483.out)
 replace HI473 := Aside0.mk (IsS152.drew HI473.out)
 replace HB := Aside0.mk (below_drew1 HB.out)
 refine start_ (n := 6) (S := fun w' => w'.cell? ⟨gb483, 0, none⟩ = some (.int .i64 t474) ∧ w'.cell? ⟨gb483, 1, none⟩ = some (.slice Ao12 t475.length co12) ∧ w'.cell? ⟨gb483, 2, none⟩ = some (.slice Ao13 t478.length co13)) (ds := []) #[false, false, false, false, false, false] (by kernel_rfl) rfl rfl ⟨bc0 BK483, bc1 BK483, bc2 BK483⟩ (fun hHeld => ?_)
 generalize w14.drew = w15 at HO477 HO480 BK469 BK483 HI473 HB hHeld ⊢
 refine pu 1 11 #[false, true, false, false, false, false] ?_
 refine ta3 0 10 #[true, true, false, false, false, false] hHeld ?_
 refine one_ (i := 2) (N := some 12) #[true, true, true, false, false, false] rfl rfl (by kernel_rfl) (by decide) (fun K hK => ?_)
 refine goes_ Try.func76 (by kernel_rfl) rfl #[.pointer (some ⟨g473, 0, none⟩), .int .i64 8] (by rfl) rfl rfl sl ?_
 with_reducible refine (spec_l1Below.calls g473 t470 t481 t482 8 t484 t485 t486 w _ ?side1 ?side2 A4.out).mono ?_
 (case side1 => repeat (first | (with_reducible first | exact HI473.out | apply IsS152.alloc | apply IsS152.drewN | apply IsS152.drew | apply IsS152.set_1 | apply IsS152.set_2 | refine IsS152.far ?_ NB473_469.out _ | refine IsS152.far ?_ NB473_483.out _) | exact HI473.out))
 (case side2 => repeat (first | (with_reducible first | exact HB.out | apply below_alloc | apply pw_below_drewN | apply below_drew1 | refine below_set ?_ (IsS152.ge HI473.out) | refine below_set ?_ GE469.out | refine below_set ?_ GE483.out) | exact HB.out))
 rintro e w16 ⟨rfl, hi, hb, hk⟩
 refine ⟨_, rfl, ?_⟩
 replace BK469 := Aside0.mk (KeepBut.blk hk (g' := gb469) (o := .cells #[.int .i64 0, .slice none 0 0, .slice none 0 0] 55 (0, 0)) (sk BK469) NB469_473.out (by simp))
 replace HO477 := Aside0.mk (Kd.R_mono (Kd.R_keep (IsS152.apart (show IsS152 w _ g473 t470 t481 t482 from by repeat (first | (with_reducible first | exact HI473.out | apply IsS152.alloc | apply IsS152.drewN | apply IsS152.drew | apply IsS152.set_1 | apply IsS152.set_2 | refine IsS152.far ?_ NB473_469.out _ | refine IsS152.far ?_ NB473_483.out _) | exact HI473.out)) (sr HO477) (by decide)) hk (fun _ h => h.2)) (fun _ h => h.1))
 replace HO480 := Aside0.mk (Kd.R_mono (Kd.R_keep (IsS152.apart (show IsS152 w _ g473 t470 t481 t482 from by repeat (first | (with_reducible first | exact HI473.out | apply IsS152.alloc | apply IsS152.drewN | apply IsS152.drew | apply IsS152.set_1 | apply IsS152.set_2 | refine IsS152.far ?_ NB473_469.out _ | refine IsS152.far ?_ NB473_483.out _) | exact HI473.out)) (sr HO480) (by decide)) hk (fun _ h => h.2)) (fun _ h => h.1))
 replace BK483 := Aside0.mk (KeepBut.blk hk (g' := gb483) (o := .cells #[.int .i64 t474, .slice Ao12 t475.length co12, .slice Ao13 t478.length co13] 55 (0, 0)) (sk BK483) NB483_473.out (by simp))
 replace HB := Aside0.mk hb
 replace HI473 := Aside0.mk hi
 (try clear hb)
 (try clear hb2)
 (try clear hk)
 (try clear hi)
 refine hK.out _ _ ⟨bc0 BK483, bc1 BK483, bc2 BK483⟩ (fun hHeld => ?_)
 clear hK K
 refine norm_ (a' := ?_) ?_ ?_
 rotate_left
 ·show Act.put _ (some 12) _ = _
  simp only [Act.put, List.setIfInBounds_toArray, List.set_cons_zero, List.set_cons_succ, i64_w, i32_w]
  rfl
 refine pu 3 13 #[true, true, true, true, false, false] ?_
 refine one_ (i := 4) (N := none) #[true, true, true, true, true, false] rfl rfl (by kernel_rfl) (by decide) (fun K hK => ?_)
 obtain ⟨hs17, hfs17⟩ := cc1 BK469
 have hns17_1 := NB483_469.out
 have hms17_1 := NB469_483.out
 have hs18 := bc1 BK469
 have hfs18 := bf BK469 1
 have hns18_1 := NB483_469.out
 have hms18_1 := NB469_483.out
 have hs19 := bc2 BK469
 have hfs19 := bf BK469 2
 have hns19_1 := NB483_469.out
 have hms19_1 := NB469_483.out
 refine skip_ (w1 := ?_) (by rfl) rfl ?_ ?_
 rotate_left
 ·go_simp
  rfl
 refine hK.out _ _ ⟨((cell_far (p := ⟨gb469, _, none⟩) NB483_469.out _).trans (((cell_far (p := ⟨gb469, _, none⟩) NB483_469.out _).trans (((cell_far (p := ⟨gb469, _, none⟩) NB483_469.out _).trans (hHeld.1)))))), ((cell_far (p := ⟨gb469, _, none⟩) NB483_469.out _).trans (((cell_far (p := ⟨gb469, _, none⟩) NB483_469.out _).trans (((cell_far (p := ⟨gb469, _, none⟩) NB483_469.out _).trans (hHeld.2.1)))))), ((cell_far (p := ⟨gb469, _, none⟩) NB483_469.out _).trans (((cell_far (p := ⟨gb469, _, none⟩) NB483_469.out _).trans (((cell_far (p := ⟨gb469, _, none⟩) NB483_469.out _).trans (hHeld.2.2))))))⟩ (fun hHeld => ?_)
 clear hK K
 refine pu 5 3 #[true, true, true, true, true, true] ?_
 refine done_ (by kernel_rfl) ?_
 try go_wp2
 refine bodyPost_ret (results_ct rfl _ _ gb469 55 #[.int .i64 t474, .slice Ao12 t475.length co12, .slice Ao13 t478.length co13] (0, 0) _ rfl (sp BK469) Try.underlying55 rfl (by kernel_rfl)) rfl ?_
 exact ⟨_, _, se, by (with_reducible repeat (first | apply Kd.R_alloc | apply Kd.R_drewN | apply Kd.R_drew)); exact Kd.R_mono (Kd.R_far (p := ⟨gb469, 2, none⟩) (Kd.R_far (p := ⟨gb469, 1, none⟩) (Kd.R_far (p := ⟨gb469, 0, none⟩) (Kd.R_types HO477.out BK469.out (by decide)) (fun _ hk => hk.2) (.int .i64 t474)) (fun _ hk => hk.2) (.slice Ao12 t475.length co12)) (fun _ hk => hk.2) (.slice Ao13 t478.length co13)) (fun _ hk => hk.1), by (with_reducible repeat (first | apply Kd.R_alloc | apply Kd.R_drewN | apply Kd.R_drew)); exact Kd.R_mono (Kd.R_far (p := ⟨gb469, 2, none⟩) (Kd.R_far (p := ⟨gb469, 1, none⟩) (Kd.R_far (p := ⟨gb469, 0, none⟩) (Kd.R_types HO480.out BK469.out (by decide)) (fun _ hk => hk.2) (.int .i64 t474)) (fun _ hk => hk.2) (.slice Ao12 t475.length co12)) (fun _ hk => hk.2) (.slice Ao13 t478.length co13)) (fun _ hk => hk.1), by repeat (first | (with_reducible first | exact HB.out | apply below_alloc | apply pw_below_drewN | apply below_drew1 | refine below_set ?_ (IsS152.ge HI473.out) | refine below_set ?_ GE469.out | refine below_set ?_ GE483.out) | exact HB.out)⟩

/-! ### impl_PathTo: function 59 -/
mutual
def impl_PathTo.l0 : Nat → List Int → Int → Int → List Int → Option (List Int)
  | 0, _, _, _, _ => none
  | k + 1, x0, x1, x2, x7 => if (x7.length : Int) ≤ (x0.length : Int) then ((impl_isIndex.f x1 (x0.length : Int)).bind fun t490 => (impl_PathTo.j1 k x0 x1 x2 x7 t490)) else (impl_PathTo.j1 k x0 x1 x2 x7 false)
def impl_PathTo.j1 : Nat → List Int → Int → Int → List Int → Bool → Option (List Int)
  | 0, _, _, _, _, _ => none
  | k + 1, x0, x1, x2, x7, x19 => if x19 = true then (if x7.length < 17592186044416 then ((some (x7 ++ [x1] : List Int)).bind fun y491 => (if x1 = x2 then (some y491) else (if 0 ≤ x1 then (if x1 < (x0.length : Int) then (impl_PathTo.l0 k x0 (rd x0 x1) x2 y491) else (none)) else (none)))) else (none)) else (some (([] : List Int)))
end
def impl_PathTo.f (k : Nat) (l0 : List Int) (a1 : Int) (a2 : Int) : Option (List Int) := impl_PathTo.l0 k l0 a1 a2 (([] : List Int))
theorem impl_PathTo.mono_l : ∀ k, (∀ y0 y1 y2 y3, LeO (impl_PathTo.l0 k y0 y1 y2 y3) (impl_PathTo.l0 (k + 1) y0 y1 y2 y3)) ∧ (∀ y0 y1 y2 y3 y4, LeO (impl_PathTo.j1 k y0 y1 y2 y3 y4) (impl_PathTo.j1 (k + 1) y0 y1 y2 y3 y4))
  | 0 => ⟨fun _ _ _ _ r h => by simp [impl_PathTo.l0] at h, fun _ _ _ _ _ r h => by simp [impl_PathTo.j1] at h⟩
  | k + 1 => by
    obtain ⟨ih0, ih1⟩ := impl_PathTo.mono_l k
    refine ⟨?_, ?_⟩
    · intro y0 y1 y2 y3
      unfold impl_PathTo.l0
      exact mo
    · intro y0 y1 y2 y3 y4
      unfold impl_PathTo.j1
      exact mo
theorem impl_PathTo.mono : ∀ a0 a1 a2 k, LeO (impl_PathTo.f k a0 a1 a2) (impl_PathTo.f (k + 1) a0 a1 a2) := by
  intro a0 a1 a2 k
  obtain ⟨ih0, ih1⟩ := impl_PathTo.mono_l k
  unfold impl_PathTo.f
  exact mo
set_option maxHeartbeats 8000000 in
set_option maxRecDepth 100000 in
theorem impl_PathTo.calls (k : Nat) (A0 : Option Addr) (c0 : Nat) (l0 : List Int) (a1 : Int) (a2 : Int) (r : List Int) (w : World) (hr0 : Kd.C (Kd.int .i64) w A0 l0.length l0) (hc0 : l0.length ≤ c0) (h : impl_PathTo.f k l0 a1 a2 = some r) :
    Calls Try.prog 59 #[.slice A0 l0.length c0, .int .i64 a1, .int .i64 a2] w fun e w' => ∃ v0_ : Value, e = .returned (v0_) ∧ Kd.R (Kd.int .i64) 3 w' w.heap.size (fun _ => True) v0_ r ∧ Below w.heap.size w w' := by
 have HR0 := Aside0.mk hr0
 have HC0 := Aside0.mk hc0
 clear hr0 hc0
 have HB := Aside0.mk (Below.refl w.heap.size w)
 have H : (impl_PathTo.l0 k l0 a1 a2 (([] : List Int))) = some r := h
 clear h
 obtain ⟨y487, hy487⟩ : ∃ y_ : List Int, y_ = (([] : List Int)) := ⟨_, rfl⟩
 replace H : (impl_PathTo.l0 k l0 a1 a2 y487) = some r := by first | (rw [hy487]; with_reducible exact H) | (have H2_ := (Option.bind_some _ _).symm.trans H; rw [hy487]; with_reducible exact H2_) | (have H2_ := (Option.bind_some _ _).symm.trans H; with_reducible exact H2_) | with_reducible exact H | (rw [hy487]; exact H) | exact H
 have Ny487 := Aside0.mk hy487
 clear hy487
 have H' := Aside0.mk H
 clear H
 go_enter Try.func59, Try.ntmps59
 go_wp2_with (first | ((with_reducible refine gate_dst (N := 8) rfl ?_); (try (refine gate_guard (by rfl) ?_; dsimp only)); refine Kd.R_lit (Kd.int .i64) _ 3 ?hg (N := 8) ?hd (xs := ([] : List Int)) (inner := []) (ok := fun _ => True) (okp := fun _ => True) ?hr ?hp (fun _ hk => hk) trivial (Below.refl _ _) (Nat.le_refl _) (by simp) ?_; (case hd => rfl); (case hg => rfl); (case hr => first | (go_simp; done) | (go_simp; rfl)); (case hp => exact (Reps.none _ _)); intro v488 w4 ho5 hb hg_ hnew_; clear hg_ hnew_; (first | rw [← Ny487.out] at ho5 | (simp only [Int.reduceToNat] at ho5; rw [← Ny487.out] at ho5)); have HO489 := Aside0.mk (Kd.R_lower ho5 (below_size (sb))); replace HB := bs hb; clear hb ho5))
 go_loopg [1, 7] k (fun kq v1 v7 w' => ∃ (x1_1 : Int) (x7_1 : List Int), v1 = .int .i64 x1_1 ∧ Aside0 (impl_PathTo.l0 kq l0 x1_1 a2 x7_1 = some r) ∧ Aside0 (kq ≤ k) ∧ Aside0 (Kd.R (Kd.int .i64) 3 w' w.heap.size (fun _ => True) v7 x7_1) ∧ Aside0 (Below w.heap.size w w'))
 case atStart => exact ⟨(a1), (y487), sc, H', kk0, ⟨sr HO489⟩, ⟨sb⟩⟩
 case round =>
  clear H'
  obtain ⟨x1_1, x7_1, rfl, HA, HK1, HO_7, HB⟩ := hrel
  cases gk with
  | zero => exact absurd HA.out (by simp [impl_PathTo.l0])
  | succ k1 =>
   have H := HA.out
   clear HA
   simp only [impl_PathTo.l0] at H
   have HC6 := Aside0.mk H
   clear H
   go_upto_region 2 with (fail)
   go_cut [19] (fun v19 wc => ∃ (kq : Nat) (x19_5 : Bool), v19 = .bool x19_5 ∧ Aside0 (impl_PathTo.j1 kq l0 x1_1 a2 x7_1 x19_5 = some r) ∧ Aside0 (kq ≤ k1) ∧ Aside0 (Kd.R (Kd.int .i64) 3 wc w.heap.size (fun _ => True) u7 x7_1) ∧ Aside0 (Below w.heap.size w wc))
   case first =>
    have H := HC6.out
    clear HC6
    obtain ⟨c7, H⟩ | ⟨c7, H⟩ := ie_ H
    ·have c7b0 := decide_eq_true c7
     have c7b1 : decide (x7_1.length ≤ l0.length) = true := decide_eq_true (Int.ofNat_le.mp c7)
     clear c7
     (first | rw [c7b0] | (simp only [i64_w, i32_w]; rw [c7b0]) | rw [c7b1] | skip)
     obtain ⟨t490, A8, H⟩ := bnd H
     have H' := Aside0.mk H
     clear H
     obtain ⟨Ao9, co9, eo9⟩ := Kd.R_slice HO_7.out
     subst eo9
     go_wp2_with (first | (go_at_call 77; (with_reducible refine (impl_isIndex.calls x1_1 (l0.length : Int) t490 _ A8.out).mono ?_); rintro e w' ⟨rfl, ⟨nd, rfl⟩⟩))
     go_meet
     case rel => exact ⟨_, (t490), sc, H', ⟨by have := HK1.out; first | omega | exact Nat.le_refl _⟩, ⟨sr HO_7⟩, ⟨sb⟩⟩
    ·have c7b0 := decide_eq_false c7
     have c7b1 : decide (x7_1.length ≤ l0.length) = false := decide_eq_false (fun h => c7 (Int.ofNat_le.mpr h))
     clear c7
     (first | rw [c7b0] | (simp only [i64_w, i32_w]; rw [c7b0]) | rw [c7b1] | skip)
     have H' := Aside0.mk H
     clear H
     obtain ⟨Ao10, co10, eo10⟩ := Kd.R_slice HO_7.out
     subst eo10
     go_wp2
     go_meet
     case rel => exact ⟨_, (false), sc, H', ⟨by have := HK1.out; first | omega | exact Nat.le_refl _⟩, ⟨sr HO_7⟩, ⟨sb⟩⟩
   case rest =>
    clear HC6
    try clear c7
    try clear c7b0
    try clear c7b1
    obtain ⟨kq, x19_5, rfl, HA, HJ5, HO_7, HB⟩ := hcut
    cases kq with
    | zero => exact absurd HA.out (by simp [impl_PathTo.j1])
    | succ kj5 =>
     have H := HA.out
     clear HA
     simp only [impl_PathTo.j1] at H
     obtain rfl | rfl := tt x19_5
     ·replace H := ip H
      obtain ⟨LMc12, H⟩ := il_ H
      obtain ⟨y491, hy491⟩ : ∃ y_ : List Int, y_ = (x7_1 ++ [x1_1]) := ⟨_, rfl⟩
      replace H : (if x1_1 = a2 then (some y491) else (if 0 ≤ x1_1 then (if x1_1 < (l0.length : Int) then (impl_PathTo.l0 kj5 l0 (rd l0 x1_1) a2 y491) else (none)) else (none))) = some r := by first | (rw [hy491]; with_reducible exact H) | (have H2_ := (Option.bind_some _ _).symm.trans H; rw [hy491]; with_reducible exact H2_) | (have H2_ := (Option.bind_some _ _).symm.trans H; with_reducible exact H2_) | with_reducible exact H | (rw [hy491]; exact H) | exact H
      have Ny491 := Aside0.mk hy491
      clear hy491
      obtain ⟨c13, H⟩ | ⟨c13, H⟩ := ie_ H
      ·have c13b0 : (x1_1 == a2) = true := beq_iff_eq.mpr c13
       have c13b1 : (x1_1 != a2) = false := bne_eq_false_iff_eq.mpr c13
       clear c13
       obtain rfl := Option.some.inj H
       go_wp2_with (first | ((with_reducible refine gate_builtin (b := .append) (xs := #[.tmp 20, .tmp 22]) rfl ?_); (try (refine gate_guard (by rfl) ?_; dsimp only)); at_builtin; refine Kd.R_append (Kd.int .i64) (w0 := w) w.heap.size rfl (.tmp 20) (.tmp 22) 28 3 (.int .i64 0) 8 rfl Try.underlying28 info3 rfl (by decide) (by omega) u7 x7_1 x1_1 [.int .i64 x1_1] (fun _ => True) (fun _ => False) rfl rfl ?aP (fun _ hk => hk.elim) ?aF ?aO ?aB ?aS ?aL ?_; (case aP => exact rfl); (case aB => exact (sb)); (case aF => exact (fun _ _ => trivial)); (case aO => exact (sr HO_7)); (case aS => exact (below_size (sb))); (case aL => have := LMc12.out; omega); intro v492 w14 ho hb hg hat; rw [← Ny491.out] at ho; replace HB := Aside0.mk hb; have HO493 := Aside0.mk ho; clear HO_7; clear ho hb hg hat))
       go_ret
       exact ⟨_, se, sr HO493, sb⟩
      ·have c13b0 : (x1_1 == a2) = false := beq_eq_false_iff_ne.mpr c13
       have c13b1 : (x1_1 != a2) = true := bne_iff_ne.mpr c13
       obtain ⟨c15b0, H⟩ := id_ H
       obtain ⟨c16b0, H⟩ := id_ H
       have H' := Aside0.mk H
       clear H
       go_wp2_with (first | ((with_reducible refine gate_builtin (b := .append) (xs := #[.tmp 20, .tmp 22]) rfl ?_); (try (refine gate_guard (by rfl) ?_; dsimp only)); at_builtin; refine Kd.R_append (Kd.int .i64) (w0 := w) w.heap.size rfl (.tmp 20) (.tmp 22) 28 3 (.int .i64 0) 8 rfl Try.underlying28 info3 rfl (by decide) (by omega) u7 x7_1 x1_1 [.int .i64 x1_1] (fun _ => True) (fun _ => False) rfl rfl ?aP (fun _ hk => hk.elim) ?aF ?aO ?aB ?aS ?aL ?_; (case aP => exact rfl); (case aB => exact (sb)); (case aF => exact (fun _ _ => trivial)); (case aO => exact (sr HO_7)); (case aS => exact (below_size (sb))); (case aL => have := LMc12.out; omega); intro v492 w17 ho hb hg hat; rw [← Ny491.out] at ho; replace HB := Aside0.mk hb; have HO493 := Aside0.mk ho; clear HO_7; clear ho hb hg hat; obtain ⟨p494, q494, ad494, e494, _, hx494_0⟩ := at_i HR0 HB x1_1; cases e494))
       go_roundg kj5
       case measure => have := HK1.out; have := HJ5.out; omega
       case rel => exact ⟨(rd l0 x1_1), (y491), sc, H', ⟨by have := HK1.out; have := HJ5.out; omega⟩, ⟨sr HO493⟩, ⟨sb⟩⟩
     ·replace H := im H
      obtain ⟨y495, hy495⟩ : ∃ y_ : List Int, y_ = (([] : List Int)) := ⟨_, rfl⟩
      replace H : (some y495) = some r := by first | (rw [hy495]; with_reducible exact H) | (have H2_ := (Option.bind_some _ _).symm.trans H; rw [hy495]; with_reducible exact H2_) | (have H2_ := (Option.bind_some _ _).symm.trans H; with_reducible exact H2_) | with_reducible exact H | (rw [hy495]; exact H) | exact H
      have Ny495 := Aside0.mk hy495
      clear hy495
      obtain rfl := Option.some.inj H
      go_wp2_with (first | ((with_reducible refine gate_dst (N := 32) rfl ?_); (try (refine gate_guard (by rfl) ?_; dsimp only)); refine Kd.R_lit (Kd.int .i64) _ 3 ?hg (N := 32) ?hd (xs := ([] : List Int)) (inner := []) (ok := fun _ => True) (okp := fun _ => True) ?hr ?hp (fun _ hk => hk) trivial (Below.refl _ _) (Nat.le_refl _) (by simp) ?_; (case hd => rfl); (case hg => rfl); (case hr => first | (go_simp; done) | (go_simp; rfl)); (case hp => exact (Reps.none _ _)); intro v496 w18 ho19 hb hg_ hnew_; clear hg_ hnew_; (first | rw [← Ny495.out] at ho19 | (simp only [Int.reduceToNat] at ho19; rw [← Ny495.out] at ho19)); have HO497 := Aside0.mk (Kd.R_lower (Kd.R_new' ho19 (Kd.R_lt (sr HO_7))) (below_size (sb))); replace HO_7 := Aside0.mk (Kd.R_elder' (sr HO_7) (Kd.R_base ho19) hb); replace HB := bs hb; clear hb ho19))
      go_ret
      exact ⟨_, se, by (with_reducible repeat (first | apply Kd.R_alloc | apply Kd.R_drewN | apply Kd.R_drew)); exact Kd.R_mono HO497.out (fun _ hk => trivial), sb⟩

/-! ### impl_RouteOf: function 65 -/
def impl_RouteOf.f (k : Nat) (a0_0 : Int) (l0_1 : List Int) (l0_2 : List Int) (a1 : Int) : Option (List Int) := (impl_PathTo.f k l0_2 a1 a0_0).bind fun t499 => (some t499)
theorem impl_RouteOf.mono : ∀ a0 a1 a2 a3 k, LeO (impl_RouteOf.f k a0 a1 a2 a3) (impl_RouteOf.f (k + 1) a0 a1 a2 a3) := by
  intro a0 a1 a2 a3 k
  unfold impl_RouteOf.f
  have m0 := @impl_PathTo.mono
  exact mo
set_option maxHeartbeats 8000000 in
set_option maxRecDepth 100000 in
theorem impl_RouteOf.calls (k : Nat) (a0_0 : Int) (A0_1 : Option Addr) (c0_1 : Nat) (l0_1 : List Int) (A0_2 : Option Addr) (c0_2 : Nat) (l0_2 : List Int) (a1 : Int) (r : List Int) (w : World) (hr0_1 : Kd.C (Kd.int .i64) w A0_1 l0_1.length l0_1) (hc0_1 : l0_1.length ≤ c0_1) (hr0_2 : Kd.C (Kd.int .i64) w A0_2 l0_2.length l0_2) (hc0_2 : l0_2.length ≤ c0_2) (h : impl_RouteOf.f k a0_0 l0_1 l0_2 a1 = some r) :
    Calls Try.prog 65 #[.agg #[.int .i64 a0_0, .slice A0_1 l0_1.length c0_1, .slice A0_2 l0_2.length c0_2], .int .i64 a1] w fun e w' => ∃ v0_ : Value, e = .returned (v0_) ∧ Kd.R (Kd.int .i64) 3 w' w.heap.size (fun _ => True) v0_ r ∧ Below w.heap.size w w' := by
 have hu55 := Try.underlying55
 have HR0_1 := Aside0.mk hr0_1
 have HC0_1 := Aside0.mk hc0_1
 clear hr0_1 hc0_1
 have HR0_2 := Aside0.mk hr0_2
 have HC0_2 := Aside0.mk hc0_2
 clear hr0_2 hc0_2
 have HB := Aside0.mk (Below.refl w.heap.size w)
 have H : ((impl_PathTo.f k l0_2 a1 a0_0).bind fun t499 => (some t499)) = some r := h
 clear h
 obtain ⟨t499, A3, H⟩ := bnd H
 obtain rfl := Option.some.inj H
 go_enter Try.func65, Try.ntmps65
 go_wp2_with (first | ((with_reducible refine gate_dst (N := 2) rfl ?_); refine bx 2 #[.int .i64 a0_0, .slice A0_1 l0_1.length c0_1, .slice A0_2 l0_2.length c0_2] 55 ?_; intro gb498 hg w4 hbox hb; have GW498 := bz w hg; have GE498 := bz w hg; replace HB := bs hb; have BK498 := Aside0.mk hbox; clear hb hbox hg; obtain ⟨hcz5_0, hcz5_1, hcz5_2, hfz5_0, hfz5_1, hfz5_2⟩ := cc3 BK498) | ((with_reducible refine gate_callee (f := 59) rfl ?_); refine gL (some 10) Try.func59 #[.slice A0_2 l0_2.length c0_2, .int .i64 a1, .int .i64 a0_0] ?_; (with_reducible refine (impl_PathTo.calls k _ _ l0_2 a1 a0_0 t499 _ ?side1 ?side2 A3.out).mono ?_); (case side1 => exact cb HR0_2); (case side2 => exact HC0_2.out); rintro e w6 ⟨v500, rfl, ho0, hb⟩; refine ⟨_, rfl, ?_⟩; have HO501 := Aside0.mk (Kd.R_lower ho0 (below_size (sbw))); replace BK498 := bb BK498 hb; replace HB := bsw hb; (try clear hb); (try clear hb2); (try clear hk); (try clear hi); (try clear ho0)))
 go_ret
 exact ⟨_, se, sr HO501, sbw⟩

end Go.Proofs.Ytiihaabhjphaeaa.QFnTables
