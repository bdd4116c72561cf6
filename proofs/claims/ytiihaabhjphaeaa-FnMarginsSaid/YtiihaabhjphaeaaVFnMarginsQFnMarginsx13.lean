/- Printed by a program of the session. Conditions: none. (squeezed). -/
import Derived.Test.YtiihaabhjphaeaaVFnMarginsQFnMarginsx12
namespace Go.Proofs.Ytiihaabhjphaeaa.QFnMargins
set_option maxHeartbeats 8000000
set_option maxRecDepth 100000
open Go.RowKit Go.Proofs.YtiihaabhjphaeaaW.PrintWords Go.Proofs.YtiihaabhjphaeaaW.PrintLast Go.Proofs.YtiihaabhjphaeaaW.PrintMore Go.Proofs.Ytiihaabhjphaeaa.Open Go.Proofs.Ytiihaabhjphaeaa.Sq
attribute [local go_sem] max2_int min2_int max_two min_two max_three min_three max_four min_four   -- for this text's walks alone
attribute [local go_sem] isSome_set
set_option linter.unusedVariables false
set_option linter.unusedSimpArgs false

def spec_DrawMayUse.f (k : Nat) (l0 : List Int) : Option (Int × Int × Int × (List (S105)) × Int × Int × Int) := (spec_l1New.f k l0).bind fun bt453 => ((spec_l17Any.f k bt453.1 bt453.2.1 bt453.2.2).bind fun bt457 => ((spec_l1Below.f bt453.1 bt457.2.2.2.2.1 bt457.2.2.2.2.2 6).bind fun bt466 => ((spec_l1Below.f bt453.1 bt466.2.1 bt466.2.2 6).bind fun bt469 => ((spec_l4Raw.f bt453.1 bt469.2.1 bt469.2.2).bind fun bt472 => (some (bt457.1, bt457.2.1, bt457.2.2.1, bt457.2.2.2.1, bt466.1, bt469.1, bt472.1))))))
theorem spec_DrawMayUse.mono : ∀ a0 k, LeO (spec_DrawMayUse.f k a0) (spec_DrawMayUse.f (k + 1) a0) := by
  intro a0 k
  unfold spec_DrawMayUse.f
  have m0 := @spec_l17Any.mono
  have m1 := @spec_l1New.mono
  exact mo
def spec_DrawMayUse.T5 : Bool × List (List Nat × List Nat) := (true, [([], []), ([], []), ([], []), ([], []), ([3], [3]), ([0, 4, 0], [0]), ([1, 5, 0, 1, 5], [1]), ([2, 6, 0, 1, 2, 5, 6], [2]), ([4, 7, 0, 1, 2, 3, 4, 5, 6, 7], [4])])
def spec_DrawMayUse.B5 : List Nat := [0, 0, 0, 0, 8, 25, 59, 127, 255]
theorem spec_DrawMayUse.tab5 : rtab .any (opsOf Try.f29 5) = spec_DrawMayUse.T5 := by kernel_rfl
theorem spec_DrawMayUse.bits5 : waitsOk spec_DrawMayUse.T5.2 spec_DrawMayUse.B5 = true := by kernel_rfl
theorem spec_DrawMayUse.calls (k : Nat) (A0 : Option Addr) (c0 : Nat) (l0 : List Int) (r1 : Int) (r2 : Int) (r3 : Int) (r4 : List (S105)) (r5 : Int) (r6 : Int) (r7 : Int) (w : World) (hr0 : Kd.C (Kd.int .u8) w A0 l0.length l0) (hc0 : l0.length ≤ c0) (h : spec_DrawMayUse.f k l0 = some (r1, r2, r3, r4, r5, r6, r7)) :
    Calls Try.prog 29 #[.slice A0 l0.length c0] w fun e w' => ∃ v3_ : Value, e = .returned (.tuple #[.agg #[.int .i64 r1, .int .i64 r2, .int .i64 r3, v3_], .int .i64 r5, .int .i64 r6, .int .i64 r7]) ∧ Kd.S k105 105 w' w.heap.size (fun _ => True) v3_ r4 ∧ Below w.heap.size w w' := by
 have hu31 := Try.underlying31
 have HR0 := am hr0
 have HC0 := am hc0
 clear hr0 hc0
 have HB := am (Below.refl w.heap.size w)
 have H : ((spec_l1New.f k l0).bind fun bt453 => ((spec_l17Any.f k bt453.1 bt453.2.1 bt453.2.2).bind fun bt457 => ((spec_l1Below.f bt453.1 bt457.2.2.2.2.1 bt457.2.2.2.2.2 6).bind fun bt466 => ((spec_l1Below.f bt453.1 bt466.2.1 bt466.2.2 6).bind fun bt469 => ((spec_l4Raw.f bt453.1 bt469.2.1 bt469.2.2).bind fun bt472 => (some (bt457.1, bt457.2.1, bt457.2.2.1, bt457.2.2.2.1, bt466.1, bt469.1, bt472.1))))))) = some (r1, r2, r3, r4, r5, r6, r7) := h
 clear h
 obtain ⟨⟨t453, t454, t455⟩, A2, H⟩ := bnd H
 replace H : ((spec_l17Any.f k t453 t454 t455).bind fun bt457 => ((spec_l1Below.f t453 bt457.2.2.2.2.1 bt457.2.2.2.2.2 6).bind fun bt466 => ((spec_l1Below.f t453 bt466.2.1 bt466.2.2 6).bind fun bt469 => ((spec_l4Raw.f t453 bt469.2.1 bt469.2.2).bind fun bt472 => (some (bt457.1, bt457.2.1, bt457.2.2.1, bt457.2.2.2.1, bt466.1, bt469.1, bt472.1)))))) = some (r1, r2, r3, r4, r5, r6, r7) := H
 obtain ⟨⟨t457, t458, t459, t460, t463, t464⟩, A3, H⟩ := bnd H
 replace H : ((spec_l1Below.f t453 t463 t464 6).bind fun bt466 => ((spec_l1Below.f t453 bt466.2.1 bt466.2.2 6).bind fun bt469 => ((spec_l4Raw.f t453 bt469.2.1 bt469.2.2).bind fun bt472 => (some (t457, t458, t459, t460, bt466.1, bt469.1, bt472.1))))) = some (r1, r2, r3, r4, r5, r6, r7) := H
 obtain ⟨⟨t466, t467, t468⟩, A4, H⟩ := bnd H
 replace H : ((spec_l1Below.f t453 t467 t468 6).bind fun bt469 => ((spec_l4Raw.f t453 bt469.2.1 bt469.2.2).bind fun bt472 => (some (t457, t458, t459, t460, t466, bt469.1, bt472.1)))) = some (r1, r2, r3, r4, r5, r6, r7) := H
 obtain ⟨⟨t469, t470, t471⟩, A5, H⟩ := bnd H
 replace H : ((spec_l4Raw.f t453 t470 t471).bind fun bt472 => (some (t457, t458, t459, t460, t466, t469, bt472.1))) = some (r1, r2, r3, r4, r5, r6, r7) := H
 obtain ⟨⟨t472, t473, t474⟩, A6, H⟩ := bnd H
 replace H : (some (t457, t458, t459, t460, t466, t469, t472)) = some (r1, r2, r3, r4, r5, r6, r7) := H
 simp only [Option.some.injEq, Prod.mk.injEq] at H
 obtain ⟨rfl, rfl, rfl, rfl, rfl, rfl, rfl⟩ := H
 go_enter Try.func29, Try.ntmps29
 try go_wp2_with (first | ((with_reducible refine gd 2 rfl ?_); refine bx 2 #[.int .i64 0, .int .i64 0, .int .i64 0, .slice none 0 0] 31 ?_; intro gb452 hg w7 hbox hb; have GW452 := bz w hg; have GE452 := bz w hg; replace HB := bs hb; have BK452 := am hbox; clear hb hbox hg) | ((with_reducible refine gc 75 rfl ?_); refine gL (some 11) Try.func75 #[.slice A0 l0.length c0] ?_; (with_reducible refine (spec_l1New.calls k _ _ l0 t453 t454 t455 w _ ?side1 ?side2 ?side3 A2.out).mono ?_); (case side1 => repeat (first | (with_reducible first | exact HB.out | apply below_alloc | apply pw_below_drewN | apply below_drew1 | refine below_set ?_ GE452.out) | exact HB.out)); (case side2 => exact HR0.out); (case side3 => exact HC0.out); rintro e w8 ⟨g456, rfl, hi, hb, hb2⟩; refine ⟨_, rfl, ?_⟩; replace HB := am hb; have HI456 := am hi; have NB456_452 := am (IsS152.ne_blk hi (blk_below (g := gb452) (o := .cells #[.int .i64 0, .int .i64 0, .int .i64 0, .slice none 0 0] 31 (0, 0)) (sk BK452) hb2) (by decide)); have NB452_456 := am (Ne.symm (IsS152.ne_blk hi (blk_below (g := gb452) (o := .cells #[.int .i64 0, .int .i64 0, .int .i64 0, .slice none 0 0] 31 (0, 0)) (sk BK452) hb2) (by decide))); replace BK452 := bb BK452 hb2; (try clear hb); (try clear hb2); (try clear hk); (try clear hi)) | ((with_reducible refine gc 78 rfl ?_); refine gL (some 13) Try.func78 #[.pointer (some ⟨g456, 0, none⟩)] ?_; (with_reducible refine (spec_l17Any.calls k g456 t453 t454 t455 t457 t458 t459 t460 t463 t464 w _ ?side1 ?side2 A3.out).mono ?_); (case side1 => repeat (first | (with_reducible first | exact HI456.out | apply IsS152.alloc | apply IsS152.drewN | apply IsS152.drew | apply IsS152.set_1 | apply IsS152.set_2 | refine IsS152.far ?_ NB456_452.out _) | exact HI456.out)); (case side2 => repeat (first | (with_reducible first | exact HB.out | apply below_alloc | apply pw_below_drewN | apply below_drew1 | refine below_set ?_ (IsS152.ge HI456.out) | refine below_set ?_ GE452.out) | exact HB.out)); rintro e w9 ⟨v461, rfl, ho0, hi, hb, hk⟩; refine ⟨_, rfl, ?_⟩; replace BK452 := am (KeepBut.blk hk (g' := gb452) (o := .cells #[.int .i64 0, .int .i64 0, .int .i64 0, .slice none 0 0] 31 (0, 0)) (sk BK452) NB452_456.out (by simp)); have HO462 := am (Kd.S_lower ho0 (below_size (by repeat (first | (with_reducible first | exact HB.out | apply below_alloc | apply pw_below_drewN | apply below_drew1 | refine below_set ?_ (IsS152.ge HI456.out) | refine below_set ?_ GE452.out) | exact HB.out)))); replace HB := am hb; replace HI456 := am hi; (try clear hb); (try clear hb2); (try clear hk); (try clear hi); (try clear ho0)) | ((with_reducible refine gd 7 rfl ?_); refine bx 7 #[.int .i64 0, .int .i64 0, .int .i64 0, .slice none 0 0] 31 ?_; intro gb465 hg w10 hbox hb; replace HO462 := am (Kd.S_below (ss HO462) hb); have BK465 := am hbox; have GW465 := am ((by rw [hg]; exact (below_size (by repeat (first | (with_reducible first | exact HB.out | apply below_alloc | apply pw_below_drewN | apply below_drew1 | refine below_set ?_ (IsS152.ge HI456.out) | refine below_set ?_ GE452.out) | exact HB.out))) : w.heap.size ≤ gb465)); have GE465 := am ((by rw [hg]; exact (below_size (by repeat (first | (with_reducible first | exact HB.out | apply below_alloc | apply pw_below_drewN | apply below_drew1 | refine below_set ?_ (IsS152.ge HI456.out) | refine below_set ?_ GE452.out) | exact HB.out))) : w.heap.size ≤ gb465)); replace HB := am (below_step (by repeat (first | (with_reducible first | exact HB.out | apply below_alloc | apply pw_below_drewN | apply below_drew1 | refine below_set ?_ (IsS152.ge HI456.out) | refine below_set ?_ GE452.out) | exact HB.out)) hb); have NB452_465 := nl BK452 hg; have NB465_452 := ng BK452 hg; replace BK452 := bb BK452 hb; have NB456_465 := am ((by rw [hg]; exact Nat.ne_of_lt (IsS152.lt (show IsS152 w _ g456 t453 t463 t464 from by repeat (first | (with_reducible first | exact HI456.out | apply IsS152.alloc | apply IsS152.drewN | apply IsS152.drew | apply IsS152.set_1 | apply IsS152.set_2 | refine IsS152.far ?_ NB456_452.out _) | exact HI456.out))) : g456 ≠ gb465)); have NB465_456 := am ((by rw [hg]; exact Nat.ne_of_gt (IsS152.lt (show IsS152 w _ g456 t453 t463 t464 from by repeat (first | (with_reducible first | exact HI456.out | apply IsS152.alloc | apply IsS152.drewN | apply IsS152.drew | apply IsS152.set_1 | apply IsS152.set_2 | refine IsS152.far ?_ NB456_452.out _) | exact HI456.out))) : gb465 ≠ g456)); replace HI456 := am (IsS152.below (by repeat (first | (with_reducible first | exact HI456.out | apply IsS152.alloc | apply IsS152.drewN | apply IsS152.drew | apply IsS152.set_1 | apply IsS152.set_2 | refine IsS152.far ?_ NB456_452.out _) | exact HI456.out)) hb); clear hb hbox hg; have hnb11 := NB465_452.out; have hnc11 := NB452_465.out; have hnb12 := NB465_456.out; have hnc12 := NB456_465.out; obtain ⟨hcz13_0, hcz13_1, hcz13_2, hcz13_3, hfz13_0, hfz13_1, hfz13_2, hfz13_3⟩ := cc4 BK465; obtain ⟨Ao14, co14, eo14⟩ := Kd.S_slice HO462.out; subst eo14) | ((with_reducible refine gc 76 rfl ?_); refine gL (some 15) Try.func76 #[.pointer (some ⟨g456, 0, none⟩), .int .i64 6] ?_; (with_reducible refine (spec_l1Below.calls g456 t453 t463 t464 6 t466 t467 t468 w _ ?side1 ?side2 A4.out).mono ?_); (case side1 => repeat (first | (with_reducible first | exact HI456.out | apply IsS152.alloc | apply IsS152.drewN | apply IsS152.drew | apply IsS152.set_1 | apply IsS152.set_2 | refine IsS152.far ?_ NB456_452.out _ | refine IsS152.far ?_ NB456_465.out _) | exact HI456.out)); (case side2 => repeat (first | (with_reducible first | exact HB.out | apply below_alloc | apply pw_below_drewN | apply below_drew1 | refine below_set ?_ (IsS152.ge HI456.out) | refine below_set ?_ GE452.out | refine below_set ?_ GE465.out) | exact HB.out)); rintro e w15 ⟨rfl, hi, hb, hk⟩; refine ⟨_, rfl, ?_⟩; replace BK452 := am (KeepBut.blk hk (g' := gb452) (o := .cells #[.int .i64 0, .int .i64 0, .int .i64 0, .slice none 0 0] 31 (0, 0)) (sp BK452) NB452_456.out (by simp)); replace HO462 := am (Kd.S_mono (Kd.S_keep (IsS152.apartS (show IsS152 w _ g456 t453 t463 t464 from by repeat (first | (with_reducible first | exact HI456.out | apply IsS152.alloc | apply IsS152.drewN | apply IsS152.drew | apply IsS152.set_1 | apply IsS152.set_2 | refine IsS152.far ?_ NB456_452.out _ | refine IsS152.far ?_ NB456_465.out _) | exact HI456.out)) (by (with_reducible repeat (first | apply Kd.S_alloc | apply Kd.S_drewN | apply Kd.S_drew)); exact (Kd.S_mono (Kd.S_far (p := ⟨gb465, 3, none⟩) (Kd.S_far (p := ⟨gb465, 2, none⟩) (Kd.S_far (p := ⟨gb465, 1, none⟩) (Kd.S_far (p := ⟨gb465, 0, none⟩) (Kd.S_types HO462.out BK465.out (by decide)) (fun _ hk => hk.2) (.int .i64 t457)) (fun _ hk => hk.2) (.int .i64 t458)) (fun _ hk => hk.2) (.int .i64 t459)) (fun _ hk => hk.2) (.slice Ao14 t460.length co14)) (fun _ h_ => h_.1))) (by decide)) hk (fun _ h => h.2)) (fun _ h => h.1)); replace BK465 := am (KeepBut.blk hk (g' := gb465) (o := .cells #[.int .i64 t457, .int .i64 t458, .int .i64 t459, .slice Ao14 t460.length co14] 31 (0, 0)) (sp BK465) NB465_456.out (by simp)); replace HB := am hb; replace HI456 := am hi; (try clear hb); (try clear hb2); (try clear hk); (try clear hi)) | ((with_reducible refine gc 76 rfl ?_); refine gL (some 17) Try.func76 #[.pointer (some ⟨g456, 0, none⟩), .int .i64 6] ?_; (with_reducible refine (spec_l1Below.calls g456 t453 t467 t468 6 t469 t470 t471 w _ ?side1 ?side2 A5.out).mono ?_); (case side1 => repeat (first | (with_reducible first | exact HI456.out | apply IsS152.alloc | apply IsS152.drewN | apply IsS152.drew | apply IsS152.set_1 | apply IsS152.set_2 | refine IsS152.far ?_ NB456_452.out _ | refine IsS152.far ?_ NB456_465.out _) | exact HI456.out)); (case side2 => repeat (first | (with_reducible first | exact HB.out | apply below_alloc | apply pw_below_drewN | apply below_drew1 | refine below_set ?_ (IsS152.ge HI456.out) | refine below_set ?_ GE452.out | refine below_set ?_ GE465.out) | exact HB.out)); rintro e w16 ⟨rfl, hi, hb, hk⟩; refine ⟨_, rfl, ?_⟩; replace BK452 := am (KeepBut.blk hk (g' := gb452) (o := .cells #[.int .i64 0, .int .i64 0, .int .i64 0, .slice none 0 0] 31 (0, 0)) (sk BK452) NB452_456.out (by simp)); replace HO462 := am (Kd.S_mono (Kd.S_keep (IsS152.apartS (show IsS152 w _ g456 t453 t467 t468 from by repeat (first | (with_reducible first | exact HI456.out | apply IsS152.alloc | apply IsS152.drewN | apply IsS152.drew | apply IsS152.set_1 | apply IsS152.set_2 | refine IsS152.far ?_ NB456_452.out _ | refine IsS152.far ?_ NB456_465.out _) | exact HI456.out)) (ss HO462) (by decide)) hk (fun _ h => h.2)) (fun _ h => h.1)); replace BK465 := am (KeepBut.blk hk (g' := gb465) (o := .cells #[.int .i64 t457, .int .i64 t458, .int .i64 t459, .slice Ao14 t460.length co14] 31 (0, 0)) (sk BK465) NB465_456.out (by simp)); replace HB := am hb; replace HI456 := am hi; (try clear hb); (try clear hb2); (try clear hk); (try clear hi)))
 replace HO462 := am (Kd.S_drew HO462.out)
 replace BK452 := am (blk_drew BK452.out)
 replace BK465 := am (blk_drew BK465.out)
 replace HI456 := am (IsS152.drew HI456.out)
 replace HB := am (below_drew1 HB.out)
 refine start_ (n := 9) (S := fun w' => w'.cell? ⟨gb465, 0, none⟩ = some (.int .i64 t457) ∧ w'.cell? ⟨gb465, 1, none⟩ = some (.int .i64 t458) ∧ w'.cell? ⟨gb465, 2, none⟩ = some (.int .i64 t459) ∧ w'.cell? ⟨gb465, 3, none⟩ = some (.slice Ao14 t460.length co14)) (ds := []) #[false, false, false, false, false, false, false, false, false] (by kernel_rfl) rfl rfl ⟨bc0 BK465, bc1 BK465, bc2 BK465, bc3 BK465⟩ (fun hHeld => ?_); refine with_tabW spec_DrawMayUse.tab5 spec_DrawMayUse.bits5 (fun HT_ HW_ => ?_)
 generalize w16.drew = w17 at HO462 BK452 BK465 HI456 HB hHeld ⊢
 refine put 1 19 (bt 9 2) HT_ ?_
 refine put 2 20 (bt 9 6) HT_ ?_
 refine put 3 21 (bt 9 14) HT_ ?_
 refine tat4 0 18 (bt 9 15) HT_ HW_ hHeld ?_
 refine one_ (i := 4) (N := some 22) (bt 9 31) rfl rfl (one_of HT_.out (by kernel_rfl)) (by decide) (fun K hK => ?_)
 refine goes_ Try.func89 (by kernel_rfl) rfl #[.pointer (some ⟨g456, 0, none⟩)] (by rfl) rfl rfl sl ?_
 with_reducible refine (spec_l4Raw.calls g456 t453 t470 t471 t472 t473 t474 w _ ?side1 ?side2 A6.out).mono ?_
 (case side1 => repeat (first | (with_reducible first | exact HI456.out | apply IsS152.alloc | apply IsS152.drewN | apply IsS152.drew | apply IsS152.set_1 | apply IsS152.set_2 | refine IsS152.far ?_ NB456_452.out _ | refine IsS152.far ?_ NB456_465.out _) | exact HI456.out))
 (case side2 => repeat (first | (with_reducible first | exact HB.out | apply below_alloc | apply pw_below_drewN | apply below_drew1 | refine below_set ?_ (IsS152.ge HI456.out) | refine below_set ?_ GE452.out | refine below_set ?_ GE465.out) | exact HB.out))
 rintro e w18 ⟨rfl, hi, hb, hk⟩
 refine ⟨_, rfl, ?_⟩
 replace BK452 := am (KeepBut.blk hk (g' := gb452) (o := .cells #[.int .i64 0, .int .i64 0, .int .i64 0, .slice none 0 0] 31 (0, 0)) (sk BK452) NB452_456.out (by simp))
 replace HO462 := am (Kd.S_mono (Kd.S_keep (IsS152.apartS (show IsS152 w _ g456 t453 t470 t471 from by repeat (first | (with_reducible first | exact HI456.out | apply IsS152.alloc | apply IsS152.drewN | apply IsS152.drew | apply IsS152.set_1 | apply IsS152.set_2 | refine IsS152.far ?_ NB456_452.out _ | refine IsS152.far ?_ NB456_465.out _) | exact HI456.out)) (ss HO462) (by decide)) hk (fun _ h => h.2)) (fun _ h => h.1))
 replace BK465 := am (KeepBut.blk hk (g' := gb465) (o := .cells #[.int .i64 t457, .int .i64 t458, .int .i64 t459, .slice Ao14 t460.length co14] 31 (0, 0)) (sk BK465) NB465_456.out (by simp))
 replace HB := am hb
 replace HI456 := am hi
 (try clear hb)
 (try clear hb2)
 (try clear hk)
 (try clear hi)
 refine hK.out _ _ ⟨bc0 BK465, bc1 BK465, bc2 BK465, bc3 BK465⟩ (fun hHeld => ?_)
 clear hK K
 refine nm 22 ?_
 refine one_ (i := 5) (N := none) (bt 9 63) rfl rfl (one_of HT_.out (by kernel_rfl)) (by decide) (fun K hK => ?_)
 obtain ⟨hs19, hfs19⟩ := cc1 BK452
 have hns19_1 := NB465_452.out
 have hms19_1 := NB452_465.out
 have hs20 := bc1 BK452
 have hfs20 := bf BK452 1
 have hns20_1 := NB465_452.out
 have hms20_1 := NB452_465.out
 have hs21 := bc2 BK452
 have hfs21 := bf BK452 2
 have hns21_1 := NB465_452.out
 have hms21_1 := NB452_465.out
 have hs22 := bc3 BK452
 have hfs22 := bf BK452 3
 have hns22_1 := NB465_452.out
 have hms22_1 := NB452_465.out
 refine skip_ (w1 := ?_) (by rfl) rfl ?_ ?_
 rotate_left
 ·go_simp
  rfl
 refine hK.out _ _ ⟨((cell_far (p := ⟨gb452, _, none⟩) NB465_452.out _).trans (((cell_far (p := ⟨gb452, _, none⟩) NB465_452.out _).trans (((cell_far (p := ⟨gb452, _, none⟩) NB465_452.out _).trans (((cell_far (p := ⟨gb452, _, none⟩) NB465_452.out _).trans (hHeld.1)))))))), ((cell_far (p := ⟨gb452, _, none⟩) NB465_452.out _).trans (((cell_far (p := ⟨gb452, _, none⟩) NB465_452.out _).trans (((cell_far (p := ⟨gb452, _, none⟩) NB465_452.out _).trans (((cell_far (p := ⟨gb452, _, none⟩) NB465_452.out _).trans (hHeld.2.1)))))))), ((cell_far (p := ⟨gb452, _, none⟩) NB465_452.out _).trans (((cell_far (p := ⟨gb452, _, none⟩) NB465_452.out _).trans (((cell_far (p := ⟨gb452, _, none⟩) NB465_452.out _).trans (((cell_far (p := ⟨gb452, _, none⟩) NB465_452.out _).trans (hHeld.2.2.1)))))))), ((cell_far (p := ⟨gb452, _, none⟩) NB465_452.out _).trans (((cell_far (p := ⟨gb452, _, none⟩) NB465_452.out _).trans (((cell_far (p := ⟨gb452, _, none⟩) NB465_452.out _).trans (((cell_far (p := ⟨gb452, _, none⟩) NB465_452.out _).trans (hHeld.2.2.2))))))))⟩ (fun hHeld => ?_)
 clear hK K
 refine put 6 3 (bt 9 127) HT_ ?_
 refine put 7 4 (bt 9 255) HT_ ?_
 refine put 8 5 (bt 9 511) HT_ ?_
 refine done_ (done_of HT_.out (by kernel_rfl)) ?_
 try go_wp2
 refine bodyPost_ret (results_list (rs := [.cell 2 31, .tmp 3, .tmp 4, .tmp 5]) rfl (by simp) (.cell gb452 31 #[.int .i64 t457, .int .i64 t458, .int .i64 t459, .slice Ao14 t460.length co14] (0, 0) _ rfl (sp BK452) Try.underlying31 rfl (by kernel_rfl) (.tmp (.tmp (.tmp .nil))))) rfl ?_
 exact ⟨_, se, by (with_reducible repeat (first | apply Kd.S_alloc | apply Kd.S_drewN | apply Kd.S_drew)); exact Kd.S_mono (Kd.S_far (p := ⟨gb452, 3, none⟩) (Kd.S_far (p := ⟨gb452, 2, none⟩) (Kd.S_far (p := ⟨gb452, 1, none⟩) (Kd.S_far (p := ⟨gb452, 0, none⟩) (Kd.S_types HO462.out BK452.out (by decide)) (fun _ hk => hk.2) (.int .i64 t457)) (fun _ hk => hk.2) (.int .i64 t458)) (fun _ hk => hk.2) (.int .i64 t459)) (fun _ hk => hk.2) (.slice Ao14 t460.length co14)) (fun _ hk => trivial), by repeat (first | (with_reducible first | exact HB.out | apply below_alloc | apply pw_below_drewN | apply below_drew1 | refine below_set ?_ (IsS152.ge HI456.out) | refine below_set ?_ GE452.out | refine below_set ?_ GE465.out) | exact HB.out)⟩

-- NOT PRINTED: function 104 (impl_Piece)

def impl_IsSpan.f (a0_0 : Int) (a0_1 : Int) : Option (Bool) := if a0_0 ≥ 0 then (if a0_1 ≤ 1000 then (some (decide (a0_0 < a0_1))) else (some false)) else (some false)
theorem impl_IsSpan.calls (a0_0 : Int) (a0_1 : Int) (r : Bool) (w : World) (h : impl_IsSpan.f a0_0 a0_1 = some r) :
    Calls Try.prog 79 #[.agg #[.int .i64 a0_0, .int .i64 a0_1]] w fun e w' => e = .returned (.bool r) ∧ Below w.heap.size w w' := by
 have hu102 := Try.underlying102
 have HB := am (Below.refl w.heap.size w)
 have H : (if a0_0 ≥ 0 then (if a0_1 ≤ 1000 then (some (decide (a0_0 < a0_1))) else (some false)) else (some false)) = some r := h
 clear h
 obtain ⟨c2, H⟩ | ⟨c2, H⟩ := ie_ H
 ·have c2b0 := decide_eq_true c2
  clear c2
  obtain ⟨c3, H⟩ | ⟨c3, H⟩ := ie_ H
  ·have c3b0 := decide_eq_true c3
   clear c3
   obtain rfl := Option.some.inj H
   go_enter Try.func79, Try.ntmps79
   go_wp2_with (first | ((with_reducible refine gd 1 rfl ?_); refine bx 1 #[.int .i64 a0_0, .int .i64 a0_1] 102 ?_; intro gb475 hg w4 hbox hb; have GW475 := bz w hg; have GE475 := bz w hg; replace HB := bs hb; have BK475 := am hbox; clear hb hbox hg; obtain ⟨hcz5_0, hcz5_1, hfz5_0, hfz5_1⟩ := cc2 BK475))
   go_ret
   exact ⟨se, sbw⟩
  ·have c3b0 := decide_eq_false c3
   clear c3
   obtain rfl := Option.some.inj H
   go_enter Try.func79, Try.ntmps79
   go_wp2_with (first | ((with_reducible refine gd 1 rfl ?_); refine bx 1 #[.int .i64 a0_0, .int .i64 a0_1] 102 ?_; intro gb475 hg w6 hbox hb; have GW475 := bz w hg; have GE475 := bz w hg; replace HB := bs hb; have BK475 := am hbox; clear hb hbox hg; obtain ⟨hcz7_0, hcz7_1, hfz7_0, hfz7_1⟩ := cc2 BK475))
   go_ret
   exact ⟨se, sbw⟩
 ·have c2b0 := decide_eq_false c2
  clear c2
  obtain rfl := Option.some.inj H
  go_enter Try.func79, Try.ntmps79
  go_wp2_with (first | ((with_reducible refine gd 1 rfl ?_); refine bx 1 #[.int .i64 a0_0, .int .i64 a0_1] 102 ?_; intro gb475 hg w8 hbox hb; have GW475 := bz w hg; have GE475 := bz w hg; replace HB := bs hb; have BK475 := am hbox; clear hb hbox hg; obtain ⟨hcz9_0, hcz9_1, hfz9_0, hfz9_1⟩ := cc2 BK475))
  go_ret
  exact ⟨se, sbw⟩

def impl_InSpan.f (a0_0 : Int) (a0_1 : Int) (a1 : Int) : Option (Bool) := (impl_IsSpan.f a0_0 a0_1).bind fun t477 => (if t477 = true then (if a0_0 ≤ a1 then (some (decide (a1 < a0_1))) else (some false)) else (some false))
theorem impl_InSpan.calls (a0_0 : Int) (a0_1 : Int) (a1 : Int) (r : Bool) (w : World) (h : impl_InSpan.f a0_0 a0_1 a1 = some r) :
    Calls Try.prog 93 #[.agg #[.int .i64 a0_0, .int .i64 a0_1], .int .i64 a1] w fun e w' => e = .returned (.bool r) ∧ Below w.heap.size w w' := by
 have hu102 := Try.underlying102
 have HB := am (Below.refl w.heap.size w)
 have H : ((impl_IsSpan.f a0_0 a0_1).bind fun t477 => (if t477 = true then (if a0_0 ≤ a1 then (some (decide (a1 < a0_1))) else (some false)) else (some false))) = some r := h
 clear h
 obtain ⟨t477, A3, H⟩ := bnd H
 obtain rfl | rfl := tt t477
 ·replace H := ip H
  obtain ⟨c5, H⟩ | ⟨c5, H⟩ := ie_ H
  ·have c5b0 := decide_eq_true c5
   clear c5
   obtain rfl := Option.some.inj H
   go_enter Try.func93, Try.ntmps93
   go_wp2_with (first | ((with_reducible refine gd 2 rfl ?_); refine bx 2 #[.int .i64 a0_0, .int .i64 a0_1] 102 ?_; intro gb476 hg w6 hbox hb; have GW476 := bz w hg; have GE476 := bz w hg; replace HB := bs hb; have BK476 := am hbox; clear hb hbox hg; obtain ⟨hcz7_0, hcz7_1, hfz7_0, hfz7_1⟩ := cc2 BK476) | ((with_reducible refine gc 79 rfl ?_); refine gL (some 6) Try.func79 #[.agg #[.int .i64 a0_0, .int .i64 a0_1]] ?_; (with_reducible refine (impl_IsSpan.calls a0_0 a0_1 true _ A3.out).mono ?_); rintro e w8 ⟨rfl, hb⟩; refine ⟨_, rfl, ?_⟩; replace BK476 := bb BK476 hb; replace HB := bsw hb; (try clear hb); (try clear hb2); (try clear hk); (try clear hi); obtain ⟨hcz9_0, hcz9_1, hfz9_0, hfz9_1⟩ := cc2 BK476))
   go_ret
   exact ⟨se, sbw⟩
  ·have c5b0 := decide_eq_false c5
   clear c5
   obtain rfl := Option.some.inj H
   go_enter Try.func93, Try.ntmps93
   go_wp2_with (first | ((with_reducible refine gd 2 rfl ?_); refine bx 2 #[.int .i64 a0_0, .int .i64 a0_1] 102 ?_; intro gb476 hg w10 hbox hb; have GW476 := bz w hg; have GE476 := bz w hg; replace HB := bs hb; have BK476 := am hbox; clear hb hbox hg; obtain ⟨hcz11_0, hcz11_1, hfz11_0, hfz11_1⟩ := cc2 BK476) | ((with_reducible refine gc 79 rfl ?_); refine gL (some 6) Try.func79 #[.agg #[.int .i64 a0_0, .int .i64 a0_1]] ?_; (with_reducible refine (impl_IsSpan.calls a0_0 a0_1 true _ A3.out).mono ?_); rintro e w12 ⟨rfl, hb⟩; refine ⟨_, rfl, ?_⟩; replace BK476 := bb BK476 hb; replace HB := bsw hb; (try clear hb); (try clear hb2); (try clear hk); (try clear hi); obtain ⟨hcz13_0, hcz13_1, hfz13_0, hfz13_1⟩ := cc2 BK476))
   go_ret
   exact ⟨se, sbw⟩
 ·replace H := im H
  obtain rfl := Option.some.inj H
  go_enter Try.func93, Try.ntmps93
  go_wp2_with (first | ((with_reducible refine gd 2 rfl ?_); refine bx 2 #[.int .i64 a0_0, .int .i64 a0_1] 102 ?_; intro gb476 hg w14 hbox hb; have GW476 := bz w hg; have GE476 := bz w hg; replace HB := bs hb; have BK476 := am hbox; clear hb hbox hg; obtain ⟨hcz15_0, hcz15_1, hfz15_0, hfz15_1⟩ := cc2 BK476) | ((with_reducible refine gc 79 rfl ?_); refine gL (some 6) Try.func79 #[.agg #[.int .i64 a0_0, .int .i64 a0_1]] ?_; (with_reducible refine (impl_IsSpan.calls a0_0 a0_1 false _ A3.out).mono ?_); rintro e w16 ⟨rfl, hb⟩; refine ⟨_, rfl, ?_⟩; replace BK476 := bb BK476 hb; replace HB := bsw hb; (try clear hb); (try clear hb2); (try clear hk); (try clear hi)))
  go_ret
  exact ⟨se, sbw⟩

-- NOT PRINTED: function 105 (impl_PieceAt_1)

def impl_PieceAt.hit (x : S105) (t : Int) : Bool := impl_InSpan.f x.f0.f0 x.f0.f1 t == some true
def impl_PieceAt.go (t : Int) : List S105 → Nat → Int
  | [], _ => -1
  | x :: xs, i => if impl_PieceAt.hit x t = true then (i : Int) else impl_PieceAt.go t xs (i + 1)
def impl_PieceAt.f (a0_0 : Int) (a0_1 : Int) (a0_2 : Int) (l0_3 : List (S105)) (a1 : Int) : Option (Int) := if l0_3.length ≤ 4611686018427387904 then some (impl_PieceAt.go a1 l0_3 0) else none
theorem impl_PieceAt.tot (a b t : Int) : ∃ q, impl_InSpan.f a b t = some q := by
  have h : ∃ q, impl_IsSpan.f a b = some q := by
    unfold impl_IsSpan.f
    repeat' split
    all_goals exact ⟨_, rfl⟩
  obtain ⟨q, hq⟩ := h
  unfold impl_InSpan.f
  rw [hq, Option.bind_some]
  repeat' split
  all_goals exact ⟨_, rfl⟩
theorem impl_PieceAt.lit (x : S105) (A2 A3 : Option Addr) (n2 c2 n3 c3 : Nat) (t : Int) (gb : Nat) (W : World) (hc : W.cell? ⟨gb, 0, none⟩ = some (.int .i64 t)) :
    Calls Try.prog 105 #[.agg #[.int .i64 x.f0.f0, .int .i64 x.f0.f1, .slice A2 n2 c2, .slice A3 n3 c3], .pointer (some ⟨gb, 0, none⟩)] W fun e w' => e = .returned (.bool (impl_PieceAt.hit x t)) ∧ Below W.heap.size W w' := by
  have hu := Try.underlying105
  have hus := Try.underlying102
  obtain ⟨q, hq⟩ := impl_PieceAt.tot x.f0.f0 x.f0.f1 t
  rw [show impl_PieceAt.hit x t = q from by unfold impl_PieceAt.hit; rw [hq]; cases q <;> rfl]
  have hlt := World.block_lt_of_cell? W _ hc
  go_enter Try.func105, Try.ntmps105
  go_wp2_with (first | ((with_reducible refine gd 2 rfl ?_); refine box_event ?hg (N := 2) ?hd (cs := #[.int .i64 x.f0.f0, .int .i64 x.f0.f1, .slice A2 n2 c2, .slice A3 n3 c3]) (t := 105) ?hr ?_; (case hd => rfl); (case hg => rfl); (case hr => first | (go_simp; done) | (go_simp; rfl)); intro gbx hg w3 hbox hb3; subst hg; have hc3 : w3.cell? ⟨gb, 0, none⟩ = some (.int .i64 t) := (hb3.cell hlt).trans hc; have hx0 : w3.cell? ⟨W.heap.size, 0, none⟩ = some (.int .i64 x.f0.f0) := (blk_cell hbox 0).trans rfl; have hx1 : w3.cell? ⟨W.heap.size, 1, none⟩ = some (.int .i64 x.f0.f1) := (blk_cell hbox 1).trans rfl) | (go_at_call 93; refine (impl_InSpan.calls x.f0.f0 x.f0.f1 t q _ hq).mono ?_; rintro e w' ⟨rfl, hb⟩))
  go_ret
  exact ⟨rfl, below_step hb3 hb⟩
theorem impl_PieceAt.idx (A0 : Option Addr) (c0 : Nat) (l : List S105) (t : Int) (gb : Nat) (w : World) (hr : Kd.C k105 w A0 l.length l) (hm : l.length ≤ 4611686018427387904) (hc : w.cell? ⟨gb, 0, none⟩ = some (.int .i64 t)) :
    Calls Try.prog 104 #[.slice A0 l.length c0, .func (.func 105) #[] #[.pointer (some ⟨gb, 0, none⟩)]] w fun e w' => e = .returned (.int .i64 (impl_PieceAt.go t l 0)) ∧ Below w.heap.size w w' := by
  have hu := Try.underlying105
  have hlt := World.block_lt_of_cell? w _ hc
  go_enter Try.func104, Try.ntmps104
  go_wp2
  go_loopg [5, 8] l.length (fun gg _ s8 wr => ∃ i : Int, 0 ≤ i ∧ i ≤ (l.length : Int) ∧ (l.length : Int) - i ≤ gg ∧ s8 = .int .i64 i ∧ Aside0 (Below w.heap.size w wr) ∧ Aside0 (impl_PieceAt.go t (l.drop i.toNat) i.toNat = impl_PieceAt.go t l 0))
  case atStart => exact ⟨0, by omega, by omega, by omega, rfl, ⟨Below.refl _ w⟩, ⟨rfl⟩⟩
  case round =>
    obtain ⟨i, hi0, hi1, hg, rfl, BW, HI⟩ := hrel
    by_cases hlt2 : i < (l.length : Int)
    · obtain ⟨ad, A2, c2, A3, c3, e0, hx0, hx1, hx2, hx3, _⟩ := at_T105 hr i hi0 hlt2
      cases e0
      replace hx0 := (BW.out.cell (World.block_lt_of_cell? w _ hx0)).trans hx0
      replace hx1 := (BW.out.cell (World.block_lt_of_cell? w _ hx1)).trans hx1
      replace hx2 := (BW.out.cell (World.block_lt_of_cell? w _ hx2)).trans hx2
      replace hx3 := (BW.out.cell (World.block_lt_of_cell? w _ hx3)).trans hx3
      have hc' : wr.cell? ⟨gb, 0, none⟩ = some (.int .i64 t) := (BW.out.cell hlt).trans hc
      have hcall := impl_PieceAt.lit (rd_T105 l i) A2 A3 (rd_T105 l i).f1.length c2 (rd_T105 l i).f2.length c3 t gb wr hc'
      have hd : l.drop i.toNat = rd_T105 l i :: l.drop (i.toNat + 1) := by
        have hlt3 : i.toNat < l.length := by omega
        rw [List.drop_eq_getElem_cons hlt3, show rd_T105 l i = l.getD i.toNat z105 from rfl, List.getD_eq_getElem?_getD, List.getElem?_eq_getElem hlt3]
        rfl
      cases hq : impl_PieceAt.hit (rd_T105 l i) t with
      | true =>
        rw [hq] at hcall
        go_wp2_with (go_at_call 105; refine hcall.mono ?_; rintro e w' ⟨rfl, hb'⟩)
        go_ret
        refine ⟨?_, below_step BW.out hb'⟩
        rw [← HI.out, hd, impl_PieceAt.go, if_pos hq, Int.toNat_of_nonneg hi0]
        rfl
      | false =>
        rw [hq] at hcall
        go_wp2_with (go_at_call 105; refine hcall.mono ?_; rintro e w' ⟨rfl, hb'⟩)
        go_roundg (l.length - (i.toNat + 1))
        case measure => omega
        case rel =>
          refine ⟨i + 1, by omega, by omega, by omega, by go_num, ⟨below_step BW.out hb'⟩, ⟨?_⟩⟩
          rw [← HI.out, hd, impl_PieceAt.go, if_neg (by rw [hq]; simp), show (i + 1).toNat = i.toNat + 1 by omega]
    · have : i = (l.length : Int) := by omega
      subst this
      go_wp2
      go_ret
      refine ⟨?_, BW.out⟩
      rw [← HI.out, Int.toNat_natCast, List.drop_length, impl_PieceAt.go]
      rfl
theorem impl_PieceAt.calls (a0_0 : Int) (a0_1 : Int) (a0_2 : Int) (A0_3 : Option Addr) (c0_3 : Nat) (l0_3 : List (S105)) (a1 : Int) (r : Int) (w : World) (hr0_3 : Kd.C k105 w A0_3 l0_3.length l0_3) (hc0_3 : l0_3.length ≤ c0_3) (h : impl_PieceAt.f a0_0 a0_1 a0_2 l0_3 a1 = some r) :
    Calls Try.prog 42 #[.agg #[.int .i64 a0_0, .int .i64 a0_1, .int .i64 a0_2, .slice A0_3 l0_3.length c0_3], .int .i64 a1] w fun e w' => e = .returned (.int .i64 r) ∧ Below w.heap.size w w' := by
 have hu := Try.underlying31
 unfold impl_PieceAt.f at h
 by_cases hm : l0_3.length ≤ 4611686018427387904
 rotate_left
 ·rw [if_neg hm] at h
  cases h
 rw [if_pos hm] at h
 obtain rfl := Option.some.inj h
 go_enter Try.func42, Try.ntmps42
 go_wp2_with (go_at_call 104; refine (impl_PieceAt.idx A0_3 c0_3 l0_3 a1 _ _ (Kd.C_alloc (Kd.C_alloc hr0_3 _) _) hm ?_).mono ?_; (case refine_1 => go_simp); rintro e w' ⟨rfl, hb⟩)
 go_ret
 exact ⟨rfl, below_step (below_alloc (below_alloc (Below.refl _ _) _) _) hb⟩

def impl_isIndex.f (a0 : Int) (a1 : Int) : Option (Bool) := if a0 ≥ 0 then (some (decide (a0 < a1))) else (some false)
theorem impl_isIndex.calls (a0 : Int) (a1 : Int) (r : Bool) (w : World) (h : impl_isIndex.f a0 a1 = some r) :
    Calls Try.prog 77 #[.int .i64 a0, .int .i64 a1] w fun e w' => e = .returned (.bool r) ∧ Drawn0 w w' := by
 have H : (if a0 ≥ 0 then (some (decide (a0 < a1))) else (some false)) = some r := h
 clear h
 obtain ⟨c3, H⟩ | ⟨c3, H⟩ := ie_ H
 ·have c3b0 := decide_eq_true c3
  clear c3
  obtain rfl := Option.some.inj H
  go_enter Try.func77, Try.ntmps77
  go_wp2
  go_ret
  exact ⟨sc, sd⟩
 ·have c3b0 := decide_eq_false c3
  clear c3
  obtain rfl := Option.some.inj H
  go_enter Try.func77, Try.ntmps77
  go_wp2
  go_ret
  exact ⟨sc, sd⟩

-- NOT PRINTED: function 160 (impl_Link_160)

-- NOT PRINTED: function 117 (impl_Link_117)

-- NOT PRINTED: function 118 (impl_HasLink_1)

def impl_HasLink.hit (x : S134) (a b : Int) : Bool := ((x.f0 == a) && (x.f1 == b)) || ((x.f0 == b) && (x.f1 == a))
theorem impl_HasLink.lit (x : S134) (a b : Int) (gb_a gb_b : Nat) (W : World) (hc_a : W.cell? ⟨gb_a, 0, none⟩ = some (.int .i64 a)) (hc_b : W.cell? ⟨gb_b, 0, none⟩ = some (.int .i64 b)) :
    Calls Try.prog 118 #[.agg #[.int .i64 x.f0, .int .i64 x.f1], .pointer (some ⟨gb_a, 0, none⟩), .pointer (some ⟨gb_b, 0, none⟩)] W fun e w' => e = .returned (.bool (impl_HasLink.hit x a b)) ∧ Below W.heap.size W w' := by
  have hu := Try.underlying134
  have hlt_a := World.block_lt_of_cell? W _ hc_a
  have hlt_b := World.block_lt_of_cell? W _ hc_b
  unfold impl_HasLink.hit
  cases h1 : (x.f0 == a) <;> cases h2 : (x.f1 == b) <;> cases h3 : (x.f0 == b) <;> cases h4 : (x.f1 == a)
  all_goals (
    go_enter Try.func118, Try.ntmps118
    go_wp2_with (first | ((with_reducible refine gd 3 rfl ?_); refine box_event ?hg (N := 3) ?hd (cs := #[.int .i64 x.f0, .int .i64 x.f1]) (t := 134) ?hr ?_; (case hd => rfl); (case hg => rfl); (case hr => first | (go_simp; done) | (go_simp; rfl)); intro gbx hg w3 hbox hb3; subst hg; have hc3_a : w3.cell? ⟨gb_a, 0, none⟩ = some (.int .i64 a) := (hb3.cell hlt_a).trans hc_a; have hc3_b : w3.cell? ⟨gb_b, 0, none⟩ = some (.int .i64 b) := (hb3.cell hlt_b).trans hc_b; have hx0 : w3.cell? ⟨W.heap.size, 0, none⟩ = some (.int .i64 x.f0) := (blk_cell hbox 0).trans rfl; have hx1 : w3.cell? ⟨W.heap.size, 1, none⟩ = some (.int .i64 x.f1) := (blk_cell hbox 1).trans rfl))
    go_ret
    refine ⟨?_, hb3⟩
    first | rfl | (simp_all; done) | (simp at *; simp_all))
def impl_HasLink.go (a : Int) (b : Int) : List S134 → Nat → Int
  | [], _ => -1
  | x :: xs, i => if impl_HasLink.hit x a b = true then (i : Int) else impl_HasLink.go a b xs (i + 1)
theorem impl_HasLink.idx (A0 : Option Addr) (c0 : Nat) (l : List S134) (a b : Int) (gb_a gb_b : Nat) (w : World) (hr : Kd.C k134 w A0 l.length l) (hm : l.length ≤ 4611686018427387904) (hc_a : w.cell? ⟨gb_a, 0, none⟩ = some (.int .i64 a)) (hc_b : w.cell? ⟨gb_b, 0, none⟩ = some (.int .i64 b)) :
    Calls Try.prog 160 #[.slice A0 l.length c0, .func (.func 118) #[] #[.pointer (some ⟨gb_a, 0, none⟩), .pointer (some ⟨gb_b, 0, none⟩)]] w fun e w' => e = .returned (.int .i64 (impl_HasLink.go a b l 0)) ∧ Below w.heap.size w w' := by
  have hu := Try.underlying134
  have hlt_a := World.block_lt_of_cell? w _ hc_a
  have hlt_b := World.block_lt_of_cell? w _ hc_b
  go_enter Try.func160, Try.ntmps160
  go_wp2
  go_loopg [5, 8] l.length (fun gg _ s8 wr => ∃ i : Int, 0 ≤ i ∧ i ≤ (l.length : Int) ∧ (l.length : Int) - i ≤ gg ∧ s8 = .int .i64 i ∧ Aside0 (Below w.heap.size w wr) ∧ Aside0 (impl_HasLink.go a b (l.drop i.toNat) i.toNat = impl_HasLink.go a b l 0))
  case atStart => exact ⟨0, by omega, by omega, by omega, rfl, ⟨Below.refl _ w⟩, ⟨rfl⟩⟩
  case round =>
    obtain ⟨i, hi0, hi1, hg, rfl, BW, HI⟩ := hrel
    by_cases hlt2 : i < (l.length : Int)
    · obtain ⟨ad, e0, hx0, hx1⟩ := at_T134 hr i hi0 hlt2
      cases e0
      replace hx0 := (BW.out.cell (World.block_lt_of_cell? w _ hx0)).trans hx0
      replace hx1 := (BW.out.cell (World.block_lt_of_cell? w _ hx1)).trans hx1
      have hc'_a : wr.cell? ⟨gb_a, 0, none⟩ = some (.int .i64 a) := (BW.out.cell hlt_a).trans hc_a
      have hc'_b : wr.cell? ⟨gb_b, 0, none⟩ = some (.int .i64 b) := (BW.out.cell hlt_b).trans hc_b
      have hcall := impl_HasLink.lit (rd_T134 l i) a b gb_a gb_b wr hc'_a hc'_b
      have hd : l.drop i.toNat = rd_T134 l i :: l.drop (i.toNat + 1) := by
        have hlt3 : i.toNat < l.length := by omega
        rw [List.drop_eq_getElem_cons hlt3, show rd_T134 l i = l.getD i.toNat z134 from rfl, List.getD_eq_getElem?_getD, List.getElem?_eq_getElem hlt3]
        rfl
      cases hq : impl_HasLink.hit (rd_T134 l i) a b with
      | true =>
        rw [hq] at hcall
        go_wp2_with (go_at_call 118; refine hcall.mono ?_; rintro e w' ⟨rfl, hb'⟩)
        go_ret
        refine ⟨?_, below_step BW.out hb'⟩
        rw [← HI.out, hd, impl_HasLink.go, if_pos hq, Int.toNat_of_nonneg hi0]
        rfl
      | false =>
        rw [hq] at hcall
        go_wp2_with (go_at_call 118; refine hcall.mono ?_; rintro e w' ⟨rfl, hb'⟩)
        go_roundg (l.length - (i.toNat + 1))
        case measure => omega
        case rel =>
          refine ⟨i + 1, by omega, by omega, by omega, by go_num, ⟨below_step BW.out hb'⟩, ⟨?_⟩⟩
          rw [← HI.out, hd, impl_HasLink.go, if_neg (by rw [hq]; simp), show (i + 1).toNat = i.toNat + 1 by omega]
    · have : i = (l.length : Int) := by omega
      subst this
      go_wp2
      go_ret
      refine ⟨?_, BW.out⟩
      rw [← HI.out, Int.toNat_natCast, List.drop_length, impl_HasLink.go]
      rfl
theorem impl_HasLink.has (A0 : Option Addr) (c0 : Nat) (l : List S134) (a b : Int) (gb_a gb_b : Nat) (w : World) (hr : Kd.C k134 w A0 l.length l) (hm : l.length ≤ 4611686018427387904) (hc_a : w.cell? ⟨gb_a, 0, none⟩ = some (.int .i64 a)) (hc_b : w.cell? ⟨gb_b, 0, none⟩ = some (.int .i64 b)) :
    Calls Try.prog 117 #[.slice A0 l.length c0, .func (.func 118) #[] #[.pointer (some ⟨gb_a, 0, none⟩), .pointer (some ⟨gb_b, 0, none⟩)]] w fun e w' => e = .returned (.bool (decide (impl_HasLink.go a b l 0 ≥ 0))) ∧ Below w.heap.size w w' := by
  obtain ⟨v, hv⟩ : ∃ v, impl_HasLink.go a b l 0 = v := ⟨_, rfl⟩
  rw [hv]
  go_enter Try.func117, Try.ntmps117
  go_wp2_with (go_at_call 160; refine (impl_HasLink.idx A0 c0 l a b gb_a gb_b _ hr hm hc_a hc_b).mono ?_; rintro e w' ⟨rfl, hb⟩; rw [hv])
  go_ret
  exact ⟨rfl, hb⟩
def impl_HasLink.f (a0_0 : Int) (a0_1 : Int) (a0_2 : Int) (l0_3 : List (S105)) (a1 : Int) (a2 : Int) (a3 : Int) : Option (Bool) := (impl_isIndex.f a1 (l0_3.length : Int)).bind fun q => if q = true then (if 0 ≤ a1 then (if a1 < (l0_3.length : Int) then (if (rd_T105 l0_3 a1).f1.length ≤ 4611686018427387904 then some (decide (impl_HasLink.go a2 a3 (rd_T105 l0_3 a1).f1 0 ≥ 0)) else none) else none) else none) else some false
theorem impl_HasLink.calls (a0_0 : Int) (a0_1 : Int) (a0_2 : Int) (A0_3 : Option Addr) (c0_3 : Nat) (l0_3 : List (S105)) (a1 : Int) (a2 : Int) (a3 : Int) (r : Bool) (w : World) (hr0_3 : Kd.C k105 w A0_3 l0_3.length l0_3) (hc0_3 : l0_3.length ≤ c0_3) (h : impl_HasLink.f a0_0 a0_1 a0_2 l0_3 a1 a2 a3 = some r) :
    Calls Try.prog 47 #[.agg #[.int .i64 a0_0, .int .i64 a0_1, .int .i64 a0_2, .slice A0_3 l0_3.length c0_3], .int .i64 a1, .int .i64 a2, .int .i64 a3] w fun e w' => e = .returned (.bool r) ∧ Below w.heap.size w w' := by
 have hu := Try.underlying31
 have hu2 := Try.underlying105
 unfold impl_HasLink.f at h
 obtain ⟨q, hq, h⟩ := Option.bind_eq_some_iff.mp h
 cases q with
 | false =>
  rw [if_neg (by decide)] at h
  obtain rfl := Option.some.inj h
  go_enter Try.func47, Try.ntmps47
  go_wp2_with (first | ((with_reducible refine gd 4 rfl ?_); refine box_event ?hg (N := 4) ?hd (cs := #[.int .i64 a0_0, .int .i64 a0_1, .int .i64 a0_2, .slice A0_3 l0_3.length c0_3]) (t := 31) ?hr ?_; (case hd => rfl); (case hg => rfl); (case hr => first | (go_simp; done) | (go_simp; rfl)); intro g4 hg4 w4 hbox4 hb4; subst hg4; have hp4 : w4.cell? ⟨w.heap.size, 3, none⟩ = some (.slice A0_3 l0_3.length c0_3) := (blk_cell hbox4 3).trans rfl; have lp4 := World.block_lt_of_cell? w4 _ hp4)  | ((with_reducible refine gd 6 rfl ?_); refine box_event ?hg (N := 6) ?hd (cs := #[.int .i64 a2]) (t := 3) ?hr ?_; (case hd => rfl); (case hg => rfl); (case hr => first | (go_simp; done) | (go_simp; rfl)); intro g6 hg6 w6 hbox6 hb6; subst hg6; have hp6 := (hb6.cell lp4).trans hp4; have lp6 := World.block_lt_of_cell? w6 _ hp6)  | ((with_reducible refine gd 7 rfl ?_); refine box_event ?hg (N := 7) ?hd (cs := #[.int .i64 a3]) (t := 3) ?hr ?_; (case hd => rfl); (case hg => rfl); (case hr => first | (go_simp; done) | (go_simp; rfl)); intro g7 hg7 w7 hbox7 hb7; subst hg7; have hp7 := (hb7.cell lp6).trans hp6)  | (go_at_call 77; refine (impl_isIndex.calls a1 (l0_3.length : Int) false _ hq).mono ?_; rintro e w8 ⟨rfl, hd8⟩; have hw8 : Below w.heap.size w w8 := below_step (below_step (below_step hb4 hb6) hb7) hd8.below))
  go_ret
  exact ⟨rfl, hw8⟩
 | true =>
  rw [if_pos rfl] at h
  by_cases c0 : 0 ≤ a1
  rotate_left
  ·rw [if_neg c0] at h
   cases h
  rw [if_pos c0] at h
  by_cases c1 : a1 < (l0_3.length : Int)
  rotate_left
  ·rw [if_neg c1] at h
   cases h
  rw [if_pos c1] at h
  by_cases c2 : (rd_T105 l0_3 a1).f1.length ≤ 4611686018427387904
  rotate_left
  ·rw [if_neg c2] at h
   cases h
  rw [if_pos c2] at h
  obtain rfl := Option.some.inj h
  obtain ⟨ad, A2, d2, A3, d3, e0, hx0, hx1, hx2, hx3, hl2, hi2, _⟩ := at_T105 hr0_3 a1 c0 c1
  cases e0
  go_enter Try.func47, Try.ntmps47
  go_wp2_with (first | ((with_reducible refine gd 4 rfl ?_); refine box_event ?hg (N := 4) ?hd (cs := #[.int .i64 a0_0, .int .i64 a0_1, .int .i64 a0_2, .slice (some ad) l0_3.length c0_3]) (t := 31) ?hr ?_; (case hd => rfl); (case hg => rfl); (case hr => first | (go_simp; done) | (go_simp; rfl)); intro g4 hg4 w4 hbox4 hb4; subst hg4; have hp4 : w4.cell? ⟨w.heap.size, 3, none⟩ = some (.slice (some ad) l0_3.length c0_3) := (blk_cell hbox4 3).trans rfl; have lp4 := World.block_lt_of_cell? w4 _ hp4)  | ((with_reducible refine gd 6 rfl ?_); refine box_event ?hg (N := 6) ?hd (cs := #[.int .i64 a2]) (t := 3) ?hr ?_; (case hd => rfl); (case hg => rfl); (case hr => first | (go_simp; done) | (go_simp; rfl)); intro g6 hg6 w6 hbox6 hb6; subst hg6; have hp6 := (hb6.cell lp4).trans hp4; have lp6 := World.block_lt_of_cell? w6 _ hp6; have ha6 : w6.cell? ⟨w4.heap.size, 0, none⟩ = some (.int .i64 a2) := (blk_cell hbox6 0).trans rfl; have la6 := World.block_lt_of_cell? w6 _ ha6)  | ((with_reducible refine gd 7 rfl ?_); refine box_event ?hg (N := 7) ?hd (cs := #[.int .i64 a3]) (t := 3) ?hr ?_; (case hd => rfl); (case hg => rfl); (case hr => first | (go_simp; done) | (go_simp; rfl)); intro g7 hg7 w7 hbox7 hb7; subst hg7; have hp7 := (hb7.cell lp6).trans hp6; have ha7 := (hb7.cell la6).trans ha6; have hb_7 : w7.cell? ⟨w6.heap.size, 0, none⟩ = some (.int .i64 a3) := (blk_cell hbox7 0).trans rfl)  | (go_at_call 77; refine (impl_isIndex.calls a1 (l0_3.length : Int) true _ hq).mono ?_; rintro e w8 ⟨rfl, hd8⟩; have hb8 := hd8.below; have hw8 : Below w.heap.size w w8 := below_step (below_step (below_step hb4 hb6) hb7) hb8; have hp8 := (hb8.cell (World.block_lt_of_cell? w7 _ hp7)).trans hp7; have ha8 := (hb8.cell (World.block_lt_of_cell? w7 _ ha7)).trans ha7; have hb_8 := (hb8.cell (World.block_lt_of_cell? w7 _ hb_7)).trans hb_7; have hL8 := (hw8.cell (World.block_lt_of_cell? w _ hx2)).trans hx2)  | (go_at_call 117; refine (impl_HasLink.has A2 d2 (rd_T105 l0_3 a1).f1 a2 a3 _ _ _ (Kd.C_below hi2 hw8) c2 ha8 hb_8).mono ?_; rintro e w9 ⟨rfl, hb9⟩))
  go_ret
  exact ⟨rfl, below_step hw8 hb9⟩

def impl_IsLinked.f (a0_0 : Int) (a0_1 : Int) (a0_2 : Int) (l0_3 : List (S105)) (a1 : Int) (a2 : Int) (a3 : Int) : Option (Bool) := (impl_PieceAt.f a0_0 a0_1 a0_2 l0_3 a3).bind fun t479 => ((impl_HasLink.f a0_0 a0_1 a0_2 l0_3 t479 a1 a2).bind fun t480 => (some t480))
def impl_IsLinked.T1 : Bool × List (List Nat × List Nat) := (true, [([], []), ([], []), ([], []), ([1, 2], [1, 2]), ([], []), ([], []), ([0, 3, 4, 5, 3], [0, 3, 4, 5]), ([6, 6, 0, 1, 2, 3, 4, 5, 6], [6])])
def impl_IsLinked.B1 : List Nat := [0, 0, 0, 6, 0, 0, 63, 127]
theorem impl_IsLinked.tab1 : rtab .any (opsOf Try.f32 1) = impl_IsLinked.T1 := by kernel_rfl
theorem impl_IsLinked.bits1 : waitsOk impl_IsLinked.T1.2 impl_IsLinked.B1 = true := by kernel_rfl
theorem impl_IsLinked.calls (a0_0 : Int) (a0_1 : Int) (a0_2 : Int) (A0_3 : Option Addr) (c0_3 : Nat) (l0_3 : List (S105)) (a1 : Int) (a2 : Int) (a3 : Int) (r : Bool) (w : World) (hr0_3 : Kd.C k105 w A0_3 l0_3.length l0_3) (hc0_3 : l0_3.length ≤ c0_3) (h : impl_IsLinked.f a0_0 a0_1 a0_2 l0_3 a1 a2 a3 = some r) :
    Calls Try.prog 32 #[.agg #[.int .i64 a0_0, .int .i64 a0_1, .int .i64 a0_2, .slice A0_3 l0_3.length c0_3], .int .i64 a1, .int .i64 a2, .int .i64 a3] w fun e w' => e = .returned (.bool r) ∧ Below w.heap.size w w' := by
 have hu31 := Try.underlying31
 have HR0_3 := am hr0_3
 have HC0_3 := am hc0_3
 clear hr0_3 hc0_3
 have HB := am (Below.refl w.heap.size w)
 have H : ((impl_PieceAt.f a0_0 a0_1 a0_2 l0_3 a3).bind fun t479 => ((impl_HasLink.f a0_0 a0_1 a0_2 l0_3 t479 a1 a2).bind fun t480 => (some t480))) = some r := h
 clear h
 obtain ⟨t479, A5, H⟩ := bnd H
 obtain ⟨t480, A6, H⟩ := bnd H
 obtain rfl := Option.some.inj H
 go_enter Try.func32, Try.ntmps32
 try go_wp2_with (first | ((with_reducible refine gd 4 rfl ?_); refine bx 4 #[.int .i64 a0_0, .int .i64 a0_1, .int .i64 a0_2, .slice A0_3 l0_3.length c0_3] 31 ?_; intro gb478 hg w7 hbox hb; have GW478 := bz w hg; have GE478 := bz w hg; replace HB := bs hb; have BK478 := am hbox; clear hb hbox hg))
 replace BK478 := am (blk_drew BK478.out)
 replace HB := am (below_drew1 HB.out)
 refine start_ (n := 8) (S := fun w' => w'.cell? ⟨gb478, 0, none⟩ = some (.int .i64 a0_0) ∧ w'.cell? ⟨gb478, 1, none⟩ = some (.int .i64 a0_1) ∧ w'.cell? ⟨gb478, 2, none⟩ = some (.int .i64 a0_2) ∧ w'.cell? ⟨gb478, 3, none⟩ = some (.slice A0_3 l0_3.length c0_3)) (ds := []) #[false, false, false, false, false, false, false, false] (by kernel_rfl) rfl rfl ⟨bc0 BK478, bc1 BK478, bc2 BK478, bc3 BK478⟩ (fun hHeld => ?_); refine with_tabW impl_IsLinked.tab1 impl_IsLinked.bits1 (fun HT_ HW_ => ?_)
 generalize w7.drew = w8 at BK478 HB hHeld ⊢
 refine put 2 11 (bt 8 4) HT_ ?_
 refine put 4 13 (bt 8 20) HT_ ?_
 refine put 5 14 (bt 8 52) HT_ ?_
 refine tat4 0 9 (bt 8 53) HT_ HW_ hHeld ?_
 refine tat4 1 10 (bt 8 55) HT_ HW_ hHeld ?_
 refine one_ (i := 3) (N := some 12) (bt 8 63) rfl rfl (one_of HT_.out (by kernel_rfl)) (by decide) (fun K hK => ?_)
 refine goes_ Try.func42 (by kernel_rfl) rfl #[.agg #[.int .i64 a0_0, .int .i64 a0_1, .int .i64 a0_2, .slice A0_3 l0_3.length c0_3], .int .i64 a3] (by rfl) rfl rfl sl ?_
 with_reducible refine (impl_PieceAt.calls a0_0 a0_1 a0_2 _ _ l0_3 a3 t479 _ ?side1 ?side2 A5.out).mono ?_
 (case side1 => exact cb HR0_3)
 (case side2 => exact HC0_3.out)
 rintro e w9 ⟨rfl, hb⟩
 refine ⟨_, rfl, ?_⟩
 replace BK478 := bb BK478 hb
 replace HB := bsw hb
 (try clear hb)
 (try clear hb2)
 (try clear hk)
 (try clear hi)
 refine hK.out _ _ ⟨bc0 BK478, bc1 BK478, bc2 BK478, bc3 BK478⟩ (fun hHeld => ?_)
 clear hK K
 refine nm 12 ?_
 refine one_ (i := 6) (N := some 15) (bt 8 127) rfl rfl (one_of HT_.out (by kernel_rfl)) (by decide) (fun K hK => ?_)
 refine goes_ Try.func47 (by kernel_rfl) rfl #[.agg #[.int .i64 a0_0, .int .i64 a0_1, .int .i64 a0_2, .slice A0_3 l0_3.length c0_3], .int .i64 t479, .int .i64 a1, .int .i64 a2] (by rfl) rfl rfl sl ?_
 with_reducible refine (impl_HasLink.calls a0_0 a0_1 a0_2 _ _ l0_3 t479 a1 a2 t480 _ ?side1 ?side2 A6.out).mono ?_
 (case side1 => exact cb HR0_3)
 (case side2 => exact HC0_3.out)
 rintro e w10 ⟨rfl, hb⟩
 refine ⟨_, rfl, ?_⟩
 replace BK478 := bb BK478 hb
 replace HB := bsw hb
 (try clear hb)
 (try clear hb2)
 (try clear hk)
 (try clear hi)
 refine hK.out _ _ ⟨bc0 BK478, bc1 BK478, bc2 BK478, bc3 BK478⟩ (fun hHeld => ?_)
 clear hK K
 refine nm 15 ?_
 refine put 7 8 (bt 8 255) HT_ ?_
 refine done_ (done_of HT_.out (by kernel_rfl)) ?_
 try go_wp2
 go_ret
 exact ⟨se, sbw⟩

def impl_InRange.f (a0 : Int) (a1 : Int) (a2 : Int) : Option (Bool) := if a1 ≤ a0 then (some (decide (a0 ≤ a2))) else (some false)
theorem impl_InRange.calls (a0 : Int) (a1 : Int) (a2 : Int) (r : Bool) (w : World) (h : impl_InRange.f a0 a1 a2 = some r) :
    Calls Try.prog 95 #[.int .i64 a0, .int .i64 a1, .int .i64 a2] w fun e w' => e = .returned (.bool r) ∧ Drawn0 w w' := by
 have H : (if a1 ≤ a0 then (some (decide (a0 ≤ a2))) else (some false)) = some r := h
 clear h
 obtain ⟨c4, H⟩ | ⟨c4, H⟩ := ie_ H
 ·have c4b0 := decide_eq_true c4
  clear c4
  obtain rfl := Option.some.inj H
  go_enter Try.func95, Try.ntmps95
  go_wp2
  go_ret
  exact ⟨sc, sd⟩
 ·have c4b0 := decide_eq_false c4
  clear c4
  obtain rfl := Option.some.inj H
  go_enter Try.func95, Try.ntmps95
  go_wp2
  go_ret
  exact ⟨sc, sd⟩

def impl_isSkewed.f (a0_0 : Int) (a0_1 : Int) (a0_2 : Int) (l0_3 : List (S105)) (a1 : Int) : Option (Bool) := (impl_InRange.f a0_2 0 5).bind fun t482 => (if t482 = true then ((impl_InRange.f a1 0 1000).bind fun t483 => (some t483)) else (some false))
theorem impl_isSkewed.calls (a0_0 : Int) (a0_1 : Int) (a0_2 : Int) (A0_3 : Option Addr) (c0_3 : Nat) (l0_3 : List (S105)) (a1 : Int) (r : Bool) (w : World) (hr0_3 : Kd.C k105 w A0_3 l0_3.length l0_3) (hc0_3 : l0_3.length ≤ c0_3) (h : impl_isSkewed.f a0_0 a0_1 a0_2 l0_3 a1 = some r) :
    Calls Try.prog 88 #[.agg #[.int .i64 a0_0, .int .i64 a0_1, .int .i64 a0_2, .slice A0_3 l0_3.length c0_3], .int .i64 a1] w fun e w' => e = .returned (.bool r) ∧ Below w.heap.size w w' := by
 have hu31 := Try.underlying31
 have HR0_3 := am hr0_3
 have HC0_3 := am hc0_3
 clear hr0_3 hc0_3
 have HB := am (Below.refl w.heap.size w)
 have H : ((impl_InRange.f a0_2 0 5).bind fun t482 => (if t482 = true then ((impl_InRange.f a1 0 1000).bind fun t483 => (some t483)) else (some false))) = some r := h
 clear h
 obtain ⟨t482, A3, H⟩ := bnd H
 obtain rfl | rfl := tt t482
 ·replace H := ip H
  obtain ⟨t483, A5, H⟩ := bnd H
  obtain rfl := Option.some.inj H
  go_enter Try.func88, Try.ntmps88
  go_wp2_with (first | ((with_reducible refine gd 2 rfl ?_); refine bx 2 #[.int .i64 a0_0, .int .i64 a0_1, .int .i64 a0_2, .slice A0_3 l0_3.length c0_3] 31 ?_; intro gb481 hg w6 hbox hb; have GW481 := bz w hg; have GE481 := bz w hg; replace HB := bs hb; have BK481 := am hbox; clear hb hbox hg; obtain ⟨hcz7_0, hcz7_1, hcz7_2, hcz7_3, hfz7_0, hfz7_1, hfz7_2, hfz7_3⟩ := cc4 BK481) | ((with_reducible refine gc 95 rfl ?_); refine gL (some 7) Try.func95 #[.int .i64 a0_2, .int .i64 0, .int .i64 5] ?_; (with_reducible refine (impl_InRange.calls a0_2 0 5 true _ A3.out).mono ?_); rintro e w' ⟨rfl, ⟨nd, rfl⟩⟩; refine ⟨_, rfl, ?_⟩) | (go_at_call 95; (with_reducible refine (impl_InRange.calls a1 0 1000 t483 _ A5.out).mono ?_); rintro e w' ⟨rfl, ⟨nd, rfl⟩⟩))
  go_ret
  exact ⟨se, sbw⟩
 ·replace H := im H
  obtain rfl := Option.some.inj H
  go_enter Try.func88, Try.ntmps88
  go_wp2_with (first | ((with_reducible refine gd 2 rfl ?_); refine bx 2 #[.int .i64 a0_0, .int .i64 a0_1, .int .i64 a0_2, .slice A0_3 l0_3.length c0_3] 31 ?_; intro gb481 hg w8 hbox hb; have GW481 := bz w hg; have GE481 := bz w hg; replace HB := bs hb; have BK481 := am hbox; clear hb hbox hg; obtain ⟨hcz9_0, hcz9_1, hcz9_2, hcz9_3, hfz9_0, hfz9_1, hfz9_2, hfz9_3⟩ := cc4 BK481) | ((with_reducible refine gc 95 rfl ?_); refine gL (some 7) Try.func95 #[.int .i64 a0_2, .int .i64 0, .int .i64 5] ?_; (with_reducible refine (impl_InRange.calls a0_2 0 5 false _ A3.out).mono ?_); rintro e w' ⟨rfl, ⟨nd, rfl⟩⟩; refine ⟨_, rfl, ?_⟩))
  go_ret
  exact ⟨se, sbw⟩

end Go.Proofs.Ytiihaabhjphaeaa.QFnMargins
