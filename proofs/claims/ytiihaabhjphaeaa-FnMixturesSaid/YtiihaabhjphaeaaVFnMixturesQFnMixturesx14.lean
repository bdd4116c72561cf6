/- What the Go functions of the law FnMixtures come to, as Lean functions, and that they do: by a program of the session, out of the kit's printer. Conditions: none. (squeezed). -/
import Derived.Test.YtiihaabhjphaeaaVFnMixturesSq
import Derived.Test.YtiihaabhjphaeaaVFnMixturesQFnMixturesx0
import Derived.Test.YtiihaabhjphaeaaVFnMixturesQFnMixturesx2
import Derived.Test.YtiihaabhjphaeaaVFnMixturesQFnMixturesx13
namespace Go.Proofs.Ytiihaabhjphaeaa.QFnMixtures
open Go.RowKit Go.Proofs.YtiihaabhjphaeaaW.PrintWords Go.Proofs.YtiihaabhjphaeaaW.PrintLast Go.Proofs.YtiihaabhjphaeaaW.PrintMore Go.Proofs.Ytiihaabhjphaeaa.Open Go.Proofs.Ytiihaabhjphaeaa.Sq
attribute [local go_sem] max2_int min2_int max_two min_two max_three min_three max_four min_four   -- for this text's walks alone
attribute [local go_sem] isSome_set
set_option linter.unusedVariables false
set_option linter.unusedSimpArgs false

/-! ### spec_l17Any: function 78 -/
def spec_l17Any.j0 : Nat → Int → List Int → Int → Int → Int → Int → Int → List (S105) → Option (Int × Int × Int × (List (S105)) × Int × Int)
  | 0, _, _, _, _, _, _, _, _ => none
  | k + 1, x4, x1000, x1001, x1002, x463000, x463001, x463002, x463003 => (spec_l1Below.f x1000 x1001 x1002 10).bind fun bt466 => (if bt466.1 = 0 then ((spec_l1Int.f x1000 bt466.2.1 bt466.2.2 (([(-1), 5, 6] : List Int))).bind fun bt472 => (some (x463000, x463001, bt472.1, x463003, bt472.2.1, bt472.2.2))) else (if bt466.1 = 1 then ((spec_l1Int.f x1000 bt466.2.1 bt466.2.2 (([(-1), 0, 5, 6] : List Int))).bind fun bt478 => (some (x463000, bt478.1, x463002, x463003, bt478.2.1, bt478.2.2))) else (if bt466.1 = 2 then (if 0 ≤ x4 then (if x4 ≤ (x463003.length : Int) then (some (x463000, x463001, x463002, (x463003.take (x4 : Int).toNat), bt466.2.1, bt466.2.2)) else (none)) else (none)) else (if bt466.1 = 3 then ((spec_l4Raw.f x1000 bt466.2.1 bt466.2.2).bind fun bt484 => (if 0 ≤ x4 then (if x4 < (x463003.length : Int) then (some (x463000, x463001, x463002, (x463003.set (x4 : Int).toNat (⟨(⟨(rd_T105 x463003 x4).f0.f0, bt484.1⟩ : S102), (rd_T105 x463003 x4).f1, (rd_T105 x463003 x4).f2⟩ : S105)), bt484.2.1, bt484.2.2)) else (none)) else (none))) else (if bt466.1 = 4 then (if 0 ≤ x4 then (if x4 < (x463003.length : Int) then (if ((rd_T105 x463003 x4).f1).length < 8796093022208 then (some (x463000, x463001, x463002, (x463003.set (x4 : Int).toNat (⟨(⟨(rd_T105 x463003 x4).f0.f0, (rd_T105 x463003 x4).f0.f1⟩ : S102), (((rd_T105 x463003 x4).f1) ++ [(⟨0, 1⟩ : S134)]), (rd_T105 x463003 x4).f2⟩ : S105)), bt466.2.1, bt466.2.2)) else (none)) else (none)) else (none)) else (some (x463000, x463001, x463002, x463003, bt466.2.1, bt466.2.2)))))))
def spec_l17Any.f (k : Nat) (s0_0 : List Int) (s0_1 : Int) (s0_2 : Int) : Option (Int × Int × Int × (List (S105)) × Int × Int) := (spec_l17Draw.f k s0_0 s0_1 s0_2).bind fun bt454 => (if (bt454.2.2.2.1.length : Int) > 0 then ((spec_l1Below.f s0_0 bt454.2.2.2.2.1 bt454.2.2.2.2.2 (bt454.2.2.2.1.length : Int)).bind fun bt463 => (spec_l17Any.j0 k bt463.1 s0_0 bt463.2.1 bt463.2.2 bt454.1 bt454.2.1 bt454.2.2.1 bt454.2.2.2.1)) else (spec_l17Any.j0 k 0 s0_0 bt454.2.2.2.2.1 bt454.2.2.2.2.2 bt454.1 bt454.2.1 bt454.2.2.1 bt454.2.2.2.1))
theorem spec_l17Any.mono_l : ∀ k, (∀ y0 y1 y2 y3 y4 y5 y6 y7, LeO (spec_l17Any.j0 k y0 y1 y2 y3 y4 y5 y6 y7) (spec_l17Any.j0 (k + 1) y0 y1 y2 y3 y4 y5 y6 y7))
  | 0 => fun _ _ _ _ _ _ _ _ r h => by simp [spec_l17Any.j0] at h
  | k + 1 => by
    have ih0 := spec_l17Any.mono_l k
    · intro y0 y1 y2 y3 y4 y5 y6 y7
      unfold spec_l17Any.j0
      have m0 := @spec_l17Draw.mono
      exact mo
theorem spec_l17Any.mono : ∀ a0 a1 a2 k, LeO (spec_l17Any.f k a0 a1 a2) (spec_l17Any.f (k + 1) a0 a1 a2) := by
  intro a0 a1 a2 k
  have ih0 := spec_l17Any.mono_l k
  unfold spec_l17Any.f
  have m0 := @spec_l17Draw.mono
  exact mo
def spec_l17Any.T13 : Bool × List (List Nat × List Nat) := (true, [([], []), ([0], [0]), ([], []), ([], []), ([3], [3]), ([1, 2, 0, 1, 2, 3, 4], [1, 2]), ([5, 0, 1, 2, 3, 4], [5]), ([6, 0, 1, 2, 3, 4], [6]), ([7, 4, 4, 0, 1, 2, 3, 4], [4, 7])])
def spec_l17Any.B13 : List Nat := [0, 1, 0, 0, 8, 31, 63, 127, 255]
theorem spec_l17Any.tab13 : rtab .any (opsOf Try.f78 13) = spec_l17Any.T13 := by kernel_rfl
theorem spec_l17Any.bits13 : waitsOk spec_l17Any.T13.2 spec_l17Any.B13 = true := by kernel_rfl
def spec_l17Any.T15 : Bool × List (List Nat × List Nat) := (true, [([], []), ([0], [0]), ([], []), ([], []), ([3], [3]), ([], []), ([4, 5], [4, 5]), ([6], [6]), ([7], [7]), ([], []), ([9], [9]), ([8, 10], [8, 10]), ([1, 2, 0, 1, 2, 3, 4, 5, 6, 7, 8, 9, 10, 11], [1, 2]), ([12, 0, 1, 2, 3, 4, 5, 6, 7, 8, 9, 10, 11], [12]), ([13, 11, 11, 0, 1, 2, 3, 4, 5, 6, 7, 8, 9, 10, 11], [11, 13])])
def spec_l17Any.B15 : List Nat := [0, 1, 0, 0, 8, 0, 56, 120, 248, 0, 512, 2040, 4095, 8191, 16383]
theorem spec_l17Any.tab15 : rtab .any (opsOf Try.f78 15) = spec_l17Any.T15 := by kernel_rfl
theorem spec_l17Any.bits15 : waitsOk spec_l17Any.T15.2 spec_l17Any.B15 = true := by kernel_rfl
set_option maxHeartbeats 8000000 in
set_option maxRecDepth 100000 in
theorem spec_l17Any.calls (k : Nat) (g : Nat) (s0_0 : List Int) (s0_1 : Int) (s0_2 : Int) (r1 : Int) (r2 : Int) (r3 : Int) (r4 : List (S105)) (r5 : Int) (r6 : Int) (w0 w : World) (hI : IsS152 w0 w g s0_0 s0_1 s0_2) (hB : Below w0.heap.size w0 w) (h : spec_l17Any.f k s0_0 s0_1 s0_2 = some (r1, r2, r3, r4, r5, r6)) :
    Calls Try.prog 78 #[.pointer (some ⟨g, 0, none⟩)] w fun e w' => ∃ v3_ : Value, e = .returned (.agg #[.int .i64 r1, .int .i64 r2, .int .i64 r3, v3_]) ∧ Kd.S k105 105 w' w.heap.size (fun _ => True) v3_ r4 ∧ IsS152 w0 w' g s0_0 r5 r6 ∧ Below w0.heap.size w0 w' ∧ KeepBut w w' g none := by
 have hu31 := Try.underlying31
 have hu134 := Try.underlying134
 have HI0 := Aside0.mk hI
 have HK := Aside0.mk (KeepBut.refl w g none)
 have HL := Aside0.mk hB.size
 clear hI
 have HW0 := Aside0.mk hB.size
 have HB := Aside0.mk hB
 clear hB
 have H : ((spec_l17Draw.f k s0_0 s0_1 s0_2).bind fun bt454 => (if (bt454.2.2.2.1.length : Int) > 0 then ((spec_l1Below.f s0_0 bt454.2.2.2.2.1 bt454.2.2.2.2.2 (bt454.2.2.2.1.length : Int)).bind fun bt463 => (spec_l17Any.j0 k bt463.1 s0_0 bt463.2.1 bt463.2.2 bt454.1 bt454.2.1 bt454.2.2.1 bt454.2.2.2.1)) else (spec_l17Any.j0 k 0 s0_0 bt454.2.2.2.2.1 bt454.2.2.2.2.2 bt454.1 bt454.2.1 bt454.2.2.1 bt454.2.2.2.1))) = some (r1, r2, r3, r4, r5, r6) := h
 clear h
 obtain ⟨⟨t454, t455, t456, t457, t460, t461⟩, A2, H⟩ := bnd H
 replace H : (if (t457.length : Int) > 0 then ((spec_l1Below.f s0_0 t460 t461 (t457.length : Int)).bind fun bt463 => (spec_l17Any.j0 k bt463.1 s0_0 bt463.2.1 bt463.2.2 t454 t455 t456 t457)) else (spec_l17Any.j0 k 0 s0_0 t460 t461 t454 t455 t456 t457)) = some (r1, r2, r3, r4, r5, r6) := H
 have HC3 := Aside0.mk H
 clear H
 go_enter Try.func78, Try.ntmps78
 go_upto_if 10 with (first | ((with_reducible refine gate_dst (N := 2) rfl ?_); refine box_event ?hg (N := 2) ?hd (cs := #[.int .i64 0, .int .i64 0, .int .i64 0, .slice none 0 0]) (t := 31) ?hr ?_; (case hd => rfl); (case hg => rfl); (case hr => first | (go_simp; done) | (go_simp; rfl)); intro gb453 hg w4 hbox hb; have n0_ := Aside0.mk (IsS152.below (by repeat (first | (with_reducible first | exact HI0.out | apply IsS152.alloc | apply IsS152.drewN | apply IsS152.drew | apply IsS152.set_1 | apply IsS152.set_2) | exact HI0.out)) hb); have n1_ := Aside0.mk (KeepBut.trans (by repeat (first | (with_reducible first | exact HK.out | apply KeepBut.set_ | apply keep_drewN | apply keep_drew | apply keep_alloc) | exact HK.out)) (KeepBut.of_below hb g none) (.inl rfl)); have n2_ := Aside0.mk (below_step (by repeat (first | (with_reducible first | exact HB.out | apply below_alloc | apply pw_below_drewN | apply below_drew1 | refine below_set ?_ (IsS152.ge HI0.out)) | exact HB.out)) hb); have n3_ := Aside0.mk (hbox); have n4_ := Aside0.mk ((by rw [hg]; exact (keep_size (w := w) (g := g) (row := none) (by repeat (first | (with_reducible first | exact HK.out | apply KeepBut.set_ | apply keep_drewN | apply keep_drew | apply keep_alloc) | exact HK.out))) : w.heap.size ≤ gb453)); have n5_ := Aside0.mk ((Nat.le_trans HW0.out (by rw [hg]; exact (keep_size (w := w) (g := g) (row := none) (by repeat (first | (with_reducible first | exact HK.out | apply KeepBut.set_ | apply keep_drewN | apply keep_drew | apply keep_alloc) | exact HK.out))) : w.heap.size ≤ gb453) : w0.heap.size ≤ gb453)); have n6_ := Aside0.mk ((by rw [hg]; exact Nat.ne_of_lt (IsS152.lt (show IsS152 w0 _ g s0_0 s0_1 s0_2 from by repeat (first | (with_reducible first | exact HI0.out | apply IsS152.alloc | apply IsS152.drewN | apply IsS152.drew | apply IsS152.set_1 | apply IsS152.set_2) | exact HI0.out))) : g ≠ gb453)); have n7_ := Aside0.mk ((by rw [hg]; exact Nat.ne_of_gt (IsS152.lt (show IsS152 w0 _ g s0_0 s0_1 s0_2 from by repeat (first | (with_reducible first | exact HI0.out | apply IsS152.alloc | apply IsS152.drewN | apply IsS152.drew | apply IsS152.set_1 | apply IsS152.set_2) | exact HI0.out))) : gb453 ≠ g)); clear HI0; clear HK; clear HB; have HI0 := n0_; have HK := n1_; have HB := n2_; have BK453 := n3_; have GW453 := n4_; have GE453 := n5_; have NB0_453 := n6_; have NB453_0 := n7_; clear n0_ n1_ n2_ n3_ n4_ n5_ n6_ n7_; clear hb hbox hg) | ((with_reducible refine gate_callee (f := 87) rfl ?_); refine goesL_ (some 6) rfl rfl Try.func87 (by kernel_rfl) rfl #[.pointer (some ⟨g, 0, none⟩)] rfl sl ?_; (with_reducible refine (spec_l17Draw.calls k g s0_0 s0_1 s0_2 t454 t455 t456 t457 t460 t461 w0 _ ?side1 ?side2 A2.out).mono ?_); (case side1 => repeat (first | (with_reducible first | exact HI0.out | apply IsS152.alloc | apply IsS152.drewN | apply IsS152.drew | apply IsS152.set_1 | apply IsS152.set_2 | refine IsS152.far ?_ NB0_453.out _) | exact HI0.out)); (case side2 => repeat (first | (with_reducible first | exact HB.out | apply below_alloc | apply pw_below_drewN | apply below_drew1 | refine below_set ?_ (IsS152.ge HI0.out) | refine below_set ?_ GE453.out) | exact HB.out)); rintro e w5 ⟨v458, rfl, ho0, hi, hb, hk⟩; refine ⟨_, rfl, ?_⟩; have n0_ := Aside0.mk (KeepBut.blk hk (g' := gb453) (o := .cells #[.int .i64 0, .int .i64 0, .int .i64 0, .slice none 0 0] 31 (0, 0)) (sk BK453) NB453_0.out (by simp)); have n1_ := Aside0.mk (Kd.S_lower ho0 (keep_size (w := w) (g := g) (row := none) (by repeat (first | (with_reducible first | exact HK.out | apply KeepBut.set_ | apply keep_drewN | apply keep_drew | apply keep_alloc | refine keep_far ?_ GW453.out _) | exact HK.out)))); have n2_ := Aside0.mk (KeepBut.trans (by repeat (first | (with_reducible first | exact HK.out | apply KeepBut.set_ | apply keep_drewN | apply keep_drew | apply keep_alloc | refine keep_far ?_ GW453.out _) | exact HK.out)) hk (.inl rfl)); have n3_ := Aside0.mk (hb); have n4_ := Aside0.mk (hi); clear BK453; clear HK; clear HB; clear HI0; have BK453 := n0_; have HO459 := n1_; have HK := n2_; have HB := n3_; have HI0 := n4_; clear n0_ n1_ n2_ n3_ n4_; (try clear hb); (try clear hb2); (try clear hk); (try clear hi); (try clear ho0)) | ((with_reducible refine gate_dst (N := 3) rfl ?_); refine box_event ?hg (N := 3) ?hd (cs := #[.int .i64 0, .int .i64 0, .int .i64 0, .slice none 0 0]) (t := 31) ?hr ?_; (case hd => rfl); (case hg => rfl); (case hr => first | (go_simp; done) | (go_simp; rfl)); intro gb462 hg w6 hbox hb; have n0_ := Aside0.mk (Kd.S_below (ss HO459) hb); have n1_ := Aside0.mk (IsS152.below (by repeat (first | (with_reducible first | exact HI0.out | apply IsS152.alloc | apply IsS152.drewN | apply IsS152.drew | apply IsS152.set_1 | apply IsS152.set_2 | refine IsS152.far ?_ NB0_453.out _) | exact HI0.out)) hb); have n2_ := Aside0.mk (blk_below (g := gb453) (o := .cells #[.int .i64 0, .int .i64 0, .int .i64 0, .slice none 0 0] 31 (0, 0)) (sk BK453) hb); have n3_ := Aside0.mk (KeepBut.trans (by repeat (first | (with_reducible first | exact HK.out | apply KeepBut.set_ | apply keep_drewN | apply keep_drew | apply keep_alloc | refine keep_far ?_ GW453.out _) | exact HK.out)) (KeepBut.of_below hb g none) (.inl rfl)); have n4_ := Aside0.mk (below_step (by repeat (first | (with_reducible first | exact HB.out | apply below_alloc | apply pw_below_drewN | apply below_drew1 | refine below_set ?_ (IsS152.ge HI0.out) | refine below_set ?_ GE453.out) | exact HB.out)) hb); have n5_ := Aside0.mk (hbox); have n6_ := Aside0.mk ((by rw [hg]; exact (keep_size (w := w) (g := g) (row := none) (by repeat (first | (with_reducible first | exact HK.out | apply KeepBut.set_ | apply keep_drewN | apply keep_drew | apply keep_alloc | refine keep_far ?_ GW453.out _) | exact HK.out))) : w.heap.size ≤ gb462)); have n7_ := Aside0.mk ((Nat.le_trans HW0.out (by rw [hg]; exact (keep_size (w := w) (g := g) (row := none) (by repeat (first | (with_reducible first | exact HK.out | apply KeepBut.set_ | apply keep_drewN | apply keep_drew | apply keep_alloc | refine keep_far ?_ GW453.out _) | exact HK.out))) : w.heap.size ≤ gb462) : w0.heap.size ≤ gb462)); have n8_ := Aside0.mk ((by rw [hg]; exact Nat.ne_of_lt (blk_lt (g := gb453) (o := .cells #[.int .i64 0, .int .i64 0, .int .i64 0, .slice none 0 0] 31 (0, 0)) (sk BK453)) : gb453 ≠ gb462)); have n9_ := Aside0.mk ((by rw [hg]; exact Nat.ne_of_gt (blk_lt (g := gb453) (o := .cells #[.int .i64 0, .int .i64 0, .int .i64 0, .slice none 0 0] 31 (0, 0)) (sk BK453)) : gb462 ≠ gb453)); have n10_ := Aside0.mk ((by rw [hg]; exact Nat.ne_of_lt (IsS152.lt (show IsS152 w0 _ g s0_0 t460 t461 from by repeat (first | (with_reducible first | exact HI0.out | apply IsS152.alloc | apply IsS152.drewN | apply IsS152.drew | apply IsS152.set_1 | apply IsS152.set_2 | refine IsS152.far ?_ NB0_453.out _) | exact HI0.out))) : g ≠ gb462)); have n11_ := Aside0.mk ((by rw [hg]; exact Nat.ne_of_gt (IsS152.lt (show IsS152 w0 _ g s0_0 t460 t461 from by repeat (first | (with_reducible first | exact HI0.out | apply IsS152.alloc | apply IsS152.drewN | apply IsS152.drew | apply IsS152.set_1 | apply IsS152.set_2 | refine IsS152.far ?_ NB0_453.out _) | exact HI0.out))) : gb462 ≠ g)); clear HO459; clear HI0; clear BK453; clear HK; clear HB; have HO459 := n0_; have HI0 := n1_; have BK453 := n2_; have HK := n3_; have HB := n4_; have BK462 := n5_; have GW462 := n6_; have GE462 := n7_; have NB453_462 := n8_; have NB462_453 := n9_; have NB0_462 := n10_; have NB462_0 := n11_; clear n0_ n1_ n2_ n3_ n4_ n5_ n6_ n7_ n8_ n9_ n10_ n11_; clear hb hbox hg; have hnb7 := NB462_453.out; have hnc7 := NB453_462.out; have hnb8 := NB462_0.out; have hnc8 := NB0_462.out; have hcz9_0 : w6.cell? ⟨gb462, 0, none⟩ = some (.int .i64 0) := bc0 BK462; have hcz9_1 : w6.cell? ⟨gb462, 1, none⟩ = some (.int .i64 0) := bc1 BK462; have hcz9_2 : w6.cell? ⟨gb462, 2, none⟩ = some (.int .i64 0) := bc2 BK462; have hcz9_3 : w6.cell? ⟨gb462, 3, none⟩ = some (.slice none 0 0) := bc3 BK462; have hfz9_0 := blk_frozen BK462.out 0; have hfz9_1 := blk_frozen BK462.out 1; have hfz9_2 := blk_frozen BK462.out 2; have hfz9_3 := blk_frozen BK462.out 3; obtain ⟨Ao10, co10, eo10⟩ := Kd.S_slice HO459.out; subst eo10))
 (try simp only [Act.put, List.setIfInBounds_toArray, List.set_cons_zero, List.set_cons_succ])
 go_cut [4] (fun v4 wc => ∃ (kq : Nat) (x4_2 : Int) (x1001_2 : Int) (x1002_2 : Int), v4 = .int .i64 x4_2 ∧ Aside0 (spec_l17Any.j0 kq x4_2 s0_0 x1001_2 x1002_2 t454 t455 t456 t457 = some (r1, r2, r3, r4, r5, r6)) ∧ Aside0 (kq ≤ k) ∧ Aside0 (Kd.S k105 105 wc w.heap.size (fun _ => True) (.slice Ao10 t457.length co10) t457) ∧ Aside0 (wc.heap[gb453]? = some (.cells #[.int .i64 0, .int .i64 0, .int .i64 0, (.slice none 0 0)] 31 (0, 0))) ∧ Aside0 (wc.heap[gb462]? = some (.cells #[.int .i64 t454, .int .i64 t455, .int .i64 t456, (.slice Ao10 t457.length co10)] 31 (0, 0))) ∧ Aside0 (IsS152 w0 wc g s0_0 x1001_2 x1002_2) ∧ Aside0 (KeepBut w wc g none) ∧ Aside0 (Below w0.heap.size w0 wc))
 case first =>
  have H := HC3.out
  clear HC3
  obtain ⟨c11, H⟩ | ⟨c11, H⟩ := ie_ H
  ·have c11b0 := decide_eq_true c11
   have c11b1 : decide (0 < t457.length) = true := decide_eq_true (by omega)
   clear c11
   (first | rw [c11b0] | (simp only [i64_w, i32_w]; rw [c11b0]) | rw [c11b1] | skip)
   obtain ⟨⟨t463, t464, t465⟩, A12, H⟩ := bnd H
   replace H : (spec_l17Any.j0 k t463 s0_0 t464 t465 t454 t455 t456 t457) = some (r1, r2, r3, r4, r5, r6) := H
   have H' := Aside0.mk H
   clear H
   have hnb13 := NB462_453.out
   have hnc13 := NB453_462.out
   have hnb14 := NB462_0.out
   have hnc14 := NB0_462.out
   obtain ⟨hcz15_0, hcz15_1, hcz15_2, hcz15_3, hfz15_0, hfz15_1, hfz15_2, hfz15_3⟩ := cc4 BK462
   go_wp2_with (first | ((with_reducible refine gate_callee (f := 76) rfl ?_); refine gL (some 15) Try.func76 #[.pointer (some ⟨g, 0, none⟩), .int .i64 (t457.length : Int)] ?_; (with_reducible refine (spec_l1Below.calls g s0_0 t460 t461 (t457.length : Int) t463 t464 t465 w0 _ ?side1 ?side2 A12.out).mono ?_); (case side1 => repeat (first | (with_reducible first | exact HI0.out | apply IsS152.alloc | apply IsS152.drewN | apply IsS152.drew | apply IsS152.set_1 | apply IsS152.set_2 | refine IsS152.far ?_ NB0_453.out _ | refine IsS152.far ?_ NB0_462.out _) | exact HI0.out)); (case side2 => repeat (first | (with_reducible first | exact HB.out | apply below_alloc | apply pw_below_drewN | apply below_drew1 | refine below_set ?_ (IsS152.ge HI0.out) | refine below_set ?_ GE453.out | refine below_set ?_ GE462.out) | exact HB.out)); rintro e w16 ⟨rfl, hi, hb, hk⟩; refine ⟨_, rfl, ?_⟩; replace BK453 := Aside0.mk (KeepBut.blk hk (g' := gb453) (o := .cells #[.int .i64 0, .int .i64 0, .int .i64 0, .slice none 0 0] 31 (0, 0)) (sp BK453) NB453_0.out (by simp)); replace HO459 := Aside0.mk (Kd.S_mono (Kd.S_keep (IsS152.apartS (show IsS152 w0 _ g s0_0 t460 t461 from by repeat (first | (with_reducible first | exact HI0.out | apply IsS152.alloc | apply IsS152.drewN | apply IsS152.drew | apply IsS152.set_1 | apply IsS152.set_2 | refine IsS152.far ?_ NB0_453.out _ | refine IsS152.far ?_ NB0_462.out _) | exact HI0.out)) (by (with_reducible repeat (first | apply Kd.S_alloc | apply Kd.S_drewN | apply Kd.S_drew)); exact (Kd.S_mono (Kd.S_far (p := ⟨gb462, 3, none⟩) (Kd.S_far (p := ⟨gb462, 2, none⟩) (Kd.S_far (p := ⟨gb462, 1, none⟩) (Kd.S_far (p := ⟨gb462, 0, none⟩) (Kd.S_types HO459.out BK462.out (by decide)) (fun _ hk => hk.2) (.int .i64 t454)) (fun _ hk => hk.2) (.int .i64 t455)) (fun _ hk => hk.2) (.int .i64 t456)) (fun _ hk => hk.2) (.slice Ao10 t457.length co10)) (fun _ h_ => h_.1))) (by decide)) hk (fun _ h => h.2)) (fun _ h => h.1)); replace BK462 := Aside0.mk (KeepBut.blk hk (g' := gb462) (o := .cells #[.int .i64 t454, .int .i64 t455, .int .i64 t456, .slice Ao10 t457.length co10] 31 (0, 0)) (sp BK462) NB462_0.out (by simp)); replace HK := Aside0.mk (KeepBut.trans (by repeat (first | (with_reducible first | exact HK.out | apply KeepBut.set_ | apply keep_drewN | apply keep_drew | apply keep_alloc | refine keep_far ?_ GW453.out _ | refine keep_far ?_ GW462.out _) | exact HK.out)) hk (.inl rfl)); replace HB := Aside0.mk hb; replace HI0 := Aside0.mk hi; (try clear hb); (try clear hb2); (try clear hk); (try clear hi)))
   go_meet
   case rel => exact ⟨_, (t463), (t464), (t465), sc, H', ⟨by first | omega | exact Nat.le_refl _⟩, ⟨ss HO459⟩, ⟨sk BK453⟩, ⟨sk BK462⟩, ⟨by repeat (first | (with_reducible first | exact HI0.out | apply IsS152.alloc | apply IsS152.drewN | apply IsS152.drew | apply IsS152.set_1 | apply IsS152.set_2 | refine IsS152.far ?_ NB0_453.out _ | refine IsS152.far ?_ NB0_462.out _) | exact HI0.out)⟩, ⟨by repeat (first | (with_reducible first | exact HK.out | apply KeepBut.set_ | apply keep_drewN | apply keep_drew | apply keep_alloc | refine keep_far ?_ GW453.out _ | refine keep_far ?_ GW462.out _) | exact HK.out)⟩, ⟨by repeat (first | (with_reducible first | exact HB.out | apply below_alloc | apply pw_below_drewN | apply below_drew1 | refine below_set ?_ (IsS152.ge HI0.out) | refine below_set ?_ GE453.out | refine below_set ?_ GE462.out) | exact HB.out)⟩⟩
  ·have c11b0 := decide_eq_false c11
   have c11b1 : decide (0 < t457.length) = false := decide_eq_false (by omega)
   clear c11
   (first | rw [c11b0] | (simp only [i64_w, i32_w]; rw [c11b0]) | rw [c11b1] | skip)
   have H' := Aside0.mk H
   clear H
   go_wp2
   go_meet
   case rel => exact ⟨_, (0), (t460), (t461), sc, H', ⟨by first | omega | exact Nat.le_refl _⟩, ⟨by (with_reducible repeat (first | apply Kd.S_alloc | apply Kd.S_drewN | apply Kd.S_drew)); exact Kd.S_mono (Kd.S_far (p := ⟨gb462, 3, none⟩) (Kd.S_far (p := ⟨gb462, 2, none⟩) (Kd.S_far (p := ⟨gb462, 1, none⟩) (Kd.S_far (p := ⟨gb462, 0, none⟩) (Kd.S_types HO459.out BK462.out (by decide)) (fun _ hk => hk.2) (.int .i64 t454)) (fun _ hk => hk.2) (.int .i64 t455)) (fun _ hk => hk.2) (.int .i64 t456)) (fun _ hk => hk.2) (.slice Ao10 t457.length co10)) (fun _ hk => trivial)⟩, ⟨sp BK453⟩, ⟨sp BK462⟩, ⟨by repeat (first | (with_reducible first | exact HI0.out | apply IsS152.alloc | apply IsS152.drewN | apply IsS152.drew | apply IsS152.set_1 | apply IsS152.set_2 | refine IsS152.far ?_ NB0_453.out _ | refine IsS152.far ?_ NB0_462.out _) | exact HI0.out)⟩, ⟨by repeat (first | (with_reducible first | exact HK.out | apply KeepBut.set_ | apply keep_drewN | apply keep_drew | apply keep_alloc | refine keep_far ?_ GW453.out _ | refine keep_far ?_ GW462.out _) | exact HK.out)⟩, ⟨by repeat (first | (with_reducible first | exact HB.out | apply below_alloc | apply pw_below_drewN | apply below_drew1 | refine below_set ?_ (IsS152.ge HI0.out) | refine below_set ?_ GE453.out | refine below_set ?_ GE462.out) | exact HB.out)⟩⟩
 case rest =>
  clear HC3
  try clear c11
  try clear c11b0
  try clear c11b1
  try clear hcz15_0
  try clear hcz15_1
  try clear hcz15_2
  try clear hcz15_3
  try clear hfz15_0
  try clear hfz15_1
  try clear hfz15_2
  try clear hfz15_3
  obtain ⟨kq, x4_2, x1001_2, x1002_2, rfl, HA, HJ2, HO_463003, BK453, BK462, HI0, HK, HB⟩ := hcut
  cases kq with
  | zero => exact absurd HA.out (by simp [spec_l17Any.j0])
  | succ kj2 =>
   have H := HA.out
   clear HA
   simp only [spec_l17Any.j0] at H
   obtain ⟨⟨t466, t467, t468⟩, A17, H⟩ := bnd H
   replace H : (if t466 = 0 then ((spec_l1Int.f s0_0 t467 t468 (([(-1), 5, 6] : List Int))).bind fun bt472 => (some (t454, t455, bt472.1, t457, bt472.2.1, bt472.2.2))) else (if t466 = 1 then ((spec_l1Int.f s0_0 t467 t468 (([(-1), 0, 5, 6] : List Int))).bind fun bt478 => (some (t454, bt478.1, t456, t457, bt478.2.1, bt478.2.2))) else (if t466 = 2 then (if 0 ≤ x4_2 then (if x4_2 ≤ (t457.length : Int) then (some (t454, t455, t456, (t457.take (x4_2 : Int).toNat), t467, t468)) else (none)) else (none)) else (if t466 = 3 then ((spec_l4Raw.f s0_0 t467 t468).bind fun bt484 => (if 0 ≤ x4_2 then (if x4_2 < (t457.length : Int) then (some (t454, t455, t456, (t457.set (x4_2 : Int).toNat (⟨(⟨(rd_T105 t457 x4_2).f0.f0, bt484.1⟩ : S102), (rd_T105 t457 x4_2).f1, (rd_T105 t457 x4_2).f2⟩ : S105)), bt484.2.1, bt484.2.2)) else (none)) else (none))) else (if t466 = 4 then (if 0 ≤ x4_2 then (if x4_2 < (t457.length : Int) then (if ((rd_T105 t457 x4_2).f1).length < 8796093022208 then (some (t454, t455, t456, (t457.set (x4_2 : Int).toNat (⟨(⟨(rd_T105 t457 x4_2).f0.f0, (rd_T105 t457 x4_2).f0.f1⟩ : S102), (((rd_T105 t457 x4_2).f1) ++ [(⟨0, 1⟩ : S134)]), (rd_T105 t457 x4_2).f2⟩ : S105)), t467, t468)) else (none)) else (none)) else (none)) else (some (t454, t455, t456, t457, t467, t468))))))) = some (r1, r2, r3, r4, r5, r6) := H
   obtain ⟨c18, H⟩ | ⟨c18, H⟩ := ie_ H
   ·have c18b0 : (t466 == 0) = true := beq_iff_eq.mpr c18
    have c18b1 : (t466 != 0) = false := bne_eq_false_iff_eq.mpr c18
    clear c18
    obtain ⟨y469, hy469⟩ : ∃ y_ : List Int, y_ = (([(-1), 5, 6] : List Int)) := ⟨_, rfl⟩
    replace H : ((spec_l1Int.f s0_0 t467 t468 y469).bind fun bt472 => (some (t454, t455, bt472.1, t457, bt472.2.1, bt472.2.2))) = some (r1, r2, r3, r4, r5, r6) := by first | (rw [hy469]; with_reducible exact H) | (have H2_ := (Option.bind_some _ _).symm.trans H; rw [hy469]; with_reducible exact H2_) | (have H2_ := (Option.bind_some _ _).symm.trans H; with_reducible exact H2_) | with_reducible exact H | (rw [hy469]; exact H) | exact H
    have Ny469 := Aside0.mk hy469
    clear hy469
    obtain ⟨⟨t472, t473, t474⟩, A19, H⟩ := bnd H
    replace H : (some (t454, t455, t472, t457, t473, t474)) = some (r1, r2, r3, r4, r5, r6) := H
    simp only [Option.some.injEq, Prod.mk.injEq] at H
    obtain ⟨rfl, rfl, rfl, rfl, rfl, rfl⟩ := H
    go_wp2_with (first | ((with_reducible refine gate_callee (f := 76) rfl ?_); refine gL (some 17) Try.func76 #[.pointer (some ⟨g, 0, none⟩), .int .i64 10] ?_; (with_reducible refine (spec_l1Below.calls g s0_0 x1001_2 x1002_2 10 t466 t467 t468 w0 _ ?side1 ?side2 A17.out).mono ?_); (case side1 => repeat (first | (with_reducible first | exact HI0.out | apply IsS152.alloc | apply IsS152.drewN | apply IsS152.drew | apply IsS152.set_1 | apply IsS152.set_2 | refine IsS152.far ?_ NB0_453.out _ | refine IsS152.far ?_ NB0_462.out _) | exact HI0.out)); (case side2 => repeat (first | (with_reducible first | exact HB.out | apply below_alloc | apply pw_below_drewN | apply below_drew1 | refine below_set ?_ (IsS152.ge HI0.out) | refine below_set ?_ GE453.out | refine below_set ?_ GE462.out) | exact HB.out)); rintro e w20 ⟨rfl, hi, hb, hk⟩; refine ⟨_, rfl, ?_⟩; replace HO_463003 := Aside0.mk (Kd.S_mono (Kd.S_keep (IsS152.apartS (show IsS152 w0 _ g s0_0 x1001_2 x1002_2 from by repeat (first | (with_reducible first | exact HI0.out | apply IsS152.alloc | apply IsS152.drewN | apply IsS152.drew | apply IsS152.set_1 | apply IsS152.set_2 | refine IsS152.far ?_ NB0_453.out _ | refine IsS152.far ?_ NB0_462.out _) | exact HI0.out)) (ss HO_463003) (by decide)) hk (fun _ h => h.2)) (fun _ h => h.1)); replace BK453 := Aside0.mk (KeepBut.blk hk (g' := gb453) (o := .cells #[.int .i64 0, .int .i64 0, .int .i64 0, .slice none 0 0] 31 (0, 0)) (sk BK453) NB453_0.out (by simp)); replace BK462 := Aside0.mk (KeepBut.blk hk (g' := gb462) (o := .cells #[.int .i64 t454, .int .i64 t455, .int .i64 t456, .slice Ao10 t457.length co10] 31 (0, 0)) (sk BK462) NB462_0.out (by simp)); replace HK := Aside0.mk (KeepBut.trans (by repeat (first | (with_reducible first | exact HK.out | apply KeepBut.set_ | apply keep_drewN | apply keep_drew | apply keep_alloc | refine keep_far ?_ GW453.out _ | refine keep_far ?_ GW462.out _) | exact HK.out)) hk (.inl rfl)); replace HB := Aside0.mk hb; replace HI0 := Aside0.mk hi; (try clear hb); (try clear hb2); (try clear hk); (try clear hi)) | ((with_reducible refine gate_dst (N := 21) rfl ?_); refine Kd.R_lit (Kd.int .i64) _ 3 ?hg (N := 21) ?hd (xs := ([(-1), 5, 6] : List Int)) (inner := [.int .i64 (-1), .int .i64 5, .int .i64 6]) (ok := fun _ => True) (okp := fun _ => True) ?hr ?hp (fun _ hk => hk) trivial (Below.refl _ _) (Nat.le_refl _) (by simp) ?_; (case hd => rfl); (case hg => rfl); (case hr => first | (go_simp; done) | (go_simp; rfl)); (case hp => exact (Reps.one (show Kd.M (Kd.int .i64) _ _ _ (-1) [.int .i64 (-1)] from rfl) (Reps.one (show Kd.M (Kd.int .i64) _ _ _ 5 [.int .i64 5] from rfl) (Reps.one (show Kd.M (Kd.int .i64) _ _ _ 6 [.int .i64 6] from rfl) (Reps.none _ _))))); intro v470 w21 ho22 hb hg_ hnew_; clear hg_ hnew_; (first | rw [← Ny469.out] at ho22 | (simp only [Int.reduceToNat] at ho22; rw [← Ny469.out] at ho22)); replace HO_463003 := Aside0.mk (Kd.S_elder' (ss HO_463003) (Kd.R_base ho22) hb); have HO471 := Aside0.mk (Kd.R_lower ho22 (keep_size (w := w) (g := g) (row := none) (by repeat (first | (with_reducible first | exact HK.out | apply KeepBut.set_ | apply keep_drewN | apply keep_drew | apply keep_alloc | refine keep_far ?_ GW453.out _ | refine keep_far ?_ GW462.out _) | exact HK.out)))); replace BK453 := bb BK453 hb; replace BK462 := bb BK462 hb; replace HK := Aside0.mk (KeepBut.trans (by repeat (first | (with_reducible first | exact HK.out | apply KeepBut.set_ | apply keep_drewN | apply keep_drew | apply keep_alloc | refine keep_far ?_ GW453.out _ | refine keep_far ?_ GW462.out _) | exact HK.out)) (KeepBut.of_below hb g none) (.inl rfl)); replace HB := Aside0.mk (below_step (by repeat (first | (with_reducible first | exact HB.out | apply below_alloc | apply pw_below_drewN | apply below_drew1 | refine below_set ?_ (IsS152.ge HI0.out) | refine below_set ?_ GE453.out | refine below_set ?_ GE462.out) | exact HB.out)) hb); replace HI0 := Aside0.mk (IsS152.below (by repeat (first | (with_reducible first | exact HI0.out | apply IsS152.alloc | apply IsS152.drewN | apply IsS152.drew | apply IsS152.set_1 | apply IsS152.set_2 | refine IsS152.far ?_ NB0_453.out _ | refine IsS152.far ?_ NB0_462.out _) | exact HI0.out)) hb); clear hb ho22; obtain ⟨Ao23, co23, eo23⟩ := Kd.R_slice HO471.out; subst eo23) | ((with_reducible refine gate_callee (f := 109) rfl ?_); refine gL (some 22) Try.func109 #[.pointer (some ⟨g, 0, none⟩), .slice Ao23 y469.length co23] ?_; (with_reducible refine (spec_l1Int.calls g s0_0 t467 t468 _ _ y469 t472 t473 t474 w0 _ ?side1 ?side2 ?side3 ?side4 ?side5 A19.out).mono ?_); (case side1 => repeat (first | (with_reducible first | exact HI0.out | apply IsS152.alloc | apply IsS152.drewN | apply IsS152.drew | apply IsS152.set_1 | apply IsS152.set_2 | refine IsS152.far ?_ NB0_453.out _ | refine IsS152.far ?_ NB0_462.out _) | exact HI0.out)); (case side2 => repeat (first | (with_reducible first | exact HB.out | apply below_alloc | apply pw_below_drewN | apply below_drew1 | refine below_set ?_ (IsS152.ge HI0.out) | refine below_set ?_ GE453.out | refine below_set ?_ GE462.out) | exact HB.out)); (case side3 => repeat (first | exact (Kd.R_reads' HO471.out).2.2 | (with_reducible refine Kd.C_alloc ?_ _) | (with_reducible refine Kd.C_drewN ?_ _) | (with_reducible refine Kd.C_drew ?_))); (case side4 => exact (Kd.R_reads' HO471.out).2.1); (case side5 => exact far_slice (IsS152.own_ne HI0.out HO471.out (by decide))); rintro e w24 ⟨rfl, hi, hb, hk⟩; refine ⟨_, rfl, ?_⟩; replace HO_463003 := Aside0.mk (Kd.S_mono (Kd.S_keep (IsS152.apartS (show IsS152 w0 _ g s0_0 t467 t468 from by repeat (first | (with_reducible first | exact HI0.out | apply IsS152.alloc | apply IsS152.drewN | apply IsS152.drew | apply IsS152.set_1 | apply IsS152.set_2 | refine IsS152.far ?_ NB0_453.out _ | refine IsS152.far ?_ NB0_462.out _) | exact HI0.out)) (ss HO_463003) (by decide)) hk (fun _ h => h.2)) (fun _ h => h.1)); replace BK453 := Aside0.mk (KeepBut.blk hk (g' := gb453) (o := .cells #[.int .i64 0, .int .i64 0, .int .i64 0, .slice none 0 0] 31 (0, 0)) (sk BK453) NB453_0.out (by simp)); replace BK462 := Aside0.mk (KeepBut.blk hk (g' := gb462) (o := .cells #[.int .i64 t454, .int .i64 t455, .int .i64 t456, .slice Ao10 t457.length co10] 31 (0, 0)) (sk BK462) NB462_0.out (by simp)); replace HO471 := Aside0.mk (Kd.R_mono (Kd.R_keep (IsS152.apart (show IsS152 w0 _ g s0_0 t467 t468 from by repeat (first | (with_reducible first | exact HI0.out | apply IsS152.alloc | apply IsS152.drewN | apply IsS152.drew | apply IsS152.set_1 | apply IsS152.set_2 | refine IsS152.far ?_ NB0_453.out _ | refine IsS152.far ?_ NB0_462.out _) | exact HI0.out)) (sr HO471) (by decide)) hk (fun _ h => h.2)) (fun _ h => h.1)); replace HK := Aside0.mk (KeepBut.trans (by repeat (first | (with_reducible first | exact HK.out | apply KeepBut.set_ | apply keep_drewN | apply keep_drew | apply keep_alloc | refine keep_far ?_ GW453.out _ | refine keep_far ?_ GW462.out _) | exact HK.out)) hk (.inl rfl)); replace HB := Aside0.mk hb; replace HI0 := Aside0.mk hi; (try clear hb); (try clear hb2); (try clear hk); (try clear hi); have hnb25 := NB462_453.out; have hnc25 := NB453_462.out; have hnb26 := NB462_0.out; have hnc26 := NB0_462.out; obtain ⟨hcz27_0, hcz27_1, hcz27_2, hcz27_3, hfz27_0, hfz27_1, hfz27_2, hfz27_3⟩ := cc4 BK462; have hnb28 := NB453_0.out; have hnc28 := NB0_453.out; obtain ⟨hcz29_0, hcz29_1, hcz29_2, hcz29_3, hfz29_0, hfz29_1, hfz29_2, hfz29_3⟩ := cc4 BK453))
    refine bodyPost_ret (results_cell_row rfl _ _ gb453 31 #[.int .i64 t454, .int .i64 t455, .int .i64 t472, .slice Ao10 t457.length co10] (0, 0) _ rfl (sp BK453) Try.underlying31 rfl (by kernel_rfl)) rfl ?_
    exact ⟨_, se, by (with_reducible repeat (first | apply Kd.S_alloc | apply Kd.S_drewN | apply Kd.S_drew)); exact Kd.S_mono (Kd.S_far (p := ⟨gb453, 3, none⟩) (Kd.S_far (p := ⟨gb453, 2, none⟩) (Kd.S_far (p := ⟨gb453, 1, none⟩) (Kd.S_far (p := ⟨gb453, 0, none⟩) (Kd.S_far (p := ⟨gb462, 2, none⟩) (Kd.S_types (Kd.S_types HO_463003.out BK462.out (by decide)) BK453.out (by decide)) (fun _ hk => hk.1.2) (.int .i64 t472)) (fun _ hk => hk.2) (.int .i64 t454)) (fun _ hk => hk.2) (.int .i64 t455)) (fun _ hk => hk.2) (.int .i64 t472)) (fun _ hk => hk.2) (.slice Ao10 t457.length co10)) (fun _ hk => trivial), by repeat (first | (with_reducible first | exact HI0.out | apply IsS152.alloc | apply IsS152.drewN | apply IsS152.drew | apply IsS152.set_1 | apply IsS152.set_2 | refine IsS152.far ?_ NB0_453.out _ | refine IsS152.far ?_ NB0_462.out _) | exact HI0.out), by repeat (first | (with_reducible first | exact HB.out | apply below_alloc | apply pw_below_drewN | apply below_drew1 | refine below_set ?_ (IsS152.ge HI0.out) | refine below_set ?_ GE453.out | refine below_set ?_ GE462.out) | exact HB.out), by repeat (first | (with_reducible first | exact HK.out | apply KeepBut.set_ | apply keep_drewN | apply keep_drew | apply keep_alloc | refine keep_far ?_ GW453.out _ | refine keep_far ?_ GW462.out _) | exact HK.out)⟩
   ·have c18b0 : (t466 == 0) = false := beq_eq_false_iff_ne.mpr c18
    have c18b1 : (t466 != 0) = true := bne_iff_ne.mpr c18
    obtain ⟨c30, H⟩ | ⟨c30, H⟩ := ie_ H
    ·have c30b0 : (t466 == 1) = true := beq_iff_eq.mpr c30
     have c30b1 : (t466 != 1) = false := bne_eq_false_iff_eq.mpr c30
     clear c30
     obtain ⟨y475, hy475⟩ : ∃ y_ : List Int, y_ = (([(-1), 0, 5, 6] : List Int)) := ⟨_, rfl⟩
     replace H : ((spec_l1Int.f s0_0 t467 t468 y475).bind fun bt478 => (some (t454, bt478.1, t456, t457, bt478.2.1, bt478.2.2))) = some (r1, r2, r3, r4, r5, r6) := by first | (rw [hy475]; with_reducible exact H) | (have H2_ := (Option.bind_some _ _).symm.trans H; rw [hy475]; with_reducible exact H2_) | (have H2_ := (Option.bind_some _ _).symm.trans H; with_reducible exact H2_) | with_reducible exact H | (rw [hy475]; exact H) | exact H
     have Ny475 := Aside0.mk hy475
     clear hy475
     obtain ⟨⟨t478, t479, t480⟩, A31, H⟩ := bnd H
     replace H : (some (t454, t478, t456, t457, t479, t480)) = some (r1, r2, r3, r4, r5, r6) := H
     simp only [Option.some.injEq, Prod.mk.injEq] at H
     obtain ⟨rfl, rfl, rfl, rfl, rfl, rfl⟩ := H
     go_wp2_with (first | ((with_reducible refine gate_callee (f := 76) rfl ?_); refine gL (some 17) Try.func76 #[.pointer (some ⟨g, 0, none⟩), .int .i64 10] ?_; (with_reducible refine (spec_l1Below.calls g s0_0 x1001_2 x1002_2 10 t466 t467 t468 w0 _ ?side1 ?side2 A17.out).mono ?_); (case side1 => repeat (first | (with_reducible first | exact HI0.out | apply IsS152.alloc | apply IsS152.drewN | apply IsS152.drew | apply IsS152.set_1 | apply IsS152.set_2 | refine IsS152.far ?_ NB0_453.out _ | refine IsS152.far ?_ NB0_462.out _) | exact HI0.out)); (case side2 => repeat (first | (with_reducible first | exact HB.out | apply below_alloc | apply pw_below_drewN | apply below_drew1 | refine below_set ?_ (IsS152.ge HI0.out) | refine below_set ?_ GE453.out | refine below_set ?_ GE462.out) | exact HB.out)); rintro e w32 ⟨rfl, hi, hb, hk⟩; refine ⟨_, rfl, ?_⟩; replace HO_463003 := Aside0.mk (Kd.S_mono (Kd.S_keep (IsS152.apartS (show IsS152 w0 _ g s0_0 x1001_2 x1002_2 from by repeat (first | (with_reducible first | exact HI0.out | apply IsS152.alloc | apply IsS152.drewN | apply IsS152.drew | apply IsS152.set_1 | apply IsS152.set_2 | refine IsS152.far ?_ NB0_453.out _ | refine IsS152.far ?_ NB0_462.out _) | exact HI0.out)) (ss HO_463003) (by decide)) hk (fun _ h => h.2)) (fun _ h => h.1)); replace BK453 := Aside0.mk (KeepBut.blk hk (g' := gb453) (o := .cells #[.int .i64 0, .int .i64 0, .int .i64 0, .slice none 0 0] 31 (0, 0)) (sk BK453) NB453_0.out (by simp)); replace BK462 := Aside0.mk (KeepBut.blk hk (g' := gb462) (o := .cells #[.int .i64 t454, .int .i64 t455, .int .i64 t456, .slice Ao10 t457.length co10] 31 (0, 0)) (sk BK462) NB462_0.out (by simp)); replace HK := Aside0.mk (KeepBut.trans (by repeat (first | (with_reducible first | exact HK.out | apply KeepBut.set_ | apply keep_drewN | apply keep_drew | apply keep_alloc | refine keep_far ?_ GW453.out _ | refine keep_far ?_ GW462.out _) | exact HK.out)) hk (.inl rfl)); replace HB := Aside0.mk hb; replace HI0 := Aside0.mk hi; (try clear hb); (try clear hb2); (try clear hk); (try clear hi)) | ((with_reducible refine gate_dst (N := 27) rfl ?_); refine Kd.R_lit (Kd.int .i64) _ 3 ?hg (N := 27) ?hd (xs := ([(-1), 0, 5, 6] : List Int)) (inner := [.int .i64 (-1), .int .i64 0, .int .i64 5, .int .i64 6]) (ok := fun _ => True) (okp := fun _ => True) ?hr ?hp (fun _ hk => hk) trivial (Below.refl _ _) (Nat.le_refl _) (by simp) ?_; (case hd => rfl); (case hg => rfl); (case hr => first | (go_simp; done) | (go_simp; rfl)); (case hp => exact (Reps.one (show Kd.M (Kd.int .i64) _ _ _ (-1) [.int .i64 (-1)] from rfl) (Reps.one (show Kd.M (Kd.int .i64) _ _ _ 0 [.int .i64 0] from rfl) (Reps.one (show Kd.M (Kd.int .i64) _ _ _ 5 [.int .i64 5] from rfl) (Reps.one (show Kd.M (Kd.int .i64) _ _ _ 6 [.int .i64 6] from rfl) (Reps.none _ _)))))); intro v476 w33 ho34 hb hg_ hnew_; clear hg_ hnew_; (first | rw [← Ny475.out] at ho34 | (simp only [Int.reduceToNat] at ho34; rw [← Ny475.out] at ho34)); replace HO_463003 := Aside0.mk (Kd.S_elder' (ss HO_463003) (Kd.R_base ho34) hb); have HO477 := Aside0.mk (Kd.R_lower ho34 (keep_size (w := w) (g := g) (row := none) (by repeat (first | (with_reducible first | exact HK.out | apply KeepBut.set_ | apply keep_drewN | apply keep_drew | apply keep_alloc | refine keep_far ?_ GW453.out _ | refine keep_far ?_ GW462.out _) | exact HK.out)))); replace BK453 := bb BK453 hb; replace BK462 := bb BK462 hb; replace HK := Aside0.mk (KeepBut.trans (by repeat (first | (with_reducible first | exact HK.out | apply KeepBut.set_ | apply keep_drewN | apply keep_drew | apply keep_alloc | refine keep_far ?_ GW453.out _ | refine keep_far ?_ GW462.out _) | exact HK.out)) (KeepBut.of_below hb g none) (.inl rfl)); replace HB := Aside0.mk (below_step (by repeat (first | (with_reducible first | exact HB.out | apply below_alloc | apply pw_below_drewN | apply below_drew1 | refine below_set ?_ (IsS152.ge HI0.out) | refine below_set ?_ GE453.out | refine below_set ?_ GE462.out) | exact HB.out)) hb); replace HI0 := Aside0.mk (IsS152.below (by repeat (first | (with_reducible first | exact HI0.out | apply IsS152.alloc | apply IsS152.drewN | apply IsS152.drew | apply IsS152.set_1 | apply IsS152.set_2 | refine IsS152.far ?_ NB0_453.out _ | refine IsS152.far ?_ NB0_462.out _) | exact HI0.out)) hb); clear hb ho34; obtain ⟨Ao35, co35, eo35⟩ := Kd.R_slice HO477.out; subst eo35) | ((with_reducible refine gate_callee (f := 109) rfl ?_); refine gL (some 28) Try.func109 #[.pointer (some ⟨g, 0, none⟩), .slice Ao35 y475.length co35] ?_; (with_reducible refine (spec_l1Int.calls g s0_0 t467 t468 _ _ y475 t478 t479 t480 w0 _ ?side1 ?side2 ?side3 ?side4 ?side5 A31.out).mono ?_); (case side1 => repeat (first | (with_reducible first | exact HI0.out | apply IsS152.alloc | apply IsS152.drewN | apply IsS152.drew | apply IsS152.set_1 | apply IsS152.set_2 | refine IsS152.far ?_ NB0_453.out _ | refine IsS152.far ?_ NB0_462.out _) | exact HI0.out)); (case side2 => repeat (first | (with_reducible first | exact HB.out | apply below_alloc | apply pw_below_drewN | apply below_drew1 | refine below_set ?_ (IsS152.ge HI0.out) | refine below_set ?_ GE453.out | refine below_set ?_ GE462.out) | exact HB.out)); (case side3 => repeat (first | exact (Kd.R_reads' HO477.out).2.2 | (with_reducible refine Kd.C_alloc ?_ _) | (with_reducible refine Kd.C_drewN ?_ _) | (with_reducible refine Kd.C_drew ?_))); (case side4 => exact (Kd.R_reads' HO477.out).2.1); (case side5 => exact far_slice (IsS152.own_ne HI0.out HO477.out (by decide))); rintro e w36 ⟨rfl, hi, hb, hk⟩; refine ⟨_, rfl, ?_⟩; replace HO_463003 := Aside0.mk (Kd.S_mono (Kd.S_keep (IsS152.apartS (show IsS152 w0 _ g s0_0 t467 t468 from by repeat (first | (with_reducible first | exact HI0.out | apply IsS152.alloc | apply IsS152.drewN | apply IsS152.drew | apply IsS152.set_1 | apply IsS152.set_2 | refine IsS152.far ?_ NB0_453.out _ | refine IsS152.far ?_ NB0_462.out _) | exact HI0.out)) (ss HO_463003) (by decide)) hk (fun _ h => h.2)) (fun _ h => h.1)); replace BK453 := Aside0.mk (KeepBut.blk hk (g' := gb453) (o := .cells #[.int .i64 0, .int .i64 0, .int .i64 0, .slice none 0 0] 31 (0, 0)) (sk BK453) NB453_0.out (by simp)); replace BK462 := Aside0.mk (KeepBut.blk hk (g' := gb462) (o := .cells #[.int .i64 t454, .int .i64 t455, .int .i64 t456, .slice Ao10 t457.length co10] 31 (0, 0)) (sk BK462) NB462_0.out (by simp)); replace HO477 := Aside0.mk (Kd.R_mono (Kd.R_keep (IsS152.apart (show IsS152 w0 _ g s0_0 t467 t468 from by repeat (first | (with_reducible first | exact HI0.out | apply IsS152.alloc | apply IsS152.drewN | apply IsS152.drew | apply IsS152.set_1 | apply IsS152.set_2 | refine IsS152.far ?_ NB0_453.out _ | refine IsS152.far ?_ NB0_462.out _) | exact HI0.out)) (sr HO477) (by decide)) hk (fun _ h => h.2)) (fun _ h => h.1)); replace HK := Aside0.mk (KeepBut.trans (by repeat (first | (with_reducible first | exact HK.out | apply KeepBut.set_ | apply keep_drewN | apply keep_drew | apply keep_alloc | refine keep_far ?_ GW453.out _ | refine keep_far ?_ GW462.out _) | exact HK.out)) hk (.inl rfl)); replace HB := Aside0.mk hb; replace HI0 := Aside0.mk hi; (try clear hb); (try clear hb2); (try clear hk); (try clear hi); have hnb37 := NB462_453.out; have hnc37 := NB453_462.out; have hnb38 := NB462_0.out; have hnc38 := NB0_462.out; obtain ⟨hcz39_0, hcz39_1, hcz39_2, hcz39_3, hfz39_0, hfz39_1, hfz39_2, hfz39_3⟩ := cc4 BK462; have hnb40 := NB453_0.out; have hnc40 := NB0_453.out; obtain ⟨hcz41_0, hcz41_1, hcz41_2, hcz41_3, hfz41_0, hfz41_1, hfz41_2, hfz41_3⟩ := cc4 BK453))
     refine bodyPost_ret (results_cell_row rfl _ _ gb453 31 #[.int .i64 t454, .int .i64 t478, .int .i64 t456, .slice Ao10 t457.length co10] (0, 0) _ rfl (sp BK453) Try.underlying31 rfl (by kernel_rfl)) rfl ?_
     exact ⟨_, se, by (with_reducible repeat (first | apply Kd.S_alloc | apply Kd.S_drewN | apply Kd.S_drew)); exact Kd.S_mono (Kd.S_far (p := ⟨gb453, 3, none⟩) (Kd.S_far (p := ⟨gb453, 2, none⟩) (Kd.S_far (p := ⟨gb453, 1, none⟩) (Kd.S_far (p := ⟨gb453, 0, none⟩) (Kd.S_far (p := ⟨gb462, 1, none⟩) (Kd.S_types (Kd.S_types HO_463003.out BK462.out (by decide)) BK453.out (by decide)) (fun _ hk => hk.1.2) (.int .i64 t478)) (fun _ hk => hk.2) (.int .i64 t454)) (fun _ hk => hk.2) (.int .i64 t478)) (fun _ hk => hk.2) (.int .i64 t456)) (fun _ hk => hk.2) (.slice Ao10 t457.length co10)) (fun _ hk => trivial), by repeat (first | (with_reducible first | exact HI0.out | apply IsS152.alloc | apply IsS152.drewN | apply IsS152.drew | apply IsS152.set_1 | apply IsS152.set_2 | refine IsS152.far ?_ NB0_453.out _ | refine IsS152.far ?_ NB0_462.out _) | exact HI0.out), by repeat (first | (with_reducible first | exact HB.out | apply below_alloc | apply pw_below_drewN | apply below_drew1 | refine below_set ?_ (IsS152.ge HI0.out) | refine below_set ?_ GE453.out | refine below_set ?_ GE462.out) | exact HB.out), by repeat (first | (with_reducible first | exact HK.out | apply KeepBut.set_ | apply keep_drewN | apply keep_drew | apply keep_alloc | refine keep_far ?_ GW453.out _ | refine keep_far ?_ GW462.out _) | exact HK.out)⟩
    ·have c30b0 : (t466 == 1) = false := beq_eq_false_iff_ne.mpr c30
     have c30b1 : (t466 != 1) = true := bne_iff_ne.mpr c30
     obtain ⟨c42, H⟩ | ⟨c42, H⟩ := ie_ H
     ·have c42b0 : (t466 == 2) = true := beq_iff_eq.mpr c42
      have c42b1 : (t466 != 2) = false := bne_eq_false_iff_eq.mpr c42
      clear c42
      obtain ⟨c43, H⟩ := ia_ H
      have c43b0 := eq_true c43
      have c43b1 := decide_eq_true c43
      clear c43
      obtain ⟨c44, H⟩ := ia_ H
      have c44b0 := eq_true c44
      have c44b1 := decide_eq_true c44
      clear c44
      obtain ⟨y481, hy481⟩ : ∃ y_ : List (S105), y_ = (t457.take (x4_2 : Int).toNat) := ⟨_, rfl⟩
      replace H : (some (t454, t455, t456, y481, t467, t468)) = some (r1, r2, r3, r4, r5, r6) := by first | (rw [hy481]; with_reducible exact H) | (have H2_ := (Option.bind_some _ _).symm.trans H; rw [hy481]; with_reducible exact H2_) | (have H2_ := (Option.bind_some _ _).symm.trans H; with_reducible exact H2_) | with_reducible exact H | (rw [hy481]; exact H) | exact H
      have Ny481 := Aside0.mk hy481
      clear hy481
      simp only [Option.some.injEq, Prod.mk.injEq] at H
      obtain ⟨rfl, rfl, rfl, rfl, rfl, rfl⟩ := H
      go_wp2_with (first | ((with_reducible refine gate_callee (f := 76) rfl ?_); refine gL (some 17) Try.func76 #[.pointer (some ⟨g, 0, none⟩), .int .i64 10] ?_; (with_reducible refine (spec_l1Below.calls g s0_0 x1001_2 x1002_2 10 t466 t467 t468 w0 _ ?side1 ?side2 A17.out).mono ?_); (case side1 => repeat (first | (with_reducible first | exact HI0.out | apply IsS152.alloc | apply IsS152.drewN | apply IsS152.drew | apply IsS152.set_1 | apply IsS152.set_2 | refine IsS152.far ?_ NB0_453.out _ | refine IsS152.far ?_ NB0_462.out _) | exact HI0.out)); (case side2 => repeat (first | (with_reducible first | exact HB.out | apply below_alloc | apply pw_below_drewN | apply below_drew1 | refine below_set ?_ (IsS152.ge HI0.out) | refine below_set ?_ GE453.out | refine below_set ?_ GE462.out) | exact HB.out)); rintro e w45 ⟨rfl, hi, hb, hk⟩; refine ⟨_, rfl, ?_⟩; replace HO_463003 := Aside0.mk (Kd.S_mono (Kd.S_keep (IsS152.apartS (show IsS152 w0 _ g s0_0 x1001_2 x1002_2 from by repeat (first | (with_reducible first | exact HI0.out | apply IsS152.alloc | apply IsS152.drewN | apply IsS152.drew | apply IsS152.set_1 | apply IsS152.set_2 | refine IsS152.far ?_ NB0_453.out _ | refine IsS152.far ?_ NB0_462.out _) | exact HI0.out)) (ss HO_463003) (by decide)) hk (fun _ h => h.2)) (fun _ h => h.1)); replace BK453 := Aside0.mk (KeepBut.blk hk (g' := gb453) (o := .cells #[.int .i64 0, .int .i64 0, .int .i64 0, .slice none 0 0] 31 (0, 0)) (sk BK453) NB453_0.out (by simp)); replace BK462 := Aside0.mk (KeepBut.blk hk (g' := gb462) (o := .cells #[.int .i64 t454, .int .i64 t455, .int .i64 t456, .slice Ao10 t457.length co10] 31 (0, 0)) (sk BK462) NB462_0.out (by simp)); replace HK := Aside0.mk (KeepBut.trans (by repeat (first | (with_reducible first | exact HK.out | apply KeepBut.set_ | apply keep_drewN | apply keep_drew | apply keep_alloc | refine keep_far ?_ GW453.out _ | refine keep_far ?_ GW462.out _) | exact HK.out)) hk (.inl rfl)); replace HB := Aside0.mk hb; replace HI0 := Aside0.mk hi; (try clear hb); (try clear hb2); (try clear hk); (try clear hi); have hnb46 := NB462_453.out; have hnc46 := NB453_462.out; have hnb47 := NB462_0.out; have hnc47 := NB0_462.out; obtain ⟨hcz48_0, hcz48_1, hcz48_2, hcz48_3, hfz48_0, hfz48_1, hfz48_2, hfz48_3⟩ := cc4 BK462; have q49 : (x4_2 : Int) ≤ ((t457.length : Int) : Int) := sa; obtain ⟨i049, hi049, _, hsz49, _⟩ := info_parts info105; have hcut49 := cut_to (P := Try.prog) 29 105 .i64 Try.underlying29 hi049 Ao10 t457.length co10 x4_2 (sa) q49 (Kd.S_reads' HO_463003.out).2.1; have hr49 := Kd.S_take (m := (x4_2 : Int).toNat) HO_463003.out (by omega); have hy49 : y481.length = (x4_2 : Int).toNat := (by rw [Ny481.out, List.length_take]; omega); rw [← Ny481.out] at hr49; rw [← hy49] at hr49 hcut49; clear hy49 hi049 hsz49 HO_463003; have HO483 := Aside0.mk hr49; clear hr49; replace q49 := eq_true q49; have hnb50 := NB453_0.out; have hnc50 := NB0_453.out; obtain ⟨hcz51_0, hcz51_1, hcz51_2, hcz51_3, hfz51_0, hfz51_1, hfz51_2, hfz51_3⟩ := cc4 BK453))
      refine bodyPost_ret (results_cell_row rfl _ _ gb453 31 #[.int .i64 t454, .int .i64 t455, .int .i64 t456, .slice Ao10 y481.length co10] (0, 0) _ rfl (sp BK453) Try.underlying31 rfl (by kernel_rfl)) rfl ?_
      exact ⟨_, se, by (with_reducible repeat (first | apply Kd.S_alloc | apply Kd.S_drewN | apply Kd.S_drew)); exact Kd.S_mono (Kd.S_far (p := ⟨gb453, 3, none⟩) (Kd.S_far (p := ⟨gb453, 2, none⟩) (Kd.S_far (p := ⟨gb453, 1, none⟩) (Kd.S_far (p := ⟨gb453, 0, none⟩) (Kd.S_far (p := ⟨gb462, 3, none⟩) (Kd.S_types (Kd.S_types HO483.out BK462.out (by decide)) BK453.out (by decide)) (fun _ hk => hk.1.2) (.slice Ao10 y481.length co10)) (fun _ hk => hk.2) (.int .i64 t454)) (fun _ hk => hk.2) (.int .i64 t455)) (fun _ hk => hk.2) (.int .i64 t456)) (fun _ hk => hk.2) (.slice Ao10 y481.length co10)) (fun _ hk => trivial), by repeat (first | (with_reducible first | exact HI0.out | apply IsS152.alloc | apply IsS152.drewN | apply IsS152.drew | apply IsS152.set_1 | apply IsS152.set_2 | refine IsS152.far ?_ NB0_453.out _ | refine IsS152.far ?_ NB0_462.out _) | exact HI0.out), by repeat (first | (with_reducible first | exact HB.out | apply below_alloc | apply pw_below_drewN | apply below_drew1 | refine below_set ?_ (IsS152.ge HI0.out) | refine below_set ?_ GE453.out | refine below_set ?_ GE462.out) | exact HB.out), by repeat (first | (with_reducible first | exact HK.out | apply KeepBut.set_ | apply keep_drewN | apply keep_drew | apply keep_alloc | refine keep_far ?_ GW453.out _ | refine keep_far ?_ GW462.out _) | exact HK.out)⟩
     ·have c42b0 : (t466 == 2) = false := beq_eq_false_iff_ne.mpr c42
      have c42b1 : (t466 != 2) = true := bne_iff_ne.mpr c42
      obtain ⟨c52, H⟩ | ⟨c52, H⟩ := ie_ H
      ·have c52b0 : (t466 == 3) = true := beq_iff_eq.mpr c52
       have c52b1 : (t466 != 3) = false := bne_eq_false_iff_eq.mpr c52
       clear c52
       obtain ⟨⟨t484, t485, t486⟩, A53, H⟩ := bnd H
       replace H : (if 0 ≤ x4_2 then (if x4_2 < (t457.length : Int) then (some (t454, t455, t456, (t457.set (x4_2 : Int).toNat (⟨(⟨(rd_T105 t457 x4_2).f0.f0, t484⟩ : S102), (rd_T105 t457 x4_2).f1, (rd_T105 t457 x4_2).f2⟩ : S105)), t485, t486)) else (none)) else (none)) = some (r1, r2, r3, r4, r5, r6) := H
       obtain ⟨c54b0, H⟩ := id_ H
       obtain ⟨c55b0, H⟩ := id_ H
       obtain ⟨y487, hy487⟩ : ∃ y_ : List (S105), y_ = (t457.set (x4_2 : Int).toNat (⟨(⟨(rd_T105 t457 x4_2).f0.f0, t484⟩ : S102), (rd_T105 t457 x4_2).f1, (rd_T105 t457 x4_2).f2⟩ : S105)) := ⟨_, rfl⟩
       replace H : (some (t454, t455, t456, y487, t485, t486)) = some (r1, r2, r3, r4, r5, r6) := by first | (rw [hy487]; with_reducible exact H) | (have H2_ := (Option.bind_some _ _).symm.trans H; rw [hy487]; with_reducible exact H2_) | (have H2_ := (Option.bind_some _ _).symm.trans H; with_reducible exact H2_) | with_reducible exact H | (rw [hy487]; exact H) | exact H
       have Ny487 := Aside0.mk hy487
       clear hy487
       simp only [Option.some.injEq, Prod.mk.injEq] at H
       obtain ⟨rfl, rfl, rfl, rfl, rfl, rfl⟩ := H
       try go_wp2_with (first | ((with_reducible refine gate_callee (f := 76) rfl ?_); refine gL (some 17) Try.func76 #[.pointer (some ⟨g, 0, none⟩), .int .i64 10] ?_; (with_reducible refine (spec_l1Below.calls g s0_0 x1001_2 x1002_2 10 t466 t467 t468 w0 _ ?side1 ?side2 A17.out).mono ?_); (case side1 => repeat (first | (with_reducible first | exact HI0.out | apply IsS152.alloc | apply IsS152.drewN | apply IsS152.drew | apply IsS152.set_1 | apply IsS152.set_2 | refine IsS152.far ?_ NB0_453.out _ | refine IsS152.far ?_ NB0_462.out _) | exact HI0.out)); (case side2 => repeat (first | (with_reducible first | exact HB.out | apply below_alloc | apply pw_below_drewN | apply below_drew1 | refine below_set ?_ (IsS152.ge HI0.out) | refine below_set ?_ GE453.out | refine below_set ?_ GE462.out) | exact HB.out)); rintro e w57 ⟨rfl, hi, hb, hk⟩; refine ⟨_, rfl, ?_⟩; replace HO_463003 := Aside0.mk (Kd.S_mono (Kd.S_keep (IsS152.apartS (show IsS152 w0 _ g s0_0 x1001_2 x1002_2 from by repeat (first | (with_reducible first | exact HI0.out | apply IsS152.alloc | apply IsS152.drewN | apply IsS152.drew | apply IsS152.set_1 | apply IsS152.set_2 | refine IsS152.far ?_ NB0_453.out _ | refine IsS152.far ?_ NB0_462.out _) | exact HI0.out)) (ss HO_463003) (by decide)) hk (fun _ h => h.2)) (fun _ h => h.1)); replace BK453 := Aside0.mk (KeepBut.blk hk (g' := gb453) (o := .cells #[.int .i64 0, .int .i64 0, .int .i64 0, .slice none 0 0] 31 (0, 0)) (sk BK453) NB453_0.out (by simp)); replace BK462 := Aside0.mk (KeepBut.blk hk (g' := gb462) (o := .cells #[.int .i64 t454, .int .i64 t455, .int .i64 t456, .slice Ao10 t457.length co10] 31 (0, 0)) (sk BK462) NB462_0.out (by simp)); replace HK := Aside0.mk (KeepBut.trans (by repeat (first | (with_reducible first | exact HK.out | apply KeepBut.set_ | apply keep_drewN | apply keep_drew | apply keep_alloc | refine keep_far ?_ GW453.out _ | refine keep_far ?_ GW462.out _) | exact HK.out)) hk (.inl rfl)); replace HB := Aside0.mk hb; replace HI0 := Aside0.mk hi; (try clear hb); (try clear hb2); (try clear hk); (try clear hi)))
       replace HO_463003 := Aside0.mk (Kd.S_drew HO_463003.out)
       replace BK453 := Aside0.mk (blk_drew BK453.out)
       replace BK462 := Aside0.mk (blk_drew BK462.out)
       replace HI0 := Aside0.mk (IsS152.drew HI0.out)
       replace HK := Aside0.mk (keep_drew HK.out)
       replace HB := Aside0.mk (below_drew1 HB.out)
       refine start_ (n := 9) (S := fun w' => w'.cell? ⟨gb462, 0, none⟩ = some (.int .i64 t454) ∧ w'.cell? ⟨gb462, 1, none⟩ = some (.int .i64 t455) ∧ w'.cell? ⟨gb462, 2, none⟩ = some (.int .i64 t456) ∧ w'.cell? ⟨gb462, 3, none⟩ = some (.slice Ao10 t457.length co10)) (ds := [8]) #[false, false, false, false, false, false, false, false, false] (by kernel_rfl) rfl rfl ⟨bc0 BK462, bc1 BK462, bc2 BK462, bc3 BK462⟩ (fun hHeld => ?_); refine with_tabW spec_l17Any.tab13 spec_l17Any.bits13 (fun HT_ HW_ => ?_)
       generalize w57.drew = w58 at HO_463003 BK453 BK462 HI0 HK HB hHeld ⊢
       refine put 0 39 #[true, false, false, false, false, false, false, false, false] HT_ ?_
       refine put 2 41 #[true, false, true, false, false, false, false, false, false] HT_ ?_
       refine put 3 42 #[true, false, true, true, false, false, false, false, false] HT_ ?_
       refine tat4 1 40 #[true, true, true, true, false, false, false, false, false] HT_ HW_ hHeld ?_
       refine one_ (i := 4) (N := some 43) #[true, true, true, true, true, false, false, false, false] rfl rfl (one_of HT_.out (by kernel_rfl)) (by decide) (fun K hK => ?_)
       refine goes_ Try.func89 (by kernel_rfl) rfl #[.pointer (some ⟨g, 0, none⟩)] (by rfl) rfl rfl sl ?_
       with_reducible refine (spec_l4Raw.calls g s0_0 t467 t468 t484 t485 t486 w0 _ ?side1 ?side2 A53.out).mono ?_
       (case side1 => repeat (first | (with_reducible first | exact HI0.out | apply IsS152.alloc | apply IsS152.drewN | apply IsS152.drew | apply IsS152.set_1 | apply IsS152.set_2 | refine IsS152.far ?_ NB0_453.out _ | refine IsS152.far ?_ NB0_462.out _) | exact HI0.out))
       (case side2 => repeat (first | (with_reducible first | exact HB.out | apply below_alloc | apply pw_below_drewN | apply below_drew1 | refine below_set ?_ (IsS152.ge HI0.out) | refine below_set ?_ GE453.out | refine below_set ?_ GE462.out) | exact HB.out))
       rintro e w59 ⟨rfl, hi, hb, hk⟩
       refine ⟨_, rfl, ?_⟩
       replace HO_463003 := Aside0.mk (Kd.S_mono (Kd.S_keep (IsS152.apartS (show IsS152 w0 _ g s0_0 t467 t468 from by repeat (first | (with_reducible first | exact HI0.out | apply IsS152.alloc | apply IsS152.drewN | apply IsS152.drew | apply IsS152.set_1 | apply IsS152.set_2 | refine IsS152.far ?_ NB0_453.out _ | refine IsS152.far ?_ NB0_462.out _) | exact HI0.out)) (ss HO_463003) (by decide)) hk (fun _ h => h.2)) (fun _ h => h.1))
       replace BK453 := Aside0.mk (KeepBut.blk hk (g' := gb453) (o := .cells #[.int .i64 0, .int .i64 0, .int .i64 0, .slice none 0 0] 31 (0, 0)) (sk BK453) NB453_0.out (by simp))
       replace BK462 := Aside0.mk (KeepBut.blk hk (g' := gb462) (o := .cells #[.int .i64 t454, .int .i64 t455, .int .i64 t456, .slice Ao10 t457.length co10] 31 (0, 0)) (sk BK462) NB462_0.out (by simp))
       replace HK := Aside0.mk (KeepBut.trans (by repeat (first | (with_reducible first | exact HK.out | apply KeepBut.set_ | apply keep_drewN | apply keep_drew | apply keep_alloc | refine keep_far ?_ GW453.out _ | refine keep_far ?_ GW462.out _) | exact HK.out)) hk (.inl rfl))
       replace HB := Aside0.mk hb
       replace HI0 := Aside0.mk hi
       (try clear hb)
       (try clear hb2)
       (try clear hk)
       (try clear hi)
       have p56 : 0 ≤ (x4_2 : Int) := sa
       have q56 : (x4_2 : Int) < ((t457.length : Int) : Int) := sa
       obtain ⟨go56, co56, eo56, gb56, gl56, cl56, HG56⟩ := Kd.S_form HO_463003.out (by omega)
       (first | cases eo56 | (injection eo56 with ea_ en_ ec_; (first | subst ea_ | (injection ea_ with ea_; subst ea_)); subst ec_; clear en_))
       have GB56 := Aside0.mk gb56
       have GG56 := Aside0.mk HG56
       clear gb56 gl56 HG56
       obtain ⟨_, ce56, hcl56, hM56, hcc56, hfr56, _, _⟩ := Kd.S_elem HO_463003.out z105 (x4_2 : Int) p56 q56
       obtain ⟨ve56_2, ve56_3, rfl, ge56_2, ge56_3⟩ := k105_openM hM56
       have hx56_0 : World.cell? _ ⟨go56, (x4_2 : Int).toNat * 4, none⟩ = some (.int .i64 ((rd_T105 t457 x4_2).f0.f0)) := hcc56 0 _ rfl
       have hx56_1 : World.cell? _ ⟨go56, (x4_2 : Int).toNat * 4 + 1, none⟩ = some (.int .i64 ((rd_T105 t457 x4_2).f0.f1)) := hcc56 1 _ rfl
       have hx56_2 : World.cell? _ ⟨go56, (x4_2 : Int).toNat * 4 + 2, none⟩ = some (ve56_2) := hcc56 2 _ rfl
       have hx56_3 : World.cell? _ ⟨go56, (x4_2 : Int).toNat * 4 + 3, none⟩ = some (ve56_3) := hcc56 3 _ rfl
       have hf56_0 : World.frozen? _ ⟨go56, (x4_2 : Int).toNat * 4, none⟩ = false := hfr56 0
       have hf56_1 : World.frozen? _ ⟨go56, (x4_2 : Int).toNat * 4 + 1, none⟩ = false := hfr56 1
       have hf56_2 : World.frozen? _ ⟨go56, (x4_2 : Int).toNat * 4 + 2, none⟩ = false := hfr56 2
       have hf56_3 : World.frozen? _ ⟨go56, (x4_2 : Int).toNat * 4 + 3, none⟩ = false := hfr56 3
       (try clear hcl56); (try clear hcc56); (try clear hfr56); (try clear hM56)
       replace p56 := eq_true p56
       replace q56 := eq_true q56
       have HN0_go56 := Aside0.mk (show g ≠ go56 from by have h_ := IsS152.own_neS HI0.out HO_463003.out (by decide); intro e_; exact h_ (by rw [e_]; rfl))
       have HX60 := Aside0.mk (show Kd.S k105 105 _ w.heap.size (fun k_ => ((fun _ => True)) k_ ∧ ¬ (fun _ => False) k_) (.slice (some ⟨go56, 0, none⟩) t457.length co10) t457 from (Kd.S_mono HO_463003.out (fun k_ hk => ⟨trivial, fun e_ => e_⟩)))
       obtain ⟨oki60, ce60, hcl60, hM60, hcc60, hfr60, hoki60, hH60⟩ := Kd.S_elem HX60.out z105 (x4_2 : Int) (sa) (by have h_ : (x4_2 : Int) < ((t457.length : Int) : Int) := sa; first | exact h_ | (have e_ := (Kd.S_reads' HO_463003.out).1; omega) | simpa using h_)
       obtain ⟨ve60_2, ve60_3, rfl, ge60_2, ge60_3⟩ := k105_openM hM60
       have HP60 := (Kd.S_seg hH60 (sa) (by have h_ : (x4_2 : Int) < ((t457.length : Int) : Int) := sa; first | exact h_ | (have e_ := (Kd.S_reads' HO_463003.out).1; omega) | simpa using h_) (seg := [.int .i64 t484]) (j := 1) (show 2 ≤ 4 from by decide) (x' := (⟨(⟨(rd_T105 t457 x4_2).f0.f0, t484⟩ : S102), (rd_T105 t457 x4_2).f1, (rd_T105 t457 x4_2).f2⟩ : S105)) (k105_mkM _ _ _ (⟨(⟨(rd_T105 t457 x4_2).f0.f0, t484⟩ : S102), (rd_T105 t457 x4_2).f1, (rd_T105 t457 x4_2).f2⟩ : S105) ge60_2 ge60_3) (fun _ hk => Or.inl hk) (fun _ hk => hk.elim)).1
       rw [← Ny487.out] at HP60
       have HQ60 := Aside0.mk HP60
       (try clear hcl60); (try clear hcc60); (try clear hfr60); (try clear hM60); (try clear HP60)
       refine hK.out _ _ ⟨bc0 BK462, bc1 BK462, bc2 BK462, bc3 BK462⟩ (fun hHeld => ?_)
       clear hK K
       refine norm_ (a' := ?_) ?_ ?_
       rotate_left
       ·show Act.put _ (some 43) _ = _
        simp only [Act.put, List.setIfInBounds_toArray, List.set_cons_zero, List.set_cons_succ, i64_w, i32_w]
        rfl
       refine put 5 44 #[true, true, true, true, true, true, false, false, false] HT_ ?_
       refine put 6 45 #[true, true, true, true, true, true, true, false, false] HT_ ?_
       refine put 7 46 #[true, true, true, true, true, true, true, true, false] HT_ ?_
       refine last_ (i := 8) (N := none) #[true, true, true, true, true, true, true, true, true] rfl rfl (one_of HT_.out (by kernel_rfl)) (by decide) (fun K hK => ?_)
       refine skip_ (w1 := ?_) (by rfl) rfl ?_ ?_
       rotate_left
       ·go_simp
        rfl
       refine hK.out _ _ ?_
       clear hK K
       refine done_ (done_of HT_.out (by kernel_rfl)) ?_
       have n0_ : Aside0 (Kd.S k105 105 (w59.setCell ⟨go56, (x4_2 : Int).toNat * 4 + 1, none⟩ (.int .i64 t484)) w.heap.size (fun _ => True) (.slice (some ⟨go56, 0, none⟩) t457.length co10) y487) := ⟨ss HQ60⟩
       have n1_ : Aside0 ((w59.setCell ⟨go56, (x4_2 : Int).toNat * 4 + 1, none⟩ (.int .i64 t484)).heap[gb453]? = some (.cells #[.int .i64 0, .int .i64 0, .int .i64 0, .slice none 0 0] 31 (0, 0))) := ⟨by (with_reducible repeat (first | refine blk_drewN ?_ _ | refine blk_drew ?_ | refine blk_alloc ?_ _)); refine blk_far ?_ (by have h_ := Kd.S_ne HO_463003.out BK453.out (by decide); intro e_; exact h_ (by rw [e_]; rfl)) _; (with_reducible repeat (first | refine blk_drewN ?_ _ | refine blk_drew ?_ | refine blk_alloc ?_ _)); exact BK453.out⟩
       have n2_ : Aside0 ((w59.setCell ⟨go56, (x4_2 : Int).toNat * 4 + 1, none⟩ (.int .i64 t484)).heap[gb462]? = some (.cells #[.int .i64 t454, .int .i64 t455, .int .i64 t456, .slice (some ⟨go56, 0, none⟩) t457.length co10] 31 (0, 0))) := ⟨by (with_reducible repeat (first | refine blk_drewN ?_ _ | refine blk_drew ?_ | refine blk_alloc ?_ _)); refine blk_far ?_ (by have h_ := Kd.S_ne HO_463003.out BK462.out (by decide); intro e_; exact h_ (by rw [e_]; rfl)) _; (with_reducible repeat (first | refine blk_drewN ?_ _ | refine blk_drew ?_ | refine blk_alloc ?_ _)); exact BK462.out⟩
       have n3_ : Aside0 (IsS152 w0 (w59.setCell ⟨go56, (x4_2 : Int).toNat * 4 + 1, none⟩ (.int .i64 t484)) g s0_0 t485 t486) := ⟨by repeat (first | (with_reducible first | exact HI0.out | apply IsS152.alloc | apply IsS152.drewN | apply IsS152.drew | apply IsS152.set_1 | apply IsS152.set_2 | refine IsS152.far ?_ HN0_go56.out _ | refine IsS152.far ?_ NB0_453.out _ | refine IsS152.far ?_ NB0_462.out _) | exact HI0.out)⟩
       have n4_ : Aside0 (KeepBut w (w59.setCell ⟨go56, (x4_2 : Int).toNat * 4 + 1, none⟩ (.int .i64 t484)) g none) := ⟨by repeat (first | (with_reducible first | exact HK.out | apply KeepBut.set_ | apply keep_drewN | apply keep_drew | apply keep_alloc | refine keep_far ?_ GB56.out _ | refine keep_far ?_ GW453.out _ | refine keep_far ?_ GW462.out _) | exact HK.out)⟩
       have n5_ : Aside0 (Below w0.heap.size w0 (w59.setCell ⟨go56, (x4_2 : Int).toNat * 4 + 1, none⟩ (.int .i64 t484))) := ⟨by repeat (first | (with_reducible first | exact HB.out | apply below_alloc | apply pw_below_drewN | apply below_drew1 | refine below_set ?_ (Nat.le_trans HL.out GB56.out) | refine below_set ?_ (IsS152.ge HI0.out) | refine below_set ?_ GE453.out | refine below_set ?_ GE462.out) | exact HB.out)⟩
       (try clear HO_463003)
       (try clear BK453)
       (try clear BK462)
       (try clear HI0)
       (try clear HK)
       (try clear HB)
       generalize (w59.setCell ⟨go56, (x4_2 : Int).toNat * 4 + 1, none⟩ (.int .i64 t484)) = w61 at n0_ n1_ n2_ n3_ n4_ n5_ ⊢
       have HO_463003 := n0_
       have BK453 := n1_
       have BK462 := n2_
       have HI0 := n3_
       have HK := n4_
       have HB := n5_
       clear n0_ n1_ n2_ n3_ n4_ n5_
       have hnb62 := NB462_453.out
       have hnc62 := NB453_462.out
       have hnb63 := NB462_0.out
       have hnc63 := NB0_462.out
       obtain ⟨hcz64_0, hcz64_1, hcz64_2, hcz64_3, hfz64_0, hfz64_1, hfz64_2, hfz64_3⟩ := cc4 BK462
       have hnb65 := NB453_0.out
       have hnc65 := NB0_453.out
       obtain ⟨hcz66_0, hcz66_1, hcz66_2, hcz66_3, hfz66_0, hfz66_1, hfz66_2, hfz66_3⟩ := cc4 BK453
       try go_wp2
       refine bodyPost_ret (results_cell_row rfl _ _ gb453 31 #[.int .i64 t454, .int .i64 t455, .int .i64 t456, .slice (some ⟨go56, 0, none⟩) t457.length co10] (0, 0) _ rfl (sp BK453) Try.underlying31 rfl (by kernel_rfl)) rfl ?_
       exact ⟨_, se, by (with_reducible repeat (first | apply Kd.S_alloc | apply Kd.S_drewN | apply Kd.S_drew)); exact Kd.S_mono (Kd.S_far (p := ⟨gb453, 3, none⟩) (Kd.S_far (p := ⟨gb453, 2, none⟩) (Kd.S_far (p := ⟨gb453, 1, none⟩) (Kd.S_far (p := ⟨gb453, 0, none⟩) (Kd.S_types HO_463003.out BK453.out (by decide)) (fun _ hk => hk.2) (.int .i64 t454)) (fun _ hk => hk.2) (.int .i64 t455)) (fun _ hk => hk.2) (.int .i64 t456)) (fun _ hk => hk.2) (.slice (some ⟨go56, 0, none⟩) t457.length co10)) (fun _ hk => trivial), by repeat (first | (with_reducible first | exact HI0.out | apply IsS152.alloc | apply IsS152.drewN | apply IsS152.drew | apply IsS152.set_1 | apply IsS152.set_2 | refine IsS152.far ?_ NB0_453.out _ | refine IsS152.far ?_ NB0_462.out _) | exact HI0.out), by repeat (first | (with_reducible first | exact HB.out | apply below_alloc | apply pw_below_drewN | apply below_drew1 | refine below_set ?_ (IsS152.ge HI0.out) | refine below_set ?_ GE453.out | refine below_set ?_ GE462.out) | exact HB.out), by repeat (first | (with_reducible first | exact HK.out | apply KeepBut.set_ | apply keep_drewN | apply keep_drew | apply keep_alloc | refine keep_far ?_ GW453.out _ | refine keep_far ?_ GW462.out _) | exact HK.out)⟩
      ·have c52b0 : (t466 == 3) = false := beq_eq_false_iff_ne.mpr c52
       have c52b1 : (t466 != 3) = true := bne_iff_ne.mpr c52
       obtain ⟨c67, H⟩ | ⟨c67, H⟩ := ie_ H
       ·have c67b0 : (t466 == 4) = true := beq_iff_eq.mpr c67
        have c67b1 : (t466 != 4) = false := bne_eq_false_iff_eq.mpr c67
        clear c67
        obtain ⟨c68b0, H⟩ := id_ H
        obtain ⟨c69b0, H⟩ := id_ H
        obtain ⟨LMc70, H⟩ := il_ H
        obtain ⟨y489, hy489⟩ : ∃ y_ : List (S134), y_ = (((rd_T105 t457 x4_2).f1) ++ [(⟨0, 1⟩ : S134)]) := ⟨_, rfl⟩
        replace H : (some (t454, t455, t456, (t457.set (x4_2 : Int).toNat (⟨(⟨(rd_T105 t457 x4_2).f0.f0, (rd_T105 t457 x4_2).f0.f1⟩ : S102), y489, (rd_T105 t457 x4_2).f2⟩ : S105)), t467, t468)) = some (r1, r2, r3, r4, r5, r6) := by first | (rw [hy489]; with_reducible exact H) | (have H2_ := (Option.bind_some _ _).symm.trans H; rw [hy489]; with_reducible exact H2_) | (have H2_ := (Option.bind_some _ _).symm.trans H; with_reducible exact H2_) | with_reducible exact H | (rw [hy489]; exact H) | exact H
        have Ny489 := Aside0.mk hy489
        clear hy489
        obtain ⟨y492, hy492⟩ : ∃ y_ : List (S105), y_ = (t457.set (x4_2 : Int).toNat (⟨(⟨(rd_T105 t457 x4_2).f0.f0, (rd_T105 t457 x4_2).f0.f1⟩ : S102), y489, (rd_T105 t457 x4_2).f2⟩ : S105)) := ⟨_, rfl⟩
        replace H : (some (t454, t455, t456, y492, t467, t468)) = some (r1, r2, r3, r4, r5, r6) := by first | (rw [hy492]; with_reducible exact H) | (have H2_ := (Option.bind_some _ _).symm.trans H; rw [hy492]; with_reducible exact H2_) | (have H2_ := (Option.bind_some _ _).symm.trans H; with_reducible exact H2_) | with_reducible exact H | (rw [hy492]; exact H) | exact H
        have Ny492 := Aside0.mk hy492
        clear hy492
        simp only [Option.some.injEq, Prod.mk.injEq] at H
        obtain ⟨rfl, rfl, rfl, rfl, rfl, rfl⟩ := H
        try go_wp2_with (first | ((with_reducible refine gate_callee (f := 76) rfl ?_); refine gL (some 17) Try.func76 #[.pointer (some ⟨g, 0, none⟩), .int .i64 10] ?_; (with_reducible refine (spec_l1Below.calls g s0_0 x1001_2 x1002_2 10 t466 t467 t468 w0 _ ?side1 ?side2 A17.out).mono ?_); (case side1 => repeat (first | (with_reducible first | exact HI0.out | apply IsS152.alloc | apply IsS152.drewN | apply IsS152.drew | apply IsS152.set_1 | apply IsS152.set_2 | refine IsS152.far ?_ NB0_453.out _ | refine IsS152.far ?_ NB0_462.out _) | exact HI0.out)); (case side2 => repeat (first | (with_reducible first | exact HB.out | apply below_alloc | apply pw_below_drewN | apply below_drew1 | refine below_set ?_ (IsS152.ge HI0.out) | refine below_set ?_ GE453.out | refine below_set ?_ GE462.out) | exact HB.out)); rintro e w72 ⟨rfl, hi, hb, hk⟩; refine ⟨_, rfl, ?_⟩; replace HO_463003 := Aside0.mk (Kd.S_mono (Kd.S_keep (IsS152.apartS (show IsS152 w0 _ g s0_0 x1001_2 x1002_2 from by repeat (first | (with_reducible first | exact HI0.out | apply IsS152.alloc | apply IsS152.drewN | apply IsS152.drew | apply IsS152.set_1 | apply IsS152.set_2 | refine IsS152.far ?_ NB0_453.out _ | refine IsS152.far ?_ NB0_462.out _) | exact HI0.out)) (ss HO_463003) (by decide)) hk (fun _ h => h.2)) (fun _ h => h.1)); replace BK453 := Aside0.mk (KeepBut.blk hk (g' := gb453) (o := .cells #[.int .i64 0, .int .i64 0, .int .i64 0, .slice none 0 0] 31 (0, 0)) (sk BK453) NB453_0.out (by simp)); replace BK462 := Aside0.mk (KeepBut.blk hk (g' := gb462) (o := .cells #[.int .i64 t454, .int .i64 t455, .int .i64 t456, .slice Ao10 t457.length co10] 31 (0, 0)) (sk BK462) NB462_0.out (by simp)); replace HK := Aside0.mk (KeepBut.trans (by repeat (first | (with_reducible first | exact HK.out | apply KeepBut.set_ | apply keep_drewN | apply keep_drew | apply keep_alloc | refine keep_far ?_ GW453.out _ | refine keep_far ?_ GW462.out _) | exact HK.out)) hk (.inl rfl)); replace HB := Aside0.mk hb; replace HI0 := Aside0.mk hi; (try clear hb); (try clear hb2); (try clear hk); (try clear hi)))
        replace HO_463003 := Aside0.mk (Kd.S_drew HO_463003.out)
        replace BK453 := Aside0.mk (blk_drew BK453.out)
        replace BK462 := Aside0.mk (blk_drew BK462.out)
        replace HI0 := Aside0.mk (IsS152.drew HI0.out)
        replace HK := Aside0.mk (keep_drew HK.out)
        replace HB := Aside0.mk (below_drew1 HB.out)
        have p488 : 0 ≤ (x4_2 : Int) := sa
        have q488 : x4_2 < (t457.length : Int) := sa
        obtain ⟨ad488, A488_2, c488_2, A488_3, c488_3, e488, hx488_0, hx488_1, hx488_2, hx488_3, hl488_2, hi488_2, hl488_3, hi488_3⟩ := at_T105 (Kd.S_reads' HO_463003.out).2.2 x4_2 p488 q488
        cases e488
        obtain ⟨ce488, hce488, hMe488, hcc488⟩ := Kd.S_get HO_463003.out z105 x4_2 p488 (by first | exact q488 | exact sa | (have e_ := (Kd.S_reads' HO_463003.out).1; omega))
        obtain ⟨ve488_2, ve488_3, rfl, ge488_2, ge488_3⟩ := k105_openM hMe488
        have hv488_2 := hcc488 2 _ rfl
        rw [add_field _ _ 2 (by omega)] at hv488_2
        replace hv488_2 := Option.some.inj (hv488_2.symm.trans hx488_2)
        rw [hv488_2] at ge488_2
        have HL488_2 := Aside0.mk (show Kd.R k134 134 _ _ _ _ ((rd_T105 t457 x4_2).f1) from ge488_2)
        clear hv488_2 ge488_2
        have HX488_2 := Aside0.mk hx488_2
        have hv488_3 := hcc488 3 _ rfl
        rw [add_field _ _ 3 (by omega)] at hv488_3
        replace hv488_3 := Option.some.inj (hv488_3.symm.trans hx488_3)
        rw [hv488_3] at ge488_3
        have HL488_3 := Aside0.mk (show Kd.R k55 55 _ _ _ _ ((rd_T105 t457 x4_2).f2) from ge488_3)
        clear hv488_3 ge488_3
        have HX488_3 := Aside0.mk hx488_3
        clear hcc488 hce488
        have HR488_2 := Aside0.mk hi488_2
        have HC488_2 := Aside0.mk hl488_2
        clear hi488_2 hl488_2
        have HR488_3 := Aside0.mk hi488_3
        have HC488_3 := Aside0.mk hl488_3
        clear hi488_3 hl488_3
        replace p488 := eq_true p488
        replace q488 := eq_true q488
        obtain ⟨go74, co74, eo74, gb74, gl74, cl74, HG74⟩ := Kd.S_form HO_463003.out (by have h_ : (x4_2 : Int) < ((t457.length : Int) : Int) := sa; have h2_ : 0 ≤ (x4_2 : Int) := (sa); omega)
        (first | cases eo74 | (injection eo74 with ea_ en_ ec_; (first | subst ea_ | (injection ea_ with ea_; subst ea_)); subst ec_; clear en_))
        have GB74 := Aside0.mk gb74
        have GG74 := Aside0.mk HG74
        clear gb74 gl74 HG74
        (first | simp only [add_plain] at hx488_0 | skip)
        (first | simp only [add_plain] at hx488_1 | skip)
        (first | simp only [add_plain] at hx488_2 | skip)
        (first | simp only [add_plain] at hx488_3 | skip)
        obtain ⟨oki74, ce74, hcl74, hM74, hcc74, _, _, hH74⟩ := Kd.S_elem HO_463003.out z105 (x4_2 : Int) (sa) (by have h_ : (x4_2 : Int) < ((t457.length : Int) : Int) := sa; first | exact h_ | (have e_ := (Kd.S_reads' HO_463003.out).1; omega) | simpa using h_)
        obtain ⟨ve74_2, ve74_3, rfl, ge74_2, ge74_3⟩ := k105_openM hM74
        have hv74 := hcc74 2 _ rfl
        have hX74 := HX488_2.out
        (try simp only [add_plain] at hX74)
        (try simp only [Nat.add_zero] at hv74)
        replace hv74 := Option.some.inj (hv74.symm.trans hX74)
        subst hv74
        clear hX74 hcc74 hcl74
        have UU74 := Aside0.mk (show Kd.R k134 134 _ w.heap.size oki74 (.slice A488_2 ((rd_T105 t457 x4_2).f1).length c488_2) ((rd_T105 t457 x4_2).f1) from ge74_2)
        have HH74 := Aside0.mk hH74
        have HN74 := Aside0.mk (Kd.S_reads' HO_463003.out).1
        have HE74_3 := Aside0.mk ge74_3
        clear hH74 ge74_2 ge74_3
        refine start_ (n := 15) (S := fun w' => w'.cell? ⟨gb462, 0, none⟩ = some (.int .i64 t454) ∧ w'.cell? ⟨gb462, 1, none⟩ = some (.int .i64 t455) ∧ w'.cell? ⟨gb462, 2, none⟩ = some (.int .i64 t456) ∧ w'.cell? ⟨gb462, 3, none⟩ = some (.slice (some ⟨go74, 0, none⟩) t457.length co10) ∧ w'.cell? ⟨go74, ((x4_2).toNat * 4), none⟩ = some (.int .i64 ((rd_T105 t457 x4_2).f0.f0)) ∧ w'.cell? ⟨go74, ((x4_2).toNat * 4) + 1, none⟩ = some (.int .i64 ((rd_T105 t457 x4_2).f0.f1)) ∧ w'.cell? ⟨go74, ((x4_2).toNat * 4) + 2, none⟩ = some (.slice A488_2 ((rd_T105 t457 x4_2).f1).length c488_2) ∧ w'.cell? ⟨go74, ((x4_2).toNat * 4) + 3, none⟩ = some (.slice A488_3 ((rd_T105 t457 x4_2).f2).length c488_3)) (ds := [14]) #[false, false, false, false, false, false, false, false, false, false, false, false, false, false, false] (by kernel_rfl) rfl rfl ⟨bc0 BK462, bc1 BK462, bc2 BK462, bc3 BK462, hx488_0, hx488_1, hx488_2, hx488_3⟩ (fun hHeld => ?_); refine with_tabW spec_l17Any.tab15 spec_l17Any.bits15 (fun HT_ HW_ => ?_)
        generalize w72.drew = w73 at HO_463003 BK453 BK462 HI0 HK HB GG74 HE74_3 HH74 HL488_2 HL488_3 HR488_2 HR488_3 HX488_2 HX488_3 UU74 hx488_0 hx488_1 hx488_2 hx488_3 hHeld ⊢
        refine put 0 49 #[true, false, false, false, false, false, false, false, false, false, false, false, false, false, false] HT_ ?_
        refine put 2 51 #[true, false, true, false, false, false, false, false, false, false, false, false, false, false, false] HT_ ?_
        refine put 3 52 #[true, false, true, true, false, false, false, false, false, false, false, false, false, false, false] HT_ ?_
        refine put 5 54 #[true, false, true, true, false, true, false, false, false, false, false, false, false, false, false] HT_ ?_
        refine put 9 58 #[true, false, true, true, false, true, false, false, false, true, false, false, false, false, false] HT_ ?_
        refine tat8 1 50 #[true, true, true, true, false, true, false, false, false, true, false, false, false, false, false] HT_ HW_ hHeld ?_
        refine tat8 4 53 #[true, true, true, true, true, true, false, false, false, true, false, false, false, false, false] HT_ HW_ hHeld ?_
        refine put 6 55 #[true, true, true, true, true, true, true, false, false, true, false, false, false, false, false] HT_ ?_
        refine put 7 56 #[true, true, true, true, true, true, true, true, false, true, false, false, false, false, false] HT_ ?_
        refine tat8 8 57 #[true, true, true, true, true, true, true, true, true, true, false, false, false, false, false] HT_ HW_ hHeld ?_
        refine one_ (i := 10) (N := some 59) #[true, true, true, true, true, true, true, true, true, true, true, false, false, false, false] rfl rfl (one_of HT_.out (by kernel_rfl)) (by decide) (fun K hK => ?_)
        refine value_ (w1 := ?_) (v := ?_) (by rfl) rfl ?_ ?_
        rotate_left 2
        ·go_simp
         constructor
         ·rfl
         ·rfl
        refine hK.out _ _ ⟨(blk_cell (blk_alloc BK462.out _) 0).trans rfl, (blk_cell (blk_alloc BK462.out _) 1).trans rfl, (blk_cell (blk_alloc BK462.out _) 2).trans rfl, (blk_cell (blk_alloc BK462.out _) 3).trans rfl, (World.cell?_alloc_lt _ _ _ (World.block_lt_of_cell? _ _ (hHeld.2.2.2.2.1))).trans (hHeld.2.2.2.2.1), (World.cell?_alloc_lt _ _ _ (World.block_lt_of_cell? _ _ (hHeld.2.2.2.2.2.1))).trans (hHeld.2.2.2.2.2.1), (World.cell?_alloc_lt _ _ _ (World.block_lt_of_cell? _ _ (hHeld.2.2.2.2.2.2.1))).trans (hHeld.2.2.2.2.2.2.1), (World.cell?_alloc_lt _ _ _ (World.block_lt_of_cell? _ _ (hHeld.2.2.2.2.2.2.2))).trans (hHeld.2.2.2.2.2.2.2)⟩ (fun hHeld => ?_)
        clear hK K
        refine norm_ (a' := ?_) ?_ ?_
        rotate_left
        ·show Act.put _ (some 59) _ = _
         simp only [Act.put, List.setIfInBounds_toArray, List.set_cons_zero, List.set_cons_succ, i64_w, i32_w]
         rfl
        refine one_ (i := 11) (N := some 60) #[true, true, true, true, true, true, true, true, true, true, true, true, false, false, false] rfl rfl (one_of HT_.out (by kernel_rfl)) (by decide) (fun K hK => ?_)
        refine Kd.R_append_step k134 w.heap.size (by rfl) (.tmp 57) (.tmp 59) 74 134 (.agg #[(.int .i64 0), (.int .i64 0)]) 16 rfl Try.underlying74 info134 rfl (by decide) (by omega) (.slice A488_2 ((rd_T105 t457 x4_2).f1).length c488_2) ((rd_T105 t457 x4_2).f1) (⟨0, 1⟩ : S134) [.int .i64 0, .int .i64 1] (fun k_ => oki74 k_ ∨ ((fun _ => True)) k_ ∧ w73.heap.size ≤ k_) (fun _ => False) rfl rfl ?aP (fun _ hk => hk.elim) ?aF ?aO (Below.refl _ _) ?aS ?aL ?_
        (case aP => exact k134_mkM _ _ _ (⟨0, 1⟩ : S134))
        (case aF => exact (fun k_ hk => .inr ⟨trivial, hk⟩))
        (case aO => exact (by (with_reducible repeat (first | apply Kd.R_alloc | apply Kd.R_drewN | apply Kd.R_drew)); exact Kd.R_mono UU74.out (fun _ hk => .inl hk)))
        (case aS => exact (keep_size (w := w) (g := g) (row := none) (by repeat (first | (with_reducible first | exact HK.out | apply KeepBut.set_ | apply keep_drewN | apply keep_drew | apply keep_alloc | refine keep_far ?_ GW453.out _ | refine keep_far ?_ GW462.out _) | exact HK.out))))
        (case aL => have := LMc70.out; omega)
        intro v490 w75 ho hb hg hat
        (first | have HS4_ := cell_grown hg (hHeld.2.2.2.2.1) (by first | (rw [add_block]; exact (fun e_ => ((HL488_2.out.1 _ e_.symm).2) rfl)) | (show some (Addr.add _ _).block ≠ _; rw [add_block]; exact (fun e_ => ((HL488_2.out.1 _ e_.symm).2) rfl)) | exact (fun e_ => ((HL488_2.out.1 _ e_.symm).2) rfl)) | have HS4_ := cell_grown hg (cell_unalloc (hHeld.2.2.2.2.1) (by first | (rw [add_block]; exact Kd.S_lt HO_463003.out _ rfl) | (show (Addr.add _ _).block < _; rw [add_block]; exact Kd.S_lt HO_463003.out _ rfl) | exact Kd.S_lt HO_463003.out _ rfl)) (by first | (rw [add_block]; exact (fun e_ => ((HL488_2.out.1 _ e_.symm).2) rfl)) | (show some (Addr.add _ _).block ≠ _; rw [add_block]; exact (fun e_ => ((HL488_2.out.1 _ e_.symm).2) rfl)) | exact (fun e_ => ((HL488_2.out.1 _ e_.symm).2) rfl)))
        (first | have HS5_ := cell_grown hg (hHeld.2.2.2.2.2.1) (by first | (rw [add_block]; exact (fun e_ => ((HL488_2.out.1 _ e_.symm).2) rfl)) | (show some (Addr.add _ _).block ≠ _; rw [add_block]; exact (fun e_ => ((HL488_2.out.1 _ e_.symm).2) rfl)) | exact (fun e_ => ((HL488_2.out.1 _ e_.symm).2) rfl)) | have HS5_ := cell_grown hg (cell_unalloc (hHeld.2.2.2.2.2.1) (by first | (rw [add_block]; exact Kd.S_lt HO_463003.out _ rfl) | (show (Addr.add _ _).block < _; rw [add_block]; exact Kd.S_lt HO_463003.out _ rfl) | exact Kd.S_lt HO_463003.out _ rfl)) (by first | (rw [add_block]; exact (fun e_ => ((HL488_2.out.1 _ e_.symm).2) rfl)) | (show some (Addr.add _ _).block ≠ _; rw [add_block]; exact (fun e_ => ((HL488_2.out.1 _ e_.symm).2) rfl)) | exact (fun e_ => ((HL488_2.out.1 _ e_.symm).2) rfl)))
        (first | have HS6_ := cell_grown hg (hHeld.2.2.2.2.2.2.1) (by first | (rw [add_block]; exact (fun e_ => ((HL488_2.out.1 _ e_.symm).2) rfl)) | (show some (Addr.add _ _).block ≠ _; rw [add_block]; exact (fun e_ => ((HL488_2.out.1 _ e_.symm).2) rfl)) | exact (fun e_ => ((HL488_2.out.1 _ e_.symm).2) rfl)) | have HS6_ := cell_grown hg (cell_unalloc (hHeld.2.2.2.2.2.2.1) (by first | (rw [add_block]; exact Kd.S_lt HO_463003.out _ rfl) | (show (Addr.add _ _).block < _; rw [add_block]; exact Kd.S_lt HO_463003.out _ rfl) | exact Kd.S_lt HO_463003.out _ rfl)) (by first | (rw [add_block]; exact (fun e_ => ((HL488_2.out.1 _ e_.symm).2) rfl)) | (show some (Addr.add _ _).block ≠ _; rw [add_block]; exact (fun e_ => ((HL488_2.out.1 _ e_.symm).2) rfl)) | exact (fun e_ => ((HL488_2.out.1 _ e_.symm).2) rfl)))
        (first | have HS7_ := cell_grown hg (hHeld.2.2.2.2.2.2.2) (by first | (rw [add_block]; exact (fun e_ => ((HL488_2.out.1 _ e_.symm).2) rfl)) | (show some (Addr.add _ _).block ≠ _; rw [add_block]; exact (fun e_ => ((HL488_2.out.1 _ e_.symm).2) rfl)) | exact (fun e_ => ((HL488_2.out.1 _ e_.symm).2) rfl)) | have HS7_ := cell_grown hg (cell_unalloc (hHeld.2.2.2.2.2.2.2) (by first | (rw [add_block]; exact Kd.S_lt HO_463003.out _ rfl) | (show (Addr.add _ _).block < _; rw [add_block]; exact Kd.S_lt HO_463003.out _ rfl) | exact Kd.S_lt HO_463003.out _ rfl)) (by first | (rw [add_block]; exact (fun e_ => ((HL488_2.out.1 _ e_.symm).2) rfl)) | (show some (Addr.add _ _).block ≠ _; rw [add_block]; exact (fun e_ => ((HL488_2.out.1 _ e_.symm).2) rfl)) | exact (fun e_ => ((HL488_2.out.1 _ e_.symm).2) rfl)))
        rw [← Ny489.out] at ho
        replace BK453 := Aside0.mk (blk_grown (g := gb453) (o := .cells #[.int .i64 0, .int .i64 0, .int .i64 0, .slice none 0 0] 31 (0, 0)) (sk BK453) hg (Kd.R_ne HL488_2.out BK453.out (by decide)))
        replace BK462 := Aside0.mk (blk_grown (g := gb462) (o := .cells #[.int .i64 t454, .int .i64 t455, .int .i64 t456, .slice (some ⟨go74, 0, none⟩) t457.length co10] 31 (0, 0)) (sk BK462) hg (Kd.R_ne HL488_2.out BK462.out (by decide)))
        replace HB := Aside0.mk (below_weaken (by repeat (first | (with_reducible first | exact HB.out | apply below_alloc | apply pw_below_drewN | apply below_drew1 | refine below_set ?_ (IsS152.ge HI0.out) | refine below_set ?_ GE453.out | refine below_set ?_ GE462.out) | exact HB.out)) HL.out hb)
        replace HI0 := Aside0.mk (IsS152.grown (by repeat (first | (with_reducible first | exact HI0.out | apply IsS152.alloc | apply IsS152.drewN | apply IsS152.drew | apply IsS152.set_1 | apply IsS152.set_2 | refine IsS152.far ?_ NB0_453.out _ | refine IsS152.far ?_ NB0_462.out _) | exact HI0.out)) hg (IsS152.own_ne HI0.out HL488_2.out (by decide)))
        replace HK := Aside0.mk (KeepBut.trans (by repeat (first | (with_reducible first | exact HK.out | apply KeepBut.set_ | apply keep_drewN | apply keep_drew | apply keep_alloc | refine keep_far ?_ GW453.out _ | refine keep_far ?_ GW462.out _) | exact HK.out)) (KeepBut.of_grown hg g) (Kd.R_base2 HL488_2.out))
        replace HH74 := Aside0.mk (Kd.H_grown (Kd.H_widen (by repeat (first | exact HH74.out | refine Kd.H_alloc ?_ _ | refine Kd.H_drewN ?_ _ | refine Kd.H_drew ?_))) hg (fun k_ e_ => .inl (UU74.out.1 k_ e_)))
        replace HE74_3 := Aside0.mk (Kd.R_over' (v := (.slice A488_2 ((rd_T105 t457 x4_2).f1).length c488_2)) (sr HE74_3) (Kd.R_typed UU74.out) (by decide) hg)
        have HO491 := Aside0.mk ho
        clear HO_463003 UU74 HL488_2 HL488_3 ho hb hg hat
        have p71 : 0 ≤ (x4_2 : Int) := sa
        have q71 : (x4_2 : Int) < ((t457.length : Int) : Int) := sa
        replace p71 := eq_true p71
        replace q71 := eq_true q71
        obtain ⟨Ao78, co78, eo78⟩ := Kd.R_slice HO491.out
        (first | subst eo78 | (injection eo78 with f1_ f2_ f3_; have f4_ := f1_.symm; have f5_ := f3_.symm; clear f1_ f2_ f3_; subst f4_; subst f5_))
        obtain ⟨_, _, hraw76, _, _, hcc76, _⟩ := Kd.H_raw HH74.out (sa) (by have h_ : (x4_2 : Int) < ((t457.length : Int) : Int) := sa; first | exact h_ | (have e_ := (HN74.out); omega) | simpa using h_)
        obtain ⟨_, hfr76⟩ := Kd.H_at HH74.out (sa) (by have h_ : (x4_2 : Int) < ((t457.length : Int) : Int) := sa; first | exact h_ | (have e_ := (HN74.out); omega) | simpa using h_)
        have hx76_0 := hcc76 2 _ rfl
        have hf76_0 := hfr76 2
        (try rw [show (k105).sz = 4 from rfl] at hx76_0)
        (try rw [show (k105).sz = 4 from rfl] at hf76_0)
        have HP76 := Kd.S_seg0 HH74.out (sa) (by have h_ : (x4_2 : Int) < ((t457.length : Int) : Int) := sa; first | exact h_ | (have e_ := (HN74.out); omega) | simpa using h_) (seg := [.slice Ao78 y489.length co78]) (j := 2) (show 3 ≤ 4 from by decide) (x' := (⟨(⟨(rd_T105 t457 x4_2).f0.f0, (rd_T105 t457 x4_2).f0.f1⟩ : S102), y489, (rd_T105 t457 x4_2).f2⟩ : S105)) (k105_mkM _ _ _ (⟨(⟨(rd_T105 t457 x4_2).f0.f0, (rd_T105 t457 x4_2).f0.f1⟩ : S102), y489, (rd_T105 t457 x4_2).f2⟩ : S105) HO491.out (Kd.R_mono HE74_3.out (fun _ h_ => .inl h_))) (fun _ hk => hk)
        clear hcc76 hfr76
        have HN0_go74 := Aside0.mk (show g ≠ go74 from by have h_ := IsS152.own_ne HI0.out hraw76 (by decide); intro e_; exact h_ (by rw [e_]; rfl))
        have HNB453_go74 := Aside0.mk (show gb453 ≠ go74 from by have h_ := Kd.R_ne hraw76 BK453.out (by decide); intro e_; exact h_ (by rw [e_]; rfl))
        have HNB462_go74 := Aside0.mk (show gb462 ≠ go74 from by have h_ := Kd.R_ne hraw76 BK462.out (by decide); intro e_; exact h_ (by rw [e_]; rfl))
        have HS76 := HP76.1
        rw [← Ny492.out] at HS76
        have HQ76 := Aside0.mk HS76
        obtain ⟨_, hgg76⟩ := Kd.R_typed hraw76 go74 rfl
        have GG76_ := Aside0.mk hgg76
        clear HP76 HS76 hgg76
        refine hK.out _ _ ⟨bc0 BK462, bc1 BK462, bc2 BK462, bc3 BK462, HS4_, HS5_, HS6_, HS7_⟩ (fun hHeld => ?_)
        clear hK K
        refine norm_ (a' := ?_) ?_ ?_
        rotate_left
        ·show Act.put _ (some 60) _ = _
         simp only [Act.put, List.setIfInBounds_toArray, List.set_cons_zero, List.set_cons_succ, i64_w, i32_w]
         rfl
        refine put 12 61 #[true, true, true, true, true, true, true, true, true, true, true, true, true, false, false] HT_ ?_
        refine put 13 62 #[true, true, true, true, true, true, true, true, true, true, true, true, true, true, false] HT_ ?_
        refine last_ (i := 14) (N := none) #[true, true, true, true, true, true, true, true, true, true, true, true, true, true, true] rfl rfl (one_of HT_.out (by kernel_rfl)) (by decide) (fun K hK => ?_)
        refine skip_ (w1 := ?_) (by rfl) rfl ?_ ?_
        rotate_left
        ·go_simp
         rfl
        refine hK.out _ _ ?_
        clear hK K
        refine done_ (done_of HT_.out (by kernel_rfl)) ?_
        have n0_ : Aside0 (Kd.S k105 105 (w75.setCell ⟨go74, (x4_2 : Int).toNat * 4 + 2, none⟩ (.slice Ao78 y489.length co78)) w.heap.size (fun _ => True) (.slice (some ⟨go74, 0, none⟩) t457.length co10) y492) := ⟨ss HQ76⟩
        have n1_ : Aside0 ((w75.setCell ⟨go74, (x4_2 : Int).toNat * 4 + 2, none⟩ (.slice Ao78 y489.length co78)).heap[gb453]? = some (.cells #[.int .i64 0, .int .i64 0, .int .i64 0, .slice none 0 0] 31 (0, 0))) := ⟨sp BK453⟩
        have n2_ : Aside0 ((w75.setCell ⟨go74, (x4_2 : Int).toNat * 4 + 2, none⟩ (.slice Ao78 y489.length co78)).heap[gb462]? = some (.cells #[.int .i64 t454, .int .i64 t455, .int .i64 t456, .slice (some ⟨go74, 0, none⟩) t457.length co10] 31 (0, 0))) := ⟨sp BK462⟩
        have n3_ : Aside0 (IsS152 w0 (w75.setCell ⟨go74, (x4_2 : Int).toNat * 4 + 2, none⟩ (.slice Ao78 y489.length co78)) g s0_0 t467 t468) := ⟨by repeat (first | (with_reducible first | exact HI0.out | apply IsS152.alloc | apply IsS152.drewN | apply IsS152.drew | apply IsS152.set_1 | apply IsS152.set_2 | refine IsS152.far ?_ HN0_go74.out _ | refine IsS152.far ?_ NB0_453.out _ | refine IsS152.far ?_ NB0_462.out _) | exact HI0.out)⟩
        have n4_ : Aside0 (KeepBut w (w75.setCell ⟨go74, (x4_2 : Int).toNat * 4 + 2, none⟩ (.slice Ao78 y489.length co78)) g none) := ⟨by repeat (first | (with_reducible first | exact HK.out | apply KeepBut.set_ | apply keep_drewN | apply keep_drew | apply keep_alloc | refine keep_far ?_ GB74.out _ | refine keep_far ?_ GW453.out _ | refine keep_far ?_ GW462.out _) | exact HK.out)⟩
        have n5_ : Aside0 (Below w0.heap.size w0 (w75.setCell ⟨go74, (x4_2 : Int).toNat * 4 + 2, none⟩ (.slice Ao78 y489.length co78))) := ⟨by repeat (first | (with_reducible first | exact HB.out | apply below_alloc | apply pw_below_drewN | apply below_drew1 | refine below_set ?_ (Nat.le_trans HL.out GB74.out) | refine below_set ?_ (IsS152.ge HI0.out) | refine below_set ?_ GE453.out | refine below_set ?_ GE462.out) | exact HB.out)⟩
        (try clear HO_463003)
        (try clear BK453)
        (try clear BK462)
        (try clear HI0)
        (try clear HK)
        (try clear HB)
        generalize (w75.setCell ⟨go74, (x4_2 : Int).toNat * 4 + 2, none⟩ (.slice Ao78 y489.length co78)) = w79 at n0_ n1_ n2_ n3_ n4_ n5_ ⊢
        have HO_463003 := n0_
        have BK453 := n1_
        have BK462 := n2_
        have HI0 := n3_
        have HK := n4_
        have HB := n5_
        clear n0_ n1_ n2_ n3_ n4_ n5_
        have hnb80 := NB462_453.out
        have hnc80 := NB453_462.out
        have hnb81 := NB462_0.out
        have hnc81 := NB0_462.out
        obtain ⟨hcz82_0, hcz82_1, hcz82_2, hcz82_3, hfz82_0, hfz82_1, hfz82_2, hfz82_3⟩ := cc4 BK462
        have hnb83 := NB453_0.out
        have hnc83 := NB0_453.out
        obtain ⟨hcz84_0, hcz84_1, hcz84_2, hcz84_3, hfz84_0, hfz84_1, hfz84_2, hfz84_3⟩ := cc4 BK453
        try go_wp2
        refine bodyPost_ret (results_cell_row rfl _ _ gb453 31 #[.int .i64 t454, .int .i64 t455, .int .i64 t456, .slice (some ⟨go74, 0, none⟩) t457.length co10] (0, 0) _ rfl (sp BK453) Try.underlying31 rfl (by kernel_rfl)) rfl ?_
        exact ⟨_, se, by (with_reducible repeat (first | apply Kd.S_alloc | apply Kd.S_drewN | apply Kd.S_drew)); exact Kd.S_mono (Kd.S_far (p := ⟨gb453, 3, none⟩) (Kd.S_far (p := ⟨gb453, 2, none⟩) (Kd.S_far (p := ⟨gb453, 1, none⟩) (Kd.S_far (p := ⟨gb453, 0, none⟩) (Kd.S_types HO_463003.out BK453.out (by decide)) (fun _ hk => hk.2) (.int .i64 t454)) (fun _ hk => hk.2) (.int .i64 t455)) (fun _ hk => hk.2) (.int .i64 t456)) (fun _ hk => hk.2) (.slice (some ⟨go74, 0, none⟩) t457.length co10)) (fun _ hk => trivial), by repeat (first | (with_reducible first | exact HI0.out | apply IsS152.alloc | apply IsS152.drewN | apply IsS152.drew | apply IsS152.set_1 | apply IsS152.set_2 | refine IsS152.far ?_ NB0_453.out _ | refine IsS152.far ?_ NB0_462.out _) | exact HI0.out), by repeat (first | (with_reducible first | exact HB.out | apply below_alloc | apply pw_below_drewN | apply below_drew1 | refine below_set ?_ (IsS152.ge HI0.out) | refine below_set ?_ GE453.out | refine below_set ?_ GE462.out) | exact HB.out), by repeat (first | (with_reducible first | exact HK.out | apply KeepBut.set_ | apply keep_drewN | apply keep_drew | apply keep_alloc | refine keep_far ?_ GW453.out _ | refine keep_far ?_ GW462.out _) | exact HK.out)⟩
       ·have c67b0 : (t466 == 4) = false := beq_eq_false_iff_ne.mpr c67
        have c67b1 : (t466 != 4) = true := bne_iff_ne.mpr c67
        simp only [Option.some.injEq, Prod.mk.injEq] at H
        obtain ⟨rfl, rfl, rfl, rfl, rfl, rfl⟩ := H
        go_wp2_with (first | ((with_reducible refine gate_callee (f := 76) rfl ?_); refine gL (some 17) Try.func76 #[.pointer (some ⟨g, 0, none⟩), .int .i64 10] ?_; (with_reducible refine (spec_l1Below.calls g s0_0 x1001_2 x1002_2 10 t466 t467 t468 w0 _ ?side1 ?side2 A17.out).mono ?_); (case side1 => repeat (first | (with_reducible first | exact HI0.out | apply IsS152.alloc | apply IsS152.drewN | apply IsS152.drew | apply IsS152.set_1 | apply IsS152.set_2 | refine IsS152.far ?_ NB0_453.out _ | refine IsS152.far ?_ NB0_462.out _) | exact HI0.out)); (case side2 => repeat (first | (with_reducible first | exact HB.out | apply below_alloc | apply pw_below_drewN | apply below_drew1 | refine below_set ?_ (IsS152.ge HI0.out) | refine below_set ?_ GE453.out | refine below_set ?_ GE462.out) | exact HB.out)); rintro e w85 ⟨rfl, hi, hb, hk⟩; refine ⟨_, rfl, ?_⟩; replace HO_463003 := Aside0.mk (Kd.S_mono (Kd.S_keep (IsS152.apartS (show IsS152 w0 _ g s0_0 x1001_2 x1002_2 from by repeat (first | (with_reducible first | exact HI0.out | apply IsS152.alloc | apply IsS152.drewN | apply IsS152.drew | apply IsS152.set_1 | apply IsS152.set_2 | refine IsS152.far ?_ NB0_453.out _ | refine IsS152.far ?_ NB0_462.out _) | exact HI0.out)) (ss HO_463003) (by decide)) hk (fun _ h => h.2)) (fun _ h => h.1)); replace BK453 := Aside0.mk (KeepBut.blk hk (g' := gb453) (o := .cells #[.int .i64 0, .int .i64 0, .int .i64 0, .slice none 0 0] 31 (0, 0)) (sk BK453) NB453_0.out (by simp)); replace BK462 := Aside0.mk (KeepBut.blk hk (g' := gb462) (o := .cells #[.int .i64 t454, .int .i64 t455, .int .i64 t456, .slice Ao10 t457.length co10] 31 (0, 0)) (sk BK462) NB462_0.out (by simp)); replace HK := Aside0.mk (KeepBut.trans (by repeat (first | (with_reducible first | exact HK.out | apply KeepBut.set_ | apply keep_drewN | apply keep_drew | apply keep_alloc | refine keep_far ?_ GW453.out _ | refine keep_far ?_ GW462.out _) | exact HK.out)) hk (.inl rfl)); replace HB := Aside0.mk hb; replace HI0 := Aside0.mk hi; (try clear hb); (try clear hb2); (try clear hk); (try clear hi); have hnb86 := NB462_453.out; have hnc86 := NB453_462.out; have hnb87 := NB462_0.out; have hnc87 := NB0_462.out; obtain ⟨hcz88_0, hcz88_1, hcz88_2, hcz88_3, hfz88_0, hfz88_1, hfz88_2, hfz88_3⟩ := cc4 BK462; have hnb89 := NB453_0.out; have hnc89 := NB0_453.out; obtain ⟨hcz90_0, hcz90_1, hcz90_2, hcz90_3, hfz90_0, hfz90_1, hfz90_2, hfz90_3⟩ := cc4 BK453))
        refine bodyPost_ret (results_cell_row rfl _ _ gb453 31 #[.int .i64 t454, .int .i64 t455, .int .i64 t456, .slice Ao10 t457.length co10] (0, 0) _ rfl (sp BK453) Try.underlying31 rfl (by kernel_rfl)) rfl ?_
        exact ⟨_, se, by (with_reducible repeat (first | apply Kd.S_alloc | apply Kd.S_drewN | apply Kd.S_drew)); exact Kd.S_mono (Kd.S_far (p := ⟨gb453, 3, none⟩) (Kd.S_far (p := ⟨gb453, 2, none⟩) (Kd.S_far (p := ⟨gb453, 1, none⟩) (Kd.S_far (p := ⟨gb453, 0, none⟩) (Kd.S_types HO_463003.out BK453.out (by decide)) (fun _ hk => hk.2) (.int .i64 t454)) (fun _ hk => hk.2) (.int .i64 t455)) (fun _ hk => hk.2) (.int .i64 t456)) (fun _ hk => hk.2) (.slice Ao10 t457.length co10)) (fun _ hk => trivial), by repeat (first | (with_reducible first | exact HI0.out | apply IsS152.alloc | apply IsS152.drewN | apply IsS152.drew | apply IsS152.set_1 | apply IsS152.set_2 | refine IsS152.far ?_ NB0_453.out _ | refine IsS152.far ?_ NB0_462.out _) | exact HI0.out), by repeat (first | (with_reducible first | exact HB.out | apply below_alloc | apply pw_below_drewN | apply below_drew1 | refine below_set ?_ (IsS152.ge HI0.out) | refine below_set ?_ GE453.out | refine below_set ?_ GE462.out) | exact HB.out), by repeat (first | (with_reducible first | exact HK.out | apply KeepBut.set_ | apply keep_drewN | apply keep_drew | apply keep_alloc | refine keep_far ?_ GW453.out _ | refine keep_far ?_ GW462.out _) | exact HK.out)⟩

end Go.Proofs.Ytiihaabhjphaeaa.QFnMixtures
