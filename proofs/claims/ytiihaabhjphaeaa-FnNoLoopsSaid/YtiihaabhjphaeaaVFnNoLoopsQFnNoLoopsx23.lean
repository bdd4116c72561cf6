/- Printed by a program of the session. Conditions: none. (squeezed). -/
import Derived.Test.YtiihaabhjphaeaaVFnNoLoopsQFnNoLoopsx20
import Derived.Test.YtiihaabhjphaeaaVFnNoLoopsQFnNoLoopsx22
namespace Go.Proofs.Ytiihaabhjphaeaa.QFnNoLoops
set_option maxHeartbeats 8000000
set_option maxRecDepth 100000
open Go.RowKit Go.Proofs.YtiihaabhjphaeaaW.PrintWords Go.Proofs.YtiihaabhjphaeaaW.PrintLast Go.Proofs.YtiihaabhjphaeaaW.PrintMore Go.Proofs.Ytiihaabhjphaeaa.Open Go.Proofs.Ytiihaabhjphaeaa.Sq
attribute [local go_sem] max2_int min2_int max_two min_two max_three min_three max_four min_four   -- for this text's walks alone
attribute [local go_sem] isSome_set
set_option linter.unusedVariables false
set_option linter.unusedSimpArgs false

theorem a23_3 {P : Prop} (h : P := by repeat (first | (with_reducible first | exact HB.out | apply below_alloc | apply pw_below_drewN | apply below_drew1 | refine below_set ?_ (IsS152.ge HI743.out) | refine below_set ?_ GE739.out | refine below_set ?_ GE752.out) | exact HB.out)) : P := h
theorem a23_2 {P : Prop} (h : P := by repeat (first | (with_reducible first | exact HI743.out | apply IsS152.alloc | apply IsS152.drewN | apply IsS152.drew | apply IsS152.set_1 | apply IsS152.set_2 | refine IsS152.far ?_ NB743_739.out _) | exact HI743.out)) : P := h
theorem a23_1 {P : Prop} (h : P := by repeat (first | (with_reducible first | exact HI743.out | apply IsS152.alloc | apply IsS152.drewN | apply IsS152.drew | apply IsS152.set_1 | apply IsS152.set_2 | refine IsS152.far ?_ NB743_739.out _ | refine IsS152.far ?_ NB743_752.out _) | exact HI743.out)) : P := h
theorem a23_0 {P : Prop} (h : P := by repeat (first | (with_reducible first | exact HB.out | apply below_alloc | apply pw_below_drewN | apply below_drew1 | refine below_set ?_ (IsS152.ge HI743.out) | refine below_set ?_ GE739.out) | exact HB.out)) : P := h
def spec_HopAt.f (k : Nat) (a0_0 : Int) (a0_1 : Int) (a0_2 : Int) (l0_3 : List (S105)) (a1 : Int) (a2 : Int) (a3 : Int) : Option (Int) := (spec_l1In.f a0_2 0 5).bind fun t724 => (if t724 = true then ((spec_l1In.f a3 0 1000).bind fun t725 => (if t725 = true then ((spec_IsSafeMix.f k a0_0 a0_1 a0_2 l0_3 a2 (wrap64 (a3 - (wrap64 (2 * a0_2)))) (wrap64 (a3 + (wrap64 (2 * a0_2))))).bind fun t726 => (if t726 = true then ((spec_l19Next.f k a0_0 a0_1 a0_2 l0_3 a1 a2 a3).bind fun t727 => (some t727)) else (some (-1)))) else (some (-1)))) else (some (-1)))
theorem spec_HopAt.mono : ∀ a0 a1 a2 a3 a4 a5 a6 k, LeO (spec_HopAt.f k a0 a1 a2 a3 a4 a5 a6) (spec_HopAt.f (k + 1) a0 a1 a2 a3 a4 a5 a6) := by
  intro a0 a1 a2 a3 a4 a5 a6 k
  unfold spec_HopAt.f
  have m0 := @spec_IsSafeMix.mono
  have m1 := @spec_l19Next.mono
  exact mo
theorem e23_0 {P : Prop} (h : P := by
 obtain rfl := Option.some.inj H
 go_enter Try.func86, Try.ntmps86
 go_wp2_with (first | ((with_reducible refine gd 4 rfl ?_); refine bx 4 #[.int .i64 a0_0, .int .i64 a0_1, .int .i64 a0_2, .slice A0_3 l0_3.length c0_3] 31 ?_; intro gb723 hg w12 hbox hb; have GW723 := bz w hg; have GE723 := bz w hg; replace HB := bs hb; have BK723 := am hbox; clear hb hbox hg; obtain ⟨hcz13_0, hcz13_1, hcz13_2, hcz13_3, hfz13_0, hfz13_1, hfz13_2, hfz13_3⟩ := cc4 BK723) | (have _ := A7; (with_reducible refine gc 85 rfl ?_); refine gL (some 11) Try.func85 #[.int .i64 a0_2, .int .i64 0, .int .i64 5] ?_; (with_reducible refine (spec_l1In.calls a0_2 0 5 true _ A5.out).mono ?_); rintro e w' ⟨rfl, ⟨nd, rfl⟩⟩; refine ⟨_, rfl, ?_⟩) | (have _ := A9; go_at_call 85; (with_reducible refine (spec_l1In.calls a3 0 1000 true _ A7.out).mono ?_); rintro e w' ⟨rfl, ⟨nd, rfl⟩⟩) | (have _ := A11; go_at_call 141; (try simp only [i64_w, i32_w]); (with_reducible refine (spec_IsSafeMix.calls k a0_0 a0_1 a0_2 _ _ l0_3 a2 (wrap64 (a3 - (wrap64 (2 * a0_2)))) (wrap64 (a3 + (wrap64 (2 * a0_2)))) true _ ?side1 ?side2 A9.out).mono ?_); (case side1 => exact cbw HR0_3); (case side2 => exact HC0_3.out); rintro e w14 ⟨rfl, hb⟩; replace BK723 := bb BK723 hb; replace HB := bsw hb; (try clear hb); obtain ⟨hcz15_0, hcz15_1, hcz15_2, hcz15_3, hfz15_0, hfz15_1, hfz15_2, hfz15_3⟩ := cc4 BK723) | (have _ := A11; (with_reducible refine gc 142 rfl ?_); refine gL (some 38) Try.func142 #[.agg #[.int .i64 a0_0, .int .i64 a0_1, .int .i64 a0_2, .slice A0_3 l0_3.length c0_3], .int .i64 a1, .int .i64 a2, .int .i64 a3] ?_; (with_reducible refine (spec_l19Next.calls k a0_0 a0_1 a0_2 _ _ l0_3 a1 a2 a3 t727 _ ?side1 ?side2 A11.out).mono ?_); (case side1 => exact cb HR0_3); (case side2 => exact HC0_3.out); rintro e w16 ⟨rfl, hb⟩; refine ⟨_, rfl, ?_⟩; replace BK723 := bb BK723 hb; replace HB := bsw hb; (try clear hb)) | (have _ := A9; go_at_call 141; (try simp only [i64_w, i32_w]); (with_reducible refine (spec_IsSafeMix.calls k a0_0 a0_1 a0_2 _ _ l0_3 a2 (wrap64 (a3 - (wrap64 (2 * a0_2)))) (wrap64 (a3 + (wrap64 (2 * a0_2)))) false _ ?side1 ?side2 A9.out).mono ?_); (case side1 => exact cbw HR0_3); (case side2 => exact HC0_3.out); rintro e w19 ⟨rfl, hb⟩; replace BK723 := bb BK723 hb; replace HB := bsw hb; (try clear hb)) | (have _ := A7; go_at_call 85; (with_reducible refine (spec_l1In.calls a3 0 1000 false _ A7.out).mono ?_); rintro e w' ⟨rfl, ⟨nd, rfl⟩⟩) | ((with_reducible refine gc 85 rfl ?_); refine gL (some 11) Try.func85 #[.int .i64 a0_2, .int .i64 0, .int .i64 5] ?_; (with_reducible refine (spec_l1In.calls a0_2 0 5 false _ A5.out).mono ?_); rintro e w' ⟨rfl, ⟨nd, rfl⟩⟩; refine ⟨_, rfl, ?_⟩))
 first
 | have _ := A7
   go_ret
   exact ⟨se, sbw⟩
 | go_ret
   exact ⟨se, sbw⟩
   ) : P := h
theorem spec_HopAt.calls (k : Nat) (a0_0 : Int) (a0_1 : Int) (a0_2 : Int) (A0_3 : Option Addr) (c0_3 : Nat) (l0_3 : List (S105)) (a1 : Int) (a2 : Int) (a3 : Int) (r : Int) (w : World) (hr0_3 : Kd.C k105 w A0_3 l0_3.length l0_3) (hc0_3 : l0_3.length ≤ c0_3) (h : spec_HopAt.f k a0_0 a0_1 a0_2 l0_3 a1 a2 a3 = some r) :
    Calls Try.prog 86 #[.agg #[.int .i64 a0_0, .int .i64 a0_1, .int .i64 a0_2, .slice A0_3 l0_3.length c0_3], .int .i64 a1, .int .i64 a2, .int .i64 a3] w fun e w' => e = .returned (.int .i64 r) ∧ Below w.heap.size w w' := by
 have hu31 := Try.underlying31
 have HR0_3 := am hr0_3
 have HC0_3 := am hc0_3
 clear hr0_3 hc0_3
 have HB := am (Below.refl w.heap.size w)
 have H := h; unfold spec_HopAt.f at H
 clear h
 obtain ⟨t724, A5, H⟩ := bnd H
 obtain rfl | rfl := tt t724
 ·replace H := ip H
  obtain ⟨t725, A7, H⟩ := bnd H
  obtain rfl | rfl := tt t725
  ·replace H := ip H
   obtain ⟨t726, A9, H⟩ := bnd H
   obtain rfl | rfl := tt t726
   ·replace H := ip H
    obtain ⟨t727, A11, H⟩ := bnd H
    exact e23_0
   ·replace H := im H
    exact e23_0
  ·replace H := im H
   exact e23_0
 ·replace H := im H
  exact e23_0
mutual
def spec_NextsAt.j0 : Nat → Int → Int → List Int → List Int → Bool → Int → Int → Int → List (S105) → Option (List Int)
  | 0, _, _, _, _, _, _, _, _, _ => none
  | k + 1, x1, x2, x3, x9, x20, x729000, x729001, x729002, x729003 => if x20 = true then (some x9) else (spec_NextsAt.l0 k x1 x2 x3 x9 0 x729000 x729001 x729002 x729003)
def spec_NextsAt.l0 : Nat → Int → Int → List Int → List Int → Int → Int → Int → Int → List (S105) → Option (List Int)
  | 0, _, _, _, _, _, _, _, _, _ => none
  | k + 1, x1, x2, x3, x9, x10, x729000, x729001, x729002, x729003 => if x10 < (x3.length : Int) then (if 0 ≤ x10 then ((spec_HopAt.f k x729000 x729001 x729002 x729003 x10 x1 (wrap64 (x2 + (rd x3 x10)))).bind fun t735 => (if x9.length < 17592186044416 then (spec_NextsAt.l0 k x1 x2 x3 (x9 ++ [t735]) (wrap64 (x10 + 1)) x729000 x729001 x729002 x729003) else (none))) else (none)) else (some x9)
end
def spec_NextsAt.f (k : Nat) (a0_0 : Int) (a0_1 : Int) (a0_2 : Int) (l0_3 : List (S105)) (a1 : Int) (a2 : Int) (l3 : List Int) : Option (List Int) := (some (([] : List Int) : List Int)).bind fun y729 => ((spec_AreOffsets.f k a0_0 a0_1 a0_2 l0_3 l3).bind fun t732 => (if t732 = true then ((spec_l1In.f a2 0 1000).bind fun t733 => (spec_NextsAt.j0 k a1 a2 l3 y729 (!t733) a0_0 a0_1 a0_2 l0_3)) else (spec_NextsAt.j0 k a1 a2 l3 y729 true a0_0 a0_1 a0_2 l0_3)))
theorem spec_NextsAt.mono_l : ∀ k, (∀ y0 y1 y2 y3 y4 y5 y6 y7 y8, LeO (spec_NextsAt.j0 k y0 y1 y2 y3 y4 y5 y6 y7 y8) (spec_NextsAt.j0 (k + 1) y0 y1 y2 y3 y4 y5 y6 y7 y8)) ∧ (∀ y0 y1 y2 y3 y4 y5 y6 y7 y8, LeO (spec_NextsAt.l0 k y0 y1 y2 y3 y4 y5 y6 y7 y8) (spec_NextsAt.l0 (k + 1) y0 y1 y2 y3 y4 y5 y6 y7 y8))
  | 0 => ⟨fun _ _ _ _ _ _ _ _ _ r h => by simp [spec_NextsAt.j0] at h, fun _ _ _ _ _ _ _ _ _ r h => by simp [spec_NextsAt.l0] at h⟩
  | k + 1 => by
    obtain ⟨ih0, ih1⟩ := spec_NextsAt.mono_l k
    refine ⟨?_, ?_⟩
    · intro y0 y1 y2 y3 y4 y5 y6 y7 y8
      unfold spec_NextsAt.j0
      have m0 := @spec_AreOffsets.mono
      have m1 := @spec_HopAt.mono
      exact mo
    · intro y0 y1 y2 y3 y4 y5 y6 y7 y8
      unfold spec_NextsAt.l0
      have m0 := @spec_AreOffsets.mono
      have m1 := @spec_HopAt.mono
      exact mo
theorem spec_NextsAt.mono : ∀ a0 a1 a2 a3 a4 a5 a6 k, LeO (spec_NextsAt.f k a0 a1 a2 a3 a4 a5 a6) (spec_NextsAt.f (k + 1) a0 a1 a2 a3 a4 a5 a6) := by
  intro a0 a1 a2 a3 a4 a5 a6 k
  obtain ⟨ih0, ih1⟩ := spec_NextsAt.mono_l k
  unfold spec_NextsAt.f
  have m0 := @spec_AreOffsets.mono
  have m1 := @spec_HopAt.mono
  exact mo
def spec_NextsAt.T7 : Bool × List (List Nat × List Nat) := (true, [([], []), ([], []), ([], []), ([], []), ([], []), ([], []), ([], []), ([5, 6], [5, 6]), ([7], [7]), ([4, 8], [4, 8]), ([1, 2, 3, 9], [1, 2, 3, 9]), ([10], [10]), ([0, 11, 10], [0, 11]), ([12, 12, 0, 1, 2, 3, 4, 5, 6, 7, 8, 9, 10, 11, 12], [0, 12])])
def spec_NextsAt.B7 : List Nat := [0, 0, 0, 0, 0, 0, 0, 96, 224, 496, 1022, 2046, 4095, 8191]
theorem spec_NextsAt.tab7 : rtab .any (opsOf Try.f24 7) = spec_NextsAt.T7 := by kernel_rfl
theorem spec_NextsAt.bits7 : waitsOk spec_NextsAt.T7.2 spec_NextsAt.B7 = true := by kernel_rfl
theorem spec_NextsAt.calls (k : Nat) (a0_0 : Int) (a0_1 : Int) (a0_2 : Int) (A0_3 : Option Addr) (c0_3 : Nat) (l0_3 : List (S105)) (a1 : Int) (a2 : Int) (A3 : Option Addr) (c3 : Nat) (l3 : List Int) (r : List Int) (w : World) (hr0_3 : Kd.C k105 w A0_3 l0_3.length l0_3) (hc0_3 : l0_3.length ≤ c0_3) (hr3 : Kd.C (Kd.int .i64) w A3 l3.length l3) (hc3 : l3.length ≤ c3) (h : spec_NextsAt.f k a0_0 a0_1 a0_2 l0_3 a1 a2 l3 = some r) :
    Calls Try.prog 24 #[.agg #[.int .i64 a0_0, .int .i64 a0_1, .int .i64 a0_2, .slice A0_3 l0_3.length c0_3], .int .i64 a1, .int .i64 a2, .slice A3 l3.length c3] w fun e w' => ∃ v0_ : Value, e = .returned (v0_) ∧ Kd.R (Kd.int .i64) 3 w' w.heap.size (fun _ => True) v0_ r ∧ Below w.heap.size w w' := by
 have hu31 := Try.underlying31
 have HR0_3 := am hr0_3
 have HC0_3 := am hc0_3
 clear hr0_3 hc0_3
 have HR3 := am hr3
 have HC3 := am hc3
 clear hr3 hc3
 have HB := am (Below.refl w.heap.size w)
 have H := h; unfold spec_NextsAt.f at H
 clear h
 obtain ⟨y729, Ny729, H⟩ := iy_ H
 have HC5 := am H
 clear H
 go_enter Try.func24, Try.ntmps24
 go_upto_region 2 with (first | ((with_reducible refine gd 4 rfl ?_); refine bx 4 #[.int .i64 a0_0, .int .i64 a0_1, .int .i64 a0_2, .slice A0_3 l0_3.length c0_3] 31 ?_; intro gb728 hg w6 hbox hb; have GW728 := bz w hg; have GE728 := bz w hg; replace HB := bs hb; have BK728 := am hbox; clear hb hbox hg) | ((with_reducible refine gd 11 rfl ?_); refine Kd.R_lit (Kd.int .i64) _ 3 ?hg (N := 11) ?hd (xs := ([] : List Int)) (inner := []) (ok := fun _ => True) (okp := fun _ => True) ?hr ?hp (fun _ hk => hk) trivial (Below.refl _ _) (Nat.le_refl _) (by simp) ?_; (case hd => rfl); (case hg => rfl); (case hr => first | (go_simp; done) | (go_simp; rfl)); (case hp => exact (Reps.none _ _)); intro v730 w7 ho8 hb hg_ hnew_; clear hg_ hnew_; (first | rw [← Ny729.out] at ho8 | (simp only [Int.reduceToNat] at ho8; rw [← Ny729.out] at ho8)); have HO731 := am (Kd.R_lower ho8 (below_size (sbw))); replace BK728 := bb BK728 hb; replace HB := bsw hb; clear hb ho8))
 (try simp only [Act.put, List.setIfInBounds_toArray, List.set_cons_zero, List.set_cons_succ])
 go_cut [20] (fun v20 wc => ∃ (kq : Nat) (x20_4 : Bool), v20 = .bool x20_4 ∧ Aside0 (spec_NextsAt.j0 kq a1 a2 l3 y729 x20_4 a0_0 a0_1 a0_2 l0_3 = some r) ∧ Aside0 (kq ≤ k) ∧ Aside0 (Kd.R (Kd.int .i64) 3 wc w.heap.size (fun _ => True) v730 y729) ∧ Aside0 (wc.heap[gb728]? = some (.cells #[.int .i64 a0_0, .int .i64 a0_1, .int .i64 a0_2, (.slice A0_3 l0_3.length c0_3)] 31 (0, 0))) ∧ Aside0 (Below w.heap.size w wc))
 case first =>
  have H := HC5.out
  clear HC5
  obtain ⟨t732, A9, H⟩ := bnd H
  obtain rfl | rfl := tt t732
  ·replace H := ip H
   obtain ⟨t733, A11, H⟩ := bnd H
   have H' := am H
   clear H
   obtain ⟨hcz12_0, hcz12_1, hcz12_2, hcz12_3, hfz12_0, hfz12_1, hfz12_2, hfz12_3⟩ := cc4 BK728
   go_wp2_with (first | ((with_reducible refine gc 84 rfl ?_); refine gL (some 14) Try.func84 #[.agg #[.int .i64 a0_0, .int .i64 a0_1, .int .i64 a0_2, .slice A0_3 l0_3.length c0_3], .slice A3 l3.length c3] ?_; (with_reducible refine (spec_AreOffsets.calls k a0_0 a0_1 a0_2 _ _ l0_3 _ _ l3 true _ ?side1 ?side2 ?side3 ?side4 A9.out).mono ?_); (case side1 => exact cb HR0_3); (case side2 => exact HC0_3.out); (case side3 => exact cb HR3); (case side4 => exact HC3.out); rintro e w13 ⟨rfl, hb⟩; refine ⟨_, rfl, ?_⟩; replace HO731 := rb HO731 hb; replace BK728 := bb BK728 hb; replace HB := bsw hb; (try clear hb)) | (go_at_call 85; (with_reducible refine (spec_l1In.calls a2 0 1000 t733 _ A11.out).mono ?_); rintro e w' ⟨rfl, ⟨nd, rfl⟩⟩))
   go_meet
   case rel => exact ⟨_, (!t733), sc, H', ⟨by first | omega | exact Nat.le_refl _⟩, ⟨sr HO731⟩, ⟨sk BK728⟩, ⟨sbw⟩⟩
  ·replace H := im H
   have H' := am H
   clear H
   obtain ⟨hcz14_0, hcz14_1, hcz14_2, hcz14_3, hfz14_0, hfz14_1, hfz14_2, hfz14_3⟩ := cc4 BK728
   go_wp2_with (first | ((with_reducible refine gc 84 rfl ?_); refine gL (some 14) Try.func84 #[.agg #[.int .i64 a0_0, .int .i64 a0_1, .int .i64 a0_2, .slice A0_3 l0_3.length c0_3], .slice A3 l3.length c3] ?_; (with_reducible refine (spec_AreOffsets.calls k a0_0 a0_1 a0_2 _ _ l0_3 _ _ l3 false _ ?side1 ?side2 ?side3 ?side4 A9.out).mono ?_); (case side1 => exact cb HR0_3); (case side2 => exact HC0_3.out); (case side3 => exact cb HR3); (case side4 => exact HC3.out); rintro e w15 ⟨rfl, hb⟩; refine ⟨_, rfl, ?_⟩; replace HO731 := rb HO731 hb; replace BK728 := bb BK728 hb; replace HB := bsw hb; (try clear hb)))
   go_meet
   case rel => exact ⟨_, (true), sc, H', ⟨by first | omega | exact Nat.le_refl _⟩, ⟨sr HO731⟩, ⟨sk BK728⟩, ⟨sbw⟩⟩
 case rest =>
  clear HC5
  try clear hcz12_0
  try clear hcz12_1
  try clear hcz12_2
  try clear hcz12_3
  try clear hcz14_0
  try clear hcz14_1
  try clear hcz14_2
  try clear hcz14_3
  try clear hfz12_0
  try clear hfz12_1
  try clear hfz12_2
  try clear hfz12_3
  try clear hfz14_0
  try clear hfz14_1
  try clear hfz14_2
  try clear hfz14_3
  obtain ⟨kq, x20_4, rfl, HA, HJ4, HO_9, BK728, HB⟩ := hcut
  cases kq with
  | zero => exact absurd HA.out (by simp [spec_NextsAt.j0])
  | succ kj4 =>
   have H := HA.out
   clear HA
   simp only [spec_NextsAt.j0] at H
   obtain rfl | rfl := tt x20_4
   ·replace H := ip H
    obtain rfl := Option.some.inj H
    go_wp2
    go_ret
    exact ⟨_, se, sr HO_9, sbw⟩
   ·replace H := im H
    have H' := am H
    clear H
    go_wp2
    go_loopg [9, 10] kj4 (fun kq v9 v10 w' => ∃ (x9_2 : List Int) (x10_2 : Int), v10 = .int .i64 x10_2 ∧ Aside0 (spec_NextsAt.l0 kq a1 a2 l3 x9_2 x10_2 a0_0 a0_1 a0_2 l0_3 = some r) ∧ Aside0 (kq ≤ kj4) ∧ Aside0 (Kd.R (Kd.int .i64) 3 w' w.heap.size (fun _ => True) v9 x9_2) ∧ Aside0 (w'.heap[gb728]? = some (.cells #[.int .i64 a0_0, .int .i64 a0_1, .int .i64 a0_2, (.slice A0_3 l0_3.length c0_3)] 31 (0, 0))) ∧ Aside0 (Below w.heap.size w w'))
    case atStart => exact ⟨(y729), (0), sc, H', kk0, ⟨sr HO_9⟩, ⟨sk BK728⟩, ⟨sbw⟩⟩
    case round =>
     clear H'
     try clear hcz12_0
     try clear hcz12_1
     try clear hcz12_2
     try clear hcz12_3
     try clear hcz14_0
     try clear hcz14_1
     try clear hcz14_2
     try clear hcz14_3
     try clear hfz12_0
     try clear hfz12_1
     try clear hfz12_2
     try clear hfz12_3
     try clear hfz14_0
     try clear hfz14_1
     try clear hfz14_2
     try clear hfz14_3
     obtain ⟨x9_2, x10_2, rfl, HA, HK2, HO_9, BK728, HB⟩ := hrel
     cases gk with
     | zero => exact absurd HA.out (by simp [spec_NextsAt.l0])
     | succ k2 =>
      have H := HA.out
      clear HA
      simp only [spec_NextsAt.l0] at H
      obtain ⟨-, c17b0, H⟩ | ⟨-, c17b0, H⟩ := ic_ H
      ·obtain ⟨c18b0, H⟩ := id_ H
       obtain ⟨t735, A19, H⟩ := bnd H
       obtain ⟨LMc20, H⟩ := il_ H
       obtain ⟨y736, hy736⟩ : ∃ y_ : List Int, y_ = (x9_2 ++ [t735]) := ⟨_, rfl⟩
       replace H : (spec_NextsAt.l0 k2 a1 a2 l3 y736 (wrap64 (x10_2 + 1)) a0_0 a0_1 a0_2 l0_3) = some r := ry hy736 H
       have Ny736 := am hy736
       clear hy736
       have H' := am H
       clear H
       try go_wp2
       replace HO_9 := am (Kd.R_drew HO_9.out)
       replace BK728 := am (blk_drew BK728.out)
       replace HB := am (below_drew1 HB.out)
       obtain ⟨p734, q734, ad734, e734, hw734_0, hx734_0⟩ := at_i HR3 HB x10_2
       cases e734
       refine start_ (n := 14) (S := fun w' => w'.cell? ⟨gb728, 0, none⟩ = some (.int .i64 a0_0) ∧ w'.cell? ⟨gb728, 1, none⟩ = some (.int .i64 a0_1) ∧ w'.cell? ⟨gb728, 2, none⟩ = some (.int .i64 a0_2) ∧ w'.cell? ⟨gb728, 3, none⟩ = some (.slice A0_3 l0_3.length c0_3) ∧ w'.cell? (ad734.add (x10_2).toNat) = some (.int .i64 (rd l3 x10_2))) (ds := []) #[false, false, false, false, false, false, false, false, false, false, false, false, false, false] (by kernel_rfl) rfl rfl ⟨bc0 BK728, bc1 BK728, bc2 BK728, bc3 BK728, (hb_ HB hw734_0)⟩ (fun hHeld => ?_); refine with_tabW spec_NextsAt.tab7 spec_NextsAt.bits7 (fun HT_ HW_ => ?_)
       generalize wr.drew = w21 at HO_9 BK728 HB hx734_0 hHeld ⊢
       refine put 0 28 (bt 14 1) HT_ ?_
       refine put 2 30 (bt 14 5) HT_ ?_
       refine put 3 31 (bt 14 13) HT_ ?_
       refine put 4 32 (bt 14 29) HT_ ?_
       refine put 5 33 (bt 14 61) HT_ ?_
       refine put 6 34 (bt 14 125) HT_ ?_
       refine put 7 35 (bt 14 253) HT_ ?_
       refine tat5 1 29 (bt 14 255) HT_ HW_ hHeld ?_
       refine tat5 8 36 (bt 14 511) HT_ HW_ hHeld ?_
       refine put 9 37 (bt 14 1023) HT_ ?_
       refine on 10 38 (bt 14 2047) HT_ (fun K hK => ?_)
       refine goes_ Try.func86 (by kernel_rfl) rfl #[.agg #[.int .i64 a0_0, .int .i64 a0_1, .int .i64 a0_2, .slice A0_3 l0_3.length c0_3], .int .i64 x10_2, .int .i64 a1, .int .i64 (wrap64 (a2 + (rd l3 x10_2)))] (by rfl) rfl rfl sl ?_
       with_reducible refine (spec_HopAt.calls k2 a0_0 a0_1 a0_2 _ _ l0_3 x10_2 a1 (wrap64 (a2 + (rd l3 x10_2))) t735 _ ?side1 ?side2 A19.out).mono ?_
       (case side1 => exact cb HR0_3)
       (case side2 => exact HC0_3.out)
       rintro e w22 ⟨rfl, hb⟩
       refine ⟨_, rfl, ?_⟩
       replace HO_9 := rb HO_9 hb
       replace BK728 := bb BK728 hb
       replace HB := bsw hb
       (try clear hb)
       (try clear hb2)
       (try clear hk)
       (try clear hi)
       refine hK.out _ _ ⟨bc0 BK728, bc1 BK728, bc2 BK728, bc3 BK728, (hb_ HB hw734_0)⟩ (fun hHeld => ?_)
       clear hK K
       refine nm 38 ?_
       refine on 11 39 (bt 14 4095) HT_ (fun K hK => ?_)
       refine value_ (w1 := ?_) (v := ?_) (by rfl) rfl ?_ ?_
       rotate_left 2
       ·go_simp
        constructor
        ·rfl
        ·rfl
       refine hK.out _ _ ⟨(blk_cell (blk_alloc BK728.out _) 0).trans rfl, (blk_cell (blk_alloc BK728.out _) 1).trans rfl, (blk_cell (blk_alloc BK728.out _) 2).trans rfl, (blk_cell (blk_alloc BK728.out _) 3).trans rfl, (World.cell?_alloc_lt _ _ _ (World.block_lt_of_cell? _ _ ((hb_ HB hw734_0)))).trans ((hb_ HB hw734_0))⟩ (fun hHeld => ?_)
       clear hK K
       refine nm 39 ?_
       refine on 12 40 (bt 14 8191) HT_ (fun K hK => ?_)
       refine Kd.R_append_step (Kd.int .i64) (w0 := w) w.heap.size (by rfl) (.tmp 28) (.tmp 39) 28 3 (.int .i64 0) 8 rfl Try.underlying28 info3 rfl (by decide) (by omega) u9 x9_2 t735 [.int .i64 t735] (fun _ => True) (fun _ => False) rfl rfl ?aP (fun _ hk => hk.elim) ?aF ?aO ?aB ?aS ?aL ?_
       (case aP => exact rfl)
       (case aB => exact (sbw))
       (case aF => exact (fun _ _ => trivial))
       (case aO => exact (sr HO_9))
       (case aS => exact (below_size (sbw)))
       (case aL => have := LMc20.out; omega)
       intro v737 w23 ho hb hg hat
       rw [← Ny736.out] at ho
       replace BK728 := am (blk_grown (g := gb728) (o := .cells #[.int .i64 a0_0, .int .i64 a0_1, .int .i64 a0_2, .slice A0_3 l0_3.length c0_3] 31 (0, 0)) (sk BK728) hg (Kd.R_ne HO_9.out BK728.out (by decide)))
       replace HB := am hb
       have HO738 := am ho
       clear HO_9 ho hb hg hat
       refine hK.out _ _ ⟨bc0 BK728, bc1 BK728, bc2 BK728, bc3 BK728, (hb_ HB hw734_0)⟩ (fun hHeld => ?_)
       clear hK K
       refine nm 40 ?_
       refine put 13 9 (bt 14 16383) HT_ ?_
       refine done_ (done_of HT_.out (by kernel_rfl)) ?_
       try go_wp2
       go_roundg k2
       case measure => have := HJ4.out; have := HK2.out; omega
       case rel => exact ⟨(y736), (wrap64 (x10_2 + 1)), sc, H', ⟨by have := HJ4.out; have := HK2.out; omega⟩, ⟨sr HO738⟩, ⟨sk BK728⟩, ⟨sbw⟩⟩
      ·obtain rfl := Option.some.inj H
       go_wp2
       go_ret
       exact ⟨_, se, sr HO_9, sbw⟩

def spec_DrawAnyLoopAt.f (k : Nat) (l0 : List Int) : Option (Int × Int × Int × (List (S105)) × Int × List Int) := (spec_l1New.f k l0).bind fun bt740 => ((spec_l17Draw.f k bt740.1 bt740.2.1 bt740.2.2).bind fun bt744 => ((spec_l1Below.f bt740.1 bt744.2.2.2.2.1 bt744.2.2.2.2.2 26).bind fun bt753 => ((spec_l19Offsets.f k bt740.1 bt753.2.1 bt753.2.2 bt744.1 bt744.2.1 bt744.2.2.1 bt744.2.2.2.1).bind fun bt756 => (some (bt744.1, bt744.2.1, bt744.2.2.1, bt744.2.2.2.1, wrap64 (bt753.1 - 1), bt756.1)))))
theorem spec_DrawAnyLoopAt.mono : ∀ a0 k, LeO (spec_DrawAnyLoopAt.f k a0) (spec_DrawAnyLoopAt.f (k + 1) a0) := by
  intro a0 k
  unfold spec_DrawAnyLoopAt.f
  have m0 := @spec_l17Draw.mono
  have m1 := @spec_l19Offsets.mono
  have m2 := @spec_l1New.mono
  exact mo
def spec_DrawAnyLoopAt.T4 : Bool × List (List Nat × List Nat) := (true, [([], []), ([], []), ([], []), ([], []), ([2, 3], [2, 3]), ([0, 4, 0], [0]), ([1, 5, 0, 1, 5], [1]), ([4, 6, 0, 1, 2, 3, 4, 5, 6], [4])])
def spec_DrawAnyLoopAt.B4 : List Nat := [0, 0, 0, 0, 12, 29, 63, 127]
theorem spec_DrawAnyLoopAt.tab4 : rtab .any (opsOf Try.f25 4) = spec_DrawAnyLoopAt.T4 := by kernel_rfl
theorem spec_DrawAnyLoopAt.bits4 : waitsOk spec_DrawAnyLoopAt.T4.2 spec_DrawAnyLoopAt.B4 = true := by kernel_rfl
theorem spec_DrawAnyLoopAt.calls (k : Nat) (A0 : Option Addr) (c0 : Nat) (l0 : List Int) (r1 : Int) (r2 : Int) (r3 : Int) (r4 : List (S105)) (r5 : Int) (r6 : List Int) (w : World) (hr0 : Kd.C (Kd.int .u8) w A0 l0.length l0) (hc0 : l0.length ≤ c0) (h : spec_DrawAnyLoopAt.f k l0 = some (r1, r2, r3, r4, r5, r6)) :
    Calls Try.prog 25 #[.slice A0 l0.length c0] w fun e w' => ∃ v3_ v5_ : Value, e = .returned (.tuple #[.agg #[.int .i64 r1, .int .i64 r2, .int .i64 r3, v3_], .int .i64 r5, v5_]) ∧ Kd.S k105 105 w' w.heap.size (fun k_ => some k_ ≠ (v5_ : Value).ownBlock) v3_ r4 ∧ Kd.R (Kd.int .i64) 3 w' w.heap.size (fun _ => True) v5_ r6 ∧ Below w.heap.size w w' := by
 have hu31 := Try.underlying31
 have HR0 := am hr0
 have HC0 := am hc0
 clear hr0 hc0
 have HB := am (Below.refl w.heap.size w)
 have H := h; unfold spec_DrawAnyLoopAt.f at H
 clear h
 obtain ⟨⟨t740, t741, t742⟩, A2, H⟩ := bnd H
 try dsimp only at H
 obtain ⟨⟨t744, t745, t746, t747, t750, t751⟩, A3, H⟩ := bnd H
 try dsimp only at H
 obtain ⟨⟨t753, t754, t755⟩, A4, H⟩ := bnd H
 try dsimp only at H
 obtain ⟨⟨t756, t759, t760⟩, A5, H⟩ := bnd H
 try dsimp only at H
 simp only [Option.some.injEq, Prod.mk.injEq] at H
 obtain ⟨rfl, rfl, rfl, rfl, rfl, rfl⟩ := H
 go_enter Try.func25, Try.ntmps25
 try go_wp2_with (first | ((with_reducible refine gd 2 rfl ?_); refine bx 2 #[.int .i64 0, .int .i64 0, .int .i64 0, .slice none 0 0] 31 ?_; intro gb739 hg w6 hbox hb; have GW739 := bz w hg; have GE739 := bz w hg; replace HB := bs hb; have BK739 := am hbox; clear hb hbox hg) | ((with_reducible refine gc 75 rfl ?_); refine gL (some 9) Try.func75 #[.slice A0 l0.length c0] ?_; (with_reducible refine (spec_l1New.calls k _ _ l0 t740 t741 t742 w _ ?side1 ?side2 ?side3 A2.out).mono ?_); (case side1 => repeat (first | (with_reducible first | exact HB.out | apply below_alloc | apply pw_below_drewN | apply below_drew1 | refine below_set ?_ GE739.out) | exact HB.out)); (case side2 => exact HR0.out); (case side3 => exact HC0.out); rintro e w7 ⟨g743, rfl, hi, hb, hb2⟩; refine ⟨_, rfl, ?_⟩; replace HB := am hb; have HI743 := am hi; have NB743_739 := am (IsS152.ne_blk hi (blk_below (g := gb739) (o := .cells #[.int .i64 0, .int .i64 0, .int .i64 0, .slice none 0 0] 31 (0, 0)) (sk BK739) hb2) (by decide)); have NB739_743 := am (Ne.symm (IsS152.ne_blk hi (blk_below (g := gb739) (o := .cells #[.int .i64 0, .int .i64 0, .int .i64 0, .slice none 0 0] 31 (0, 0)) (sk BK739) hb2) (by decide))); replace BK739 := bb BK739 hb2; (try clear hb); (try clear hb2); (try clear hk); (try clear hi)) | ((with_reducible refine gc 87 rfl ?_); refine gL (some 11) Try.func87 #[.pointer (some ⟨g743, 0, none⟩)] ?_; (with_reducible refine (spec_l17Draw.calls k g743 t740 t741 t742 t744 t745 t746 t747 t750 t751 w _ ?side1 ?side2 A3.out).mono ?_); (case side1 => repeat (first | (with_reducible first | exact HI743.out | apply IsS152.alloc | apply IsS152.drewN | apply IsS152.drew | apply IsS152.set_1 | apply IsS152.set_2 | refine IsS152.far ?_ NB743_739.out _) | exact HI743.out)); (case side2 => repeat (first | (with_reducible first | exact HB.out | apply below_alloc | apply pw_below_drewN | apply below_drew1 | refine below_set ?_ (IsS152.ge HI743.out) | refine below_set ?_ GE739.out) | exact HB.out)); rintro e w8 ⟨v748, rfl, ho0, hi, hb, hk⟩; refine ⟨_, rfl, ?_⟩; replace BK739 := am (KeepBut.blk hk (g' := gb739) (o := .cells #[.int .i64 0, .int .i64 0, .int .i64 0, .slice none 0 0] 31 (0, 0)) (sk BK739) NB739_743.out (by simp)); have HO749 := am (Kd.S_lower ho0 (below_size a23_0)); replace HB := am hb; replace HI743 := am hi; (try clear hb); (try clear hb2); (try clear hk); (try clear hi); (try clear ho0)) | ((with_reducible refine gd 6 rfl ?_); refine bx 6 #[.int .i64 0, .int .i64 0, .int .i64 0, .slice none 0 0] 31 ?_; intro gb752 hg w9 hbox hb; replace HO749 := am (Kd.S_below (ss HO749) hb); have BK752 := am hbox; have GW752 := am ((by rw [hg]; exact (below_size a23_0) : w.heap.size ≤ gb752)); have GE752 := am ((by rw [hg]; exact (below_size a23_0) : w.heap.size ≤ gb752)); replace HB := am (below_step a23_0 hb); have NB739_752 := nl BK739 hg; have NB752_739 := ng BK739 hg; replace BK739 := bb BK739 hb; have NB743_752 := am ((by rw [hg]; exact Nat.ne_of_lt (IsS152.lt (show IsS152 w _ g743 t740 t750 t751 from a23_2)) : g743 ≠ gb752)); have NB752_743 := am ((by rw [hg]; exact Nat.ne_of_gt (IsS152.lt (show IsS152 w _ g743 t740 t750 t751 from a23_2)) : gb752 ≠ g743)); replace HI743 := am (IsS152.below a23_2 hb); clear hb hbox hg; have hnb10 := NB752_739.out; have hnc10 := NB739_752.out; have hnb11 := NB752_743.out; have hnc11 := NB743_752.out; obtain ⟨hcz12_0, hcz12_1, hcz12_2, hcz12_3, hfz12_0, hfz12_1, hfz12_2, hfz12_3⟩ := cc4 BK752; obtain ⟨Ao13, co13, eo13⟩ := Kd.S_slice HO749.out; subst eo13) | ((with_reducible refine gc 76 rfl ?_); refine gL (some 13) Try.func76 #[.pointer (some ⟨g743, 0, none⟩), .int .i64 26] ?_; (with_reducible refine (spec_l1Below.calls g743 t740 t750 t751 26 t753 t754 t755 w _ ?side1 ?side2 A4.out).mono ?_); (case side1 => repeat (first | (with_reducible first | exact HI743.out | apply IsS152.alloc | apply IsS152.drewN | apply IsS152.drew | apply IsS152.set_1 | apply IsS152.set_2 | refine IsS152.far ?_ NB743_739.out _ | refine IsS152.far ?_ NB743_752.out _) | exact HI743.out)); (case side2 => repeat (first | (with_reducible first | exact HB.out | apply below_alloc | apply pw_below_drewN | apply below_drew1 | refine below_set ?_ (IsS152.ge HI743.out) | refine below_set ?_ GE739.out | refine below_set ?_ GE752.out) | exact HB.out)); rintro e w14 ⟨rfl, hi, hb, hk⟩; refine ⟨_, rfl, ?_⟩; replace BK739 := am (KeepBut.blk hk (g' := gb739) (o := .cells #[.int .i64 0, .int .i64 0, .int .i64 0, .slice none 0 0] 31 (0, 0)) (sp BK739) NB739_743.out (by simp)); replace HO749 := am (Kd.S_mono (Kd.S_keep (IsS152.apartS (show IsS152 w _ g743 t740 t750 t751 from a23_1) (by (with_reducible repeat (first | apply Kd.S_alloc | apply Kd.S_drewN | apply Kd.S_drew)); exact (Kd.S_mono (Kd.S_far (p := ⟨gb752, 3, none⟩) (Kd.S_far (p := ⟨gb752, 2, none⟩) (Kd.S_far (p := ⟨gb752, 1, none⟩) (Kd.S_far (p := ⟨gb752, 0, none⟩) (Kd.S_types HO749.out BK752.out (by decide)) (fun _ hk => hk.2) (.int .i64 t744)) (fun _ hk => hk.2) (.int .i64 t745)) (fun _ hk => hk.2) (.int .i64 t746)) (fun _ hk => hk.2) (.slice Ao13 t747.length co13)) (fun _ h_ => h_.1))) (by decide)) hk (fun _ h => h.2)) (fun _ h => h.1)); replace BK752 := am (KeepBut.blk hk (g' := gb752) (o := .cells #[.int .i64 t744, .int .i64 t745, .int .i64 t746, .slice Ao13 t747.length co13] 31 (0, 0)) (sp BK752) NB752_743.out (by simp)); replace HB := am hb; replace HI743 := am hi; (try clear hb); (try clear hb2); (try clear hk); (try clear hi)))
 replace HO749 := am (Kd.S_drew HO749.out)
 replace BK739 := am (blk_drew BK739.out)
 replace BK752 := am (blk_drew BK752.out)
 replace HI743 := am (IsS152.drew HI743.out)
 replace HB := am (below_drew1 HB.out)
 refine start_ (n := 8) (S := fun w' => w'.cell? ⟨gb752, 0, none⟩ = some (.int .i64 t744) ∧ w'.cell? ⟨gb752, 1, none⟩ = some (.int .i64 t745) ∧ w'.cell? ⟨gb752, 2, none⟩ = some (.int .i64 t746) ∧ w'.cell? ⟨gb752, 3, none⟩ = some (.slice Ao13 t747.length co13)) (ds := []) #[false, false, false, false, false, false, false, false] (by kernel_rfl) rfl rfl ⟨bc0 BK752, bc1 BK752, bc2 BK752, bc3 BK752⟩ (fun hHeld => ?_); refine with_tabW spec_DrawAnyLoopAt.tab4 spec_DrawAnyLoopAt.bits4 (fun HT_ HW_ => ?_)
 generalize w14.drew = w15 at HO749 BK739 BK752 HI743 HB hHeld ⊢
 refine put 1 16 (bt 8 2) HT_ ?_
 refine put 2 17 (bt 8 6) HT_ ?_
 refine tat4 0 15 (bt 8 7) HT_ HW_ hHeld ?_
 refine tat4 3 18 (bt 8 15) HT_ HW_ hHeld ?_
 refine on 4 19 (bt 8 31) HT_ (fun K hK => ?_)
 refine goes_ Try.func82 (by kernel_rfl) rfl #[.pointer (some ⟨g743, 0, none⟩), .agg #[.int .i64 t744, .int .i64 t745, .int .i64 t746, .slice Ao13 t747.length co13]] (by rfl) rfl rfl sl ?_
 with_reducible refine (spec_l19Offsets.calls k g743 t740 t754 t755 t744 t745 t746 _ _ t747 t756 t759 t760 w _ ?side1 ?side2 ?side3 ?side4 A5.out).mono ?_
 (case side1 => repeat (first | (with_reducible first | exact HI743.out | apply IsS152.alloc | apply IsS152.drewN | apply IsS152.drew | apply IsS152.set_1 | apply IsS152.set_2 | refine IsS152.far ?_ NB743_739.out _ | refine IsS152.far ?_ NB743_752.out _) | exact HI743.out))
 (case side2 => repeat (first | (with_reducible first | exact HB.out | apply below_alloc | apply pw_below_drewN | apply below_drew1 | refine below_set ?_ (IsS152.ge HI743.out) | refine below_set ?_ GE739.out | refine below_set ?_ GE752.out) | exact HB.out))
 (case side3 => exact Kd.C_foot_own ((Kd.S_R (IsS152.apartS (show IsS152 w _ g743 t740 t754 t755 from a23_1) (ss HO749) (by decide)))) (fun _ h_ => h_.2))
 (case side4 => exact (Kd.S_reads' HO749.out).2.1)
 rintro e w16 ⟨v757, rfl, ho0, hi, hb, hk⟩
 refine ⟨_, rfl, ?_⟩
 replace BK739 := am (KeepBut.blk hk (g' := gb739) (o := .cells #[.int .i64 0, .int .i64 0, .int .i64 0, .slice none 0 0] 31 (0, 0)) (sk BK739) NB739_743.out (by simp))
 replace HO749 := am (Kd.S_mono (Kd.S_told (Kd.S_oldK (IsS152.apartS (show IsS152 w _ g743 t740 t754 t755 from a23_1) (ss HO749) (by decide)) hk) (Kd.R_base ho0)) (fun _ h_ => h_.1))
 replace BK752 := am (KeepBut.blk hk (g' := gb752) (o := .cells #[.int .i64 t744, .int .i64 t745, .int .i64 t746, .slice Ao13 t747.length co13] 31 (0, 0)) (sk BK752) NB752_743.out (by simp))
 have HO758 := am (Kd.R_lower ho0 (below_size a23_3))
 replace HB := am hb
 replace HI743 := am hi
 (try clear hb)
 (try clear hb2)
 (try clear hk)
 (try clear hi)
 (try clear ho0)
 refine hK.out _ _ ⟨bc0 BK752, bc1 BK752, bc2 BK752, bc3 BK752⟩ (fun hHeld => ?_)
 clear hK K
 refine nm 19 ?_
 refine one_ (i := 5) (N := none) (bt 8 63) rfl rfl (one_of HT_.out (by kernel_rfl)) (by decide) (fun K hK => ?_)
 obtain ⟨hs17, hfs17⟩ := cc1 BK739
 have hns17_1 := NB752_739.out
 have hms17_1 := NB739_752.out
 have hs18 := bc1 BK739
 have hfs18 := bf BK739 1
 have hns18_1 := NB752_739.out
 have hms18_1 := NB739_752.out
 have hs19 := bc2 BK739
 have hfs19 := bf BK739 2
 have hns19_1 := NB752_739.out
 have hms19_1 := NB739_752.out
 have hs20 := bc3 BK739
 have hfs20 := bf BK739 3
 have hns20_1 := NB752_739.out
 have hms20_1 := NB739_752.out
 refine skip_ (w1 := ?_) (by rfl) rfl ?_ ?_
 rotate_left
 ·go_simp
  rfl
 refine hK.out _ _ ⟨((cell_far (p := ⟨gb739, _, none⟩) NB752_739.out _).trans (((cell_far (p := ⟨gb739, _, none⟩) NB752_739.out _).trans (((cell_far (p := ⟨gb739, _, none⟩) NB752_739.out _).trans (((cell_far (p := ⟨gb739, _, none⟩) NB752_739.out _).trans (hHeld.1)))))))), ((cell_far (p := ⟨gb739, _, none⟩) NB752_739.out _).trans (((cell_far (p := ⟨gb739, _, none⟩) NB752_739.out _).trans (((cell_far (p := ⟨gb739, _, none⟩) NB752_739.out _).trans (((cell_far (p := ⟨gb739, _, none⟩) NB752_739.out _).trans (hHeld.2.1)))))))), ((cell_far (p := ⟨gb739, _, none⟩) NB752_739.out _).trans (((cell_far (p := ⟨gb739, _, none⟩) NB752_739.out _).trans (((cell_far (p := ⟨gb739, _, none⟩) NB752_739.out _).trans (((cell_far (p := ⟨gb739, _, none⟩) NB752_739.out _).trans (hHeld.2.2.1)))))))), ((cell_far (p := ⟨gb739, _, none⟩) NB752_739.out _).trans (((cell_far (p := ⟨gb739, _, none⟩) NB752_739.out _).trans (((cell_far (p := ⟨gb739, _, none⟩) NB752_739.out _).trans (((cell_far (p := ⟨gb739, _, none⟩) NB752_739.out _).trans (hHeld.2.2.2))))))))⟩ (fun hHeld => ?_)
 clear hK K
 refine put 6 3 (bt 8 127) HT_ ?_
 refine put 7 4 (bt 8 255) HT_ ?_
 refine done_ (done_of HT_.out (by kernel_rfl)) ?_
 try go_wp2
 refine bodyPost_ret (results_ctt rfl _ _ gb739 31 #[.int .i64 t744, .int .i64 t745, .int .i64 t746, .slice Ao13 t747.length co13] (0, 0) _ rfl (sp BK739) Try.underlying31 rfl (by kernel_rfl)) rfl ?_
 exact ⟨_, _, se, by (with_reducible repeat (first | apply Kd.S_alloc | apply Kd.S_drewN | apply Kd.S_drew)); exact Kd.S_mono (Kd.S_far (p := ⟨gb739, 3, none⟩) (Kd.S_far (p := ⟨gb739, 2, none⟩) (Kd.S_far (p := ⟨gb739, 1, none⟩) (Kd.S_far (p := ⟨gb739, 0, none⟩) (Kd.S_types HO749.out BK739.out (by decide)) (fun _ hk => hk.2) (.int .i64 t744)) (fun _ hk => hk.2) (.int .i64 t745)) (fun _ hk => hk.2) (.int .i64 t746)) (fun _ hk => hk.2) (.slice Ao13 t747.length co13)) (fun _ hk => hk.1.2), by (with_reducible repeat (first | apply Kd.R_alloc | apply Kd.R_drewN | apply Kd.R_drew)); exact Kd.R_mono (Kd.R_far (p := ⟨gb739, 3, none⟩) (h3 HO758 BK739) (fun _ hk => hk.2) (.slice Ao13 t747.length co13)) (fun _ hk => trivial), a23_3⟩

def impl_AnyLoopAt.l0 : Nat → Int → List Int → Int → Int → Int → Int → Int → List (S105) → Option (Bool)
  | 0, _, _, _, _, _, _, _, _ => none
  | k + 1, x1, x2, x9, x10, x762000, x762001, x762002, x762003 => if x10 < x9 then ((impl_NextsAt.f k x762000 x762001 x762002 x762003 x10 x1 x2).bind fun t762 => ((impl_HasLoop.f k t762).bind fun t765 => (if t765 = true then (some true) else (impl_AnyLoopAt.l0 k x1 x2 x9 (wrap64 (x10 + 1)) x762000 x762001 x762002 x762003)))) else (some false)
def impl_AnyLoopAt.f (k : Nat) (a0_0 : Int) (a0_1 : Int) (a0_2 : Int) (l0_3 : List (S105)) (a1 : Int) (l2 : List Int) : Option (Bool) := impl_AnyLoopAt.l0 k a1 l2 (l2.length : Int) 0 a0_0 a0_1 a0_2 l0_3
theorem impl_AnyLoopAt.mono_l : ∀ k, (∀ y0 y1 y2 y3 y4 y5 y6 y7, LeO (impl_AnyLoopAt.l0 k y0 y1 y2 y3 y4 y5 y6 y7) (impl_AnyLoopAt.l0 (k + 1) y0 y1 y2 y3 y4 y5 y6 y7))
  | 0 => fun _ _ _ _ _ _ _ _ r h => by simp [impl_AnyLoopAt.l0] at h
  | k + 1 => by
    have ih0 := impl_AnyLoopAt.mono_l k
    · intro y0 y1 y2 y3 y4 y5 y6 y7
      unfold impl_AnyLoopAt.l0
      have m0 := @impl_HasLoop.mono
      have m1 := @impl_NextsAt.mono
      exact mo
theorem impl_AnyLoopAt.mono : ∀ a0 a1 a2 a3 a4 a5 k, LeO (impl_AnyLoopAt.f k a0 a1 a2 a3 a4 a5) (impl_AnyLoopAt.f (k + 1) a0 a1 a2 a3 a4 a5) := by
  intro a0 a1 a2 a3 a4 a5 k
  have ih0 := impl_AnyLoopAt.mono_l k
  unfold impl_AnyLoopAt.f
  have m0 := @impl_HasLoop.mono
  have m1 := @impl_NextsAt.mono
  exact mo
theorem impl_AnyLoopAt.calls (k : Nat) (a0_0 : Int) (a0_1 : Int) (a0_2 : Int) (A0_3 : Option Addr) (c0_3 : Nat) (l0_3 : List (S105)) (a1 : Int) (A2 : Option Addr) (c2 : Nat) (l2 : List Int) (r : Bool) (w : World) (hr0_3 : Kd.C k105 w A0_3 l0_3.length l0_3) (hc0_3 : l0_3.length ≤ c0_3) (hr2 : Kd.C (Kd.int .i64) w A2 l2.length l2) (hc2 : l2.length ≤ c2) (h : impl_AnyLoopAt.f k a0_0 a0_1 a0_2 l0_3 a1 l2 = some r) :
    Calls Try.prog 26 #[.agg #[.int .i64 a0_0, .int .i64 a0_1, .int .i64 a0_2, .slice A0_3 l0_3.length c0_3], .int .i64 a1, .slice A2 l2.length c2] w fun e w' => e = .returned (.bool r) ∧ Below w.heap.size w w' := by
 have hu31 := Try.underlying31
 have HR0_3 := am hr0_3
 have HC0_3 := am hc0_3
 clear hr0_3 hc0_3
 have HR2 := am hr2
 have HC2 := am hc2
 clear hr2 hc2
 have HB := am (Below.refl w.heap.size w)
 have H := h; unfold impl_AnyLoopAt.f at H
 clear h
 have H' := am H
 clear H
 go_enter Try.func26, Try.ntmps26
 go_wp2_with (first | ((with_reducible refine gd 3 rfl ?_); refine bx 3 #[.int .i64 a0_0, .int .i64 a0_1, .int .i64 a0_2, .slice A0_3 l0_3.length c0_3] 31 ?_; intro gb761 hg w4 hbox hb; have GW761 := bz w hg; have GE761 := bz w hg; replace HB := bs hb; have BK761 := am hbox; clear hb hbox hg))
 go_loopg [10] k (fun kq v10 w' => ∃ (x10_1 : Int), v10 = .int .i64 x10_1 ∧ Aside0 (impl_AnyLoopAt.l0 kq a1 l2 (l2.length : Int) x10_1 a0_0 a0_1 a0_2 l0_3 = some r) ∧ Aside0 (kq ≤ k) ∧ Aside0 (w'.heap[gb761]? = some (.cells #[.int .i64 a0_0, .int .i64 a0_1, .int .i64 a0_2, (.slice A0_3 l0_3.length c0_3)] 31 (0, 0))) ∧ Aside0 (Below w.heap.size w w'))
 case atStart => exact ⟨(0), sc, H', kk0, ⟨sk BK761⟩, ⟨sbw⟩⟩
 case round =>
  clear H'
  obtain ⟨x10_1, rfl, HA, HK1, BK761, HB⟩ := hrel
  cases gk with
  | zero => exact absurd HA.out (by simp [impl_AnyLoopAt.l0])
  | succ k1 =>
   have H := HA.out
   clear HA
   simp only [impl_AnyLoopAt.l0] at H
   obtain ⟨-, c5b0, H⟩ | ⟨-, c5b0, H⟩ := ic_ H
   ·obtain ⟨t762, A6, H⟩ := bnd H
    obtain ⟨t765, A7, H⟩ := bnd H
    obtain rfl | rfl := tt t765
    ·replace H := ip H
     obtain rfl := Option.some.inj H
     obtain ⟨hcz9_0, hcz9_1, hcz9_2, hcz9_3, hfz9_0, hfz9_1, hfz9_2, hfz9_3⟩ := cc4 BK761
     go_wp2_with (first | ((with_reducible refine gc 23 rfl ?_); refine gL (some 17) Try.func23 #[.agg #[.int .i64 a0_0, .int .i64 a0_1, .int .i64 a0_2, .slice A0_3 l0_3.length c0_3], .int .i64 x10_1, .int .i64 a1, .slice A2 l2.length c2] ?_; (with_reducible refine (impl_NextsAt.calls k1 a0_0 a0_1 a0_2 _ _ l0_3 x10_1 a1 _ _ l2 t762 _ ?side1 ?side2 ?side3 ?side4 A6.out).mono ?_); (case side1 => exact cb HR0_3); (case side2 => exact HC0_3.out); (case side3 => exact cb HR2); (case side4 => exact HC2.out); rintro e w10 ⟨v763, rfl, ho0, hb⟩; refine ⟨_, rfl, ?_⟩; have HO764 := am (Kd.R_lower ho0 (below_size (sbw))); replace BK761 := bb BK761 hb; replace HB := bsw hb; (try clear hb); (try clear ho0); obtain ⟨Ao11, co11, eo11⟩ := Kd.R_slice HO764.out; subst eo11) | ((with_reducible refine gc 15 rfl ?_); refine gL (some 18) Try.func15 #[.slice Ao11 t762.length co11] ?_; (with_reducible refine (impl_HasLoop.calls k1 _ _ t762 true _ ?side1 ?side2 A7.out).mono ?_); (case side1 => exact cr HO764); (case side2 => exact (Kd.R_reads' HO764.out).2.1); rintro e w12 ⟨rfl, hb⟩; refine ⟨_, rfl, ?_⟩; replace HO764 := rb HO764 hb; replace BK761 := bb BK761 hb; replace HB := bsw hb; (try clear hb)))
     go_ret
     exact ⟨se, sbw⟩
    ·replace H := im H
     have H' := am H
     clear H
     obtain ⟨hcz13_0, hcz13_1, hcz13_2, hcz13_3, hfz13_0, hfz13_1, hfz13_2, hfz13_3⟩ := cc4 BK761
     go_wp2_with (first | ((with_reducible refine gc 23 rfl ?_); refine gL (some 17) Try.func23 #[.agg #[.int .i64 a0_0, .int .i64 a0_1, .int .i64 a0_2, .slice A0_3 l0_3.length c0_3], .int .i64 x10_1, .int .i64 a1, .slice A2 l2.length c2] ?_; (with_reducible refine (impl_NextsAt.calls k1 a0_0 a0_1 a0_2 _ _ l0_3 x10_1 a1 _ _ l2 t762 _ ?side1 ?side2 ?side3 ?side4 A6.out).mono ?_); (case side1 => exact cb HR0_3); (case side2 => exact HC0_3.out); (case side3 => exact cb HR2); (case side4 => exact HC2.out); rintro e w14 ⟨v763, rfl, ho0, hb⟩; refine ⟨_, rfl, ?_⟩; have HO764 := am (Kd.R_lower ho0 (below_size (sbw))); replace BK761 := bb BK761 hb; replace HB := bsw hb; (try clear hb); (try clear ho0); obtain ⟨Ao15, co15, eo15⟩ := Kd.R_slice HO764.out; subst eo15) | ((with_reducible refine gc 15 rfl ?_); refine gL (some 18) Try.func15 #[.slice Ao15 t762.length co15] ?_; (with_reducible refine (impl_HasLoop.calls k1 _ _ t762 false _ ?side1 ?side2 A7.out).mono ?_); (case side1 => exact cr HO764); (case side2 => exact (Kd.R_reads' HO764.out).2.1); rintro e w16 ⟨rfl, hb⟩; refine ⟨_, rfl, ?_⟩; replace HO764 := rb HO764 hb; replace BK761 := bb BK761 hb; replace HB := bsw hb; (try clear hb)))
     go_roundg k1
     case measure => have := HK1.out; omega
     case rel => exact ⟨(wrap64 (x10_1 + 1)), sc, H', kk1, ⟨sk BK761⟩, ⟨sbw⟩⟩
   ·obtain rfl := Option.some.inj H
    go_wp2
    go_ret
    exact ⟨se, sbw⟩

end Go.Proofs.Ytiihaabhjphaeaa.QFnNoLoops
