/- What the Go functions of the law FnExactBuildProgram come to, as Lean functions, and that they do: by a program of the session, out of the kit's printer. Conditions: none. (squeezed). -/
import Derived.Test.YtcjlbgbenjmkgaaVFnExactBuildProgramSq2
import Derived.Test.YtcjlbgbenjmkgaaVFnExactBuildProgramSq
import Derived.Test.YtcjlbgbenjmkgaaVFnExactBuildProgramQFnExactBuildProgramx0
import Derived.Test.YtcjlbgbenjmkgaaVFnExactBuildProgramQFnExactBuildProgramx1
import Derived.Test.YtcjlbgbenjmkgaaVFnExactBuildProgramQFnExactBuildProgramx4
namespace Go.Proofs.Ytcjlbgbenjmkgaa.QFnExactBuildProgram
open Go.RowKit Go.Proofs.YtcjlbgbenjmkgaaW.PrintWords Go.Proofs.YtcjlbgbenjmkgaaW.PrintLast Go.Proofs.YtcjlbgbenjmkgaaW.PrintMore Go.Proofs.Ytcjlbgbenjmkgaa.Open Go.Proofs.Ytcjlbgbenjmkgaa.Sq
attribute [local go_sem] max2_int min2_int max_two min_two max_three min_three max_four min_four   -- for this text's walks alone
attribute [local go_sem] isSome_set
set_option linter.unusedVariables false
set_option linter.unusedSimpArgs false

attribute [local go_sem high] eqA60
/-! ### spec_LinksAt: function 17 -/
mutual
def spec_LinksAt.l0 : Nat → List (S49) → Int → List (S60) → Int → Option ((List (S60)))
  | 0, _, _, _, _ => none
  | k + 1, x0, x1, x5, x6 => if x6 < (x0.length : Int) then (if 0 ≤ x6 then (spec_LinksAt.l1 k x0 x1 x5 x6 false 0 ((rd_T49 x0 x6).f0) ((rd_T49 x0 x6).f1)) else (none)) else (some x5)
def spec_LinksAt.l1 : Nat → List (S49) → Int → List (S60) → Int → Bool → Int → Int → Int → Option ((List (S60)))
  | 0, _, _, _, _, _, _, _, _ => none
  | k + 1, x0, x1, x5, x6, x8, x9, x122000, x122001 => if x9 < (x5.length : Int) then (if x8 = true then (spec_LinksAt.l1 k x0 x1 x5 x6 true (wrap64 (x9 + 1)) x122000 x122001) else (if 0 ≤ x9 then (spec_LinksAt.l1 k x0 x1 x5 x6 (((rd_T60 x5 x9).f0) == x122000 && (((rd_T60 x5 x9).f1) == x122001)) (wrap64 (x9 + 1)) x122000 x122001) else (none))) else (if x8 = true then (spec_LinksAt.l0 k x0 x1 x5 (wrap64 (x6 + 1))) else (if 0 ≤ x6 then (if x6 < (x0.length : Int) then ((spec_InSpan.f ((rd_T49 x0 x6).f2) ((rd_T49 x0 x6).f3) x1).bind fun t125 => (if t125 = true then (if x5.length < 8796093022208 then (spec_LinksAt.l0 k x0 x1 (x5 ++ [(⟨x122000, x122001⟩ : S60)]) (wrap64 (x6 + 1))) else (none)) else (spec_LinksAt.l0 k x0 x1 x5 (wrap64 (x6 + 1))))) else (none)) else (none)))
end
def spec_LinksAt.f (k : Nat) (l0 : List (S49)) (a1 : Int) : Option ((List (S60))) := spec_LinksAt.l0 k l0 a1 (([] : List (S60))) 0
theorem spec_LinksAt.mono_l : ∀ k, (∀ y0 y1 y2 y3, LeO (spec_LinksAt.l0 k y0 y1 y2 y3) (spec_LinksAt.l0 (k + 1) y0 y1 y2 y3)) ∧ (∀ y0 y1 y2 y3 y4 y5 y6 y7, LeO (spec_LinksAt.l1 k y0 y1 y2 y3 y4 y5 y6 y7) (spec_LinksAt.l1 (k + 1) y0 y1 y2 y3 y4 y5 y6 y7))
  | 0 => ⟨fun _ _ _ _ r h => by simp [spec_LinksAt.l0] at h, fun _ _ _ _ _ _ _ _ r h => by simp [spec_LinksAt.l1] at h⟩
  | k + 1 => by
    obtain ⟨ih0, ih1⟩ := spec_LinksAt.mono_l k
    refine ⟨?_, ?_⟩
    · intro y0 y1 y2 y3
      unfold spec_LinksAt.l0
      exact mo
    · intro y0 y1 y2 y3 y4 y5 y6 y7
      unfold spec_LinksAt.l1
      exact mo
theorem spec_LinksAt.mono : ∀ a0 a1 k, LeO (spec_LinksAt.f k a0 a1) (spec_LinksAt.f (k + 1) a0 a1) := by
  intro a0 a1 k
  obtain ⟨ih0, ih1⟩ := spec_LinksAt.mono_l k
  unfold spec_LinksAt.f
  exact mo
def spec_LinksAt.T5 : Bool × List (List Nat × List Nat) := (true, [([], []), ([], []), ([0, 1], [0, 1]), ([2], [2]), ([3], [3]), ([], []), ([], []), ([5, 6], [5, 6]), ([7], [7]), ([8], [8]), ([4, 9], [4, 9]), ([], []), ([11, 10, 0, 1, 2, 3, 4, 5, 6, 7, 8, 9, 10, 11], [10, 11])])
def spec_LinksAt.B5 : List Nat := [0, 0, 3, 7, 15, 0, 0, 96, 224, 480, 1023, 0, 4095]
theorem spec_LinksAt.tab5 : rtab .any (opsOf Try.f17 5) = spec_LinksAt.T5 := by kernel_rfl
theorem spec_LinksAt.bits5 : waitsOk spec_LinksAt.T5.2 spec_LinksAt.B5 = true := by kernel_rfl
def spec_LinksAt.T10 : Bool × List (List Nat × List Nat) := (true, [([], []), ([0], [0]), ([1], [1]), ([1], [1]), ([2, 3, 1], [1, 2, 3]), ([4, 1], [1, 4]), ([1], [1]), ([5, 6, 1], [1, 5, 6]), ([1, 7], [1, 7]), ([8, 1, 0, 1, 2, 3, 4, 5, 6, 7, 8], [0, 8])])
def spec_LinksAt.B10 : List Nat := [0, 1, 3, 3, 15, 31, 3, 127, 255, 511]
theorem spec_LinksAt.tab10 : rtab .any (opsOf Try.f17 10) = spec_LinksAt.T10 := by kernel_rfl
theorem spec_LinksAt.bits10 : waitsOk spec_LinksAt.T10.2 spec_LinksAt.B10 = true := by kernel_rfl
def spec_LinksAt.T11 : Bool × List (List Nat × List Nat) := (true, [([], []), ([0], [0]), ([1], [1]), ([2], [2]), ([2], [2]), ([3, 4, 2], [2, 3, 4]), ([5, 2], [2, 5]), ([6, 2], [2, 6]), ([2], [2]), ([2], [2]), ([8, 9, 2], [2, 8, 9]), ([10, 2], [2, 10]), ([11, 2], [2, 11]), ([7, 12, 2], [2, 7, 12]), ([2], [2]), ([13, 14, 2, 2], [2, 13, 14]), ([2, 15], [2, 15])])
def spec_LinksAt.B11 : List Nat := [0, 1, 3, 7, 7, 31, 63, 127, 7, 7, 775, 1799, 3847, 8191, 7, 32767, 65535]
theorem spec_LinksAt.tab11 : rtab .any (opsOf Try.f17 11) = spec_LinksAt.T11 := by kernel_rfl
theorem spec_LinksAt.bits11 : waitsOk spec_LinksAt.T11.2 spec_LinksAt.B11 = true := by kernel_rfl
set_option maxHeartbeats 8000000 in
set_option maxRecDepth 100000 in
theorem spec_LinksAt.calls (k : Nat) (A0 : Option Addr) (c0 : Nat) (l0 : List (S49)) (a1 : Int) (r : List (S60)) (w : World) (hr0 : Kd.C k49 w A0 l0.length l0) (hc0 : l0.length ≤ c0) (h : spec_LinksAt.f k l0 a1 = some r) :
    Calls Try.prog 17 #[.slice A0 l0.length c0, .int .i64 a1] w fun e w' => ∃ v0_ : Value, e = .returned (v0_) ∧ Kd.R k60 60 w' w.heap.size (fun _ => True) v0_ r ∧ Below w.heap.size w w' := by
 have hu60 := Try.underlying60
 have hu43 := Try.underlying43
 have HR0 := Aside0.mk hr0
 have HC0 := Aside0.mk hc0
 clear hr0 hc0
 have HB := Aside0.mk (Below.refl w.heap.size w)
 have H : (spec_LinksAt.l0 k l0 a1 (([] : List (S60))) 0) = some r := h
 clear h
 obtain ⟨y116, hy116⟩ : ∃ y_ : List (S60), y_ = (([] : List (S60))) := ⟨_, rfl⟩
 replace H : (spec_LinksAt.l0 k l0 a1 y116 0) = some r := by first | (rw [hy116]; with_reducible exact H) | (have H2_ := (Option.bind_some _ _).symm.trans H; rw [hy116]; with_reducible exact H2_) | (have H2_ := (Option.bind_some _ _).symm.trans H; with_reducible exact H2_) | with_reducible exact H | (rw [hy116]; exact H) | exact H
 have Ny116 := Aside0.mk hy116
 clear hy116
 have H' := Aside0.mk H
 clear H
 go_enter Try.func17, Try.ntmps17
 go_wp2_with (first | ((with_reducible refine gate_dst (N := 10) rfl ?_); refine Kd.R_lit k60 _ 60 ?hg (N := 10) ?hd (xs := ([] : List (S60))) (inner := []) (ok := fun _ => True) (okp := fun _ => True) ?hr ?hp (fun _ hk => hk) trivial (Below.refl _ _) (Nat.le_refl _) (by simp) ?_; (case hd => rfl); (case hg => rfl); (case hr => first | (go_simp; done) | (go_simp; rfl)); (case hp => exact (Reps.none _ _)); intro v117 w3 ho4 hb hg_ hnew_; clear hg_ hnew_; (first | rw [← Ny116.out] at ho4 | (simp only [Int.reduceToNat] at ho4; rw [← Ny116.out] at ho4)); have HO118 := Aside0.mk (Kd.R_lower ho4 (below_size (sb))); replace HB := bs hb; clear hb ho4))
 go_loopg [5, 6] k (fun kq v5 v6 w' => ∃ (x5_1 : List (S60)) (x6_1 : Int), v6 = .int .i64 x6_1 ∧ Aside0 (spec_LinksAt.l0 kq l0 a1 x5_1 x6_1 = some r) ∧ Aside0 (kq ≤ k) ∧ Aside0 (Kd.R k60 60 w' w.heap.size (fun _ => True) v5 x5_1) ∧ Aside0 (Below w.heap.size w w'))
 case atStart => exact ⟨(y116), (0), sc, H', kk0, ⟨sr HO118⟩, ⟨sb⟩⟩
 case round =>
  clear H'
  obtain ⟨x5_1, x6_1, rfl, HA, HK1, HO_5, HB⟩ := hrel
  cases gk with
  | zero => exact absurd HA.out (by simp [spec_LinksAt.l0])
  | succ k1 =>
   have H := HA.out
   clear HA
   simp only [spec_LinksAt.l0] at H
   obtain ⟨c5, H⟩ | ⟨c5, H⟩ := ie_ H
   ·have c5b0 := decide_eq_true c5
    clear c5
    obtain ⟨c6b0, H⟩ := id_ H
    have H' := Aside0.mk H
    clear H
    try go_wp2
    replace HO_5 := Aside0.mk (Kd.R_drew HO_5.out)
    replace HB := Aside0.mk (below_drew1 HB.out)
    obtain ⟨p119, q119, ad119, e119, hw119_0, hw119_1, hw119_2, hw119_3, hx119_0, hx119_1, hx119_2, hx119_3⟩ := aT_T49 HR0 HB x6_1
    cases e119
    obtain ⟨p120, q120, ad120, e120, hw120_0, hw120_1, hw120_2, hw120_3, hx120_0, hx120_1, hx120_2, hx120_3⟩ := aT_T49 HR0 HB x6_1
    obtain rfl : ad119 = ad120 := (by injection e120)
    refine start_ (n := 13) (S := fun w' => w'.cell? (ad119.add ((x6_1).toNat * 4)) = some (.int .i64 ((rd_T49 l0 x6_1).f0)) ∧ w'.cell? ⟨(ad119.add ((x6_1).toNat * 4)).block, (ad119.add ((x6_1).toNat * 4)).off + 1, none⟩ = some (.int .i64 ((rd_T49 l0 x6_1).f1)) ∧ w'.cell? ⟨(ad119.add ((x6_1).toNat * 4)).block, (ad119.add ((x6_1).toNat * 4)).off + 2, none⟩ = some (.int .i64 ((rd_T49 l0 x6_1).f2)) ∧ w'.cell? ⟨(ad119.add ((x6_1).toNat * 4)).block, (ad119.add ((x6_1).toNat * 4)).off + 3, none⟩ = some (.int .i64 ((rd_T49 l0 x6_1).f3)) ∧ w'.cell? (ad119.add ((x6_1).toNat * 4)) = some (.int .i64 ((rd_T49 l0 x6_1).f0)) ∧ w'.cell? ⟨(ad119.add ((x6_1).toNat * 4)).block, (ad119.add ((x6_1).toNat * 4)).off + 1, none⟩ = some (.int .i64 ((rd_T49 l0 x6_1).f1)) ∧ w'.cell? ⟨(ad119.add ((x6_1).toNat * 4)).block, (ad119.add ((x6_1).toNat * 4)).off + 2, none⟩ = some (.int .i64 ((rd_T49 l0 x6_1).f2)) ∧ w'.cell? ⟨(ad119.add ((x6_1).toNat * 4)).block, (ad119.add ((x6_1).toNat * 4)).off + 3, none⟩ = some (.int .i64 ((rd_T49 l0 x6_1).f3))) (ds := []) #[false, false, false, false, false, false, false, false, false, false, false, false, false] (by kernel_rfl) rfl rfl ⟨(hb_ HB hw119_0), (hb_ HB hw119_1), (hb_ HB hw119_2), (hb_ HB hw119_3), (hb_ HB hw120_0), (hb_ HB hw120_1), (hb_ HB hw120_2), (hb_ HB hw120_3)⟩ (fun hHeld => ?_); refine with_tabW spec_LinksAt.tab5 spec_LinksAt.bits5 (fun HT_ HW_ => ?_)
    generalize wr.drew = w7 at HO_5 HB hx119_0 hx119_1 hx119_2 hx119_3 hx120_0 hx120_1 hx120_2 hx120_3 hHeld ⊢
    refine put 0 17 #[true, false, false, false, false, false, false, false, false, false, false, false, false] HT_ ?_
    refine put 1 18 #[true, true, false, false, false, false, false, false, false, false, false, false, false] HT_ ?_
    refine put 2 19 #[true, true, true, false, false, false, false, false, false, false, false, false, false] HT_ ?_
    refine put 3 20 #[true, true, true, true, false, false, false, false, false, false, false, false, false] HT_ ?_
    refine put 5 22 #[true, true, true, true, false, true, false, false, false, false, false, false, false] HT_ ?_
    refine put 6 23 #[true, true, true, true, false, true, true, false, false, false, false, false, false] HT_ ?_
    refine put 7 24 #[true, true, true, true, false, true, true, true, false, false, false, false, false] HT_ ?_
    refine put 8 25 #[true, true, true, true, false, true, true, true, true, false, false, false, false] HT_ ?_
    refine tat8 4 21 #[true, true, true, true, true, true, true, true, true, false, false, false, false] HT_ HW_ hHeld ?_
    refine tat8 9 26 #[true, true, true, true, true, true, true, true, true, true, false, false, false] HT_ HW_ hHeld ?_
    refine put 10 27 #[true, true, true, true, true, true, true, true, true, true, true, false, false] HT_ ?_
    refine one_ (i := 11) (N := some 7) #[true, true, true, true, true, true, true, true, true, true, true, true, false] rfl rfl (one_of HT_.out (by kernel_rfl)) (by decide) (fun K hK => ?_)
    refine box_step ?hg (N := 7) ?hd (cs := #[.int .i64 0, .int .i64 0]) (t := 60) ?hr ?_; (case hd => rfl); (case hg => rfl); (case hr => first | (go_simp; done) | (go_simp; rfl))
    intro gb121 hg w8 hbox hb
    replace HO_5 := Aside0.mk (Kd.R_below (Kd.R_elderB (sr HO_5) gb121 (Nat.le_of_eq hg.symm)) hb)
    have GW121 := bz w hg
    have GE121 := bz w hg
    replace HB := bs hb
    have BK121 := Aside0.mk hbox
    clear hb hbox hg
    refine hK.out _ _ ⟨(hb_ HB hw119_0), (hb_ HB hw119_1), (hb_ HB hw119_2), (hb_ HB hw119_3), (hb_ HB hw120_0), (hb_ HB hw120_1), (hb_ HB hw120_2), (hb_ HB hw120_3)⟩ (fun hHeld => ?_)
    clear hK K
    refine norm_ (a' := ?_) ?_ ?_
    rotate_left
    ·show Act.put _ (some 7) _ = _
     simp only [Act.put, List.setIfInBounds_toArray, List.set_cons_zero, List.set_cons_succ, i64_w, i32_w]
     rfl
    refine one_ (i := 12) (N := none) #[true, true, true, true, true, true, true, true, true, true, true, true, true] rfl rfl (one_of HT_.out (by kernel_rfl)) (by decide) (fun K hK => ?_)
    obtain ⟨hs9, hfs9⟩ := cc1 BK121
    have hs10 := bc1 BK121
    have hfs10 := bf BK121 1
    refine skip_ (w1 := ?_) (by rfl) rfl ?_ ?_
    rotate_left
    ·go_simp
     rfl
    refine hK.out _ _ ⟨((cell_far (p := ⟨gb121, _, none⟩) (by first | exact Nat.ne_of_lt (Nat.lt_of_lt_of_le (by have := World.block_lt_of_cell? _ _ hw119_0; first | rwa [add_block] at this | exact this) GW121.out) | (rw [add_block]; exact Nat.ne_of_lt (Nat.lt_of_lt_of_le (by have := World.block_lt_of_cell? _ _ hw119_0; first | rwa [add_block] at this | exact this) GW121.out)) | (show (Addr.add _ _).block ≠ _; rw [add_block]; exact Nat.ne_of_lt (Nat.lt_of_lt_of_le (by have := World.block_lt_of_cell? _ _ hw119_0; first | rwa [add_block] at this | exact this) GW121.out)) | (dsimp only; exact Nat.ne_of_lt (Nat.lt_of_lt_of_le (by have := World.block_lt_of_cell? _ _ hw119_0; first | rwa [add_block] at this | exact this) GW121.out))) _).trans (((cell_far (p := ⟨gb121, _, none⟩) (by first | exact Nat.ne_of_lt (Nat.lt_of_lt_of_le (by have := World.block_lt_of_cell? _ _ hw119_0; first | rwa [add_block] at this | exact this) GW121.out) | (rw [add_block]; exact Nat.ne_of_lt (Nat.lt_of_lt_of_le (by have := World.block_lt_of_cell? _ _ hw119_0; first | rwa [add_block] at this | exact this) GW121.out)) | (show (Addr.add _ _).block ≠ _; rw [add_block]; exact Nat.ne_of_lt (Nat.lt_of_lt_of_le (by have := World.block_lt_of_cell? _ _ hw119_0; first | rwa [add_block] at this | exact this) GW121.out)) | (dsimp only; exact Nat.ne_of_lt (Nat.lt_of_lt_of_le (by have := World.block_lt_of_cell? _ _ hw119_0; first | rwa [add_block] at this | exact this) GW121.out))) _).trans (hHeld.1)))), ((cell_far (p := ⟨gb121, _, none⟩) (by first | exact Nat.ne_of_lt (Nat.lt_of_lt_of_le (by have := World.block_lt_of_cell? _ _ hw119_1; first | rwa [add_block] at this | exact this) GW121.out) | (rw [add_block]; exact Nat.ne_of_lt (Nat.lt_of_lt_of_le (by have := World.block_lt_of_cell? _ _ hw119_1; first | rwa [add_block] at this | exact this) GW121.out)) | (show (Addr.add _ _).block ≠ _; rw [add_block]; exact Nat.ne_of_lt (Nat.lt_of_lt_of_le (by have := World.block_lt_of_cell? _ _ hw119_1; first | rwa [add_block] at this | exact this) GW121.out)) | (dsimp only; exact Nat.ne_of_lt (Nat.lt_of_lt_of_le (by have := World.block_lt_of_cell? _ _ hw119_1; first | rwa [add_block] at this | exact this) GW121.out))) _).trans (((cell_far (p := ⟨gb121, _, none⟩) (by first | exact Nat.ne_of_lt (Nat.lt_of_lt_of_le (by have := World.block_lt_of_cell? _ _ hw119_1; first | rwa [add_block] at this | exact this) GW121.out) | (rw [add_block]; exact Nat.ne_of_lt (Nat.lt_of_lt_of_le (by have := World.block_lt_of_cell? _ _ hw119_1; first | rwa [add_block] at this | exact this) GW121.out)) | (show (Addr.add _ _).block ≠ _; rw [add_block]; exact Nat.ne_of_lt (Nat.lt_of_lt_of_le (by have := World.block_lt_of_cell? _ _ hw119_1; first | rwa [add_block] at this | exact this) GW121.out)) | (dsimp only; exact Nat.ne_of_lt (Nat.lt_of_lt_of_le (by have := World.block_lt_of_cell? _ _ hw119_1; first | rwa [add_block] at this | exact this) GW121.out))) _).trans (hHeld.2.1)))), ((cell_far (p := ⟨gb121, _, none⟩) (by first | exact Nat.ne_of_lt (Nat.lt_of_lt_of_le (by have := World.block_lt_of_cell? _ _ hw119_2; first | rwa [add_block] at this | exact this) GW121.out) | (rw [add_block]; exact Nat.ne_of_lt (Nat.lt_of_lt_of_le (by have := World.block_lt_of_cell? _ _ hw119_2; first | rwa [add_block] at this | exact this) GW121.out)) | (show (Addr.add _ _).block ≠ _; rw [add_block]; exact Nat.ne_of_lt (Nat.lt_of_lt_of_le (by have := World.block_lt_of_cell? _ _ hw119_2; first | rwa [add_block] at this | exact this) GW121.out)) | (dsimp only; exact Nat.ne_of_lt (Nat.lt_of_lt_of_le (by have := World.block_lt_of_cell? _ _ hw119_2; first | rwa [add_block] at this | exact this) GW121.out))) _).trans (((cell_far (p := ⟨gb121, _, none⟩) (by first | exact Nat.ne_of_lt (Nat.lt_of_lt_of_le (by have := World.block_lt_of_cell? _ _ hw119_2; first | rwa [add_block] at this | exact this) GW121.out) | (rw [add_block]; exact Nat.ne_of_lt (Nat.lt_of_lt_of_le (by have := World.block_lt_of_cell? _ _ hw119_2; first | rwa [add_block] at this | exact this) GW121.out)) | (show (Addr.add _ _).block ≠ _; rw [add_block]; exact Nat.ne_of_lt (Nat.lt_of_lt_of_le (by have := World.block_lt_of_cell? _ _ hw119_2; first | rwa [add_block] at this | exact this) GW121.out)) | (dsimp only; exact Nat.ne_of_lt (Nat.lt_of_lt_of_le (by have := World.block_lt_of_cell? _ _ hw119_2; first | rwa [add_block] at this | exact this) GW121.out))) _).trans (hHeld.2.2.1)))), ((cell_far (p := ⟨gb121, _, none⟩) (by first | exact Nat.ne_of_lt (Nat.lt_of_lt_of_le (by have := World.block_lt_of_cell? _ _ hw119_3; first | rwa [add_block] at this | exact this) GW121.out) | (rw [add_block]; exact Nat.ne_of_lt (Nat.lt_of_lt_of_le (by have := World.block_lt_of_cell? _ _ hw119_3; first | rwa [add_block] at this | exact this) GW121.out)) | (show (Addr.add _ _).block ≠ _; rw [add_block]; exact Nat.ne_of_lt (Nat.lt_of_lt_of_le (by have := World.block_lt_of_cell? _ _ hw119_3; first | rwa [add_block] at this | exact this) GW121.out)) | (dsimp only; exact Nat.ne_of_lt (Nat.lt_of_lt_of_le (by have := World.block_lt_of_cell? _ _ hw119_3; first | rwa [add_block] at this | exact this) GW121.out))) _).trans (((cell_far (p := ⟨gb121, _, none⟩) (by first | exact Nat.ne_of_lt (Nat.lt_of_lt_of_le (by have := World.block_lt_of_cell? _ _ hw119_3; first | rwa [add_block] at this | exact this) GW121.out) | (rw [add_block]; exact Nat.ne_of_lt (Nat.lt_of_lt_of_le (by have := World.block_lt_of_cell? _ _ hw119_3; first | rwa [add_block] at this | exact this) GW121.out)) | (show (Addr.add _ _).block ≠ _; rw [add_block]; exact Nat.ne_of_lt (Nat.lt_of_lt_of_le (by have := World.block_lt_of_cell? _ _ hw119_3; first | rwa [add_block] at this | exact this) GW121.out)) | (dsimp only; exact Nat.ne_of_lt (Nat.lt_of_lt_of_le (by have := World.block_lt_of_cell? _ _ hw119_3; first | rwa [add_block] at this | exact this) GW121.out))) _).trans (hHeld.2.2.2.1)))), ((cell_far (p := ⟨gb121, _, none⟩) (by first | exact Nat.ne_of_lt (Nat.lt_of_lt_of_le (by have := World.block_lt_of_cell? _ _ hw120_0; first | rwa [add_block] at this | exact this) GW121.out) | (rw [add_block]; exact Nat.ne_of_lt (Nat.lt_of_lt_of_le (by have := World.block_lt_of_cell? _ _ hw120_0; first | rwa [add_block] at this | exact this) GW121.out)) | (show (Addr.add _ _).block ≠ _; rw [add_block]; exact Nat.ne_of_lt (Nat.lt_of_lt_of_le (by have := World.block_lt_of_cell? _ _ hw120_0; first | rwa [add_block] at this | exact this) GW121.out)) | (dsimp only; exact Nat.ne_of_lt (Nat.lt_of_lt_of_le (by have := World.block_lt_of_cell? _ _ hw120_0; first | rwa [add_block] at this | exact this) GW121.out))) _).trans (((cell_far (p := ⟨gb121, _, none⟩) (by first | exact Nat.ne_of_lt (Nat.lt_of_lt_of_le (by have := World.block_lt_of_cell? _ _ hw120_0; first | rwa [add_block] at this | exact this) GW121.out) | (rw [add_block]; exact Nat.ne_of_lt (Nat.lt_of_lt_of_le (by have := World.block_lt_of_cell? _ _ hw120_0; first | rwa [add_block] at this | exact this) GW121.out)) | (show (Addr.add _ _).block ≠ _; rw [add_block]; exact Nat.ne_of_lt (Nat.lt_of_lt_of_le (by have := World.block_lt_of_cell? _ _ hw120_0; first | rwa [add_block] at this | exact this) GW121.out)) | (dsimp only; exact Nat.ne_of_lt (Nat.lt_of_lt_of_le (by have := World.block_lt_of_cell? _ _ hw120_0; first | rwa [add_block] at this | exact this) GW121.out))) _).trans (hHeld.2.2.2.2.1)))), ((cell_far (p := ⟨gb121, _, none⟩) (by first | exact Nat.ne_of_lt (Nat.lt_of_lt_of_le (by have := World.block_lt_of_cell? _ _ hw120_1; first | rwa [add_block] at this | exact this) GW121.out) | (rw [add_block]; exact Nat.ne_of_lt (Nat.lt_of_lt_of_le (by have := World.block_lt_of_cell? _ _ hw120_1; first | rwa [add_block] at this | exact this) GW121.out)) | (show (Addr.add _ _).block ≠ _; rw [add_block]; exact Nat.ne_of_lt (Nat.lt_of_lt_of_le (by have := World.block_lt_of_cell? _ _ hw120_1; first | rwa [add_block] at this | exact this) GW121.out)) | (dsimp only; exact Nat.ne_of_lt (Nat.lt_of_lt_of_le (by have := World.block_lt_of_cell? _ _ hw120_1; first | rwa [add_block] at this | exact this) GW121.out))) _).trans (((cell_far (p := ⟨gb121, _, none⟩) (by first | exact Nat.ne_of_lt (Nat.lt_of_lt_of_le (by have := World.block_lt_of_cell? _ _ hw120_1; first | rwa [add_block] at this | exact this) GW121.out) | (rw [add_block]; exact Nat.ne_of_lt (Nat.lt_of_lt_of_le (by have := World.block_lt_of_cell? _ _ hw120_1; first | rwa [add_block] at this | exact this) GW121.out)) | (show (Addr.add _ _).block ≠ _; rw [add_block]; exact Nat.ne_of_lt (Nat.lt_of_lt_of_le (by have := World.block_lt_of_cell? _ _ hw120_1; first | rwa [add_block] at this | exact this) GW121.out)) | (dsimp only; exact Nat.ne_of_lt (Nat.lt_of_lt_of_le (by have := World.block_lt_of_cell? _ _ hw120_1; first | rwa [add_block] at this | exact this) GW121.out))) _).trans (hHeld.2.2.2.2.2.1)))), ((cell_far (p := ⟨gb121, _, none⟩) (by first | exact Nat.ne_of_lt (Nat.lt_of_lt_of_le (by have := World.block_lt_of_cell? _ _ hw120_2; first | rwa [add_block] at this | exact this) GW121.out) | (rw [add_block]; exact Nat.ne_of_lt (Nat.lt_of_lt_of_le (by have := World.block_lt_of_cell? _ _ hw120_2; first | rwa [add_block] at this | exact this) GW121.out)) | (show (Addr.add _ _).block ≠ _; rw [add_block]; exact Nat.ne_of_lt (Nat.lt_of_lt_of_le (by have := World.block_lt_of_cell? _ _ hw120_2; first | rwa [add_block] at this | exact this) GW121.out)) | (dsimp only; exact Nat.ne_of_lt (Nat.lt_of_lt_of_le (by have := World.block_lt_of_cell? _ _ hw120_2; first | rwa [add_block] at this | exact this) GW121.out))) _).trans (((cell_far (p := ⟨gb121, _, none⟩) (by first | exact Nat.ne_of_lt (Nat.lt_of_lt_of_le (by have := World.block_lt_of_cell? _ _ hw120_2; first | rwa [add_block] at this | exact this) GW121.out) | (rw [add_block]; exact Nat.ne_of_lt (Nat.lt_of_lt_of_le (by have := World.block_lt_of_cell? _ _ hw120_2; first | rwa [add_block] at this | exact this) GW121.out)) | (show (Addr.add _ _).block ≠ _; rw [add_block]; exact Nat.ne_of_lt (Nat.lt_of_lt_of_le (by have := World.block_lt_of_cell? _ _ hw120_2; first | rwa [add_block] at this | exact this) GW121.out)) | (dsimp only; exact Nat.ne_of_lt (Nat.lt_of_lt_of_le (by have := World.block_lt_of_cell? _ _ hw120_2; first | rwa [add_block] at this | exact this) GW121.out))) _).trans (hHeld.2.2.2.2.2.2.1)))), ((cell_far (p := ⟨gb121, _, none⟩) (by first | exact Nat.ne_of_lt (Nat.lt_of_lt_of_le (by have := World.block_lt_of_cell? _ _ hw120_3; first | rwa [add_block] at this | exact this) GW121.out) | (rw [add_block]; exact Nat.ne_of_lt (Nat.lt_of_lt_of_le (by have := World.block_lt_of_cell? _ _ hw120_3; first | rwa [add_block] at this | exact this) GW121.out)) | (show (Addr.add _ _).block ≠ _; rw [add_block]; exact Nat.ne_of_lt (Nat.lt_of_lt_of_le (by have := World.block_lt_of_cell? _ _ hw120_3; first | rwa [add_block] at this | exact this) GW121.out)) | (dsimp only; exact Nat.ne_of_lt (Nat.lt_of_lt_of_le (by have := World.block_lt_of_cell? _ _ hw120_3; first | rwa [add_block] at this | exact this) GW121.out))) _).trans (((cell_far (p := ⟨gb121, _, none⟩) (by first | exact Nat.ne_of_lt (Nat.lt_of_lt_of_le (by have := World.block_lt_of_cell? _ _ hw120_3; first | rwa [add_block] at this | exact this) GW121.out) | (rw [add_block]; exact Nat.ne_of_lt (Nat.lt_of_lt_of_le (by have := World.block_lt_of_cell? _ _ hw120_3; first | rwa [add_block] at this | exact this) GW121.out)) | (show (Addr.add _ _).block ≠ _; rw [add_block]; exact Nat.ne_of_lt (Nat.lt_of_lt_of_le (by have := World.block_lt_of_cell? _ _ hw120_3; first | rwa [add_block] at this | exact this) GW121.out)) | (dsimp only; exact Nat.ne_of_lt (Nat.lt_of_lt_of_le (by have := World.block_lt_of_cell? _ _ hw120_3; first | rwa [add_block] at this | exact this) GW121.out))) _).trans (hHeld.2.2.2.2.2.2.2))))⟩ (fun hHeld => ?_)
    clear hK K
    refine done_ (done_of HT_.out (by kernel_rfl)) ?_
    try go_wp2
    go_loopg [8, 9] k1 (fun kq v8 v9 w' => ∃ (x8_2 : Bool) (x9_2 : Int), v8 = .bool x8_2 ∧ v9 = .int .i64 x9_2 ∧ Aside0 (spec_LinksAt.l1 kq l0 a1 x5_1 x6_1 x8_2 x9_2 ((rd_T49 l0 x6_1).f0) ((rd_T49 l0 x6_1).f1) = some r) ∧ Aside0 (kq ≤ k1) ∧ Aside0 (Kd.R k60 60 w' w.heap.size (fun k_ => k_ ≠ gb121) u5 x5_1) ∧ Aside0 (w'.heap[gb121]? = some (.cells #[.int .i64 ((rd_T49 l0 x6_1).f0), .int .i64 ((rd_T49 l0 x6_1).f1)] 60 (0, 0))) ∧ Aside0 (Below w.heap.size w w'))
    case atStart => exact ⟨(false), (0), sc, sc, H', kk0, ⟨by (with_reducible repeat (first | apply Kd.R_alloc | apply Kd.R_drewN | apply Kd.R_drew)); exact Kd.R_mono (Kd.R_far (p := ⟨gb121, 1, none⟩) (Kd.R_far (p := ⟨gb121, 0, none⟩) (Kd.R_mono HO_5.out (fun k_ hk => (⟨hk, hk.2⟩ : _ ∧ k_ ≠ gb121))) (fun _ hk => hk.2) (.int .i64 ((rd_T49 l0 x6_1).f0))) (fun _ hk => hk.2) (.int .i64 ((rd_T49 l0 x6_1).f1))) (fun _ hk => hk.1.2)⟩, ⟨sp BK121⟩, ⟨sbw⟩⟩
    case round =>
     clear H'
     try clear c5
     try clear c5b0
     try clear c6b0
     try clear hx119_0
     try clear hx119_1
     try clear hx119_2
     try clear hx119_3
     try clear hx120_0
     try clear hx120_1
     try clear hx120_2
     try clear hx120_3
     try clear p119
     try clear p120
     try clear q119
     try clear q120
     obtain ⟨x8_2, x9_2, rfl, rfl, HA, HK2, HO_5, BK121, HB⟩ := hrel
     cases gk with
     | zero => exact absurd HA.out (by simp [spec_LinksAt.l1])
     | succ k2 =>
      have H := HA.out
      clear HA
      simp only [spec_LinksAt.l1] at H
      obtain ⟨c11, H⟩ | ⟨c11, H⟩ := ie_ H
      ·have c11b0 := decide_eq_true c11
       clear c11
       obtain rfl | rfl := tt x8_2
       ·replace H := ip H
        have H' := Aside0.mk H
        clear H
        obtain ⟨Ao13, co13, eo13⟩ := Kd.R_slice HO_5.out
        subst eo13
        try go_wp2
        replace HO_5 := Aside0.mk (Kd.R_drew HO_5.out)
        replace BK121 := Aside0.mk (blk_drew BK121.out)
        replace HB := Aside0.mk (below_drew1 HB.out)
        refine start_ (n := 10) (S := fun w' => True) (ds := []) #[false, false, false, false, false, false, false, false, false, false] (by kernel_rfl) rfl rfl trivial (fun hHeld => ?_); refine with_tabW spec_LinksAt.tab10 spec_LinksAt.bits10 (fun HT_ HW_ => ?_)
        generalize wr.drew = w14 at HO_5 BK121 HB hHeld ⊢
        refine put 0 34 #[true, false, false, false, false, false, false, false, false, false] HT_ ?_
        refine put 1 35 #[true, true, false, false, false, false, false, false, false, false] HT_ ?_
        refine pure_ (i := 2) (N := some 36) (v := undef) (a' := ?_) #[true, true, true, false, false, false, false, false, false, false] rfl rfl (any_of HT_.out (by kernel_rfl)) (fun _ _ _ h => h) (Or.inr ⟨by rfl, rfl⟩) ?_ ?_
        rotate_left
        ·simp only [Act.put, List.setIfInBounds_toArray, List.set_cons_zero, List.set_cons_succ, i64_w, i32_w]
         rfl
        refine pure_ (i := 3) (N := some 37) (v := undef) (a' := ?_) #[true, true, true, true, false, false, false, false, false, false] rfl rfl (any_of HT_.out (by kernel_rfl)) (fun _ _ _ h => h) (Or.inr ⟨by rfl, rfl⟩) ?_ ?_
        rotate_left
        ·simp only [Act.put, List.setIfInBounds_toArray, List.set_cons_zero, List.set_cons_succ, i64_w, i32_w]
         rfl
        refine pure_ (i := 4) (N := some 38) (v := undef) (a' := ?_) #[true, true, true, true, true, false, false, false, false, false] rfl rfl (any_of HT_.out (by kernel_rfl)) (fun _ _ _ h => h) (Or.inr ⟨by rfl, rfl⟩) ?_ ?_
        rotate_left
        ·simp only [Act.put, List.setIfInBounds_toArray, List.set_cons_zero, List.set_cons_succ, i64_w, i32_w]
         rfl
        refine pure_ (i := 5) (N := some 39) (v := undef) (a' := ?_) #[true, true, true, true, true, true, false, false, false, false] rfl rfl (any_of HT_.out (by kernel_rfl)) (fun _ _ _ h => h) (Or.inr ⟨by rfl, rfl⟩) ?_ ?_
        rotate_left
        ·simp only [Act.put, List.setIfInBounds_toArray, List.set_cons_zero, List.set_cons_succ, i64_w, i32_w]
         rfl
        refine pure_ (i := 6) (N := some 40) (v := undef) (a' := ?_) #[true, true, true, true, true, true, true, false, false, false] rfl rfl (any_of HT_.out (by kernel_rfl)) (fun _ _ _ h => h) (Or.inr ⟨by rfl, rfl⟩) ?_ ?_
        rotate_left
        ·simp only [Act.put, List.setIfInBounds_toArray, List.set_cons_zero, List.set_cons_succ, i64_w, i32_w]
         rfl
        refine pure_ (i := 7) (N := some 41) (v := undef) (a' := ?_) #[true, true, true, true, true, true, true, true, false, false] rfl rfl (any_of HT_.out (by kernel_rfl)) (fun _ _ _ h => h) (Or.inr ⟨by rfl, rfl⟩) ?_ ?_
        rotate_left
        ·simp only [Act.put, List.setIfInBounds_toArray, List.set_cons_zero, List.set_cons_succ, i64_w, i32_w]
         rfl
        refine put 8 42 #[true, true, true, true, true, true, true, true, true, false] HT_ ?_
        refine put 9 8 #[true, true, true, true, true, true, true, true, true, true] HT_ ?_
        refine done_ (done_of HT_.out (by kernel_rfl)) ?_
        try go_wp2
        go_roundg k2
        case measure => have := HK1.out; have := HK2.out; omega
        case rel => exact ⟨(true), (wrap64 (x9_2 + 1)), sc, sc, H', kk2, ⟨sr HO_5⟩, ⟨sk BK121⟩, ⟨sbw⟩⟩
       ·replace H := im H
        obtain ⟨c15b0, H⟩ := id_ H
        have H' := Aside0.mk H
        clear H
        obtain ⟨Ao16, co16, eo16⟩ := Kd.R_slice HO_5.out
        subst eo16
        try go_wp2
        replace HO_5 := Aside0.mk (Kd.R_drew HO_5.out)
        replace BK121 := Aside0.mk (blk_drew BK121.out)
        replace HB := Aside0.mk (below_drew1 HB.out)
        have p122 : 0 ≤ (x9_2 : Int) := sa
        have q122 : x9_2 < (x5_1.length : Int) := sa
        obtain ⟨ad122, e122, hx122_0, hx122_1⟩ := at_T60 (Kd.R_reads' HO_5.out).2.2 x9_2 p122 q122
        cases e122
        replace p122 := eq_true p122
        replace q122 := eq_true q122
        refine start_ (n := 10) (S := fun w' => w'.cell? ⟨gb121, 0, none⟩ = some (.int .i64 ((rd_T49 l0 x6_1).f0)) ∧ w'.cell? ⟨gb121, 1, none⟩ = some (.int .i64 ((rd_T49 l0 x6_1).f1)) ∧ w'.cell? (ad122.add ((x9_2).toNat * 2)) = some (.int .i64 ((rd_T60 x5_1 x9_2).f0)) ∧ w'.cell? ⟨(ad122.add ((x9_2).toNat * 2)).block, (ad122.add ((x9_2).toNat * 2)).off + 1, none⟩ = some (.int .i64 ((rd_T60 x5_1 x9_2).f1))) (ds := []) #[false, false, false, false, false, false, false, false, false, false] (by kernel_rfl) rfl rfl ⟨bc0 BK121, bc1 BK121, hx122_0, hx122_1⟩ (fun hHeld => ?_); refine with_tabW spec_LinksAt.tab10 spec_LinksAt.bits10 (fun HT_ HW_ => ?_)
        generalize wr.drew = w17 at HO_5 BK121 HB hx122_0 hx122_1 hHeld ⊢
        refine put 0 34 #[true, false, false, false, false, false, false, false, false, false] HT_ ?_
        refine put 1 35 #[true, true, false, false, false, false, false, false, false, false] HT_ ?_
        refine put 2 36 #[true, true, true, false, false, false, false, false, false, false] HT_ ?_
        refine put 3 37 #[true, true, true, true, false, false, false, false, false, false] HT_ ?_
        refine put 4 38 #[true, true, true, true, true, false, false, false, false, false] HT_ ?_
        refine tat4 5 39 #[true, true, true, true, true, true, false, false, false, false] HT_ HW_ hHeld ?_
        refine tat4 6 40 #[true, true, true, true, true, true, true, false, false, false] HT_ HW_ hHeld ?_
        refine put 7 41 #[true, true, true, true, true, true, true, true, false, false] HT_ ?_
        refine put 8 42 #[true, true, true, true, true, true, true, true, true, false] HT_ ?_
        refine put 9 8 #[true, true, true, true, true, true, true, true, true, true] HT_ ?_
        refine done_ (done_of HT_.out (by kernel_rfl)) ?_
        try go_wp2
        go_roundg k2
        case measure => have := HK1.out; have := HK2.out; omega
        case rel => exact ⟨((((rd_T60 x5_1 x9_2).f0) == ((rd_T49 l0 x6_1).f0) && (((rd_T60 x5_1 x9_2).f1) == ((rd_T49 l0 x6_1).f1)))), (wrap64 (x9_2 + 1)), sc, sc, H', kk2, ⟨sr HO_5⟩, ⟨sk BK121⟩, ⟨sbw⟩⟩
      ·have c11b0 := decide_eq_false c11
       clear c11
       obtain rfl | rfl := tt x8_2
       ·replace H := ip H
        have H' := Aside0.mk H
        clear H
        obtain ⟨Ao19, co19, eo19⟩ := Kd.R_slice HO_5.out
        subst eo19
        try go_wp2
        replace HO_5 := Aside0.mk (Kd.R_drew HO_5.out)
        replace BK121 := Aside0.mk (blk_drew BK121.out)
        replace HB := Aside0.mk (below_drew1 HB.out)
        refine start_ (n := 17) (S := fun w' => True) (ds := []) #[false, false, false, false, false, false, false, false, false, false, false, false, false, false, false, false, false] (by kernel_rfl) rfl rfl trivial (fun hHeld => ?_); refine with_tabW spec_LinksAt.tab11 spec_LinksAt.bits11 (fun HT_ HW_ => ?_)
        generalize wr.drew = w20 at HO_5 BK121 HB hHeld ⊢
        refine put 0 43 #[true, false, false, false, false, false, false, false, false, false, false, false, false, false, false, false, false] HT_ ?_
        refine put 1 44 #[true, true, false, false, false, false, false, false, false, false, false, false, false, false, false, false, false] HT_ ?_
        refine put 2 45 #[true, true, true, false, false, false, false, false, false, false, false, false, false, false, false, false, false] HT_ ?_
        refine pure_ (i := 3) (N := some 46) (v := undef) (a' := ?_) #[true, true, true, true, false, false, false, false, false, false, false, false, false, false, false, false, false] rfl rfl (any_of HT_.out (by kernel_rfl)) (fun _ _ _ h => h) (Or.inr ⟨by rfl, rfl⟩) ?_ ?_
        rotate_left
        ·simp only [Act.put, List.setIfInBounds_toArray, List.set_cons_zero, List.set_cons_succ, i64_w, i32_w]
         rfl
        refine pure_ (i := 4) (N := some 47) (v := undef) (a' := ?_) #[true, true, true, true, true, false, false, false, false, false, false, false, false, false, false, false, false] rfl rfl (any_of HT_.out (by kernel_rfl)) (fun _ _ _ h => h) (Or.inr ⟨by rfl, rfl⟩) ?_ ?_
        rotate_left
        ·simp only [Act.put, List.setIfInBounds_toArray, List.set_cons_zero, List.set_cons_succ, i64_w, i32_w]
         rfl
        refine pure_ (i := 5) (N := some 48) (v := undef) (a' := ?_) #[true, true, true, true, true, true, false, false, false, false, false, false, false, false, false, false, false] rfl rfl (any_of HT_.out (by kernel_rfl)) (fun _ _ _ h => h) (Or.inr ⟨by rfl, rfl⟩) ?_ ?_
        rotate_left
        ·simp only [Act.put, List.setIfInBounds_toArray, List.set_cons_zero, List.set_cons_succ, i64_w, i32_w]
         rfl
        refine pure_ (i := 6) (N := some 49) (v := undef) (a' := ?_) #[true, true, true, true, true, true, true, false, false, false, false, false, false, false, false, false, false] rfl rfl (any_of HT_.out (by kernel_rfl)) (fun _ _ _ h => h) (Or.inr ⟨by rfl, rfl⟩) ?_ ?_
        rotate_left
        ·simp only [Act.put, List.setIfInBounds_toArray, List.set_cons_zero, List.set_cons_succ, i64_w, i32_w]
         rfl
        refine pure_ (i := 7) (N := some 50) (v := undef) (a' := ?_) #[true, true, true, true, true, true, true, true, false, false, false, false, false, false, false, false, false] rfl rfl (any_of HT_.out (by kernel_rfl)) (fun _ _ _ h => h) (Or.inr ⟨by rfl, rfl⟩) ?_ ?_
        rotate_left
        ·simp only [Act.put, List.setIfInBounds_toArray, List.set_cons_zero, List.set_cons_succ, i64_w, i32_w]
         rfl
        refine pure_ (i := 8) (N := some 51) (v := undef) (a' := ?_) #[true, true, true, true, true, true, true, true, true, false, false, false, false, false, false, false, false] rfl rfl (any_of HT_.out (by kernel_rfl)) (fun _ _ _ h => h) (Or.inr ⟨by rfl, rfl⟩) ?_ ?_
        rotate_left
        ·simp only [Act.put, List.setIfInBounds_toArray, List.set_cons_zero, List.set_cons_succ, i64_w, i32_w]
         rfl
        refine pure_ (i := 9) (N := some 52) (v := undef) (a' := ?_) #[true, true, true, true, true, true, true, true, true, true, false, false, false, false, false, false, false] rfl rfl (any_of HT_.out (by kernel_rfl)) (fun _ _ _ h => h) (Or.inr ⟨by rfl, rfl⟩) ?_ ?_
        rotate_left
        ·simp only [Act.put, List.setIfInBounds_toArray, List.set_cons_zero, List.set_cons_succ, i64_w, i32_w]
         rfl
        refine pure_ (i := 10) (N := some 53) (v := undef) (a' := ?_) #[true, true, true, true, true, true, true, true, true, true, true, false, false, false, false, false, false] rfl rfl (any_of HT_.out (by kernel_rfl)) (fun _ _ _ h => h) (Or.inr ⟨by rfl, rfl⟩) ?_ ?_
        rotate_left
        ·simp only [Act.put, List.setIfInBounds_toArray, List.set_cons_zero, List.set_cons_succ, i64_w, i32_w]
         rfl
        refine pure_ (i := 11) (N := some 54) (v := undef) (a' := ?_) #[true, true, true, true, true, true, true, true, true, true, true, true, false, false, false, false, false] rfl rfl (any_of HT_.out (by kernel_rfl)) (fun _ _ _ h => h) (Or.inr ⟨by rfl, rfl⟩) ?_ ?_
        rotate_left
        ·simp only [Act.put, List.setIfInBounds_toArray, List.set_cons_zero, List.set_cons_succ, i64_w, i32_w]
         rfl
        refine pure_ (i := 12) (N := some 55) (v := undef) (a' := ?_) #[true, true, true, true, true, true, true, true, true, true, true, true, true, false, false, false, false] rfl rfl (any_of HT_.out (by kernel_rfl)) (fun _ _ _ h => h) (Or.inr ⟨by rfl, rfl⟩) ?_ ?_
        rotate_left
        ·simp only [Act.put, List.setIfInBounds_toArray, List.set_cons_zero, List.set_cons_succ, i64_w, i32_w]
         rfl
        refine pure_ (i := 13) (N := some 56) (v := undef) (a' := ?_) #[true, true, true, true, true, true, true, true, true, true, true, true, true, true, false, false, false] rfl rfl (any_of HT_.out (by kernel_rfl)) (fun _ _ _ h => h) (Or.inr ⟨by rfl, rfl⟩) ?_ ?_
        rotate_left
        ·simp only [Act.put, List.setIfInBounds_toArray, List.set_cons_zero, List.set_cons_succ, i64_w, i32_w]
         rfl
        refine pure_ (i := 14) (N := some 57) (v := undef) (a' := ?_) #[true, true, true, true, true, true, true, true, true, true, true, true, true, true, true, false, false] rfl rfl (any_of HT_.out (by kernel_rfl)) (fun _ _ _ h => h) (Or.inr ⟨by rfl, rfl⟩) ?_ ?_
        rotate_left
        ·simp only [Act.put, List.setIfInBounds_toArray, List.set_cons_zero, List.set_cons_succ, i64_w, i32_w]
         rfl
        refine pure_ (i := 15) (N := some 58) (v := undef) (a' := ?_) #[true, true, true, true, true, true, true, true, true, true, true, true, true, true, true, true, false] rfl rfl (any_of HT_.out (by kernel_rfl)) (fun _ _ _ h => h) (Or.inr ⟨by rfl, rfl⟩) ?_ ?_
        rotate_left
        ·simp only [Act.put, List.setIfInBounds_toArray, List.set_cons_zero, List.set_cons_succ, i64_w, i32_w]
         rfl
        refine put 16 59 #[true, true, true, true, true, true, true, true, true, true, true, true, true, true, true, true, true] HT_ ?_
        refine done_ (done_of HT_.out (by kernel_rfl)) ?_
        try go_wp2
        go_roundg k2
        case measure => have := HK1.out; have := HK2.out; omega
        case rel => exact ⟨(x5_1), (wrap64 (x6_1 + 1)), sc, H', kk2, ⟨by (with_reducible repeat (first | apply Kd.R_alloc | apply Kd.R_drewN | apply Kd.R_drew)); exact Kd.R_mono HO_5.out (fun _ hk => trivial)⟩, ⟨sbw⟩⟩
       ·replace H := im H
        obtain ⟨c21b0, H⟩ := id_ H
        obtain ⟨c22b0, H⟩ := id_ H
        obtain ⟨t125, A23, H⟩ := bnd H
        obtain rfl | rfl := tt t125
        ·replace H := ip H
         obtain ⟨LMc25, H⟩ := il_ H
         obtain ⟨y126, hy126⟩ : ∃ y_ : List (S60), y_ = (x5_1 ++ [(⟨((rd_T49 l0 x6_1).f0), ((rd_T49 l0 x6_1).f1)⟩ : S60)]) := ⟨_, rfl⟩
         replace H : (spec_LinksAt.l0 k2 l0 a1 y126 (wrap64 (x6_1 + 1))) = some r := by first | (rw [hy126]; with_reducible exact H) | (have H2_ := (Option.bind_some _ _).symm.trans H; rw [hy126]; with_reducible exact H2_) | (have H2_ := (Option.bind_some _ _).symm.trans H; with_reducible exact H2_) | with_reducible exact H | (rw [hy126]; exact H) | exact H
         have Ny126 := Aside0.mk hy126
         clear hy126
         have H' := Aside0.mk H
         clear H
         obtain ⟨Ao26, co26, eo26⟩ := Kd.R_slice HO_5.out
         subst eo26
         try go_wp2
         replace HO_5 := Aside0.mk (Kd.R_drew HO_5.out)
         replace BK121 := Aside0.mk (blk_drew BK121.out)
         replace HB := Aside0.mk (below_drew1 HB.out)
         obtain ⟨p123, q123, ad123, e123, hw123_0, hw123_1, hw123_2, hw123_3, hx123_0, hx123_1, hx123_2, hx123_3⟩ := aT_T49 HR0 HB x6_1
         obtain rfl : ad119 = ad123 := (by injection e123)
         obtain ⟨p124, q124, ad124, e124, hw124_0, hw124_1, hw124_2, hw124_3, hx124_0, hx124_1, hx124_2, hx124_3⟩ := aT_T49 HR0 HB x6_1
         obtain rfl : ad119 = ad124 := (by injection e124)
         refine start_ (n := 17) (S := fun w' => w'.cell? (ad119.add ((x6_1).toNat * 4)) = some (.int .i64 ((rd_T49 l0 x6_1).f0)) ∧ w'.cell? ⟨(ad119.add ((x6_1).toNat * 4)).block, (ad119.add ((x6_1).toNat * 4)).off + 1, none⟩ = some (.int .i64 ((rd_T49 l0 x6_1).f1)) ∧ w'.cell? ⟨(ad119.add ((x6_1).toNat * 4)).block, (ad119.add ((x6_1).toNat * 4)).off + 2, none⟩ = some (.int .i64 ((rd_T49 l0 x6_1).f2)) ∧ w'.cell? ⟨(ad119.add ((x6_1).toNat * 4)).block, (ad119.add ((x6_1).toNat * 4)).off + 3, none⟩ = some (.int .i64 ((rd_T49 l0 x6_1).f3)) ∧ w'.cell? (ad119.add ((x6_1).toNat * 4)) = some (.int .i64 ((rd_T49 l0 x6_1).f0)) ∧ w'.cell? ⟨(ad119.add ((x6_1).toNat * 4)).block, (ad119.add ((x6_1).toNat * 4)).off + 1, none⟩ = some (.int .i64 ((rd_T49 l0 x6_1).f1)) ∧ w'.cell? ⟨(ad119.add ((x6_1).toNat * 4)).block, (ad119.add ((x6_1).toNat * 4)).off + 2, none⟩ = some (.int .i64 ((rd_T49 l0 x6_1).f2)) ∧ w'.cell? ⟨(ad119.add ((x6_1).toNat * 4)).block, (ad119.add ((x6_1).toNat * 4)).off + 3, none⟩ = some (.int .i64 ((rd_T49 l0 x6_1).f3))) (ds := []) #[false, false, false, false, false, false, false, false, false, false, false, false, false, false, false, false, false] (by kernel_rfl) rfl rfl ⟨(hb_ HB hw123_0), (hb_ HB hw123_1), (hb_ HB hw123_2), (hb_ HB hw123_3), (hb_ HB hw124_0), (hb_ HB hw124_1), (hb_ HB hw124_2), (hb_ HB hw124_3)⟩ (fun hHeld => ?_); refine with_tabW spec_LinksAt.tab11 spec_LinksAt.bits11 (fun HT_ HW_ => ?_)
         generalize wr.drew = w27 at HO_5 BK121 HB hx123_0 hx123_1 hx123_2 hx123_3 hx124_0 hx124_1 hx124_2 hx124_3 hHeld ⊢
         refine put 0 43 #[true, false, false, false, false, false, false, false, false, false, false, false, false, false, false, false, false] HT_ ?_
         refine put 1 44 #[true, true, false, false, false, false, false, false, false, false, false, false, false, false, false, false, false] HT_ ?_
         refine put 2 45 #[true, true, true, false, false, false, false, false, false, false, false, false, false, false, false, false, false] HT_ ?_
         refine put 3 46 #[true, true, true, true, false, false, false, false, false, false, false, false, false, false, false, false, false] HT_ ?_
         refine put 4 47 #[true, true, true, true, true, false, false, false, false, false, false, false, false, false, false, false, false] HT_ ?_
         refine put 5 48 #[true, true, true, true, true, true, false, false, false, false, false, false, false, false, false, false, false] HT_ ?_
         refine put 6 49 #[true, true, true, true, true, true, true, false, false, false, false, false, false, false, false, false, false] HT_ ?_
         refine put 8 51 #[true, true, true, true, true, true, true, false, true, false, false, false, false, false, false, false, false] HT_ ?_
         refine put 9 52 #[true, true, true, true, true, true, true, false, true, true, false, false, false, false, false, false, false] HT_ ?_
         refine put 10 53 #[true, true, true, true, true, true, true, false, true, true, true, false, false, false, false, false, false] HT_ ?_
         refine put 11 54 #[true, true, true, true, true, true, true, false, true, true, true, true, false, false, false, false, false] HT_ ?_
         refine put 14 57 #[true, true, true, true, true, true, true, false, true, true, true, true, false, false, true, false, false] HT_ ?_
         refine tat8 7 50 #[true, true, true, true, true, true, true, true, true, true, true, true, false, false, true, false, false] HT_ HW_ hHeld ?_
         refine tat8 12 55 #[true, true, true, true, true, true, true, true, true, true, true, true, true, false, true, false, false] HT_ HW_ hHeld ?_
         refine put 13 56 #[true, true, true, true, true, true, true, true, true, true, true, true, true, true, true, false, false] HT_ ?_
         refine one_ (i := 15) (N := some 58) #[true, true, true, true, true, true, true, true, true, true, true, true, true, true, true, true, false] rfl rfl (one_of HT_.out (by kernel_rfl)) (by decide) (fun K hK => ?_)
         refine goes_ Try.func34 (by kernel_rfl) rfl #[.agg #[.int .i64 ((rd_T49 l0 x6_1).f2), .int .i64 ((rd_T49 l0 x6_1).f3)], .int .i64 a1] (by rfl) rfl rfl sl ?_
         with_reducible refine (spec_InSpan.calls ((rd_T49 l0 x6_1).f2) ((rd_T49 l0 x6_1).f3) a1 true _ A23.out).mono ?_
         rintro e w28 ⟨rfl, hb⟩
         refine ⟨_, rfl, ?_⟩
         replace HO_5 := rb HO_5 hb
         replace BK121 := bb BK121 hb
         replace HB := bsw hb
         (try clear hb)
         (try clear hb2)
         (try clear hk)
         (try clear hi)
         refine hK.out _ _ ⟨(hb_ HB hw123_0), (hb_ HB hw123_1), (hb_ HB hw123_2), (hb_ HB hw123_3), (hb_ HB hw124_0), (hb_ HB hw124_1), (hb_ HB hw124_2), (hb_ HB hw124_3)⟩ (fun hHeld => ?_)
         clear hK K
         refine norm_ (a' := ?_) ?_ ?_
         rotate_left
         ·show Act.put _ (some 58) _ = _
          simp only [Act.put, List.setIfInBounds_toArray, List.set_cons_zero, List.set_cons_succ, i64_w, i32_w]
          rfl
         refine put 16 59 #[true, true, true, true, true, true, true, true, true, true, true, true, true, true, true, true, true] HT_ ?_
         refine done_ (done_of HT_.out (by kernel_rfl)) ?_
         obtain ⟨hcz29_0, hcz29_1, hfz29_0, hfz29_1⟩ := cc2 BK121
         try go_wp2_with (first | ((with_reducible refine gate_builtin (b := .append) (xs := #[.tmp 60, .tmp 62]) rfl ?_); at_builtin; refine Kd.R_append k60 (w0 := w) w.heap.size rfl (.tmp 60) (.tmp 62) 40 60 (.agg #[(.int .i64 0), (.int .i64 0)]) 16 rfl Try.underlying40 info60 rfl (by decide) (by omega) (.slice Ao26 x5_1.length co26) x5_1 (⟨((rd_T49 l0 x6_1).f0), ((rd_T49 l0 x6_1).f1)⟩ : S60) [.int .i64 ((rd_T49 l0 x6_1).f0), .int .i64 ((rd_T49 l0 x6_1).f1)] (fun k_ => k_ ≠ gb121) (fun _ => False) rfl rfl ?aP (fun _ hk => hk.elim) ?aF ?aO ?aB ?aS ?aL ?_; (case aP => exact k60_mkM _ _ _ (⟨((rd_T49 l0 x6_1).f0), ((rd_T49 l0 x6_1).f1)⟩ : S60)); (case aB => exact (sbw)); (case aF => exact (fun k_ hk => Kd.freshB (g := gb121) (o := .cells #[.int .i64 ((rd_T49 l0 x6_1).f0), .int .i64 ((rd_T49 l0 x6_1).f1)] 60 (0, 0)) (sk BK121) k_ hk)); (case aO => exact (sr HO_5)); (case aS => exact (below_size (sbw))); (case aL => have := LMc25.out; omega); intro v127 w30 ho hb hg hat; rw [← Ny126.out] at ho; replace BK121 := Aside0.mk (blk_grown (g := gb121) (o := .cells #[.int .i64 ((rd_T49 l0 x6_1).f0), .int .i64 ((rd_T49 l0 x6_1).f1)] 60 (0, 0)) (sk BK121) hg (Kd.R_away HO_5.out (fun _ hk => hk))); replace HB := Aside0.mk hb; have HO128 := Aside0.mk ho; clear HO_5; clear ho hb hg hat))
         go_roundg k2
         case measure => have := HK1.out; have := HK2.out; omega
         case rel => exact ⟨(y126), (wrap64 (x6_1 + 1)), sc, H', kk2, ⟨by (with_reducible repeat (first | apply Kd.R_alloc | apply Kd.R_drewN | apply Kd.R_drew)); exact Kd.R_mono HO128.out (fun _ hk => trivial)⟩, ⟨sbw⟩⟩
        ·replace H := im H
         have H' := Aside0.mk H
         clear H
         obtain ⟨Ao31, co31, eo31⟩ := Kd.R_slice HO_5.out
         subst eo31
         try go_wp2
         replace HO_5 := Aside0.mk (Kd.R_drew HO_5.out)
         replace BK121 := Aside0.mk (blk_drew BK121.out)
         replace HB := Aside0.mk (below_drew1 HB.out)
         obtain ⟨p123, q123, ad123, e123, hw123_0, hw123_1, hw123_2, hw123_3, hx123_0, hx123_1, hx123_2, hx123_3⟩ := aT_T49 HR0 HB x6_1
         obtain rfl : ad119 = ad123 := (by injection e123)
         obtain ⟨p124, q124, ad124, e124, hw124_0, hw124_1, hw124_2, hw124_3, hx124_0, hx124_1, hx124_2, hx124_3⟩ := aT_T49 HR0 HB x6_1
         obtain rfl : ad119 = ad124 := (by injection e124)
         refine start_ (n := 17) (S := fun w' => w'.cell? (ad119.add ((x6_1).toNat * 4)) = some (.int .i64 ((rd_T49 l0 x6_1).f0)) ∧ w'.cell? ⟨(ad119.add ((x6_1).toNat * 4)).block, (ad119.add ((x6_1).toNat * 4)).off + 1, none⟩ = some (.int .i64 ((rd_T49 l0 x6_1).f1)) ∧ w'.cell? ⟨(ad119.add ((x6_1).toNat * 4)).block, (ad119.add ((x6_1).toNat * 4)).off + 2, none⟩ = some (.int .i64 ((rd_T49 l0 x6_1).f2)) ∧ w'.cell? ⟨(ad119.add ((x6_1).toNat * 4)).block, (ad119.add ((x6_1).toNat * 4)).off + 3, none⟩ = some (.int .i64 ((rd_T49 l0 x6_1).f3)) ∧ w'.cell? (ad119.add ((x6_1).toNat * 4)) = some (.int .i64 ((rd_T49 l0 x6_1).f0)) ∧ w'.cell? ⟨(ad119.add ((x6_1).toNat * 4)).block, (ad119.add ((x6_1).toNat * 4)).off + 1, none⟩ = some (.int .i64 ((rd_T49 l0 x6_1).f1)) ∧ w'.cell? ⟨(ad119.add ((x6_1).toNat * 4)).block, (ad119.add ((x6_1).toNat * 4)).off + 2, none⟩ = some (.int .i64 ((rd_T49 l0 x6_1).f2)) ∧ w'.cell? ⟨(ad119.add ((x6_1).toNat * 4)).block, (ad119.add ((x6_1).toNat * 4)).off + 3, none⟩ = some (.int .i64 ((rd_T49 l0 x6_1).f3))) (ds := []) #[false, false, false, false, false, false, false, false, false, false, false, false, false, false, false, false, false] (by kernel_rfl) rfl rfl ⟨(hb_ HB hw123_0), (hb_ HB hw123_1), (hb_ HB hw123_2), (hb_ HB hw123_3), (hb_ HB hw124_0), (hb_ HB hw124_1), (hb_ HB hw124_2), (hb_ HB hw124_3)⟩ (fun hHeld => ?_); refine with_tabW spec_LinksAt.tab11 spec_LinksAt.bits11 (fun HT_ HW_ => ?_)
         generalize wr.drew = w32 at HO_5 BK121 HB hx123_0 hx123_1 hx123_2 hx123_3 hx124_0 hx124_1 hx124_2 hx124_3 hHeld ⊢
         refine put 0 43 #[true, false, false, false, false, false, false, false, false, false, false, false, false, false, false, false, false] HT_ ?_
         refine put 1 44 #[true, true, false, false, false, false, false, false, false, false, false, false, false, false, false, false, false] HT_ ?_
         refine put 2 45 #[true, true, true, false, false, false, false, false, false, false, false, false, false, false, false, false, false] HT_ ?_
         refine put 3 46 #[true, true, true, true, false, false, false, false, false, false, false, false, false, false, false, false, false] HT_ ?_
         refine put 4 47 #[true, true, true, true, true, false, false, false, false, false, false, false, false, false, false, false, false] HT_ ?_
         refine put 5 48 #[true, true, true, true, true, true, false, false, false, false, false, false, false, false, false, false, false] HT_ ?_
         refine put 6 49 #[true, true, true, true, true, true, true, false, false, false, false, false, false, false, false, false, false] HT_ ?_
         refine put 8 51 #[true, true, true, true, true, true, true, false, true, false, false, false, false, false, false, false, false] HT_ ?_
         refine put 9 52 #[true, true, true, true, true, true, true, false, true, true, false, false, false, false, false, false, false] HT_ ?_
         refine put 10 53 #[true, true, true, true, true, true, true, false, true, true, true, false, false, false, false, false, false] HT_ ?_
         refine put 11 54 #[true, true, true, true, true, true, true, false, true, true, true, true, false, false, false, false, false] HT_ ?_
         refine put 14 57 #[true, true, true, true, true, true, true, false, true, true, true, true, false, false, true, false, false] HT_ ?_
         refine tat8 7 50 #[true, true, true, true, true, true, true, true, true, true, true, true, false, false, true, false, false] HT_ HW_ hHeld ?_
         refine tat8 12 55 #[true, true, true, true, true, true, true, true, true, true, true, true, true, false, true, false, false] HT_ HW_ hHeld ?_
         refine put 13 56 #[true, true, true, true, true, true, true, true, true, true, true, true, true, true, true, false, false] HT_ ?_
         refine one_ (i := 15) (N := some 58) #[true, true, true, true, true, true, true, true, true, true, true, true, true, true, true, true, false] rfl rfl (one_of HT_.out (by kernel_rfl)) (by decide) (fun K hK => ?_)
         refine goes_ Try.func34 (by kernel_rfl) rfl #[.agg #[.int .i64 ((rd_T49 l0 x6_1).f2), .int .i64 ((rd_T49 l0 x6_1).f3)], .int .i64 a1] (by rfl) rfl rfl sl ?_
         with_reducible refine (spec_InSpan.calls ((rd_T49 l0 x6_1).f2) ((rd_T49 l0 x6_1).f3) a1 false _ A23.out).mono ?_
         rintro e w33 ⟨rfl, hb⟩
         refine ⟨_, rfl, ?_⟩
         replace HO_5 := rb HO_5 hb
         replace BK121 := bb BK121 hb
         replace HB := bsw hb
         (try clear hb)
         (try clear hb2)
         (try clear hk)
         (try clear hi)
         refine hK.out _ _ ⟨(hb_ HB hw123_0), (hb_ HB hw123_1), (hb_ HB hw123_2), (hb_ HB hw123_3), (hb_ HB hw124_0), (hb_ HB hw124_1), (hb_ HB hw124_2), (hb_ HB hw124_3)⟩ (fun hHeld => ?_)
         clear hK K
         refine norm_ (a' := ?_) ?_ ?_
         rotate_left
         ·show Act.put _ (some 58) _ = _
          simp only [Act.put, List.setIfInBounds_toArray, List.set_cons_zero, List.set_cons_succ, i64_w, i32_w]
          rfl
         refine put 16 59 #[true, true, true, true, true, true, true, true, true, true, true, true, true, true, true, true, true] HT_ ?_
         refine done_ (done_of HT_.out (by kernel_rfl)) ?_
         try go_wp2
         go_roundg k2
         case measure => have := HK1.out; have := HK2.out; omega
         case rel => exact ⟨(x5_1), (wrap64 (x6_1 + 1)), sc, H', kk2, ⟨by (with_reducible repeat (first | apply Kd.R_alloc | apply Kd.R_drewN | apply Kd.R_drew)); exact Kd.R_mono HO_5.out (fun _ hk => trivial)⟩, ⟨sbw⟩⟩
   ·have c5b0 := decide_eq_false c5
    clear c5
    obtain rfl := Option.some.inj H
    go_wp2
    go_ret
    exact ⟨_, se, sr HO_5, sb⟩

end Go.Proofs.Ytcjlbgbenjmkgaa.QFnExactBuildProgram
