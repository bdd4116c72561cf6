/- Printed by a program of the session. Conditions: none. (squeezed). -/
import Derived.Test.YtiihaabhjphaeaaVFnMarginsSq2
import Derived.Test.YtiihaabhjphaeaaVFnMarginsQFnMarginsx1
import Derived.Test.YtiihaabhjphaeaaVFnMarginsQFnMarginsx4
namespace Go.Proofs.Ytiihaabhjphaeaa.QFnMargins
set_option maxHeartbeats 8000000
set_option maxRecDepth 100000
open Go.RowKit Go.Proofs.YtiihaabhjphaeaaW.PrintWords Go.Proofs.YtiihaabhjphaeaaW.PrintLast Go.Proofs.YtiihaabhjphaeaaW.PrintMore Go.Proofs.Ytiihaabhjphaeaa.Open Go.Proofs.Ytiihaabhjphaeaa.Sq
attribute [local go_sem] max2_int min2_int max_two min_two max_three min_three max_four min_four   -- for this text's walks alone
attribute [local go_sem] isSome_set
set_option linter.unusedVariables false
set_option linter.unusedSimpArgs false

attribute [local go_sem high] eqA134
mutual
def spec_LinksAt.l0 : Nat → List (S137) → Int → List (S134) → Int → Option ((List (S134)))
  | 0, _, _, _, _ => none
  | k + 1, x0, x1, x5, x6 => if x6 < (x0.length : Int) then (if 0 ≤ x6 then (spec_LinksAt.l1 k x0 x1 x5 x6 false 0 ((rd_T137 x0 x6).f0) ((rd_T137 x0 x6).f1)) else (none)) else (some x5)
def spec_LinksAt.l1 : Nat → List (S137) → Int → List (S134) → Int → Bool → Int → Int → Int → Option ((List (S134)))
  | 0, _, _, _, _, _, _, _, _ => none
  | k + 1, x0, x1, x5, x6, x8, x9, x138000, x138001 => if x9 < (x5.length : Int) then (if x8 = true then (spec_LinksAt.l1 k x0 x1 x5 x6 true (wrap64 (x9 + 1)) x138000 x138001) else (if 0 ≤ x9 then (spec_LinksAt.l1 k x0 x1 x5 x6 (((rd_T134 x5 x9).f0) == x138000 && (((rd_T134 x5 x9).f1) == x138001)) (wrap64 (x9 + 1)) x138000 x138001) else (none))) else (if x8 = true then (spec_LinksAt.l0 k x0 x1 x5 (wrap64 (x6 + 1))) else (if 0 ≤ x6 then (if x6 < (x0.length : Int) then ((spec_InSpan.f ((rd_T137 x0 x6).f2) ((rd_T137 x0 x6).f3) x1).bind fun t141 => (if t141 = true then (if x5.length < 8796093022208 then (spec_LinksAt.l0 k x0 x1 (x5 ++ [(⟨x138000, x138001⟩ : S134)]) (wrap64 (x6 + 1))) else (none)) else (spec_LinksAt.l0 k x0 x1 x5 (wrap64 (x6 + 1))))) else (none)) else (none)))
end
def spec_LinksAt.f (k : Nat) (l0 : List (S137)) (a1 : Int) : Option ((List (S134))) := spec_LinksAt.l0 k l0 a1 (([] : List (S134))) 0
theorem spec_LinksAt.mono_l : ∀ k, (∀ y0 y1 y2 y3, LeO (spec_LinksAt.l0 k y0 y1 y2 y3) (spec_LinksAt.l0 (k + 1) y0 y1 y2 y3)) ∧ (∀ y0 y1 y2 y3 y4 y5 y6 y7, LeO (spec_LinksAt.l1 k y0 y1 y2 y3 y4 y5 y6 y7) (spec_LinksAt.l1 (k + 1) y0 y1 y2 y3 y4 y5 y6 y7))
  | 0 => ⟨fun _ _ _ _ r h => by simp [spec_LinksAt.l0] at h, fun _ _ _ _ _ _ _ _ r h => by simp [spec_LinksAt.l1] at h⟩
  | k + 1 => by
    obtain ⟨ih0, ih1⟩ := spec_LinksAt.mono_l k
    refine ⟨?_, ?_⟩
    · intro y0 y1 y2 y3
      unfold spec_LinksAt.l0
      exact mo
    · intro y0 y1 y2 y3 y4 y5 y6 y7
      unfold spec_LinksAt.l1
      exact mo
theorem spec_LinksAt.mono : ∀ a0 a1 k, LeO (spec_LinksAt.f k a0 a1) (spec_LinksAt.f (k + 1) a0 a1) := by
  intro a0 a1 k
  obtain ⟨ih0, ih1⟩ := spec_LinksAt.mono_l k
  unfold spec_LinksAt.f
  exact mo
def spec_LinksAt.T5 : Bool × List (List Nat × List Nat) := (true, [([], []), ([], []), ([0, 1], [0, 1]), ([2], [2]), ([3], [3]), ([], []), ([], []), ([5, 6], [5, 6]), ([7], [7]), ([8], [8]), ([4, 9], [4, 9]), ([], []), ([11, 10, 0, 1, 2, 3, 4, 5, 6, 7, 8, 9, 10, 11], [10, 11])])
def spec_LinksAt.B5 : List Nat := [0, 0, 3, 7, 15, 0, 0, 96, 224, 480, 1023, 0, 4095]
theorem spec_LinksAt.tab5 : rtab .any (opsOf Try.f115 5) = spec_LinksAt.T5 := by kernel_rfl
theorem spec_LinksAt.bits5 : waitsOk spec_LinksAt.T5.2 spec_LinksAt.B5 = true := by kernel_rfl
def spec_LinksAt.T10 : Bool × List (List Nat × List Nat) := (true, [([], []), ([0], [0]), ([1], [1]), ([1], [1]), ([2, 3, 1], [1, 2, 3]), ([4, 1], [1, 4]), ([1], [1]), ([5, 6, 1], [1, 5, 6]), ([1, 7], [1, 7]), ([8, 1, 0, 1, 2, 3, 4, 5, 6, 7, 8], [0, 8])])
def spec_LinksAt.B10 : List Nat := [0, 1, 3, 3, 15, 31, 3, 127, 255, 511]
theorem spec_LinksAt.tab10 : rtab .any (opsOf Try.f115 10) = spec_LinksAt.T10 := by kernel_rfl
theorem spec_LinksAt.bits10 : waitsOk spec_LinksAt.T10.2 spec_LinksAt.B10 = true := by kernel_rfl
def spec_LinksAt.T11 : Bool × List (List Nat × List Nat) := (true, [([], []), ([0], [0]), ([1], [1]), ([2], [2]), ([2], [2]), ([3, 4, 2], [2, 3, 4]), ([5, 2], [2, 5]), ([6, 2], [2, 6]), ([2], [2]), ([2], [2]), ([8, 9, 2], [2, 8, 9]), ([10, 2], [2, 10]), ([11, 2], [2, 11]), ([7, 12, 2], [2, 7, 12]), ([2], [2]), ([13, 14, 2, 2], [2, 13, 14]), ([2, 15], [2, 15])])
def spec_LinksAt.B11 : List Nat := [0, 1, 3, 7, 7, 31, 63, 127, 7, 7, 775, 1799, 3847, 8191, 7, 32767, 65535]
theorem spec_LinksAt.tab11 : rtab .any (opsOf Try.f115 11) = spec_LinksAt.T11 := by kernel_rfl
theorem spec_LinksAt.bits11 : waitsOk spec_LinksAt.T11.2 spec_LinksAt.B11 = true := by kernel_rfl
theorem spec_LinksAt.calls (k : Nat) (A0 : Option Addr) (c0 : Nat) (l0 : List (S137)) (a1 : Int) (r : List (S134)) (w : World) (hr0 : Kd.C k137 w A0 l0.length l0) (hc0 : l0.length ≤ c0) (h : spec_LinksAt.f k l0 a1 = some r) :
    Calls Try.prog 115 #[.slice A0 l0.length c0, .int .i64 a1] w fun e w' => ∃ v0_ : Value, e = .returned (v0_) ∧ Kd.R k134 134 w' w.heap.size (fun _ => True) v0_ r ∧ Below w.heap.size w w' := by
 have hu134 := Try.underlying134
 have hu102 := Try.underlying102
 have HR0 := am hr0
 have HC0 := am hc0
 clear hr0 hc0
 have HB := am (Below.refl w.heap.size w)
 have H : (spec_LinksAt.l0 k l0 a1 (([] : List (S134))) 0) = some r := h
 clear h
 obtain ⟨y132, hy132⟩ : ∃ y_ : List (S134), y_ = (([] : List (S134))) := ⟨_, rfl⟩
 replace H : (spec_LinksAt.l0 k l0 a1 y132 0) = some r := ry hy132 H
 have Ny132 := am hy132
 clear hy132
 have H' := am H
 clear H
 go_enter Try.func115, Try.ntmps115
 go_wp2_with (first | ((with_reducible refine gd 10 rfl ?_); refine Kd.R_lit k134 _ 134 ?hg (N := 10) ?hd (xs := ([] : List (S134))) (inner := []) (ok := fun _ => True) (okp := fun _ => True) ?hr ?hp (fun _ hk => hk) trivial (Below.refl _ _) (Nat.le_refl _) (by simp) ?_; (case hd => rfl); (case hg => rfl); (case hr => first | (go_simp; done) | (go_simp; rfl)); (case hp => exact (Reps.none _ _)); intro v133 w3 ho4 hb hg_ hnew_; clear hg_ hnew_; (first | rw [← Ny132.out] at ho4 | (simp only [Int.reduceToNat] at ho4; rw [← Ny132.out] at ho4)); have HO134 := am (Kd.R_lower ho4 (below_size (sb))); replace HB := bs hb; clear hb ho4))
 go_loopg [5, 6] k (fun kq v5 v6 w' => ∃ (x5_1 : List (S134)) (x6_1 : Int), v6 = .int .i64 x6_1 ∧ Aside0 (spec_LinksAt.l0 kq l0 a1 x5_1 x6_1 = some r) ∧ Aside0 (kq ≤ k) ∧ Aside0 (Kd.R k134 134 w' w.heap.size (fun _ => True) v5 x5_1) ∧ Aside0 (Below w.heap.size w w'))
 case atStart => exact ⟨(y132), (0), sc, H', kk0, ⟨sr HO134⟩, ⟨sb⟩⟩
 case round =>
  clear H'
  obtain ⟨x5_1, x6_1, rfl, HA, HK1, HO_5, HB⟩ := hrel
  cases gk with
  | zero => exact absurd HA.out (by simp [spec_LinksAt.l0])
  | succ k1 =>
   have H := HA.out
   clear HA
   simp only [spec_LinksAt.l0] at H
   obtain ⟨c5, H⟩ | ⟨c5, H⟩ := ie_ H
   ·have c5b0 := decide_eq_true c5
    clear c5
    obtain ⟨c6b0, H⟩ := id_ H
    have H' := am H
    clear H
    try go_wp2
    replace HO_5 := am (Kd.R_drew HO_5.out)
    replace HB := am (below_drew1 HB.out)
    obtain ⟨p135, q135, ad135, e135, hw135_0, hw135_1, hw135_2, hw135_3, hx135_0, hx135_1, hx135_2, hx135_3⟩ := aT_T137 HR0 HB x6_1
    cases e135
    obtain ⟨p136, q136, ad136, e136, hw136_0, hw136_1, hw136_2, hw136_3, hx136_0, hx136_1, hx136_2, hx136_3⟩ := aT_T137 HR0 HB x6_1
    obtain rfl : ad135 = ad136 := (by injection e136)
    refine start_ (n := 13) (S := fun w' => w'.cell? (ad135.add ((x6_1).toNat * 4)) = some (.int .i64 ((rd_T137 l0 x6_1).f0)) ∧ w'.cell? ⟨(ad135.add ((x6_1).toNat * 4)).block, (ad135.add ((x6_1).toNat * 4)).off + 1, none⟩ = some (.int .i64 ((rd_T137 l0 x6_1).f1)) ∧ w'.cell? ⟨(ad135.add ((x6_1).toNat * 4)).block, (ad135.add ((x6_1).toNat * 4)).off + 2, none⟩ = some (.int .i64 ((rd_T137 l0 x6_1).f2)) ∧ w'.cell? ⟨(ad135.add ((x6_1).toNat * 4)).block, (ad135.add ((x6_1).toNat * 4)).off + 3, none⟩ = some (.int .i64 ((rd_T137 l0 x6_1).f3)) ∧ w'.cell? (ad135.add ((x6_1).toNat * 4)) = some (.int .i64 ((rd_T137 l0 x6_1).f0)) ∧ w'.cell? ⟨(ad135.add ((x6_1).toNat * 4)).block, (ad135.add ((x6_1).toNat * 4)).off + 1, none⟩ = some (.int .i64 ((rd_T137 l0 x6_1).f1)) ∧ w'.cell? ⟨(ad135.add ((x6_1).toNat * 4)).block, (ad135.add ((x6_1).toNat * 4)).off + 2, none⟩ = some (.int .i64 ((rd_T137 l0 x6_1).f2)) ∧ w'.cell? ⟨(ad135.add ((x6_1).toNat * 4)).block, (ad135.add ((x6_1).toNat * 4)).off + 3, none⟩ = some (.int .i64 ((rd_T137 l0 x6_1).f3))) (ds := []) #[false, false, false, false, false, false, false, false, false, false, false, false, false] (by kernel_rfl) rfl rfl ⟨(hb_ HB hw135_0), (hb_ HB hw135_1), (hb_ HB hw135_2), (hb_ HB hw135_3), (hb_ HB hw136_0), (hb_ HB hw136_1), (hb_ HB hw136_2), (hb_ HB hw136_3)⟩ (fun hHeld => ?_); refine with_tabW spec_LinksAt.tab5 spec_LinksAt.bits5 (fun HT_ HW_ => ?_)
    generalize wr.drew = w7 at HO_5 HB hx135_0 hx135_1 hx135_2 hx135_3 hx136_0 hx136_1 hx136_2 hx136_3 hHeld ⊢
    refine put 0 17 (bt 13 1) HT_ ?_
    refine put 1 18 (bt 13 3) HT_ ?_
    refine put 2 19 (bt 13 7) HT_ ?_
    refine put 3 20 (bt 13 15) HT_ ?_
    refine put 5 22 (bt 13 47) HT_ ?_
    refine put 6 23 (bt 13 111) HT_ ?_
    refine put 7 24 (bt 13 239) HT_ ?_
    refine put 8 25 (bt 13 495) HT_ ?_
    refine tat8 4 21 (bt 13 511) HT_ HW_ hHeld ?_
    refine tat8 9 26 (bt 13 1023) HT_ HW_ hHeld ?_
    refine put 10 27 (bt 13 2047) HT_ ?_
    refine one_ (i := 11) (N := some 7) (bt 13 4095) rfl rfl (one_of HT_.out (by kernel_rfl)) (by decide) (fun K hK => ?_)
    refine box_step ?hg (N := 7) ?hd (cs := #[.int .i64 0, .int .i64 0]) (t := 134) ?hr ?_; (case hd => rfl); (case hg => rfl); (case hr => first | (go_simp; done) | (go_simp; rfl))
    intro gb137 hg w8 hbox hb
    replace HO_5 := am (Kd.R_below (Kd.R_elderB (sr HO_5) gb137 (Nat.le_of_eq hg.symm)) hb)
    have GW137 := bz w hg
    have GE137 := bz w hg
    replace HB := bs hb
    have BK137 := am hbox
    clear hb hbox hg
    refine hK.out _ _ ⟨(hb_ HB hw135_0), (hb_ HB hw135_1), (hb_ HB hw135_2), (hb_ HB hw135_3), (hb_ HB hw136_0), (hb_ HB hw136_1), (hb_ HB hw136_2), (hb_ HB hw136_3)⟩ (fun hHeld => ?_)
    clear hK K
    refine nm 7 ?_
    refine one_ (i := 12) (N := none) (bt 13 8191) rfl rfl (one_of HT_.out (by kernel_rfl)) (by decide) (fun K hK => ?_)
    obtain ⟨hs9, hfs9⟩ := cc1 BK137
    have hs10 := bc1 BK137
    have hfs10 := bf BK137 1
    refine skip_ (w1 := ?_) (by rfl) rfl ?_ ?_
    rotate_left
    ·go_simp
     rfl
    refine hK.out _ _ ⟨((cell_far (p := ⟨gb137, _, none⟩) (by first | exact Nat.ne_of_lt (Nat.lt_of_lt_of_le (bl hw135_0) GW137.out) | (rw [add_block]; exact Nat.ne_of_lt (Nat.lt_of_lt_of_le (bl hw135_0) GW137.out)) | (show (Addr.add _ _).block ≠ _; rw [add_block]; exact Nat.ne_of_lt (Nat.lt_of_lt_of_le (bl hw135_0) GW137.out)) | (dsimp only; exact Nat.ne_of_lt (Nat.lt_of_lt_of_le (bl hw135_0) GW137.out))) _).trans (((cell_far (p := ⟨gb137, _, none⟩) (by first | exact Nat.ne_of_lt (Nat.lt_of_lt_of_le (bl hw135_0) GW137.out) | (rw [add_block]; exact Nat.ne_of_lt (Nat.lt_of_lt_of_le (bl hw135_0) GW137.out)) | (show (Addr.add _ _).block ≠ _; rw [add_block]; exact Nat.ne_of_lt (Nat.lt_of_lt_of_le (bl hw135_0) GW137.out)) | (dsimp only; exact Nat.ne_of_lt (Nat.lt_of_lt_of_le (bl hw135_0) GW137.out))) _).trans (hHeld.1)))), ((cell_far (p := ⟨gb137, _, none⟩) (by first | exact Nat.ne_of_lt (Nat.lt_of_lt_of_le (bl hw135_1) GW137.out) | (rw [add_block]; exact Nat.ne_of_lt (Nat.lt_of_lt_of_le (bl hw135_1) GW137.out)) | (show (Addr.add _ _).block ≠ _; rw [add_block]; exact Nat.ne_of_lt (Nat.lt_of_lt_of_le (bl hw135_1) GW137.out)) | (dsimp only; exact Nat.ne_of_lt (Nat.lt_of_lt_of_le (bl hw135_1) GW137.out))) _).trans (((cell_far (p := ⟨gb137, _, none⟩) (by first | exact Nat.ne_of_lt (Nat.lt_of_lt_of_le (bl hw135_1) GW137.out) | (rw [add_block]; exact Nat.ne_of_lt (Nat.lt_of_lt_of_le (bl hw135_1) GW137.out)) | (show (Addr.add _ _).block ≠ _; rw [add_block]; exact Nat.ne_of_lt (Nat.lt_of_lt_of_le (bl hw135_1) GW137.out)) | (dsimp only; exact Nat.ne_of_lt (Nat.lt_of_lt_of_le (bl hw135_1) GW137.out))) _).trans (hHeld.2.1)))), ((cell_far (p := ⟨gb137, _, none⟩) (by first | exact Nat.ne_of_lt (Nat.lt_of_lt_of_le (bl hw135_2) GW137.out) | (rw [add_block]; exact Nat.ne_of_lt (Nat.lt_of_lt_of_le (bl hw135_2) GW137.out)) | (show (Addr.add _ _).block ≠ _; rw [add_block]; exact Nat.ne_of_lt (Nat.lt_of_lt_of_le (bl hw135_2) GW137.out)) | (dsimp only; exact Nat.ne_of_lt (Nat.lt_of_lt_of_le (bl hw135_2) GW137.out))) _).trans (((cell_far (p := ⟨gb137, _, none⟩) (by first | exact Nat.ne_of_lt (Nat.lt_of_lt_of_le (bl hw135_2) GW137.out) | (rw [add_block]; exact Nat.ne_of_lt (Nat.lt_of_lt_of_le (bl hw135_2) GW137.out)) | (show (Addr.add _ _).block ≠ _; rw [add_block]; exact Nat.ne_of_lt (Nat.lt_of_lt_of_le (bl hw135_2) GW137.out)) | (dsimp only; exact Nat.ne_of_lt (Nat.lt_of_lt_of_le (bl hw135_2) GW137.out))) _).trans (hHeld.2.2.1)))), ((cell_far (p := ⟨gb137, _, none⟩) (by first | exact Nat.ne_of_lt (Nat.lt_of_lt_of_le (bl hw135_3) GW137.out) | (rw [add_block]; exact Nat.ne_of_lt (Nat.lt_of_lt_of_le (bl hw135_3) GW137.out)) | (show (Addr.add _ _).block ≠ _; rw [add_block]; exact Nat.ne_of_lt (Nat.lt_of_lt_of_le (bl hw135_3) GW137.out)) | (dsimp only; exact Nat.ne_of_lt (Nat.lt_of_lt_of_le (bl hw135_3) GW137.out))) _).trans (((cell_far (p := ⟨gb137, _, none⟩) (by first | exact Nat.ne_of_lt (Nat.lt_of_lt_of_le (bl hw135_3) GW137.out) | (rw [add_block]; exact Nat.ne_of_lt (Nat.lt_of_lt_of_le (bl hw135_3) GW137.out)) | (show (Addr.add _ _).block ≠ _; rw [add_block]; exact Nat.ne_of_lt (Nat.lt_of_lt_of_le (bl hw135_3) GW137.out)) | (dsimp only; exact Nat.ne_of_lt (Nat.lt_of_lt_of_le (bl hw135_3) GW137.out))) _).trans (hHeld.2.2.2.1)))), ((cell_far (p := ⟨gb137, _, none⟩) (by first | exact Nat.ne_of_lt (Nat.lt_of_lt_of_le (bl hw136_0) GW137.out) | (rw [add_block]; exact Nat.ne_of_lt (Nat.lt_of_lt_of_le (bl hw136_0) GW137.out)) | (show (Addr.add _ _).block ≠ _; rw [add_block]; exact Nat.ne_of_lt (Nat.lt_of_lt_of_le (bl hw136_0) GW137.out)) | (dsimp only; exact Nat.ne_of_lt (Nat.lt_of_lt_of_le (bl hw136_0) GW137.out))) _).trans (((cell_far (p := ⟨gb137, _, none⟩) (by first | exact Nat.ne_of_lt (Nat.lt_of_lt_of_le (bl hw136_0) GW137.out) | (rw [add_block]; exact Nat.ne_of_lt (Nat.lt_of_lt_of_le (bl hw136_0) GW137.out)) | (show (Addr.add _ _).block ≠ _; rw [add_block]; exact Nat.ne_of_lt (Nat.lt_of_lt_of_le (bl hw136_0) GW137.out)) | (dsimp only; exact Nat.ne_of_lt (Nat.lt_of_lt_of_le (bl hw136_0) GW137.out))) _).trans (hHeld.2.2.2.2.1)))), ((cell_far (p := ⟨gb137, _, none⟩) (by first | exact Nat.ne_of_lt (Nat.lt_of_lt_of_le (bl hw136_1) GW137.out) | (rw [add_block]; exact Nat.ne_of_lt (Nat.lt_of_lt_of_le (bl hw136_1) GW137.out)) | (show (Addr.add _ _).block ≠ _; rw [add_block]; exact Nat.ne_of_lt (Nat.lt_of_lt_of_le (bl hw136_1) GW137.out)) | (dsimp only; exact Nat.ne_of_lt (Nat.lt_of_lt_of_le (bl hw136_1) GW137.out))) _).trans (((cell_far (p := ⟨gb137, _, none⟩) (by first | exact Nat.ne_of_lt (Nat.lt_of_lt_of_le (bl hw136_1) GW137.out) | (rw [add_block]; exact Nat.ne_of_lt (Nat.lt_of_lt_of_le (bl hw136_1) GW137.out)) | (show (Addr.add _ _).block ≠ _; rw [add_block]; exact Nat.ne_of_lt (Nat.lt_of_lt_of_le (bl hw136_1) GW137.out)) | (dsimp only; exact Nat.ne_of_lt (Nat.lt_of_lt_of_le (bl hw136_1) GW137.out))) _).trans (hHeld.2.2.2.2.2.1)))), ((cell_far (p := ⟨gb137, _, none⟩) (by first | exact Nat.ne_of_lt (Nat.lt_of_lt_of_le (bl hw136_2) GW137.out) | (rw [add_block]; exact Nat.ne_of_lt (Nat.lt_of_lt_of_le (bl hw136_2) GW137.out)) | (show (Addr.add _ _).block ≠ _; rw [add_block]; exact Nat.ne_of_lt (Nat.lt_of_lt_of_le (bl hw136_2) GW137.out)) | (dsimp only; exact Nat.ne_of_lt (Nat.lt_of_lt_of_le (bl hw136_2) GW137.out))) _).trans (((cell_far (p := ⟨gb137, _, none⟩) (by first | exact Nat.ne_of_lt (Nat.lt_of_lt_of_le (bl hw136_2) GW137.out) | (rw [add_block]; exact Nat.ne_of_lt (Nat.lt_of_lt_of_le (bl hw136_2) GW137.out)) | (show (Addr.add _ _).block ≠ _; rw [add_block]; exact Nat.ne_of_lt (Nat.lt_of_lt_of_le (bl hw136_2) GW137.out)) | (dsimp only; exact Nat.ne_of_lt (Nat.lt_of_lt_of_le (bl hw136_2) GW137.out))) _).trans (hHeld.2.2.2.2.2.2.1)))), ((cell_far (p := ⟨gb137, _, none⟩) (by first | exact Nat.ne_of_lt (Nat.lt_of_lt_of_le (bl hw136_3) GW137.out) | (rw [add_block]; exact Nat.ne_of_lt (Nat.lt_of_lt_of_le (bl hw136_3) GW137.out)) | (show (Addr.add _ _).block ≠ _; rw [add_block]; exact Nat.ne_of_lt (Nat.lt_of_lt_of_le (bl hw136_3) GW137.out)) | (dsimp only; exact Nat.ne_of_lt (Nat.lt_of_lt_of_le (bl hw136_3) GW137.out))) _).trans (((cell_far (p := ⟨gb137, _, none⟩) (by first | exact Nat.ne_of_lt (Nat.lt_of_lt_of_le (bl hw136_3) GW137.out) | (rw [add_block]; exact Nat.ne_of_lt (Nat.lt_of_lt_of_le (bl hw136_3) GW137.out)) | (show (Addr.add _ _).block ≠ _; rw [add_block]; exact Nat.ne_of_lt (Nat.lt_of_lt_of_le (bl hw136_3) GW137.out)) | (dsimp only; exact Nat.ne_of_lt (Nat.lt_of_lt_of_le (bl hw136_3) GW137.out))) _).trans (hHeld.2.2.2.2.2.2.2))))⟩ (fun hHeld => ?_)
    clear hK K
    refine done_ (done_of HT_.out (by kernel_rfl)) ?_
    try go_wp2
    go_loopg [8, 9] k1 (fun kq v8 v9 w' => ∃ (x8_2 : Bool) (x9_2 : Int), v8 = .bool x8_2 ∧ v9 = .int .i64 x9_2 ∧ Aside0 (spec_LinksAt.l1 kq l0 a1 x5_1 x6_1 x8_2 x9_2 ((rd_T137 l0 x6_1).f0) ((rd_T137 l0 x6_1).f1) = some r) ∧ Aside0 (kq ≤ k1) ∧ Aside0 (Kd.R k134 134 w' w.heap.size (fun k_ => k_ ≠ gb137) u5 x5_1) ∧ Aside0 (w'.heap[gb137]? = some (.cells #[.int .i64 ((rd_T137 l0 x6_1).f0), .int .i64 ((rd_T137 l0 x6_1).f1)] 134 (0, 0))) ∧ Aside0 (Below w.heap.size w w'))
    case atStart => exact ⟨(false), (0), sc, sc, H', kk0, ⟨by (with_reducible repeat (first | apply Kd.R_alloc | apply Kd.R_drewN | apply Kd.R_drew)); exact Kd.R_mono (Kd.R_far (p := ⟨gb137, 1, none⟩) (Kd.R_far (p := ⟨gb137, 0, none⟩) (Kd.R_mono HO_5.out (fun k_ hk => (⟨hk, hk.2⟩ : _ ∧ k_ ≠ gb137))) (fun _ hk => hk.2) (.int .i64 ((rd_T137 l0 x6_1).f0))) (fun _ hk => hk.2) (.int .i64 ((rd_T137 l0 x6_1).f1))) (fun _ hk => hk.1.2)⟩, ⟨sp BK137⟩, ⟨sbw⟩⟩
    case round =>
     clear H'
     try clear c5
     try clear c5b0
     try clear c6b0
     try clear hx135_0
     try clear hx135_1
     try clear hx135_2
     try clear hx135_3
     try clear hx136_0
     try clear hx136_1
     try clear hx136_2
     try clear hx136_3
     try clear p135
     try clear p136
     try clear q135
     try clear q136
     obtain ⟨x8_2, x9_2, rfl, rfl, HA, HK2, HO_5, BK137, HB⟩ := hrel
     cases gk with
     | zero => exact absurd HA.out (by simp [spec_LinksAt.l1])
     | succ k2 =>
      have H := HA.out
      clear HA
      simp only [spec_LinksAt.l1] at H
      obtain ⟨c11, H⟩ | ⟨c11, H⟩ := ie_ H
      ·have c11b0 := decide_eq_true c11
       clear c11
       obtain rfl | rfl := tt x8_2
       ·replace H := ip H
        have H' := am H
        clear H
        obtain ⟨Ao13, co13, eo13⟩ := Kd.R_slice HO_5.out
        subst eo13
        try go_wp2
        replace HO_5 := am (Kd.R_drew HO_5.out)
        replace BK137 := am (blk_drew BK137.out)
        replace HB := am (below_drew1 HB.out)
        refine start_ (n := 10) (S := fun w' => True) (ds := []) #[false, false, false, false, false, false, false, false, false, false] (by kernel_rfl) rfl rfl trivial (fun hHeld => ?_); refine with_tabW spec_LinksAt.tab10 spec_LinksAt.bits10 (fun HT_ HW_ => ?_)
        generalize wr.drew = w14 at HO_5 BK137 HB hHeld ⊢
        refine put 0 34 (bt 10 1) HT_ ?_
        refine put 1 35 (bt 10 3) HT_ ?_
        refine pn 2 36 (bt 10 7) HT_ ?_
        refine pn 3 37 (bt 10 15) HT_ ?_
        refine pn 4 38 (bt 10 31) HT_ ?_
        refine pn 5 39 (bt 10 63) HT_ ?_
        refine pn 6 40 (bt 10 127) HT_ ?_
        refine pn 7 41 (bt 10 255) HT_ ?_
        refine put 8 42 (bt 10 511) HT_ ?_
        refine put 9 8 (bt 10 1023) HT_ ?_
        refine done_ (done_of HT_.out (by kernel_rfl)) ?_
        try go_wp2
        go_roundg k2
        case measure => have := HK1.out; have := HK2.out; omega
        case rel => exact ⟨(true), (wrap64 (x9_2 + 1)), sc, sc, H', kk2, ⟨sr HO_5⟩, ⟨sk BK137⟩, ⟨sbw⟩⟩
       ·replace H := im H
        obtain ⟨c15b0, H⟩ := id_ H
        have H' := am H
        clear H
        obtain ⟨Ao16, co16, eo16⟩ := Kd.R_slice HO_5.out
        subst eo16
        try go_wp2
        replace HO_5 := am (Kd.R_drew HO_5.out)
        replace BK137 := am (blk_drew BK137.out)
        replace HB := am (below_drew1 HB.out)
        have p138 : 0 ≤ (x9_2 : Int) := sa
        have q138 : x9_2 < (x5_1.length : Int) := sa
        obtain ⟨ad138, e138, hx138_0, hx138_1⟩ := at_T134 (Kd.R_reads' HO_5.out).2.2 x9_2 p138 q138
        cases e138
        replace p138 := eq_true p138
        replace q138 := eq_true q138
        refine start_ (n := 10) (S := fun w' => w'.cell? ⟨gb137, 0, none⟩ = some (.int .i64 ((rd_T137 l0 x6_1).f0)) ∧ w'.cell? ⟨gb137, 1, none⟩ = some (.int .i64 ((rd_T137 l0 x6_1).f1)) ∧ w'.cell? (ad138.add ((x9_2).toNat * 2)) = some (.int .i64 ((rd_T134 x5_1 x9_2).f0)) ∧ w'.cell? ⟨(ad138.add ((x9_2).toNat * 2)).block, (ad138.add ((x9_2).toNat * 2)).off + 1, none⟩ = some (.int .i64 ((rd_T134 x5_1 x9_2).f1))) (ds := []) #[false, false, false, false, false, false, false, false, false, false] (by kernel_rfl) rfl rfl ⟨bc0 BK137, bc1 BK137, hx138_0, hx138_1⟩ (fun hHeld => ?_); refine with_tabW spec_LinksAt.tab10 spec_LinksAt.bits10 (fun HT_ HW_ => ?_)
        generalize wr.drew = w17 at HO_5 BK137 HB hx138_0 hx138_1 hHeld ⊢
        refine put 0 34 (bt 10 1) HT_ ?_
        refine put 1 35 (bt 10 3) HT_ ?_
        refine put 2 36 (bt 10 7) HT_ ?_
        refine put 3 37 (bt 10 15) HT_ ?_
        refine put 4 38 (bt 10 31) HT_ ?_
        refine tat4 5 39 (bt 10 63) HT_ HW_ hHeld ?_
        refine tat4 6 40 (bt 10 127) HT_ HW_ hHeld ?_
        refine put 7 41 (bt 10 255) HT_ ?_
        refine put 8 42 (bt 10 511) HT_ ?_
        refine put 9 8 (bt 10 1023) HT_ ?_
        refine done_ (done_of HT_.out (by kernel_rfl)) ?_
        try go_wp2
        go_roundg k2
        case measure => have := HK1.out; have := HK2.out; omega
        case rel => exact ⟨((((rd_T134 x5_1 x9_2).f0) == ((rd_T137 l0 x6_1).f0) && (((rd_T134 x5_1 x9_2).f1) == ((rd_T137 l0 x6_1).f1)))), (wrap64 (x9_2 + 1)), sc, sc, H', kk2, ⟨sr HO_5⟩, ⟨sk BK137⟩, ⟨sbw⟩⟩
      ·have c11b0 := decide_eq_false c11
       clear c11
       obtain rfl | rfl := tt x8_2
       ·replace H := ip H
        have H' := am H
        clear H
        obtain ⟨Ao19, co19, eo19⟩ := Kd.R_slice HO_5.out
        subst eo19
        try go_wp2
        replace HO_5 := am (Kd.R_drew HO_5.out)
        replace BK137 := am (blk_drew BK137.out)
        replace HB := am (below_drew1 HB.out)
        refine start_ (n := 17) (S := fun w' => True) (ds := []) #[false, false, false, false, false, false, false, false, false, false, false, false, false, false, false, false, false] (by kernel_rfl) rfl rfl trivial (fun hHeld => ?_); refine with_tabW spec_LinksAt.tab11 spec_LinksAt.bits11 (fun HT_ HW_ => ?_)
        generalize wr.drew = w20 at HO_5 BK137 HB hHeld ⊢
        refine put 0 43 (bt 17 1) HT_ ?_
        refine put 1 44 (bt 17 3) HT_ ?_
        refine put 2 45 (bt 17 7) HT_ ?_
        refine pn 3 46 (bt 17 15) HT_ ?_
        refine pn 4 47 (bt 17 31) HT_ ?_
        refine pn 5 48 (bt 17 63) HT_ ?_
        refine pn 6 49 (bt 17 127) HT_ ?_
        refine pn 7 50 (bt 17 255) HT_ ?_
        refine pn 8 51 (bt 17 511) HT_ ?_
        refine pn 9 52 (bt 17 1023) HT_ ?_
        refine pn 10 53 (bt 17 2047) HT_ ?_
        refine pn 11 54 (bt 17 4095) HT_ ?_
        refine pn 12 55 (bt 17 8191) HT_ ?_
        refine pn 13 56 (bt 17 16383) HT_ ?_
        refine pn 14 57 (bt 17 32767) HT_ ?_
        refine pn 15 58 (bt 17 65535) HT_ ?_
        refine put 16 59 (bt 17 131071) HT_ ?_
        refine done_ (done_of HT_.out (by kernel_rfl)) ?_
        try go_wp2
        go_roundg k2
        case measure => have := HK1.out; have := HK2.out; omega
        case rel => exact ⟨(x5_1), (wrap64 (x6_1 + 1)), sc, H', kk2, ⟨by (with_reducible repeat (first | apply Kd.R_alloc | apply Kd.R_drewN | apply Kd.R_drew)); exact Kd.R_mono HO_5.out (fun _ hk => trivial)⟩, ⟨sbw⟩⟩
       ·replace H := im H
        obtain ⟨c21b0, H⟩ := id_ H
        obtain ⟨c22b0, H⟩ := id_ H
        obtain ⟨t141, A23, H⟩ := bnd H
        obtain rfl | rfl := tt t141
        ·replace H := ip H
         obtain ⟨LMc25, H⟩ := il_ H
         obtain ⟨y142, hy142⟩ : ∃ y_ : List (S134), y_ = (x5_1 ++ [(⟨((rd_T137 l0 x6_1).f0), ((rd_T137 l0 x6_1).f1)⟩ : S134)]) := ⟨_, rfl⟩
         replace H : (spec_LinksAt.l0 k2 l0 a1 y142 (wrap64 (x6_1 + 1))) = some r := ry hy142 H
         have Ny142 := am hy142
         clear hy142
         have H' := am H
         clear H
         obtain ⟨Ao26, co26, eo26⟩ := Kd.R_slice HO_5.out
         subst eo26
         try go_wp2
         replace HO_5 := am (Kd.R_drew HO_5.out)
         replace BK137 := am (blk_drew BK137.out)
         replace HB := am (below_drew1 HB.out)
         obtain ⟨p139, q139, ad139, e139, hw139_0, hw139_1, hw139_2, hw139_3, hx139_0, hx139_1, hx139_2, hx139_3⟩ := aT_T137 HR0 HB x6_1
         obtain rfl : ad135 = ad139 := (by injection e139)
         obtain ⟨p140, q140, ad140, e140, hw140_0, hw140_1, hw140_2, hw140_3, hx140_0, hx140_1, hx140_2, hx140_3⟩ := aT_T137 HR0 HB x6_1
         obtain rfl : ad135 = ad140 := (by injection e140)
         refine start_ (n := 17) (S := fun w' => w'.cell? (ad135.add ((x6_1).toNat * 4)) = some (.int .i64 ((rd_T137 l0 x6_1).f0)) ∧ w'.cell? ⟨(ad135.add ((x6_1).toNat * 4)).block, (ad135.add ((x6_1).toNat * 4)).off + 1, none⟩ = some (.int .i64 ((rd_T137 l0 x6_1).f1)) ∧ w'.cell? ⟨(ad135.add ((x6_1).toNat * 4)).block, (ad135.add ((x6_1).toNat * 4)).off + 2, none⟩ = some (.int .i64 ((rd_T137 l0 x6_1).f2)) ∧ w'.cell? ⟨(ad135.add ((x6_1).toNat * 4)).block, (ad135.add ((x6_1).toNat * 4)).off + 3, none⟩ = some (.int .i64 ((rd_T137 l0 x6_1).f3)) ∧ w'.cell? (ad135.add ((x6_1).toNat * 4)) = some (.int .i64 ((rd_T137 l0 x6_1).f0)) ∧ w'.cell? ⟨(ad135.add ((x6_1).toNat * 4)).block, (ad135.add ((x6_1).toNat * 4)).off + 1, none⟩ = some (.int .i64 ((rd_T137 l0 x6_1).f1)) ∧ w'.cell? ⟨(ad135.add ((x6_1).toNat * 4)).block, (ad135.add ((x6_1).toNat * 4)).off + 2, none⟩ = some (.int .i64 ((rd_T137 l0 x6_1).f2)) ∧ w'.cell? ⟨(ad135.add ((x6_1).toNat * 4)).block, (ad135.add ((x6_1).toNat * 4)).off + 3, none⟩ = some (.int .i64 ((rd_T137 l0 x6_1).f3))) (ds := []) #[false, false, false, false, false, false, false, false, false, false, false, false, false, false, false, false, false] (by kernel_rfl) rfl rfl ⟨(hb_ HB hw139_0), (hb_ HB hw139_1), (hb_ HB hw139_2), (hb_ HB hw139_3), (hb_ HB hw140_0), (hb_ HB hw140_1), (hb_ HB hw140_2), (hb_ HB hw140_3)⟩ (fun hHeld => ?_); refine with_tabW spec_LinksAt.tab11 spec_LinksAt.bits11 (fun HT_ HW_ => ?_)
         generalize wr.drew = w27 at HO_5 BK137 HB hx139_0 hx139_1 hx139_2 hx139_3 hx140_0 hx140_1 hx140_2 hx140_3 hHeld ⊢
         refine put 0 43 (bt 17 1) HT_ ?_
         refine put 1 44 (bt 17 3) HT_ ?_
         refine put 2 45 (bt 17 7) HT_ ?_
         refine put 3 46 (bt 17 15) HT_ ?_
         refine put 4 47 (bt 17 31) HT_ ?_
         refine put 5 48 (bt 17 63) HT_ ?_
         refine put 6 49 (bt 17 127) HT_ ?_
         refine put 8 51 (bt 17 383) HT_ ?_
         refine put 9 52 (bt 17 895) HT_ ?_
         refine put 10 53 (bt 17 1919) HT_ ?_
         refine put 11 54 (bt 17 3967) HT_ ?_
         refine put 14 57 (bt 17 20351) HT_ ?_
         refine tat8 7 50 (bt 17 20479) HT_ HW_ hHeld ?_
         refine tat8 12 55 (bt 17 24575) HT_ HW_ hHeld ?_
         refine put 13 56 (bt 17 32767) HT_ ?_
         refine one_ (i := 15) (N := some 58) (bt 17 65535) rfl rfl (one_of HT_.out (by kernel_rfl)) (by decide) (fun K hK => ?_)
         refine goes_ Try.func159 (by kernel_rfl) rfl #[.agg #[.int .i64 ((rd_T137 l0 x6_1).f2), .int .i64 ((rd_T137 l0 x6_1).f3)], .int .i64 a1] (by rfl) rfl rfl sl ?_
         with_reducible refine (spec_InSpan.calls ((rd_T137 l0 x6_1).f2) ((rd_T137 l0 x6_1).f3) a1 true _ A23.out).mono ?_
         rintro e w28 ⟨rfl, hb⟩
         refine ⟨_, rfl, ?_⟩
         replace HO_5 := rb HO_5 hb
         replace BK137 := bb BK137 hb
         replace HB := bsw hb
         (try clear hb)
         (try clear hb2)
         (try clear hk)
         (try clear hi)
         refine hK.out _ _ ⟨(hb_ HB hw139_0), (hb_ HB hw139_1), (hb_ HB hw139_2), (hb_ HB hw139_3), (hb_ HB hw140_0), (hb_ HB hw140_1), (hb_ HB hw140_2), (hb_ HB hw140_3)⟩ (fun hHeld => ?_)
         clear hK K
         refine nm 58 ?_
         refine put 16 59 (bt 17 131071) HT_ ?_
         refine done_ (done_of HT_.out (by kernel_rfl)) ?_
         obtain ⟨hcz29_0, hcz29_1, hfz29_0, hfz29_1⟩ := cc2 BK137
         try go_wp2_with (first | ((with_reducible refine gate_builtin (b := .append) (xs := #[.tmp 60, .tmp 62]) rfl ?_); at_builtin; refine Kd.R_append k134 (w0 := w) w.heap.size rfl (.tmp 60) (.tmp 62) 74 134 (.agg #[(.int .i64 0), (.int .i64 0)]) 16 rfl Try.underlying74 info134 rfl (by decide) (by omega) (.slice Ao26 x5_1.length co26) x5_1 (⟨((rd_T137 l0 x6_1).f0), ((rd_T137 l0 x6_1).f1)⟩ : S134) [.int .i64 ((rd_T137 l0 x6_1).f0), .int .i64 ((rd_T137 l0 x6_1).f1)] (fun k_ => k_ ≠ gb137) (fun _ => False) rfl rfl ?aP (fun _ hk => hk.elim) ?aF ?aO ?aB ?aS ?aL ?_; (case aP => exact k134_mkM _ _ _ (⟨((rd_T137 l0 x6_1).f0), ((rd_T137 l0 x6_1).f1)⟩ : S134)); (case aB => exact (sbw)); (case aF => exact (fun k_ hk => Kd.freshB (g := gb137) (o := .cells #[.int .i64 ((rd_T137 l0 x6_1).f0), .int .i64 ((rd_T137 l0 x6_1).f1)] 134 (0, 0)) (sk BK137) k_ hk)); (case aO => exact (sr HO_5)); (case aS => exact (below_size (sbw))); (case aL => have := LMc25.out; omega); intro v143 w30 ho hb hg hat; rw [← Ny142.out] at ho; replace BK137 := am (blk_grown (g := gb137) (o := .cells #[.int .i64 ((rd_T137 l0 x6_1).f0), .int .i64 ((rd_T137 l0 x6_1).f1)] 134 (0, 0)) (sk BK137) hg (Kd.R_away HO_5.out (fun _ hk => hk))); replace HB := am hb; have HO144 := am ho; clear HO_5; clear ho hb hg hat))
         go_roundg k2
         case measure => have := HK1.out; have := HK2.out; omega
         case rel => exact ⟨(y142), (wrap64 (x6_1 + 1)), sc, H', kk2, ⟨by (with_reducible repeat (first | apply Kd.R_alloc | apply Kd.R_drewN | apply Kd.R_drew)); exact Kd.R_mono HO144.out (fun _ hk => trivial)⟩, ⟨sbw⟩⟩
        ·replace H := im H
         have H' := am H
         clear H
         obtain ⟨Ao31, co31, eo31⟩ := Kd.R_slice HO_5.out
         subst eo31
         try go_wp2
         replace HO_5 := am (Kd.R_drew HO_5.out)
         replace BK137 := am (blk_drew BK137.out)
         replace HB := am (below_drew1 HB.out)
         obtain ⟨p139, q139, ad139, e139, hw139_0, hw139_1, hw139_2, hw139_3, hx139_0, hx139_1, hx139_2, hx139_3⟩ := aT_T137 HR0 HB x6_1
         obtain rfl : ad135 = ad139 := (by injection e139)
         obtain ⟨p140, q140, ad140, e140, hw140_0, hw140_1, hw140_2, hw140_3, hx140_0, hx140_1, hx140_2, hx140_3⟩ := aT_T137 HR0 HB x6_1
         obtain rfl : ad135 = ad140 := (by injection e140)
         refine start_ (n := 17) (S := fun w' => w'.cell? (ad135.add ((x6_1).toNat * 4)) = some (.int .i64 ((rd_T137 l0 x6_1).f0)) ∧ w'.cell? ⟨(ad135.add ((x6_1).toNat * 4)).block, (ad135.add ((x6_1).toNat * 4)).off + 1, none⟩ = some (.int .i64 ((rd_T137 l0 x6_1).f1)) ∧ w'.cell? ⟨(ad135.add ((x6_1).toNat * 4)).block, (ad135.add ((x6_1).toNat * 4)).off + 2, none⟩ = some (.int .i64 ((rd_T137 l0 x6_1).f2)) ∧ w'.cell? ⟨(ad135.add ((x6_1).toNat * 4)).block, (ad135.add ((x6_1).toNat * 4)).off + 3, none⟩ = some (.int .i64 ((rd_T137 l0 x6_1).f3)) ∧ w'.cell? (ad135.add ((x6_1).toNat * 4)) = some (.int .i64 ((rd_T137 l0 x6_1).f0)) ∧ w'.cell? ⟨(ad135.add ((x6_1).toNat * 4)).block, (ad135.add ((x6_1).toNat * 4)).off + 1, none⟩ = some (.int .i64 ((rd_T137 l0 x6_1).f1)) ∧ w'.cell? ⟨(ad135.add ((x6_1).toNat * 4)).block, (ad135.add ((x6_1).toNat * 4)).off + 2, none⟩ = some (.int .i64 ((rd_T137 l0 x6_1).f2)) ∧ w'.cell? ⟨(ad135.add ((x6_1).toNat * 4)).block, (ad135.add ((x6_1).toNat * 4)).off + 3, none⟩ = some (.int .i64 ((rd_T137 l0 x6_1).f3))) (ds := []) #[false, false, false, false, false, false, false, false, false, false, false, false, false, false, false, false, false] (by kernel_rfl) rfl rfl ⟨(hb_ HB hw139_0), (hb_ HB hw139_1), (hb_ HB hw139_2), (hb_ HB hw139_3), (hb_ HB hw140_0), (hb_ HB hw140_1), (hb_ HB hw140_2), (hb_ HB hw140_3)⟩ (fun hHeld => ?_); refine with_tabW spec_LinksAt.tab11 spec_LinksAt.bits11 (fun HT_ HW_ => ?_)
         generalize wr.drew = w32 at HO_5 BK137 HB hx139_0 hx139_1 hx139_2 hx139_3 hx140_0 hx140_1 hx140_2 hx140_3 hHeld ⊢
         refine put 0 43 (bt 17 1) HT_ ?_
         refine put 1 44 (bt 17 3) HT_ ?_
         refine put 2 45 (bt 17 7) HT_ ?_
         refine put 3 46 (bt 17 15) HT_ ?_
         refine put 4 47 (bt 17 31) HT_ ?_
         refine put 5 48 (bt 17 63) HT_ ?_
         refine put 6 49 (bt 17 127) HT_ ?_
         refine put 8 51 (bt 17 383) HT_ ?_
         refine put 9 52 (bt 17 895) HT_ ?_
         refine put 10 53 (bt 17 1919) HT_ ?_
         refine put 11 54 (bt 17 3967) HT_ ?_
         refine put 14 57 (bt 17 20351) HT_ ?_
         refine tat8 7 50 (bt 17 20479) HT_ HW_ hHeld ?_
         refine tat8 12 55 (bt 17 24575) HT_ HW_ hHeld ?_
         refine put 13 56 (bt 17 32767) HT_ ?_
         refine one_ (i := 15) (N := some 58) (bt 17 65535) rfl rfl (one_of HT_.out (by kernel_rfl)) (by decide) (fun K hK => ?_)
         refine goes_ Try.func159 (by kernel_rfl) rfl #[.agg #[.int .i64 ((rd_T137 l0 x6_1).f2), .int .i64 ((rd_T137 l0 x6_1).f3)], .int .i64 a1] (by rfl) rfl rfl sl ?_
         with_reducible refine (spec_InSpan.calls ((rd_T137 l0 x6_1).f2) ((rd_T137 l0 x6_1).f3) a1 false _ A23.out).mono ?_
         rintro e w33 ⟨rfl, hb⟩
         refine ⟨_, rfl, ?_⟩
         replace HO_5 := rb HO_5 hb
         replace BK137 := bb BK137 hb
         replace HB := bsw hb
         (try clear hb)
         (try clear hb2)
         (try clear hk)
         (try clear hi)
         refine hK.out _ _ ⟨(hb_ HB hw139_0), (hb_ HB hw139_1), (hb_ HB hw139_2), (hb_ HB hw139_3), (hb_ HB hw140_0), (hb_ HB hw140_1), (hb_ HB hw140_2), (hb_ HB hw140_3)⟩ (fun hHeld => ?_)
         clear hK K
         refine nm 58 ?_
         refine put 16 59 (bt 17 131071) HT_ ?_
         refine done_ (done_of HT_.out (by kernel_rfl)) ?_
         try go_wp2
         go_roundg k2
         case measure => have := HK1.out; have := HK2.out; omega
         case rel => exact ⟨(x5_1), (wrap64 (x6_1 + 1)), sc, H', kk2, ⟨by (with_reducible repeat (first | apply Kd.R_alloc | apply Kd.R_drewN | apply Kd.R_drew)); exact Kd.R_mono HO_5.out (fun _ hk => trivial)⟩, ⟨sbw⟩⟩
   ·have c5b0 := decide_eq_false c5
    clear c5
    obtain rfl := Option.some.inj H
    go_wp2
    go_ret
    exact ⟨_, se, sr HO_5, sb⟩

end Go.Proofs.Ytiihaabhjphaeaa.QFnMargins
