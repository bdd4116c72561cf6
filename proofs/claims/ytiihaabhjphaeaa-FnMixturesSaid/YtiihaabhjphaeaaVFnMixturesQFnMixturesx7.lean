/- What the Go functions of the law FnMixtures come to, as Lean functions, and that they do: by a program of the session, out of the kit's printer. Conditions: none. (squeezed). -/
import Derived.Test.YtiihaabhjphaeaaVFnMixturesSq
import Derived.Test.YtiihaabhjphaeaaVFnMixturesQFnMixturesx0
import Derived.Test.YtiihaabhjphaeaaVFnMixturesQFnMixturesx1
import Derived.Test.YtiihaabhjphaeaaVFnMixturesQFnMixturesx6
namespace Go.Proofs.Ytiihaabhjphaeaa.QFnMixtures
open Go.RowKit Go.Proofs.YtiihaabhjphaeaaW.PrintWords Go.Proofs.YtiihaabhjphaeaaW.PrintLast Go.Proofs.YtiihaabhjphaeaaW.PrintMore Go.Proofs.Ytiihaabhjphaeaa.Open Go.Proofs.Ytiihaabhjphaeaa.Sq
attribute [local go_sem] max2_int min2_int max_two min_two max_three min_three max_four min_four   -- for this text's walks alone
attribute [local go_sem] isSome_set
set_option linter.unusedVariables false
set_option linter.unusedSimpArgs false

attribute [local go_sem high] eqA134
/-! ### spec_LinksAt: function 115 -/
mutual
def spec_LinksAt.l0 : Nat → List (S137) → Int → List (S134) → Int → Option ((List (S134)))
  | 0, _, _, _, _ => none
  | k + 1, x0, x1, x5, x6 => if x6 < (x0.length : Int) then (if 0 ≤ x6 then (spec_LinksAt.l1 k x0 x1 x5 x6 false 0 ((rd_T137 x0 x6).f0) ((rd_T137 x0 x6).f1)) else (none)) else (some x5)
def spec_LinksAt.l1 : Nat → List (S137) → Int → List (S134) → Int → Bool → Int → Int → Int → Option ((List (S134)))
  | 0, _, _, _, _, _, _, _, _ => none
  | k + 1, x0, x1, x5, x6, x8, x9, x179000, x179001 => if x9 < (x5.length : Int) then (if x8 = true then (spec_LinksAt.l1 k x0 x1 x5 x6 true (wrap64 (x9 + 1)) x179000 x179001) else (if 0 ≤ x9 then (spec_LinksAt.l1 k x0 x1 x5 x6 (((rd_T134 x5 x9).f0) == x179000 && (((rd_T134 x5 x9).f1) == x179001)) (wrap64 (x9 + 1)) x179000 x179001) else (none))) else (if x8 = true then (spec_LinksAt.l0 k x0 x1 x5 (wrap64 (x6 + 1))) else (if 0 ≤ x6 then (if x6 < (x0.length : Int) then ((spec_InSpan.f ((rd_T137 x0 x6).f2) ((rd_T137 x0 x6).f3) x1).bind fun t182 => (if t182 = true then (if x5.length < 8796093022208 then (spec_LinksAt.l0 k x0 x1 (x5 ++ [(⟨x179000, x179001⟩ : S134)]) (wrap64 (x6 + 1))) else (none)) else (spec_LinksAt.l0 k x0 x1 x5 (wrap64 (x6 + 1))))) else (none)) else (none)))
end
def spec_LinksAt.f (k : Nat) (l0 : List (S137)) (a1 : Int) : Option ((List (S134))) := spec_LinksAt.l0 k l0 a1 (([] : List (S134))) 0
theorem spec_LinksAt.mono_l : ∀ k, (∀ y0 y1 y2 y3, LeO (spec_LinksAt.l0 k y0 y1 y2 y3) (spec_LinksAt.l0 (k + 1) y0 y1 y2 y3)) ∧ (∀ y0 y1 y2 y3 y4 y5 y6 y7, LeO (spec_LinksAt.l1 k y0 y1 y2 y3 y4 y5 y6 y7) (spec_LinksAt.l1 (k + 1) y0 y1 y2 y3 y4 y5 y6 y7))
  | 0 => ⟨fun _ _ _ _ r h => by simp [spec_LinksAt.l0] at h, fun _ _ _ _ _ _ _ _ r h => by simp [spec_LinksAt.l1] at h⟩
  | k + 1 => by
    obtain ⟨ih0, ih1⟩ := spec_LinksAt.mono_l k
    refine ⟨?_, ?_⟩
    · intro y0 y1 y2 y3
      unfold spec_LinksAt.l0
      exact mo
    · intro y0 y1 y2 y3 y4 y5 y6 y7
      unfold spec_LinksAt.l1
      exact mo
theorem spec_LinksAt.mono : ∀ a0 a1 k, LeO (spec_LinksAt.f k a0 a1) (spec_LinksAt.f (k + 1) a0 a1) := by
  intro a0 a1 k
  obtain ⟨ih0, ih1⟩ := spec_LinksAt.mono_l k
  unfold spec_LinksAt.f
  exact mo
def spec_LinksAt.T5 : Bool × List (List Nat × List Nat) := (true, [([], []), ([], []), ([0, 1], [0, 1]), ([2], [2]), ([3], [3]), ([], []), ([], []), ([5, 6], [5, 6]), ([7], [7]), ([8], [8]), ([4, 9], [4, 9]), ([], []), ([11, 10, 0, 1, 2, 3, 4, 5, 6, 7, 8, 9, 10, 11], [10, 11])])
def spec_LinksAt.B5 : List Nat := [0, 0, 3, 7, 15, 0, 0, 96, 224, 480, 1023, 0, 4095]
theorem spec_LinksAt.tab5 : rtab .any (opsOf Try.f115 5) = spec_LinksAt.T5 := by kernel_rfl
theorem spec_LinksAt.bits5 : waitsOk spec_LinksAt.T5.2 spec_LinksAt.B5 = true := by kernel_rfl
def spec_LinksAt.T10 : Bool × List (List Nat × List Nat) := (true, [([], []), ([0], [0]), ([1], [1]), ([1], [1]), ([2, 3, 1], [1, 2, 3]), ([4, 1], [1, 4]), ([1], [1]), ([5, 6, 1], [1, 5, 6]), ([1, 7], [1, 7]), ([8, 1, 0, 1, 2, 3, 4, 5, 6, 7, 8], [0, 8])])
def spec_LinksAt.B10 : List Nat := [0, 1, 3, 3, 15, 31, 3, 127, 255, 511]
theorem spec_LinksAt.tab10 : rtab .any (opsOf Try.f115 10) = spec_LinksAt.T10 := by kernel_rfl
theorem spec_LinksAt.bits10 : waitsOk spec_LinksAt.T10.2 spec_LinksAt.B10 = true := by kernel_rfl
def spec_LinksAt.T11 : Bool × List (List Nat × List Nat) := (true, [([], []), ([0], [0]), ([1], [1]), ([2], [2]), ([2], [2]), ([3, 4, 2], [2, 3, 4]), ([5, 2], [2, 5]), ([6, 2], [2, 6]), ([2], [2]), ([2], [2]), ([8, 9, 2], [2, 8, 9]), ([10, 2], [2, 10]), ([11, 2], [2, 11]), ([7, 12, 2], [2, 7, 12]), ([2], [2]), ([13, 14, 2, 2], [2, 13, 14]), ([2, 15], [2, 15])])
def spec_LinksAt.B11 : List Nat := [0, 1, 3, 7, 7, 31, 63, 127, 7, 7, 775, 1799, 3847, 8191, 7, 32767, 65535]
theorem spec_LinksAt.tab11 : rtab .any (opsOf Try.f115 11) = spec_LinksAt.T11 := by kernel_rfl
theorem spec_LinksAt.bits11 : waitsOk spec_LinksAt.T11.2 spec_LinksAt.B11 = true := by kernel_rfl
set_option maxHeartbeats 8000000 in
set_option maxRecDepth 100000 in
theorem spec_LinksAt.calls (k : Nat) (A0 : Option Addr) (c0 : Nat) (l0 : List (S137)) (a1 : Int) (r : List (S134)) (w : World) (hr0 : Kd.C k137 w A0 l0.length l0) (hc0 : l0.length ≤ c0) (h : spec_LinksAt.f k l0 a1 = some r) :
    Calls Try.prog 115 #[.slice A0 l0.length c0, .int .i64 a1] w fun e w' => ∃ v0_ : Value, e = .returned (v0_) ∧ Kd.R k134 134 w' w.heap.size (fun _ => True) v0_ r ∧ Below w.heap.size w w' := by
 have hu134 := Try.underlying134
 have hu102 := Try.underlying102
 have HR0 := Aside0.mk hr0
 have HC0 := Aside0.mk hc0
 clear hr0 hc0
 have HB := Aside0.mk (Below.refl w.heap.size w)
 have H : (spec_LinksAt.l0 k l0 a1 (([] : List (S134))) 0) = some r := h
 clear h
 obtain ⟨y173, hy173⟩ : ∃ y_ : List (S134), y_ = (([] : List (S134))) := ⟨_, rfl⟩
 replace H : (spec_LinksAt.l0 k l0 a1 y173 0) = some r := by first | (rw [hy173]; with_reducible exact H) | (have H2_ := (Option.bind_some _ _).symm.trans H; rw [hy173]; with_reducible exact H2_) | (have H2_ := (Option.bind_some _ _).symm.trans H; with_reducible exact H2_) | with_reducible exact H | (rw [hy173]; exact H) | exact H
 have Ny173 := Aside0.mk hy173
 clear hy173
 have H' := Aside0.mk H
 clear H
 go_enter Try.func115, Try.ntmps115
 go_wp2_with (first | ((with_reducible refine gate_dst (N := 10) rfl ?_); refine Kd.R_lit k134 _ 134 ?hg (N := 10) ?hd (xs := ([] : List (S134))) (inner := []) (ok := fun _ => True) (okp := fun _ => True) ?hr ?hp (fun _ hk => hk) trivial (Below.refl _ _) (Nat.le_refl _) (by simp) ?_; (case hd => rfl); (case hg => rfl); (case hr => first | (go_simp; done) | (go_simp; rfl)); (case hp => exact (Reps.none _ _)); intro v174 w3 ho4 hb hg_ hnew_; clear hg_ hnew_; (first | rw [← Ny173.out] at ho4 | (simp only [Int.reduceToNat] at ho4; rw [← Ny173.out] at ho4)); have HO175 := Aside0.mk (Kd.R_lower ho4 (below_size (sb))); replace HB := bs hb; clear hb ho4))
 go_loopg [5, 6] k (fun kq v5 v6 w' => ∃ (x5_1 : List (S134)) (x6_1 : Int), v6 = .int .i64 x6_1 ∧ Aside0 (spec_LinksAt.l0 kq l0 a1 x5_1 x6_1 = some r) ∧ Aside0 (kq ≤ k) ∧ Aside0 (Kd.R k134 134 w' w.heap.size (fun _ => True) v5 x5_1) ∧ Aside0 (Below w.heap.size w w'))
 case atStart => exact ⟨(y173), (0), sc, H', kk0, ⟨sr HO175⟩, ⟨sb⟩⟩
 case round =>
  clear H'
  obtain ⟨x5_1, x6_1, rfl, HA, HK1, HO_5, HB⟩ := hrel
  cases gk with
  | zero => exact absurd HA.out (by simp [spec_LinksAt.l0])
  | succ k1 =>
   have H := HA.out
   clear HA
   simp only [spec_LinksAt.l0] at H
   obtain ⟨c5, H⟩ | ⟨c5, H⟩ := ie_ H
   ·have c5b0 := decide_eq_true c5
    clear c5
    obtain ⟨c6b0, H⟩ := id_ H
    have H' := Aside0.mk H
    clear H
    try go_wp2
    replace HO_5 := Aside0.mk (Kd.R_drew HO_5.out)
    replace HB := Aside0.mk (below_drew1 HB.out)
    obtain ⟨p176, q176, ad176, e176, hw176_0, hw176_1, hw176_2, hw176_3, hx176_0, hx176_1, hx176_2, hx176_3⟩ := aT_T137 HR0 HB x6_1
    cases e176
    obtain ⟨p177, q177, ad177, e177, hw177_0, hw177_1, hw177_2, hw177_3, hx177_0, hx177_1, hx177_2, hx177_3⟩ := aT_T137 HR0 HB x6_1
    obtain rfl : ad176 = ad177 := (by injection e177)
    refine start_ (n := 13) (S := fun w' => w'.cell? (ad176.add ((x6_1).toNat * 4)) = some (.int .i64 ((rd_T137 l0 x6_1).f0)) ∧ w'.cell? ⟨(ad176.add ((x6_1).toNat * 4)).block, (ad176.add ((x6_1).toNat * 4)).off + 1, none⟩ = some (.int .i64 ((rd_T137 l0 x6_1).f1)) ∧ w'.cell? ⟨(ad176.add ((x6_1).toNat * 4)).block, (ad176.add ((x6_1).toNat * 4)).off + 2, none⟩ = some (.int .i64 ((rd_T137 l0 x6_1).f2)) ∧ w'.cell? ⟨(ad176.add ((x6_1).toNat * 4)).block, (ad176.add ((x6_1).toNat * 4)).off + 3, none⟩ = some (.int .i64 ((rd_T137 l0 x6_1).f3)) ∧ w'.cell? (ad176.add ((x6_1).toNat * 4)) = some (.int .i64 ((rd_T137 l0 x6_1).f0)) ∧ w'.cell? ⟨(ad176.add ((x6_1).toNat * 4)).block, (ad176.add ((x6_1).toNat * 4)).off + 1, none⟩ = some (.int .i64 ((rd_T137 l0 x6_1).f1)) ∧ w'.cell? ⟨(ad176.add ((x6_1).toNat * 4)).block, (ad176.add ((x6_1).toNat * 4)).off + 2, none⟩ = some (.int .i64 ((rd_T137 l0 x6_1).f2)) ∧ w'.cell? ⟨(ad176.add ((x6_1).toNat * 4)).block, (ad176.add ((x6_1).toNat * 4)).off + 3, none⟩ = some (.int .i64 ((rd_T137 l0 x6_1).f3))) (ds := []) #[false, false, false, false, false, false, false, false, false, false, false, false, false] (by kernel_rfl) rfl rfl ⟨(hb_ HB hw176_0), (hb_ HB hw176_1), (hb_ HB hw176_2), (hb_ HB hw176_3), (hb_ HB hw177_0), (hb_ HB hw177_1), (hb_ HB hw177_2), (hb_ HB hw177_3)⟩ (fun hHeld => ?_); refine with_tabW spec_LinksAt.tab5 spec_LinksAt.bits5 (fun HT_ HW_ => ?_)
    generalize wr.drew = w7 at HO_5 HB hx176_0 hx176_1 hx176_2 hx176_3 hx177_0 hx177_1 hx177_2 hx177_3 hHeld ⊢
    refine put 0 17 #[true, false, false, false, false, false, false, false, false, false, false, false, false] HT_ ?_
    refine put 1 18 #[true, true, false, false, false, false, false, false, false, false, false, false, false] HT_ ?_
    refine put 2 19 #[true, true, true, false, false, false, false, false, false, false, false, false, false] HT_ ?_
    refine put 3 20 #[true, true, true, true, false, false, false, false, false, false, false, false, false] HT_ ?_
    refine put 5 22 #[true, true, true, true, false, true, false, false, false, false, false, false, false] HT_ ?_
    refine put 6 23 #[true, true, true, true, false, true, true, false, false, false, false, false, false] HT_ ?_
    refine put 7 24 #[true, true, true, true, false, true, true, true, false, false, false, false, false] HT_ ?_
    refine put 8 25 #[true, true, true, true, false, true, true, true, true, false, false, false, false] HT_ ?_
    refine tat8 4 21 #[true, true, true, true, true, true, true, true, true, false, false, false, false] HT_ HW_ hHeld ?_
    refine tat8 9 26 #[true, true, true, true, true, true, true, true, true, true, false, false, false] HT_ HW_ hHeld ?_
    refine put 10 27 #[true, true, true, true, true, true, true, true, true, true, true, false, false] HT_ ?_
    refine one_ (i := 11) (N := some 7) #[true, true, true, true, true, true, true, true, true, true, true, true, false] rfl rfl (one_of HT_.out (by kernel_rfl)) (by decide) (fun K hK => ?_)
    refine box_step ?hg (N := 7) ?hd (cs := #[.int .i64 0, .int .i64 0]) (t := 134) ?hr ?_; (case hd => rfl); (case hg => rfl); (case hr => first | (go_simp; done) | (go_simp; rfl))
    intro gb178 hg w8 hbox hb
    replace HO_5 := Aside0.mk (Kd.R_below (Kd.R_elderB (sr HO_5) gb178 (Nat.le_of_eq hg.symm)) hb)
    have GW178 := bz w hg
    have GE178 := bz w hg
    replace HB := bs hb
    have BK178 := Aside0.mk hbox
    clear hb hbox hg
    refine hK.out _ _ ⟨(hb_ HB hw176_0), (hb_ HB hw176_1), (hb_ HB hw176_2), (hb_ HB hw176_3), (hb_ HB hw177_0), (hb_ HB hw177_1), (hb_ HB hw177_2), (hb_ HB hw177_3)⟩ (fun hHeld => ?_)
    clear hK K
    refine norm_ (a' := ?_) ?_ ?_
    rotate_left
    ·show Act.put _ (some 7) _ = _
     simp only [Act.put, List.setIfInBounds_toArray, List.set_cons_zero, List.set_cons_succ, i64_w, i32_w]
     rfl
    refine one_ (i := 12) (N := none) #[true, true, true, true, true, true, true, true, true, true, true, true, true] rfl rfl (one_of HT_.out (by kernel_rfl)) (by decide) (fun K hK => ?_)
    obtain ⟨hs9, hfs9⟩ := cc1 BK178
    have hs10 := bc1 BK178
    have hfs10 := bf BK178 1
    refine skip_ (w1 := ?_) (by rfl) rfl ?_ ?_
    rotate_left
    ·go_simp
     rfl
    refine hK.out _ _ ⟨((cell_far (p := ⟨gb178, _, none⟩) (by first | exact Nat.ne_of_lt (Nat.lt_of_lt_of_le (by have := World.block_lt_of_cell? _ _ hw176_0; first | rwa [add_block] at this | exact this) GW178.out) | (rw [add_block]; exact Nat.ne_of_lt (Nat.lt_of_lt_of_le (by have := World.block_lt_of_cell? _ _ hw176_0; first | rwa [add_block] at this | exact this) GW178.out)) | (show (Addr.add _ _).block ≠ _; rw [add_block]; exact Nat.ne_of_lt (Nat.lt_of_lt_of_le (by have := World.block_lt_of_cell? _ _ hw176_0; first | rwa [add_block] at this | exact this) GW178.out)) | (dsimp only; exact Nat.ne_of_lt (Nat.lt_of_lt_of_le (by have := World.block_lt_of_cell? _ _ hw176_0; first | rwa [add_block] at this | exact this) GW178.out))) _).trans (((cell_far (p := ⟨gb178, _, none⟩) (by first | exact Nat.ne_of_lt (Nat.lt_of_lt_of_le (by have := World.block_lt_of_cell? _ _ hw176_0; first | rwa [add_block] at this | exact this) GW178.out) | (rw [add_block]; exact Nat.ne_of_lt (Nat.lt_of_lt_of_le (by have := World.block_lt_of_cell? _ _ hw176_0; first | rwa [add_block] at this | exact this) GW178.out)) | (show (Addr.add _ _).block ≠ _; rw [add_block]; exact Nat.ne_of_lt (Nat.lt_of_lt_of_le (by have := World.block_lt_of_cell? _ _ hw176_0; first | rwa [add_block] at this | exact this) GW178.out)) | (dsimp only; exact Nat.ne_of_lt (Nat.lt_of_lt_of_le (by have := World.block_lt_of_cell? _ _ hw176_0; first | rwa [add_block] at this | exact this) GW178.out))) _).trans (hHeld.1)))), ((cell_far (p := ⟨gb178, _, none⟩) (by first | exact Nat.ne_of_lt (Nat.lt_of_lt_of_le (by have := World.block_lt_of_cell? _ _ hw176_1; first | rwa [add_block] at this | exact this) GW178.out) | (rw [add_block]; exact Nat.ne_of_lt (Nat.lt_of_lt_of_le (by have := World.block_lt_of_cell? _ _ hw176_1; first | rwa [add_block] at this | exact this) GW178.out)) | (show (Addr.add _ _).block ≠ _; rw [add_block]; exact Nat.ne_of_lt (Nat.lt_of_lt_of_le (by have := World.block_lt_of_cell? _ _ hw176_1; first | rwa [add_block] at this | exact this) GW178.out)) | (dsimp only; exact Nat.ne_of_lt (Nat.lt_of_lt_of_le (by have := World.block_lt_of_cell? _ _ hw176_1; first | rwa [add_block] at this | exact this) GW178.out))) _).trans (((cell_far (p := ⟨gb178, _, none⟩) (by first | exact Nat.ne_of_lt (Nat.lt_of_lt_of_le (by have := World.block_lt_of_cell? _ _ hw176_1; first | rwa [add_block] at this | exact this) GW178.out) | (rw [add_block]; exact Nat.ne_of_lt (Nat.lt_of_lt_of_le (by have := World.block_lt_of_cell? _ _ hw176_1; first | rwa [add_block] at this | exact this) GW178.out)) | (show (Addr.add _ _).block ≠ _; rw [add_block]; exact Nat.ne_of_lt (Nat.lt_of_lt_of_le (by have := World.block_lt_of_cell? _ _ hw176_1; first | rwa [add_block] at this | exact this) GW178.out)) | (dsimp only; exact Nat.ne_of_lt (Nat.lt_of_lt_of_le (by have := World.block_lt_of_cell? _ _ hw176_1; first | rwa [add_block] at this | exact this) GW178.out))) _).trans (hHeld.2.1)))), ((cell_far (p := ⟨gb178, _, none⟩) (by first | exact Nat.ne_of_lt (Nat.lt_of_lt_of_le (by have := World.block_lt_of_cell? _ _ hw176_2; first | rwa [add_block] at this | exact this) GW178.out) | (rw [add_block]; exact Nat.ne_of_lt (Nat.lt_of_lt_of_le (by have := World.block_lt_of_cell? _ _ hw176_2; first | rwa [add_block] at this | exact this) GW178.out)) | (show (Addr.add _ _).block ≠ _; rw [add_block]; exact Nat.ne_of_lt (Nat.lt_of_lt_of_le (by have := World.block_lt_of_cell? _ _ hw176_2; first | rwa [add_block] at this | exact this) GW178.out)) | (dsimp only; exact Nat.ne_of_lt (Nat.lt_of_lt_of_le (by have := World.block_lt_of_cell? _ _ hw176_2; first | rwa [add_block] at this | exact this) GW178.out))) _).trans (((cell_far (p := ⟨gb178, _, none⟩) (by first | exact Nat.ne_of_lt (Nat.lt_of_lt_of_le (by have := World.block_lt_of_cell? _ _ hw176_2; first | rwa [add_block] at this | exact this) GW178.out) | (rw [add_block]; exact Nat.ne_of_lt (Nat.lt_of_lt_of_le (by have := World.block_lt_of_cell? _ _ hw176_2; first | rwa [add_block] at this | exact this) GW178.out)) | (show (Addr.add _ _).block ≠ _; rw [add_block]; exact Nat.ne_of_lt (Nat.lt_of_lt_of_le (by have := World.block_lt_of_cell? _ _ hw176_2; first | rwa [add_block] at this | exact this) GW178.out)) | (dsimp only; exact Nat.ne_of_lt (Nat.lt_of_lt_of_le (by have := World.block_lt_of_cell? _ _ hw176_2; first | rwa [add_block] at this | exact this) GW178.out))) _).trans (hHeld.2.2.1)))), ((cell_far (p := ⟨gb178, _, none⟩) (by first | exact Nat.ne_of_lt (Nat.lt_of_lt_of_le (by have := World.block_lt_of_cell? _ _ hw176_3; first | rwa [add_block] at this | exact this) GW178.out) | (rw [add_block]; exact Nat.ne_of_lt (Nat.lt_of_lt_of_le (by have := World.block_lt_of_cell? _ _ hw176_3; first | rwa [add_block] at this | exact this) GW178.out)) | (show (Addr.add _ _).block ≠ _; rw [add_block]; exact Nat.ne_of_lt (Nat.lt_of_lt_of_le (by have := World.block_lt_of_cell? _ _ hw176_3; first | rwa [add_block] at this | exact this) GW178.out)) | (dsimp only; exact Nat.ne_of_lt (Nat.lt_of_lt_of_le (by have := World.block_lt_of_cell? _ _ hw176_3; first | rwa [add_block] at this | exact this) GW178.out))) _).trans (((cell_far (p := ⟨gb178, _, none⟩) (by first | exact Nat.ne_of_lt (Nat.lt_of_lt_of_le (by have := World.block_lt_of_cell? _ _ hw176_3; first | rwa [add_block] at this | exact this) GW178.out) | (rw [add_block]; exact Nat.ne_of_lt (Nat.lt_of_lt_of_le (by have := World.block_lt_of_cell? _ _ hw176_3; first | rwa [add_block] at this | exact this) GW178.out)) | (show (Addr.add _ _).block ≠ _; rw [add_block]; exact Nat.ne_of_lt (Nat.lt_of_lt_of_le (by have := World.block_lt_of_cell? _ _ hw176_3; first | rwa [add_block] at this | exact this) GW178.out)) | (dsimp only; exact Nat.ne_of_lt (Nat.lt_of_lt_of_le (by have := World.block_lt_of_cell? _ _ hw176_3; first | rwa [add_block] at this | exact this) GW178.out))) _).trans (hHeld.2.2.2.1)))), ((cell_far (p := ⟨gb178, _, none⟩) (by first | exact Nat.ne_of_lt (Nat.lt_of_lt_of_le (by have := World.block_lt_of_cell? _ _ hw177_0; first | rwa [add_block] at this | exact this) GW178.out) | (rw [add_block]; exact Nat.ne_of_lt (Nat.lt_of_lt_of_le (by have := World.block_lt_of_cell? _ _ hw177_0; first | rwa [add_block] at this | exact this) GW178.out)) | (show (Addr.add _ _).block ≠ _; rw [add_block]; exact Nat.ne_of_lt (Nat.lt_of_lt_of_le (by have := World.block_lt_of_cell? _ _ hw177_0; first | rwa [add_block] at this | exact this) GW178.out)) | (dsimp only; exact Nat.ne_of_lt (Nat.lt_of_lt_of_le (by have := World.block_lt_of_cell? _ _ hw177_0; first | rwa [add_block] at this | exact this) GW178.out))) _).trans (((cell_far (p := ⟨gb178, _, none⟩) (by first | exact Nat.ne_of_lt (Nat.lt_of_lt_of_le (by have := World.block_lt_of_cell? _ _ hw177_0; first | rwa [add_block] at this | exact this) GW178.out) | (rw [add_block]; exact Nat.ne_of_lt (Nat.lt_of_lt_of_le (by have := World.block_lt_of_cell? _ _ hw177_0; first | rwa [add_block] at this | exact this) GW178.out)) | (show (Addr.add _ _).block ≠ _; rw [add_block]; exact Nat.ne_of_lt (Nat.lt_of_lt_of_le (by have := World.block_lt_of_cell? _ _ hw177_0; first | rwa [add_block] at this | exact this) GW178.out)) | (dsimp only; exact Nat.ne_of_lt (Nat.lt_of_lt_of_le (by have := World.block_lt_of_cell? _ _ hw177_0; first | rwa [add_block] at this | exact this) GW178.out))) _).trans (hHeld.2.2.2.2.1)))), ((cell_far (p := ⟨gb178, _, none⟩) (by first | exact Nat.ne_of_lt (Nat.lt_of_lt_of_le (by have := World.block_lt_of_cell? _ _ hw177_1; first | rwa [add_block] at this | exact this) GW178.out) | (rw [add_block]; exact Nat.ne_of_lt (Nat.lt_of_lt_of_le (by have := World.block_lt_of_cell? _ _ hw177_1; first | rwa [add_block] at this | exact this) GW178.out)) | (show (Addr.add _ _).block ≠ _; rw [add_block]; exact Nat.ne_of_lt (Nat.lt_of_lt_of_le (by have := World.block_lt_of_cell? _ _ hw177_1; first | rwa [add_block] at this | exact this) GW178.out)) | (dsimp only; exact Nat.ne_of_lt (Nat.lt_of_lt_of_le (by have := World.block_lt_of_cell? _ _ hw177_1; first | rwa [add_block] at this | exact this) GW178.out))) _).trans (((cell_far (p := ⟨gb178, _, none⟩) (by first | exact Nat.ne_of_lt (Nat.lt_of_lt_of_le (by have := World.block_lt_of_cell? _ _ hw177_1; first | rwa [add_block] at this | exact this) GW178.out) | (rw [add_block]; exact Nat.ne_of_lt (Nat.lt_of_lt_of_le (by have := World.block_lt_of_cell? _ _ hw177_1; first | rwa [add_block] at this | exact this) GW178.out)) | (show (Addr.add _ _).block ≠ _; rw [add_block]; exact Nat.ne_of_lt (Nat.lt_of_lt_of_le (by have := World.block_lt_of_cell? _ _ hw177_1; first | rwa [add_block] at this | exact this) GW178.out)) | (dsimp only; exact Nat.ne_of_lt (Nat.lt_of_lt_of_le (by have := World.block_lt_of_cell? _ _ hw177_1; first | rwa [add_block] at this | exact this) GW178.out))) _).trans (hHeld.2.2.2.2.2.1)))), ((cell_far (p := ⟨gb178, _, none⟩) (by first | exact Nat.ne_of_lt (Nat.lt_of_lt_of_le (by have := World.block_lt_of_cell? _ _ hw177_2; first | rwa [add_block] at this | exact this) GW178.out) | (rw [add_block]; exact Nat.ne_of_lt (Nat.lt_of_lt_of_le (by have := World.block_lt_of_cell? _ _ hw177_2; first | rwa [add_block] at this | exact this) GW178.out)) | (show (Addr.add _ _).block ≠ _; rw [add_block]; exact Nat.ne_of_lt (Nat.lt_of_lt_of_le (by have := World.block_lt_of_cell? _ _ hw177_2; first | rwa [add_block] at this | exact this) GW178.out)) | (dsimp only; exact Nat.ne_of_lt (Nat.lt_of_lt_of_le (by have := World.block_lt_of_cell? _ _ hw177_2; first | rwa [add_block] at this | exact this) GW178.out))) _).trans (((cell_far (p := ⟨gb178, _, none⟩) (by first | exact Nat.ne_of_lt (Nat.lt_of_lt_of_le (by have := World.block_lt_of_cell? _ _ hw177_2; first | rwa [add_block] at this | exact this) GW178.out) | (rw [add_block]; exact Nat.ne_of_lt (Nat.lt_of_lt_of_le (by have := World.block_lt_of_cell? _ _ hw177_2; first | rwa [add_block] at this | exact this) GW178.out)) | (show (Addr.add _ _).block ≠ _; rw [add_block]; exact Nat.ne_of_lt (Nat.lt_of_lt_of_le (by have := World.block_lt_of_cell? _ _ hw177_2; first | rwa [add_block] at this | exact this) GW178.out)) | (dsimp only; exact Nat.ne_of_lt (Nat.lt_of_lt_of_le (by have := World.block_lt_of_cell? _ _ hw177_2; first | rwa [add_block] at this | exact this) GW178.out))) _).trans (hHeld.2.2.2.2.2.2.1)))), ((cell_far (p := ⟨gb178, _, none⟩) (by first | exact Nat.ne_of_lt (Nat.lt_of_lt_of_le (by have := World.block_lt_of_cell? _ _ hw177_3; first | rwa [add_block] at this | exact this) GW178.out) | (rw [add_block]; exact Nat.ne_of_lt (Nat.lt_of_lt_of_le (by have := World.block_lt_of_cell? _ _ hw177_3; first | rwa [add_block] at this | exact this) GW178.out)) | (show (Addr.add _ _).block ≠ _; rw [add_block]; exact Nat.ne_of_lt (Nat.lt_of_lt_of_le (by have := World.block_lt_of_cell? _ _ hw177_3; first | rwa [add_block] at this | exact this) GW178.out)) | (dsimp only; exact Nat.ne_of_lt (Nat.lt_of_lt_of_le (by have := World.block_lt_of_cell? _ _ hw177_3; first | rwa [add_block] at this | exact this) GW178.out))) _).trans (((cell_far (p := ⟨gb178, _, none⟩) (by first | exact Nat.ne_of_lt (Nat.lt_of_lt_of_le (by have := World.block_lt_of_cell? _ _ hw177_3; first | rwa [add_block] at this | exact this) GW178.out) | (rw [add_block]; exact Nat.ne_of_lt (Nat.lt_of_lt_of_le (by have := World.block_lt_of_cell? _ _ hw177_3; first | rwa [add_block] at this | exact this) GW178.out)) | (show (Addr.add _ _).block ≠ _; rw [add_block]; exact Nat.ne_of_lt (Nat.lt_of_lt_of_le (by have := World.block_lt_of_cell? _ _ hw177_3; first | rwa [add_block] at this | exact this) GW178.out)) | (dsimp only; exact Nat.ne_of_lt (Nat.lt_of_lt_of_le (by have := World.block_lt_of_cell? _ _ hw177_3; first | rwa [add_block] at this | exact this) GW178.out))) _).trans (hHeld.2.2.2.2.2.2.2))))⟩ (fun hHeld => ?_)
    clear hK K
    refine done_ (done_of HT_.out (by kernel_rfl)) ?_
    try go_wp2
    go_loopg [8, 9] k1 (fun kq v8 v9 w' => ∃ (x8_2 : Bool) (x9_2 : Int), v8 = .bool x8_2 ∧ v9 = .int .i64 x9_2 ∧ Aside0 (spec_LinksAt.l1 kq l0 a1 x5_1 x6_1 x8_2 x9_2 ((rd_T137 l0 x6_1).f0) ((rd_T137 l0 x6_1).f1) = some r) ∧ Aside0 (kq ≤ k1) ∧ Aside0 (Kd.R k134 134 w' w.heap.size (fun k_ => k_ ≠ gb178) u5 x5_1) ∧ Aside0 (w'.heap[gb178]? = some (.cells #[.int .i64 ((rd_T137 l0 x6_1).f0), .int .i64 ((rd_T137 l0 x6_1).f1)] 134 (0, 0))) ∧ Aside0 (Below w.heap.size w w'))
    case atStart => exact ⟨(false), (0), sc, sc, H', kk0, ⟨by (with_reducible repeat (first | apply Kd.R_alloc | apply Kd.R_drewN | apply Kd.R_drew)); exact Kd.R_mono (Kd.R_far (p := ⟨gb178, 1, none⟩) (Kd.R_far (p := ⟨gb178, 0, none⟩) (Kd.R_mono HO_5.out (fun k_ hk => (⟨hk, hk.2⟩ : _ ∧ k_ ≠ gb178))) (fun _ hk => hk.2) (.int .i64 ((rd_T137 l0 x6_1).f0))) (fun _ hk => hk.2) (.int .i64 ((rd_T137 l0 x6_1).f1))) (fun _ hk => hk.1.2)⟩, ⟨sp BK178⟩, ⟨sbw⟩⟩
    case round =>
     clear H'
     try clear c5
     try clear c5b0
     try clear c6b0
     try clear hx176_0
     try clear hx176_1
     try clear hx176_2
     try clear hx176_3
     try clear hx177_0
     try clear hx177_1
     try clear hx177_2
     try clear hx177_3
     try clear p176
     try clear p177
     try clear q176
     try clear q177
     obtain ⟨x8_2, x9_2, rfl, rfl, HA, HK2, HO_5, BK178, HB⟩ := hrel
     cases gk with
     | zero => exact absurd HA.out (by simp [spec_LinksAt.l1])
     | succ k2 =>
      have H := HA.out
      clear HA
      simp only [spec_LinksAt.l1] at H
      obtain ⟨c11, H⟩ | ⟨c11, H⟩ := ie_ H
      ·have c11b0 := decide_eq_true c11
       clear c11
       obtain rfl | rfl := tt x8_2
       ·replace H := ip H
        have H' := Aside0.mk H
        clear H
        obtain ⟨Ao13, co13, eo13⟩ := Kd.R_slice HO_5.out
        subst eo13
        try go_wp2
        replace HO_5 := Aside0.mk (Kd.R_drew HO_5.out)
        replace BK178 := Aside0.mk (blk_drew BK178.out)
        replace HB := Aside0.mk (below_drew1 HB.out)
        refine start_ (n := 10) (S := fun w' => True) (ds := []) #[false, false, false, false, false, false, false, false, false, false] (by kernel_rfl) rfl rfl trivial (fun hHeld => ?_); refine with_tabW spec_LinksAt.tab10 spec_LinksAt.bits10 (fun HT_ HW_ => ?_)
        generalize wr.drew = w14 at HO_5 BK178 HB hHeld ⊢
        refine put 0 34 #[true, false, false, false, false, false, false, false, false, false] HT_ ?_
        refine put 1 35 #[true, true, false, false, false, false, false, false, false, false] HT_ ?_
        refine pure_ (i := 2) (N := some 36) (v := undef) (a' := ?_) #[true, true, true, false, false, false, false, false, false, false] rfl rfl (any_of HT_.out (by kernel_rfl)) (fun _ _ _ h => h) (Or.inr ⟨by rfl, rfl⟩) ?_ ?_
        rotate_left
        ·simp only [Act.put, List.setIfInBounds_toArray, List.set_cons_zero, List.set_cons_succ, i64_w, i32_w]
         rfl
        refine pure_ (i := 3) (N := some 37) (v := undef) (a' := ?_) #[true, true, true, true, false, false, false, false, false, false] rfl rfl (any_of HT_.out (by kernel_rfl)) (fun _ _ _ h => h) (Or.inr ⟨by rfl, rfl⟩) ?_ ?_
        rotate_left
        ·simp only [Act.put, List.setIfInBounds_toArray, List.set_cons_zero, List.set_cons_succ, i64_w, i32_w]
         rfl
        refine pure_ (i := 4) (N := some 38) (v := undef) (a' := ?_) #[true, true, true, true, true, false, false, false, false, false] rfl rfl (any_of HT_.out (by kernel_rfl)) (fun _ _ _ h => h) (Or.inr ⟨by rfl, rfl⟩) ?_ ?_
        rotate_left
        ·simp only [Act.put, List.setIfInBounds_toArray, List.set_cons_zero, List.set_cons_succ, i64_w, i32_w]
         rfl
        refine pure_ (i := 5) (N := some 39) (v := undef) (a' := ?_) #[true, true, true, true, true, true, false, false, false, false] rfl rfl (any_of HT_.out (by kernel_rfl)) (fun _ _ _ h => h) (Or.inr ⟨by rfl, rfl⟩) ?_ ?_
        rotate_left
        ·simp only [Act.put, List.setIfInBounds_toArray, List.set_cons_zero, List.set_cons_succ, i64_w, i32_w]
         rfl
        refine pure_ (i := 6) (N := some 40) (v := undef) (a' := ?_) #[true, true, true, true, true, true, true, false, false, false] rfl rfl (any_of HT_.out (by kernel_rfl)) (fun _ _ _ h => h) (Or.inr ⟨by rfl, rfl⟩) ?_ ?_
        rotate_left
        ·simp only [Act.put, List.setIfInBounds_toArray, List.set_cons_zero, List.set_cons_succ, i64_w, i32_w]
         rfl
        refine pure_ (i := 7) (N := some 41) (v := undef) (a' := ?_) #[true, true, true, true, true, true, true, true, false, false] rfl rfl (any_of HT_.out (by kernel_rfl)) (fun _ _ _ h => h) (Or.inr ⟨by rfl, rfl⟩) ?_ ?_
        rotate_left
        ·simp only [Act.put, List.setIfInBounds_toArray, List.set_cons_zero, List.set_cons_succ, i64_w, i32_w]
         rfl
        refine put 8 42 #[true, true, true, true, true, true, true, true, true, false] HT_ ?_
        refine put 9 8 #[true, true, true, true, true, true, true, true, true, true] HT_ ?_
        refine done_ (done_of HT_.out (by kernel_rfl)) ?_
        try go_wp2
        go_roundg k2
        case measure => have := HK1.out; have := HK2.out; omega
        case rel => exact ⟨(true), (wrap64 (x9_2 + 1)), sc, sc, H', kk2, ⟨sr HO_5⟩, ⟨sk BK178⟩, ⟨sbw⟩⟩
       ·replace H := im H
        obtain ⟨c15b0, H⟩ := id_ H
        have H' := Aside0.mk H
        clear H
        obtain ⟨Ao16, co16, eo16⟩ := Kd.R_slice HO_5.out
        subst eo16
        try go_wp2
        replace HO_5 := Aside0.mk (Kd.R_drew HO_5.out)
        replace BK178 := Aside0.mk (blk_drew BK178.out)
        replace HB := Aside0.mk (below_drew1 HB.out)
        have p179 : 0 ≤ (x9_2 : Int) := sa
        have q179 : x9_2 < (x5_1.length : Int) := sa
        obtain ⟨ad179, e179, hx179_0, hx179_1⟩ := at_T134 (Kd.R_reads' HO_5.out).2.2 x9_2 p179 q179
        cases e179
        replace p179 := eq_true p179
        replace q179 := eq_true q179
        refine start_ (n := 10) (S := fun w' => w'.cell? ⟨gb178, 0, none⟩ = some (.int .i64 ((rd_T137 l0 x6_1).f0)) ∧ w'.cell? ⟨gb178, 1, none⟩ = some (.int .i64 ((rd_T137 l0 x6_1).f1)) ∧ w'.cell? (ad179.add ((x9_2).toNat * 2)) = some (.int .i64 ((rd_T134 x5_1 x9_2).f0)) ∧ w'.cell? ⟨(ad179.add ((x9_2).toNat * 2)).block, (ad179.add ((x9_2).toNat * 2)).off + 1, none⟩ = some (.int .i64 ((rd_T134 x5_1 x9_2).f1))) (ds := []) #[false, false, false, false, false, false, false, false, false, false] (by kernel_rfl) rfl rfl ⟨bc0 BK178, bc1 BK178, hx179_0, hx179_1⟩ (fun hHeld => ?_); refine with_tabW spec_LinksAt.tab10 spec_LinksAt.bits10 (fun HT_ HW_ => ?_)
        generalize wr.drew = w17 at HO_5 BK178 HB hx179_0 hx179_1 hHeld ⊢
        refine put 0 34 #[true, false, false, false, false, false, false, false, false, false] HT_ ?_
        refine put 1 35 #[true, true, false, false, false, false, false, false, false, false] HT_ ?_
        refine put 2 36 #[true, true, true, false, false, false, false, false, false, false] HT_ ?_
        refine put 3 37 #[true, true, true, true, false, false, false, false, false, false] HT_ ?_
        refine put 4 38 #[true, true, true, true, true, false, false, false, false, false] HT_ ?_
        refine tat4 5 39 #[true, true, true, true, true, true, false, false, false, false] HT_ HW_ hHeld ?_
        refine tat4 6 40 #[true, true, true, true, true, true, true, false, false, false] HT_ HW_ hHeld ?_
        refine put 7 41 #[true, true, true, true, true, true, true, true, false, false] HT_ ?_
        refine put 8 42 #[true, true, true, true, true, true, true, true, true, false] HT_ ?_
        refine put 9 8 #[true, true, true, true, true, true, true, true, true, true] HT_ ?_
        refine done_ (done_of HT_.out (by kernel_rfl)) ?_
        try go_wp2
        go_roundg k2
        case measure => have := HK1.out; have := HK2.out; omega
        case rel => exact ⟨((((rd_T134 x5_1 x9_2).f0) == ((rd_T137 l0 x6_1).f0) && (((rd_T134 x5_1 x9_2).f1) == ((rd_T137 l0 x6_1).f1)))), (wrap64 (x9_2 + 1)), sc, sc, H', kk2, ⟨sr HO_5⟩, ⟨sk BK178⟩, ⟨sbw⟩⟩
      ·have c11b0 := decide_eq_false c11
       clear c11
       obtain rfl | rfl := tt x8_2
       ·replace H := ip H
        have H' := Aside0.mk H
        clear H
        obtain ⟨Ao19, co19, eo19⟩ := Kd.R_slice HO_5.out
        subst eo19
        try go_wp2
        replace HO_5 := Aside0.mk (Kd.R_drew HO_5.out)
        replace BK178 := Aside0.mk (blk_drew BK178.out)
        replace HB := Aside0.mk (below_drew1 HB.out)
        refine start_ (n := 17) (S := fun w' => True) (ds := []) #[false, false, false, false, false, false, false, false, false, false, false, false, false, false, false, false, false] (by kernel_rfl) rfl rfl trivial (fun hHeld => ?_); refine with_tabW spec_LinksAt.tab11 spec_LinksAt.bits11 (fun HT_ HW_ => ?_)
        generalize wr.drew = w20 at HO_5 BK178 HB hHeld ⊢
        refine put 0 43 #[true, false, false, false, false, false, false, false, false, false, false, false, false, false, false, false, false] HT_ ?_
        refine put 1 44 #[true, true, false, false, false, false, false, false, false, false, false, false, false, false, false, false, false] HT_ ?_
        refine put 2 45 #[true, true, true, false, false, false, false, false, false, false, false, false, false, false, false, false, false] HT_ ?_
        refine pure_ (i := 3) (N := some 46) (v := undef) (a' := ?_) #[true, true, true, true, false, false, false, false, false, false, false, false, false, false, false, false, false] rfl rfl (any_of HT_.out (by kernel_rfl)) (fun _ _ _ h => h) (Or.inr ⟨by rfl, rfl⟩) ?_ ?_
        rotate_left
        ·simp only [Act.put, List.setIfInBounds_toArray, List.set_cons_zero, List.set_cons_succ, i64_w, i32_w]
         rfl
        refine pure_ (i := 4) (N := some 47) (v := undef) (a' := ?_) #[true, true, true, true, true, false, false, false, false, false, false, false, false, false, false, false, false] rfl rfl (any_of HT_.out (by kernel_rfl)) (fun _ _ _ h => h) (Or.inr ⟨by rfl, rfl⟩) ?_ ?_
        rotate_left
        ·simp only [Act.put, List.setIfInBounds_toArray, List.set_cons_zero, List.set_cons_succ, i64_w, i32_w]
         rfl
        refine pure_ (i := 5) (N := some 48) (v := undef) (a' := ?_) #[true, true, true, true, true, true, false, false, false, false, false, false, false, false, false, false, false] rfl rfl (any_of HT_.out (by kernel_rfl)) (fun _ _ _ h => h) (Or.inr ⟨by rfl, rfl⟩) ?_ ?_
        rotate_left
        ·simp only [Act.put, List.setIfInBounds_toArray, List.set_cons_zero, List.set_cons_succ, i64_w, i32_w]
         rfl
        refine pure_ (i := 6) (N := some 49) (v := undef) (a' := ?_) #[true, true, true, true, true, true, true, false, false, false, false, false, false, false, false, false, false] rfl rfl (any_of HT_.out (by kernel_rfl)) (fun _ _ _ h => h) (Or.inr ⟨by rfl, rfl⟩) ?_ ?_
        rotate_left
        ·simp only [Act.put, List.setIfInBounds_toArray, List.set_cons_zero, List.set_cons_succ, i64_w, i32_w]
         rfl
        refine pure_ (i := 7) (N := some 50) (v := undef) (a' := ?_) #[true, true, true, true, true, true, true, true, false, false, false, false, false, false, false, false, false] rfl rfl (any_of HT_.out (by kernel_rfl)) (fun _ _ _ h => h) (Or.inr ⟨by rfl, rfl⟩) ?_ ?_
        rotate_left
        ·simp only [Act.put, List.setIfInBounds_toArray, List.set_cons_zero, List.set_cons_succ, i64_w, i32_w]
         rfl
        refine pure_ (i := 8) (N := some 51) (v := undef) (a' := ?_) #[true, true, true, true, true, true, true, true, true, false, false, false, false, false, false, false, false] rfl rfl (any_of HT_.out (by kernel_rfl)) (fun _ _ _ h => h) (Or.inr ⟨by rfl, rfl⟩) ?_ ?_
        rotate_left
        ·simp only [Act.put, List.setIfInBounds_toArray, List.set_cons_zero, List.set_cons_succ, i64_w, i32_w]
         rfl
        refine pure_ (i := 9) (N := some 52) (v := undef) (a' := ?_) #[true, true, true, true, true, true, true, true, true, true, false, false, false, false, false, false, false] rfl rfl (any_of HT_.out (by kernel_rfl)) (fun _ _ _ h => h) (Or.inr ⟨by rfl, rfl⟩) ?_ ?_
        rotate_left
        ·simp only [Act.put, List.setIfInBounds_toArray, List.set_cons_zero, List.set_cons_succ, i64_w, i32_w]
         rfl
        refine pure_ (i := 10) (N := some 53) (v := undef) (a' := ?_) #[true, true, true, true, true, true, true, true, true, true, true, false, false, false, false, false, false] rfl rfl (any_of HT_.out (by kernel_rfl)) (fun _ _ _ h => h) (Or.inr ⟨by rfl, rfl⟩) ?_ ?_
        rotate_left
        ·simp only [Act.put, List.setIfInBounds_toArray, List.set_cons_zero, List.set_cons_succ, i64_w, i32_w]
         rfl
        refine pure_ (i := 11) (N := some 54) (v := undef) (a' := ?_) #[true, true, true, true, true, true, true, true, true, true, true, true, false, false, false, false, false] rfl rfl (any_of HT_.out (by kernel_rfl)) (fun _ _ _ h => h) (Or.inr ⟨by rfl, rfl⟩) ?_ ?_
        rotate_left
        ·simp only [Act.put, List.setIfInBounds_toArray, List.set_cons_zero, List.set_cons_succ, i64_w, i32_w]
         rfl
        refine pure_ (i := 12) (N := some 55) (v := undef) (a' := ?_) #[true, true, true, true, true, true, true, true, true, true, true, true, true, false, false, false, false] rfl rfl (any_of HT_.out (by kernel_rfl)) (fun _ _ _ h => h) (Or.inr ⟨by rfl, rfl⟩) ?_ ?_
        rotate_left
        ·simp only [Act.put, List.setIfInBounds_toArray, List.set_cons_zero, List.set_cons_succ, i64_w, i32_w]
         rfl
        refine pure_ (i := 13) (N := some 56) (v := undef) (a' := ?_) #[true, true, true, true, true, true, true, true, true, true, true, true, true, true, false, false, false] rfl rfl (any_of HT_.out (by kernel_rfl)) (fun _ _ _ h => h) (Or.inr ⟨by rfl, rfl⟩) ?_ ?_
        rotate_left
        ·simp only [Act.put, List.setIfInBounds_toArray, List.set_cons_zero, List.set_cons_succ, i64_w, i32_w]
         rfl
        refine pure_ (i := 14) (N := some 57) (v := undef) (a' := ?_) #[true, true, true, true, true, true, true, true, true, true, true, true, true, true, true, false, false] rfl rfl (any_of HT_.out (by kernel_rfl)) (fun _ _ _ h => h) (Or.inr ⟨by rfl, rfl⟩) ?_ ?_
        rotate_left
        ·simp only [Act.put, List.setIfInBounds_toArray, List.set_cons_zero, List.set_cons_succ, i64_w, i32_w]
         rfl
        refine pure_ (i := 15) (N := some 58) (v := undef) (a' := ?_) #[true, true, true, true, true, true, true, true, true, true, true, true, true, true, true, true, false] rfl rfl (any_of HT_.out (by kernel_rfl)) (fun _ _ _ h => h) (Or.inr ⟨by rfl, rfl⟩) ?_ ?_
        rotate_left
        ·simp only [Act.put, List.setIfInBounds_toArray, List.set_cons_zero, List.set_cons_succ, i64_w, i32_w]
         rfl
        refine put 16 59 #[true, true, true, true, true, true, true, true, true, true, true, true, true, true, true, true, true] HT_ ?_
        refine done_ (done_of HT_.out (by kernel_rfl)) ?_
        try go_wp2
        go_roundg k2
        case measure => have := HK1.out; have := HK2.out; omega
        case rel => exact ⟨(x5_1), (wrap64 (x6_1 + 1)), sc, H', kk2, ⟨by (with_reducible repeat (first | apply Kd.R_alloc | apply Kd.R_drewN | apply Kd.R_drew)); exact Kd.R_mono HO_5.out (fun _ hk => trivial)⟩, ⟨sbw⟩⟩
       ·replace H := im H
        obtain ⟨c21b0, H⟩ := id_ H
        obtain ⟨c22b0, H⟩ := id_ H
        obtain ⟨t182, A23, H⟩ := bnd H
        obtain rfl | rfl := tt t182
        ·replace H := ip H
         obtain ⟨LMc25, H⟩ := il_ H
         obtain ⟨y183, hy183⟩ : ∃ y_ : List (S134), y_ = (x5_1 ++ [(⟨((rd_T137 l0 x6_1).f0), ((rd_T137 l0 x6_1).f1)⟩ : S134)]) := ⟨_, rfl⟩
         replace H : (spec_LinksAt.l0 k2 l0 a1 y183 (wrap64 (x6_1 + 1))) = some r := by first | (rw [hy183]; with_reducible exact H) | (have H2_ := (Option.bind_some _ _).symm.trans H; rw [hy183]; with_reducible exact H2_) | (have H2_ := (Option.bind_some _ _).symm.trans H; with_reducible exact H2_) | with_reducible exact H | (rw [hy183]; exact H) | exact H
         have Ny183 := Aside0.mk hy183
         clear hy183
         have H' := Aside0.mk H
         clear H
         obtain ⟨Ao26, co26, eo26⟩ := Kd.R_slice HO_5.out
         subst eo26
         try go_wp2
         replace HO_5 := Aside0.mk (Kd.R_drew HO_5.out)
         replace BK178 := Aside0.mk (blk_drew BK178.out)
         replace HB := Aside0.mk (below_drew1 HB.out)
         obtain ⟨p180, q180, ad180, e180, hw180_0, hw180_1, hw180_2, hw180_3, hx180_0, hx180_1, hx180_2, hx180_3⟩ := aT_T137 HR0 HB x6_1
         obtain rfl : ad176 = ad180 := (by injection e180)
         obtain ⟨p181, q181, ad181, e181, hw181_0, hw181_1, hw181_2, hw181_3, hx181_0, hx181_1, hx181_2, hx181_3⟩ := aT_T137 HR0 HB x6_1
         obtain rfl : ad176 = ad181 := (by injection e181)
         refine start_ (n := 17) (S := fun w' => w'.cell? (ad176.add ((x6_1).toNat * 4)) = some (.int .i64 ((rd_T137 l0 x6_1).f0)) ∧ w'.cell? ⟨(ad176.add ((x6_1).toNat * 4)).block, (ad176.add ((x6_1).toNat * 4)).off + 1, none⟩ = some (.int .i64 ((rd_T137 l0 x6_1).f1)) ∧ w'.cell? ⟨(ad176.add ((x6_1).toNat * 4)).block, (ad176.add ((x6_1).toNat * 4)).off + 2, none⟩ = some (.int .i64 ((rd_T137 l0 x6_1).f2)) ∧ w'.cell? ⟨(ad176.add ((x6_1).toNat * 4)).block, (ad176.add ((x6_1).toNat * 4)).off + 3, none⟩ = some (.int .i64 ((rd_T137 l0 x6_1).f3)) ∧ w'.cell? (ad176.add ((x6_1).toNat * 4)) = some (.int .i64 ((rd_T137 l0 x6_1).f0)) ∧ w'.cell? ⟨(ad176.add ((x6_1).toNat * 4)).block, (ad176.add ((x6_1).toNat * 4)).off + 1, none⟩ = some (.int .i64 ((rd_T137 l0 x6_1).f1)) ∧ w'.cell? ⟨(ad176.add ((x6_1).toNat * 4)).block, (ad176.add ((x6_1).toNat * 4)).off + 2, none⟩ = some (.int .i64 ((rd_T137 l0 x6_1).f2)) ∧ w'.cell? ⟨(ad176.add ((x6_1).toNat * 4)).block, (ad176.add ((x6_1).toNat * 4)).off + 3, none⟩ = some (.int .i64 ((rd_T137 l0 x6_1).f3))) (ds := []) #[false, false, false, false, false, false, false, false, false, false, false, false, false, false, false, false, false] (by kernel_rfl) rfl rfl ⟨(hb_ HB hw180_0), (hb_ HB hw180_1), (hb_ HB hw180_2), (hb_ HB hw180_3), (hb_ HB hw181_0), (hb_ HB hw181_1), (hb_ HB hw181_2), (hb_ HB hw181_3)⟩ (fun hHeld => ?_); refine with_tabW spec_LinksAt.tab11 spec_LinksAt.bits11 (fun HT_ HW_ => ?_)
         generalize wr.drew = w27 at HO_5 BK178 HB hx180_0 hx180_1 hx180_2 hx180_3 hx181_0 hx181_1 hx181_2 hx181_3 hHeld ⊢
         refine put 0 43 #[true, false, false, false, false, false, false, false, false, false, false, false, false, false, false, false, false] HT_ ?_
         refine put 1 44 #[true, true, false, false, false, false, false, false, false, false, false, false, false, false, false, false, false] HT_ ?_
         refine put 2 45 #[true, true, true, false, false, false, false, false, false, false, false, false, false, false, false, false, false] HT_ ?_
         refine put 3 46 #[true, true, true, true, false, false, false, false, false, false, false, false, false, false, false, false, false] HT_ ?_
         refine put 4 47 #[true, true, true, true, true, false, false, false, false, false, false, false, false, false, false, false, false] HT_ ?_
         refine put 5 48 #[true, true, true, true, true, true, false, false, false, false, false, false, false, false, false, false, false] HT_ ?_
         refine put 6 49 #[true, true, true, true, true, true, true, false, false, false, false, false, false, false, false, false, false] HT_ ?_
         refine put 8 51 #[true, true, true, true, true, true, true, false, true, false, false, false, false, false, false, false, false] HT_ ?_
         refine put 9 52 #[true, true, true, true, true, true, true, false, true, true, false, false, false, false, false, false, false] HT_ ?_
         refine put 10 53 #[true, true, true, true, true, true, true, false, true, true, true, false, false, false, false, false, false] HT_ ?_
         refine put 11 54 #[true, true, true, true, true, true, true, false, true, true, true, true, false, false, false, false, false] HT_ ?_
         refine put 14 57 #[true, true, true, true, true, true, true, false, true, true, true, true, false, false, true, false, false] HT_ ?_
         refine tat8 7 50 #[true, true, true, true, true, true, true, true, true, true, true, true, false, false, true, false, false] HT_ HW_ hHeld ?_
         refine tat8 12 55 #[true, true, true, true, true, true, true, true, true, true, true, true, true, false, true, false, false] HT_ HW_ hHeld ?_
         refine put 13 56 #[true, true, true, true, true, true, true, true, true, true, true, true, true, true, true, false, false] HT_ ?_
         refine one_ (i := 15) (N := some 58) #[true, true, true, true, true, true, true, true, true, true, true, true, true, true, true, true, false] rfl rfl (one_of HT_.out (by kernel_rfl)) (by decide) (fun K hK => ?_)
         refine goes_ Try.func159 (by kernel_rfl) rfl #[.agg #[.int .i64 ((rd_T137 l0 x6_1).f2), .int .i64 ((rd_T137 l0 x6_1).f3)], .int .i64 a1] (by rfl) rfl rfl sl ?_
         with_reducible refine (spec_InSpan.calls ((rd_T137 l0 x6_1).f2) ((rd_T137 l0 x6_1).f3) a1 true _ A23.out).mono ?_
         rintro e w28 ⟨rfl, hb⟩
         refine ⟨_, rfl, ?_⟩
         replace HO_5 := Aside0.mk (Kd.R_below (sr HO_5) hb)
         replace BK178 := bb BK178 hb
         replace HB := bsw hb
         (try clear hb)
         (try clear hb2)
         (try clear hk)
         (try clear hi)
         refine hK.out _ _ ⟨(hb_ HB hw180_0), (hb_ HB hw180_1), (hb_ HB hw180_2), (hb_ HB hw180_3), (hb_ HB hw181_0), (hb_ HB hw181_1), (hb_ HB hw181_2), (hb_ HB hw181_3)⟩ (fun hHeld => ?_)
         clear hK K
         refine norm_ (a' := ?_) ?_ ?_
         rotate_left
         ·show Act.put _ (some 58) _ = _
          simp only [Act.put, List.setIfInBounds_toArray, List.set_cons_zero, List.set_cons_succ, i64_w, i32_w]
          rfl
         refine put 16 59 #[true, true, true, true, true, true, true, true, true, true, true, true, true, true, true, true, true] HT_ ?_
         refine done_ (done_of HT_.out (by kernel_rfl)) ?_
         obtain ⟨hcz29_0, hcz29_1, hfz29_0, hfz29_1⟩ := cc2 BK178
         try go_wp2_with (first | ((with_reducible refine gate_builtin (b := .append) (xs := #[.tmp 60, .tmp 62]) rfl ?_); at_builtin; refine Kd.R_append k134 (w0 := w) w.heap.size rfl (.tmp 60) (.tmp 62) 74 134 (.agg #[(.int .i64 0), (.int .i64 0)]) 16 rfl Try.underlying74 info134 rfl (by decide) (by omega) (.slice Ao26 x5_1.length co26) x5_1 (⟨((rd_T137 l0 x6_1).f0), ((rd_T137 l0 x6_1).f1)⟩ : S134) [.int .i64 ((rd_T137 l0 x6_1).f0), .int .i64 ((rd_T137 l0 x6_1).f1)] (fun k_ => k_ ≠ gb178) (fun _ => False) rfl rfl ?aP (fun _ hk => hk.elim) ?aF ?aO ?aB ?aS ?aL ?_; (case aP => exact k134_mkM _ _ _ (⟨((rd_T137 l0 x6_1).f0), ((rd_T137 l0 x6_1).f1)⟩ : S134)); (case aB => exact (sbw)); (case aF => exact (fun k_ hk => Kd.freshB (g := gb178) (o := .cells #[.int .i64 ((rd_T137 l0 x6_1).f0), .int .i64 ((rd_T137 l0 x6_1).f1)] 134 (0, 0)) (sk BK178) k_ hk)); (case aO => exact (sr HO_5)); (case aS => exact (below_size (sbw))); (case aL => have := LMc25.out; omega); intro v184 w30 ho hb hg hat; rw [← Ny183.out] at ho; replace BK178 := Aside0.mk (blk_grown (g := gb178) (o := .cells #[.int .i64 ((rd_T137 l0 x6_1).f0), .int .i64 ((rd_T137 l0 x6_1).f1)] 134 (0, 0)) (sk BK178) hg (Kd.R_away HO_5.out (fun _ hk => hk))); replace HB := Aside0.mk hb; have HO185 := Aside0.mk ho; clear HO_5; clear ho hb hg hat))
         go_roundg k2
         case measure => have := HK1.out; have := HK2.out; omega
         case rel => exact ⟨(y183), (wrap64 (x6_1 + 1)), sc, H', kk2, ⟨by (with_reducible repeat (first | apply Kd.R_alloc | apply Kd.R_drewN | apply Kd.R_drew)); exact Kd.R_mono HO185.out (fun _ hk => trivial)⟩, ⟨sbw⟩⟩
        ·replace H := im H
         have H' := Aside0.mk H
         clear H
         obtain ⟨Ao31, co31, eo31⟩ := Kd.R_slice HO_5.out
         subst eo31
         try go_wp2
         replace HO_5 := Aside0.mk (Kd.R_drew HO_5.out)
         replace BK178 := Aside0.mk (blk_drew BK178.out)
         replace HB := Aside0.mk (below_drew1 HB.out)
         obtain ⟨p180, q180, ad180, e180, hw180_0, hw180_1, hw180_2, hw180_3, hx180_0, hx180_1, hx180_2, hx180_3⟩ := aT_T137 HR0 HB x6_1
         obtain rfl : ad176 = ad180 := (by injection e180)
         obtain ⟨p181, q181, ad181, e181, hw181_0, hw181_1, hw181_2, hw181_3, hx181_0, hx181_1, hx181_2, hx181_3⟩ := aT_T137 HR0 HB x6_1
         obtain rfl : ad176 = ad181 := (by injection e181)
         refine start_ (n := 17) (S := fun w' => w'.cell? (ad176.add ((x6_1).toNat * 4)) = some (.int .i64 ((rd_T137 l0 x6_1).f0)) ∧ w'.cell? ⟨(ad176.add ((x6_1).toNat * 4)).block, (ad176.add ((x6_1).toNat * 4)).off + 1, none⟩ = some (.int .i64 ((rd_T137 l0 x6_1).f1)) ∧ w'.cell? ⟨(ad176.add ((x6_1).toNat * 4)).block, (ad176.add ((x6_1).toNat * 4)).off + 2, none⟩ = some (.int .i64 ((rd_T137 l0 x6_1).f2)) ∧ w'.cell? ⟨(ad176.add ((x6_1).toNat * 4)).block, (ad176.add ((x6_1).toNat * 4)).off + 3, none⟩ = some (.int .i64 ((rd_T137 l0 x6_1).f3)) ∧ w'.cell? (ad176.add ((x6_1).toNat * 4)) = some (.int .i64 ((rd_T137 l0 x6_1).f0)) ∧ w'.cell? ⟨(ad176.add ((x6_1).toNat * 4)).block, (ad176.add ((x6_1).toNat * 4)).off + 1, none⟩ = some (.int .i64 ((rd_T137 l0 x6_1).f1)) ∧ w'.cell? ⟨(ad176.add ((x6_1).toNat * 4)).block, (ad176.add ((x6_1).toNat * 4)).off + 2, none⟩ = some (.int .i64 ((rd_T137 l0 x6_1).f2)) ∧ w'.cell? ⟨(ad176.add ((x6_1).toNat * 4)).block, (ad176.add ((x6_1).toNat * 4)).off + 3, none⟩ = some (.int .i64 ((rd_T137 l0 x6_1).f3))) (ds := []) #[false, false, false, false, false, false, false, false, false, false, false, false, false, false, false, false, false] (by kernel_rfl) rfl rfl ⟨(hb_ HB hw180_0), (hb_ HB hw180_1), (hb_ HB hw180_2), (hb_ HB hw180_3), (hb_ HB hw181_0), (hb_ HB hw181_1), (hb_ HB hw181_2), (hb_ HB hw181_3)⟩ (fun hHeld => ?_); refine with_tabW spec_LinksAt.tab11 spec_LinksAt.bits11 (fun HT_ HW_ => ?_)
         generalize wr.drew = w32 at HO_5 BK178 HB hx180_0 hx180_1 hx180_2 hx180_3 hx181_0 hx181_1 hx181_2 hx181_3 hHeld ⊢
         refine put 0 43 #[true, false, false, false, false, false, false, false, false, false, false, false, false, false, false, false, false] HT_ ?_
         refine put 1 44 #[true, true, false, false, false, false, false, false, false, false, false, false, false, false, false, false, false] HT_ ?_
         refine put 2 45 #[true, true, true, false, false, false, false, false, false, false, false, false, false, false, false, false, false] HT_ ?_
         refine put 3 46 #[true, true, true, true, false, false, false, false, false, false, false, false, false, false, false, false, false] HT_ ?_
         refine put 4 47 #[true, true, true, true, true, false, false, false, false, false, false, false, false, false, false, false, false] HT_ ?_
         refine put 5 48 #[true, true, true, true, true, true, false, false, false, false, false, false, false, false, false, false, false] HT_ ?_
         refine put 6 49 #[true, true, true, true, true, true, true, false, false, false, false, false, false, false, false, false, false] HT_ ?_
         refine put 8 51 #[true, true, true, true, true, true, true, false, true, false, false, false, false, false, false, false, false] HT_ ?_
         refine put 9 52 #[true, true, true, true, true, true, true, false, true, true, false, false, false, false, false, false, false] HT_ ?_
         refine put 10 53 #[true, true, true, true, true, true, true, false, true, true, true, false, false, false, false, false, false] HT_ ?_
         refine put 11 54 #[true, true, true, true, true, true, true, false, true, true, true, true, false, false, false, false, false] HT_ ?_
         refine put 14 57 #[true, true, true, true, true, true, true, false, true, true, true, true, false, false, true, false, false] HT_ ?_
         refine tat8 7 50 #[true, true, true, true, true, true, true, true, true, true, true, true, false, false, true, false, false] HT_ HW_ hHeld ?_
         refine tat8 12 55 #[true, true, true, true, true, true, true, true, true, true, true, true, true, false, true, false, false] HT_ HW_ hHeld ?_
         refine put 13 56 #[true, true, true, true, true, true, true, true, true, true, true, true, true, true, true, false, false] HT_ ?_
         refine one_ (i := 15) (N := some 58) #[true, true, true, true, true, true, true, true, true, true, true, true, true, true, true, true, false] rfl rfl (one_of HT_.out (by kernel_rfl)) (by decide) (fun K hK => ?_)
         refine goes_ Try.func159 (by kernel_rfl) rfl #[.agg #[.int .i64 ((rd_T137 l0 x6_1).f2), .int .i64 ((rd_T137 l0 x6_1).f3)], .int .i64 a1] (by rfl) rfl rfl sl ?_
         with_reducible refine (spec_InSpan.calls ((rd_T137 l0 x6_1).f2) ((rd_T137 l0 x6_1).f3) a1 false _ A23.out).mono ?_
         rintro e w33 ⟨rfl, hb⟩
         refine ⟨_, rfl, ?_⟩
         replace HO_5 := Aside0.mk (Kd.R_below (sr HO_5) hb)
         replace BK178 := bb BK178 hb
         replace HB := bsw hb
         (try clear hb)
         (try clear hb2)
         (try clear hk)
         (try clear hi)
         refine hK.out _ _ ⟨(hb_ HB hw180_0), (hb_ HB hw180_1), (hb_ HB hw180_2), (hb_ HB hw180_3), (hb_ HB hw181_0), (hb_ HB hw181_1), (hb_ HB hw181_2), (hb_ HB hw181_3)⟩ (fun hHeld => ?_)
         clear hK K
         refine norm_ (a' := ?_) ?_ ?_
         rotate_left
         ·show Act.put _ (some 58) _ = _
          simp only [Act.put, List.setIfInBounds_toArray, List.set_cons_zero, List.set_cons_succ, i64_w, i32_w]
          rfl
         refine put 16 59 #[true, true, true, true, true, true, true, true, true, true, true, true, true, true, true, true, true] HT_ ?_
         refine done_ (done_of HT_.out (by kernel_rfl)) ?_
         try go_wp2
         go_roundg k2
         case measure => have := HK1.out; have := HK2.out; omega
         case rel => exact ⟨(x5_1), (wrap64 (x6_1 + 1)), sc, H', kk2, ⟨by (with_reducible repeat (first | apply Kd.R_alloc | apply Kd.R_drewN | apply Kd.R_drew)); exact Kd.R_mono HO_5.out (fun _ hk => trivial)⟩, ⟨sbw⟩⟩
   ·have c5b0 := decide_eq_false c5
    clear c5
    obtain rfl := Option.some.inj H
    go_wp2
    go_ret
    exact ⟨_, se, sr HO_5, sb⟩

end Go.Proofs.Ytiihaabhjphaeaa.QFnMixtures
