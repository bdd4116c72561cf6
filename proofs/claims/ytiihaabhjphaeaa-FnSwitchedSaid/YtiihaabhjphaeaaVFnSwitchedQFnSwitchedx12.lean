/- Printed by a program of the session. Conditions: none. (squeezed). -/
import Derived.Test.YtiihaabhjphaeaaVFnSwitchedSq2
import Derived.Test.YtiihaabhjphaeaaVFnSwitchedQFnSwitchedx1
import Derived.Test.YtiihaabhjphaeaaVFnSwitchedQFnSwitchedx11
namespace Go.Proofs.Ytiihaabhjphaeaa.QFnSwitched
set_option maxHeartbeats 8000000
set_option maxRecDepth 100000
open Go.RowKit Go.Proofs.YtiihaabhjphaeaaW.PrintWords Go.Proofs.YtiihaabhjphaeaaW.PrintLast Go.Proofs.YtiihaabhjphaeaaW.PrintMore Go.Proofs.Ytiihaabhjphaeaa.Open Go.Proofs.Ytiihaabhjphaeaa.Sq
attribute [local go_sem] max2_int min2_int max_two min_two max_three min_three max_four min_four   -- for this text's walks alone
attribute [local go_sem] isSome_set
set_option linter.unusedVariables false
set_option linter.unusedSimpArgs false

attribute [local go_sem high] eqA134
theorem a12_7 {P : Prop} (h : P := by exact Nat.ne_of_lt (Nat.lt_of_lt_of_le (bl hw340_3) GW341.out)) : P := h
theorem a12_6 {P : Prop} (h : P := by exact Nat.ne_of_lt (Nat.lt_of_lt_of_le (bl hw340_2) GW341.out)) : P := h
theorem a12_5 {P : Prop} (h : P := by exact Nat.ne_of_lt (Nat.lt_of_lt_of_le (bl hw340_1) GW341.out)) : P := h
theorem a12_4 {P : Prop} (h : P := by exact Nat.ne_of_lt (Nat.lt_of_lt_of_le (bl hw340_0) GW341.out)) : P := h
theorem a12_3 {P : Prop} (h : P := by exact Nat.ne_of_lt (Nat.lt_of_lt_of_le (bl hw339_3) GW341.out)) : P := h
theorem a12_2 {P : Prop} (h : P := by exact Nat.ne_of_lt (Nat.lt_of_lt_of_le (bl hw339_2) GW341.out)) : P := h
theorem a12_1 {P : Prop} (h : P := by exact Nat.ne_of_lt (Nat.lt_of_lt_of_le (bl hw339_1) GW341.out)) : P := h
theorem a12_0 {P : Prop} (h : P := by exact Nat.ne_of_lt (Nat.lt_of_lt_of_le (bl hw339_0) GW341.out)) : P := h
mutual
def spec_LinksAt.l0 : Nat → List (S137) → Int → List (S134) → Int → Option ((List (S134)))
  | 0, _, _, _, _ => none
  | k + 1, x0, x1, x5, x6 => if x6 < (x0.length : Int) then (if 0 ≤ x6 then (spec_LinksAt.l1 k x0 x1 x5 x6 false 0 ((rd_T137 x0 x6).f0) ((rd_T137 x0 x6).f1)) else (none)) else (some x5)
def spec_LinksAt.l1 : Nat → List (S137) → Int → List (S134) → Int → Bool → Int → Int → Int → Option ((List (S134)))
  | 0, _, _, _, _, _, _, _, _ => none
  | k + 1, x0, x1, x5, x6, x8, x9, x342000, x342001 => if x9 < (x5.length : Int) then (if x8 = true then (spec_LinksAt.l1 k x0 x1 x5 x6 true (wrap64 (x9 + 1)) x342000 x342001) else (if 0 ≤ x9 then (spec_LinksAt.l1 k x0 x1 x5 x6 (((rd_T134 x5 x9).f0) == x342000 && (((rd_T134 x5 x9).f1) == x342001)) (wrap64 (x9 + 1)) x342000 x342001) else (none))) else (if x8 = true then (spec_LinksAt.l0 k x0 x1 x5 (wrap64 (x6 + 1))) else (if 0 ≤ x6 then (if x6 < (x0.length : Int) then ((spec_InSpan.f ((rd_T137 x0 x6).f2) ((rd_T137 x0 x6).f3) x1).bind fun t345 => (if t345 = true then (if x5.length < 8796093022208 then (spec_LinksAt.l0 k x0 x1 (x5 ++ [(⟨x342000, x342001⟩ : S134)]) (wrap64 (x6 + 1))) else (none)) else (spec_LinksAt.l0 k x0 x1 x5 (wrap64 (x6 + 1))))) else (none)) else (none)))
end
def spec_LinksAt.f (k : Nat) (l0 : List (S137)) (a1 : Int) : Option ((List (S134))) := spec_LinksAt.l0 k l0 a1 (([] : List (S134))) 0
theorem spec_LinksAt.mono_l : ∀ k, (∀ y0 y1 y2 y3, LeO (spec_LinksAt.l0 k y0 y1 y2 y3) (spec_LinksAt.l0 (k + 1) y0 y1 y2 y3)) ∧ (∀ y0 y1 y2 y3 y4 y5 y6 y7, LeO (spec_LinksAt.l1 k y0 y1 y2 y3 y4 y5 y6 y7) (spec_LinksAt.l1 (k + 1) y0 y1 y2 y3 y4 y5 y6 y7))
  | 0 => ⟨fun _ _ _ _ r h => by simp [spec_LinksAt.l0] at h, fun _ _ _ _ _ _ _ _ r h => by simp [spec_LinksAt.l1] at h⟩
  | k + 1 => by
    obtain ⟨ih0, ih1⟩ := spec_LinksAt.mono_l k
    refine ⟨?_, ?_⟩
    · intro y0 y1 y2 y3
      unfold spec_LinksAt.l0
      exact mo
    · intro y0 y1 y2 y3 y4 y5 y6 y7
      unfold spec_LinksAt.l1
      exact mo
theorem spec_LinksAt.mono : ∀ a0 a1 k, LeO (spec_LinksAt.f k a0 a1) (spec_LinksAt.f (k + 1) a0 a1) := by
  intro a0 a1 k
  obtain ⟨ih0, ih1⟩ := spec_LinksAt.mono_l k
  unfold spec_LinksAt.f
  exact mo
def spec_LinksAt.T5 : Bool × List (List Nat × List Nat) := (true, [([], []), ([], []), ([0, 1], [0, 1]), ([2], [2]), ([3], [3]), ([], []), ([], []), ([5, 6], [5, 6]), ([7], [7]), ([8], [8]), ([4, 9], [4, 9]), ([], []), ([11, 10, 0, 1, 2, 3, 4, 5, 6, 7, 8, 9, 10, 11], [10, 11])])
def spec_LinksAt.B5 : List Nat := [0, 0, 3, 7, 15, 0, 0, 96, 224, 480, 1023, 0, 4095]
theorem spec_LinksAt.tab5 : rtab .any (opsOf Try.f115 5) = spec_LinksAt.T5 := by kernel_rfl
theorem spec_LinksAt.bits5 : waitsOk spec_LinksAt.T5.2 spec_LinksAt.B5 = true := by kernel_rfl
def spec_LinksAt.T10 : Bool × List (List Nat × List Nat) := (true, [([], []), ([0], [0]), ([1], [1]), ([1], [1]), ([2, 3, 1], [1, 2, 3]), ([4, 1], [1, 4]), ([1], [1]), ([5, 6, 1], [1, 5, 6]), ([1, 7], [1, 7]), ([8, 1, 0, 1, 2, 3, 4, 5, 6, 7, 8], [0, 8])])
def spec_LinksAt.B10 : List Nat := [0, 1, 3, 3, 15, 31, 3, 127, 255, 511]
theorem spec_LinksAt.tab10 : rtab .any (opsOf Try.f115 10) = spec_LinksAt.T10 := by kernel_rfl
theorem spec_LinksAt.bits10 : waitsOk spec_LinksAt.T10.2 spec_LinksAt.B10 = true := by kernel_rfl
def spec_LinksAt.T11 : Bool × List (List Nat × List Nat) := (true, [([], []), ([0], [0]), ([1], [1]), ([2], [2]), ([2], [2]), ([3, 4, 2], [2, 3, 4]), ([5, 2], [2, 5]), ([6, 2], [2, 6]), ([2], [2]), ([2], [2]), ([8, 9, 2], [2, 8, 9]), ([10, 2], [2, 10]), ([11, 2], [2, 11]), ([7, 12, 2], [2, 7, 12]), ([2], [2]), ([13, 14, 2, 2], [2, 13, 14]), ([2, 15], [2, 15])])
def spec_LinksAt.B11 : List Nat := [0, 1, 3, 7, 7, 31, 63, 127, 7, 7, 775, 1799, 3847, 8191, 7, 32767, 65535]
theorem spec_LinksAt.tab11 : rtab .any (opsOf Try.f115 11) = spec_LinksAt.T11 := by kernel_rfl
theorem spec_LinksAt.bits11 : waitsOk spec_LinksAt.T11.2 spec_LinksAt.B11 = true := by kernel_rfl
theorem spec_LinksAt.calls (k : Nat) (A0 : Option Addr) (c0 : Nat) (l0 : List (S137)) (a1 : Int) (r : List (S134)) (w : World) (hr0 : Kd.C k137 w A0 l0.length l0) (hc0 : l0.length ≤ c0) (h : spec_LinksAt.f k l0 a1 = some r) :
    Calls Try.prog 115 #[.slice A0 l0.length c0, .int .i64 a1] w fun e w' => ∃ v0_ : Value, e = .returned (v0_) ∧ Kd.R k134 134 w' w.heap.size (fun _ => True) v0_ r ∧ Below w.heap.size w w' := by
 have hu134 := Try.underlying134
 have hu102 := Try.underlying102
 have HR0 := am hr0
 have HC0 := am hc0
 clear hr0 hc0
 have HB := am (Below.refl w.heap.size w)
 have H := h; unfold spec_LinksAt.f at H
 clear h
 obtain ⟨y336, hy336⟩ : ∃ y_ : List (S134), y_ = (([] : List (S134))) := ⟨_, rfl⟩
 replace H : (spec_LinksAt.l0 k l0 a1 y336 0) = some r := ry hy336 H
 have Ny336 := am hy336
 clear hy336
 have H' := am H
 clear H
 go_enter Try.func115, Try.ntmps115
 go_wp2_with (first | ((with_reducible refine gd 10 rfl ?_); refine Kd.R_lit k134 _ 134 ?hg (N := 10) ?hd (xs := ([] : List (S134))) (inner := []) (ok := fun _ => True) (okp := fun _ => True) ?hr ?hp (fun _ hk => hk) trivial (Below.refl _ _) (Nat.le_refl _) (by simp) ?_; (case hd => rfl); (case hg => rfl); (case hr => first | (go_simp; done) | (go_simp; rfl)); (case hp => exact (Reps.none _ _)); intro v337 w3 ho4 hb hg_ hnew_; clear hg_ hnew_; (first | rw [← Ny336.out] at ho4 | (simp only [Int.reduceToNat] at ho4; rw [← Ny336.out] at ho4)); have HO338 := am (Kd.R_lower ho4 (below_size (sb))); replace HB := bs hb; clear hb ho4))
 go_loopg [5, 6] k (fun kq v5 v6 w' => ∃ (x5_1 : List (S134)) (x6_1 : Int), v6 = .int .i64 x6_1 ∧ Aside0 (spec_LinksAt.l0 kq l0 a1 x5_1 x6_1 = some r) ∧ Aside0 (kq ≤ k) ∧ Aside0 (Kd.R k134 134 w' w.heap.size (fun _ => True) v5 x5_1) ∧ Aside0 (Below w.heap.size w w'))
 case atStart => exact ⟨(y336), (0), sc, H', kk0, ⟨sr HO338⟩, ⟨sb⟩⟩
 case round =>
  clear H'
  obtain ⟨x5_1, x6_1, rfl, HA, HK1, HO_5, HB⟩ := hrel
  cases gk with
  | zero => exact absurd HA.out (by simp [spec_LinksAt.l0])
  | succ k1 =>
   have H := HA.out
   clear HA
   simp only [spec_LinksAt.l0] at H
   obtain ⟨-, c5b0, H⟩ | ⟨-, c5b0, H⟩ := ic_ H
   ·obtain ⟨c6b0, H⟩ := id_ H
    have H' := am H
    clear H
    try go_wp2
    replace HO_5 := am (Kd.R_drew HO_5.out)
    replace HB := am (below_drew1 HB.out)
    obtain ⟨p339, q339, ad339, e339, hw339_0, hw339_1, hw339_2, hw339_3, hx339_0, hx339_1, hx339_2, hx339_3⟩ := aT_T137 HR0 HB x6_1
    cases e339
    obtain ⟨p340, q340, ad340, e340, hw340_0, hw340_1, hw340_2, hw340_3, hx340_0, hx340_1, hx340_2, hx340_3⟩ := aT_T137 HR0 HB x6_1
    obtain rfl : ad339 = ad340 := (by injection e340)
    refine start_ (n := 13) (S := fun w' => w'.cell? (ad339.add ((x6_1).toNat * 4)) = some (.int .i64 ((rd_T137 l0 x6_1).f0)) ∧ w'.cell? ⟨(ad339.add ((x6_1).toNat * 4)).block, (ad339.add ((x6_1).toNat * 4)).off + 1, none⟩ = some (.int .i64 ((rd_T137 l0 x6_1).f1)) ∧ w'.cell? ⟨(ad339.add ((x6_1).toNat * 4)).block, (ad339.add ((x6_1).toNat * 4)).off + 2, none⟩ = some (.int .i64 ((rd_T137 l0 x6_1).f2)) ∧ w'.cell? ⟨(ad339.add ((x6_1).toNat * 4)).block, (ad339.add ((x6_1).toNat * 4)).off + 3, none⟩ = some (.int .i64 ((rd_T137 l0 x6_1).f3)) ∧ w'.cell? (ad339.add ((x6_1).toNat * 4)) = some (.int .i64 ((rd_T137 l0 x6_1).f0)) ∧ w'.cell? ⟨(ad339.add ((x6_1).toNat * 4)).block, (ad339.add ((x6_1).toNat * 4)).off + 1, none⟩ = some (.int .i64 ((rd_T137 l0 x6_1).f1)) ∧ w'.cell? ⟨(ad339.add ((x6_1).toNat * 4)).block, (ad339.add ((x6_1).toNat * 4)).off + 2, none⟩ = some (.int .i64 ((rd_T137 l0 x6_1).f2)) ∧ w'.cell? ⟨(ad339.add ((x6_1).toNat * 4)).block, (ad339.add ((x6_1).toNat * 4)).off + 3, none⟩ = some (.int .i64 ((rd_T137 l0 x6_1).f3))) (ds := []) #[false, false, false, false, false, false, false, false, false, false, false, false, false] (by kernel_rfl) rfl rfl ⟨(hb_ HB hw339_0), (hb_ HB hw339_1), (hb_ HB hw339_2), (hb_ HB hw339_3), (hb_ HB hw340_0), (hb_ HB hw340_1), (hb_ HB hw340_2), (hb_ HB hw340_3)⟩ (fun hHeld => ?_); refine with_tabW spec_LinksAt.tab5 spec_LinksAt.bits5 (fun HT_ HW_ => ?_)
    generalize wr.drew = w7 at HO_5 HB hx339_0 hx339_1 hx339_2 hx339_3 hx340_0 hx340_1 hx340_2 hx340_3 hHeld ⊢
    refine put 0 17 (bt 13 1) HT_ ?_
    refine put 1 18 (bt 13 3) HT_ ?_
    refine put 2 19 (bt 13 7) HT_ ?_
    refine put 3 20 (bt 13 15) HT_ ?_
    refine put 5 22 (bt 13 47) HT_ ?_
    refine put 6 23 (bt 13 111) HT_ ?_
    refine put 7 24 (bt 13 239) HT_ ?_
    refine put 8 25 (bt 13 495) HT_ ?_
    refine tat8 4 21 (bt 13 511) HT_ HW_ hHeld ?_
    refine tat8 9 26 (bt 13 1023) HT_ HW_ hHeld ?_
    refine put 10 27 (bt 13 2047) HT_ ?_
    refine on 11 7 (bt 13 4095) HT_ (fun K hK => ?_)
    refine box_step ?hg (N := 7) ?hd (cs := #[.int .i64 0, .int .i64 0]) (t := 134) ?hr ?_; (case hd => rfl); (case hg => rfl); (case hr => first | (go_simp; done) | (go_simp; rfl))
    intro gb341 hg w8 hbox hb
    replace HO_5 := am (Kd.R_below (Kd.R_elderB (sr HO_5) gb341 (Nat.le_of_eq hg.symm)) hb)
    have GW341 := bz w hg
    have GE341 := bz w hg
    replace HB := bs hb
    have BK341 := am hbox
    clear hb hbox hg
    refine hK.out _ _ ⟨(hb_ HB hw339_0), (hb_ HB hw339_1), (hb_ HB hw339_2), (hb_ HB hw339_3), (hb_ HB hw340_0), (hb_ HB hw340_1), (hb_ HB hw340_2), (hb_ HB hw340_3)⟩ (fun hHeld => ?_)
    clear hK K
    refine nm 7 ?_
    refine one_ (i := 12) (N := none) (bt 13 8191) rfl rfl (one_of HT_.out (by kernel_rfl)) (by decide) (fun K hK => ?_)
    obtain ⟨hs9, hfs9⟩ := cc1 BK341
    have hs10 := bc1 BK341
    have hfs10 := bf BK341 1
    refine skip_ (w1 := ?_) (by rfl) rfl ?_ ?_
    rotate_left
    ·go_simp
     rfl
    refine hK.out _ _ ⟨((cell_far (p := ⟨gb341, _, none⟩) a12_0 _).trans (((cell_far (p := ⟨gb341, _, none⟩) a12_0 _).trans (hHeld.1)))), ((cell_far (p := ⟨gb341, _, none⟩) a12_1 _).trans (((cell_far (p := ⟨gb341, _, none⟩) a12_1 _).trans (hHeld.2.1)))), ((cell_far (p := ⟨gb341, _, none⟩) a12_2 _).trans (((cell_far (p := ⟨gb341, _, none⟩) a12_2 _).trans (hHeld.2.2.1)))), ((cell_far (p := ⟨gb341, _, none⟩) a12_3 _).trans (((cell_far (p := ⟨gb341, _, none⟩) a12_3 _).trans (hHeld.2.2.2.1)))), ((cell_far (p := ⟨gb341, _, none⟩) a12_4 _).trans (((cell_far (p := ⟨gb341, _, none⟩) a12_4 _).trans (hHeld.2.2.2.2.1)))), ((cell_far (p := ⟨gb341, _, none⟩) a12_5 _).trans (((cell_far (p := ⟨gb341, _, none⟩) a12_5 _).trans (hHeld.2.2.2.2.2.1)))), ((cell_far (p := ⟨gb341, _, none⟩) a12_6 _).trans (((cell_far (p := ⟨gb341, _, none⟩) a12_6 _).trans (hHeld.2.2.2.2.2.2.1)))), ((cell_far (p := ⟨gb341, _, none⟩) a12_7 _).trans (((cell_far (p := ⟨gb341, _, none⟩) a12_7 _).trans (hHeld.2.2.2.2.2.2.2))))⟩ (fun hHeld => ?_)
    clear hK K
    refine done_ (done_of HT_.out (by kernel_rfl)) ?_
    try go_wp2
    go_loopg [8, 9] k1 (fun kq v8 v9 w' => ∃ (x8_2 : Bool) (x9_2 : Int), v8 = .bool x8_2 ∧ v9 = .int .i64 x9_2 ∧ Aside0 (spec_LinksAt.l1 kq l0 a1 x5_1 x6_1 x8_2 x9_2 ((rd_T137 l0 x6_1).f0) ((rd_T137 l0 x6_1).f1) = some r) ∧ Aside0 (kq ≤ k1) ∧ Aside0 (Kd.R k134 134 w' w.heap.size (fun k_ => k_ ≠ gb341) u5 x5_1) ∧ Aside0 (w'.heap[gb341]? = some (.cells #[.int .i64 ((rd_T137 l0 x6_1).f0), .int .i64 ((rd_T137 l0 x6_1).f1)] 134 (0, 0))) ∧ Aside0 (Below w.heap.size w w'))
    case atStart => exact ⟨(false), (0), sc, sc, H', kk0, ⟨by (with_reducible repeat (first | apply Kd.R_alloc | apply Kd.R_drewN | apply Kd.R_drew)); exact Kd.R_mono (Kd.R_far (p := ⟨gb341, 1, none⟩) (Kd.R_far (p := ⟨gb341, 0, none⟩) (Kd.R_mono HO_5.out (fun k_ hk => (⟨hk, hk.2⟩ : _ ∧ k_ ≠ gb341))) (fun _ hk => hk.2) (.int .i64 ((rd_T137 l0 x6_1).f0))) (fun _ hk => hk.2) (.int .i64 ((rd_T137 l0 x6_1).f1))) (fun _ hk => hk.1.2)⟩, ⟨sp BK341⟩, ⟨sbw⟩⟩
    case round =>
     clear H'
     try clear c5
     try clear c5b0
     try clear c6b0
     try clear hx339_0
     try clear hx339_1
     try clear hx339_2
     try clear hx339_3
     try clear hx340_0
     try clear hx340_1
     try clear hx340_2
     try clear hx340_3
     try clear p339
     try clear p340
     try clear q339
     try clear q340
     obtain ⟨x8_2, x9_2, rfl, rfl, HA, HK2, HO_5, BK341, HB⟩ := hrel
     cases gk with
     | zero => exact absurd HA.out (by simp [spec_LinksAt.l1])
     | succ k2 =>
      have H := HA.out
      clear HA
      simp only [spec_LinksAt.l1] at H
      obtain ⟨-, c11b0, H⟩ | ⟨-, c11b0, H⟩ := ic_ H
      ·obtain rfl | rfl := tt x8_2
       ·replace H := ip H
        have H' := am H
        clear H
        obtain ⟨Ao13, co13, eo13⟩ := Kd.R_slice HO_5.out
        subst eo13
        try go_wp2
        replace HO_5 := am (Kd.R_drew HO_5.out)
        replace BK341 := am (blk_drew BK341.out)
        replace HB := am (below_drew1 HB.out)
        refine start_ (n := 10) (S := fun w' => True) (ds := []) #[false, false, false, false, false, false, false, false, false, false] (by kernel_rfl) rfl rfl trivial (fun hHeld => ?_); refine with_tabW spec_LinksAt.tab10 spec_LinksAt.bits10 (fun HT_ HW_ => ?_)
        generalize wr.drew = w14 at HO_5 BK341 HB hHeld ⊢
        refine put 0 34 (bt 10 1) HT_ ?_
        refine put 1 35 (bt 10 3) HT_ ?_
        refine pn 2 36 (bt 10 7) HT_ ?_
        refine pn 3 37 (bt 10 15) HT_ ?_
        refine pn 4 38 (bt 10 31) HT_ ?_
        refine pn 5 39 (bt 10 63) HT_ ?_
        refine pn 6 40 (bt 10 127) HT_ ?_
        refine pn 7 41 (bt 10 255) HT_ ?_
        refine put 8 42 (bt 10 511) HT_ ?_
        refine put 9 8 (bt 10 1023) HT_ ?_
        refine done_ (done_of HT_.out (by kernel_rfl)) ?_
        try go_wp2
        go_roundg k2
        case measure => have := HK1.out; have := HK2.out; omega
        case rel => exact ⟨(true), (wrap64 (x9_2 + 1)), sc, sc, H', kk2, ⟨sr HO_5⟩, ⟨sk BK341⟩, ⟨sbw⟩⟩
       ·replace H := im H
        obtain ⟨c15b0, H⟩ := id_ H
        have H' := am H
        clear H
        obtain ⟨Ao16, co16, eo16⟩ := Kd.R_slice HO_5.out
        subst eo16
        try go_wp2
        replace HO_5 := am (Kd.R_drew HO_5.out)
        replace BK341 := am (blk_drew BK341.out)
        replace HB := am (below_drew1 HB.out)
        have p342 : 0 ≤ (x9_2 : Int) := sa
        have q342 : x9_2 < (x5_1.length : Int) := sa
        obtain ⟨ad342, e342, hx342_0, hx342_1⟩ := at_T134 (Kd.R_reads' HO_5.out).2.2 x9_2 p342 q342
        cases e342
        replace p342 := eq_true p342
        replace q342 := eq_true q342
        refine start_ (n := 10) (S := fun w' => w'.cell? ⟨gb341, 0, none⟩ = some (.int .i64 ((rd_T137 l0 x6_1).f0)) ∧ w'.cell? ⟨gb341, 1, none⟩ = some (.int .i64 ((rd_T137 l0 x6_1).f1)) ∧ w'.cell? (ad342.add ((x9_2).toNat * 2)) = some (.int .i64 ((rd_T134 x5_1 x9_2).f0)) ∧ w'.cell? ⟨(ad342.add ((x9_2).toNat * 2)).block, (ad342.add ((x9_2).toNat * 2)).off + 1, none⟩ = some (.int .i64 ((rd_T134 x5_1 x9_2).f1))) (ds := []) #[false, false, false, false, false, false, false, false, false, false] (by kernel_rfl) rfl rfl ⟨bc0 BK341, bc1 BK341, hx342_0, hx342_1⟩ (fun hHeld => ?_); refine with_tabW spec_LinksAt.tab10 spec_LinksAt.bits10 (fun HT_ HW_ => ?_)
        generalize wr.drew = w17 at HO_5 BK341 HB hx342_0 hx342_1 hHeld ⊢
        refine put 0 34 (bt 10 1) HT_ ?_
        refine put 1 35 (bt 10 3) HT_ ?_
        refine put 2 36 (bt 10 7) HT_ ?_
        refine put 3 37 (bt 10 15) HT_ ?_
        refine put 4 38 (bt 10 31) HT_ ?_
        refine tat4 5 39 (bt 10 63) HT_ HW_ hHeld ?_
        refine tat4 6 40 (bt 10 127) HT_ HW_ hHeld ?_
        refine put 7 41 (bt 10 255) HT_ ?_
        refine put 8 42 (bt 10 511) HT_ ?_
        refine put 9 8 (bt 10 1023) HT_ ?_
        refine done_ (done_of HT_.out (by kernel_rfl)) ?_
        try go_wp2
        go_roundg k2
        case measure => have := HK1.out; have := HK2.out; omega
        case rel => exact ⟨((((rd_T134 x5_1 x9_2).f0) == ((rd_T137 l0 x6_1).f0) && (((rd_T134 x5_1 x9_2).f1) == ((rd_T137 l0 x6_1).f1)))), (wrap64 (x9_2 + 1)), sc, sc, H', kk2, ⟨sr HO_5⟩, ⟨sk BK341⟩, ⟨sbw⟩⟩
      ·obtain rfl | rfl := tt x8_2
       ·replace H := ip H
        have H' := am H
        clear H
        obtain ⟨Ao19, co19, eo19⟩ := Kd.R_slice HO_5.out
        subst eo19
        try go_wp2
        replace HO_5 := am (Kd.R_drew HO_5.out)
        replace BK341 := am (blk_drew BK341.out)
        replace HB := am (below_drew1 HB.out)
        refine start_ (n := 17) (S := fun w' => True) (ds := []) #[false, false, false, false, false, false, false, false, false, false, false, false, false, false, false, false, false] (by kernel_rfl) rfl rfl trivial (fun hHeld => ?_); refine with_tabW spec_LinksAt.tab11 spec_LinksAt.bits11 (fun HT_ HW_ => ?_)
        generalize wr.drew = w20 at HO_5 BK341 HB hHeld ⊢
        refine put 0 43 (bt 17 1) HT_ ?_
        refine put 1 44 (bt 17 3) HT_ ?_
        refine put 2 45 (bt 17 7) HT_ ?_
        refine pn 3 46 (bt 17 15) HT_ ?_
        refine pn 4 47 (bt 17 31) HT_ ?_
        refine pn 5 48 (bt 17 63) HT_ ?_
        refine pn 6 49 (bt 17 127) HT_ ?_
        refine pn 7 50 (bt 17 255) HT_ ?_
        refine pn 8 51 (bt 17 511) HT_ ?_
        refine pn 9 52 (bt 17 1023) HT_ ?_
        refine pn 10 53 (bt 17 2047) HT_ ?_
        refine pn 11 54 (bt 17 4095) HT_ ?_
        refine pn 12 55 (bt 17 8191) HT_ ?_
        refine pn 13 56 (bt 17 16383) HT_ ?_
        refine pn 14 57 (bt 17 32767) HT_ ?_
        refine pn 15 58 (bt 17 65535) HT_ ?_
        refine put 16 59 (bt 17 131071) HT_ ?_
        refine done_ (done_of HT_.out (by kernel_rfl)) ?_
        try go_wp2
        go_roundg k2
        case measure => have := HK1.out; have := HK2.out; omega
        case rel => exact ⟨(x5_1), (wrap64 (x6_1 + 1)), sc, H', kk2, ⟨by exact rm HO_5 (fun _ hk => trivial)⟩, ⟨sbw⟩⟩
       ·replace H := im H
        obtain ⟨c21b0, H⟩ := id_ H
        obtain ⟨c22b0, H⟩ := id_ H
        obtain ⟨t345, A23, H⟩ := bnd H
        obtain rfl | rfl := tt t345
        ·replace H := ip H
         obtain ⟨LMc25, H⟩ := il_ H
         obtain ⟨y346, hy346⟩ : ∃ y_ : List (S134), y_ = (x5_1 ++ [(⟨((rd_T137 l0 x6_1).f0), ((rd_T137 l0 x6_1).f1)⟩ : S134)]) := ⟨_, rfl⟩
         replace H : (spec_LinksAt.l0 k2 l0 a1 y346 (wrap64 (x6_1 + 1))) = some r := ry hy346 H
         have Ny346 := am hy346
         clear hy346
         have H' := am H
         clear H
         obtain ⟨Ao26, co26, eo26⟩ := Kd.R_slice HO_5.out
         subst eo26
         try go_wp2
         replace HO_5 := am (Kd.R_drew HO_5.out)
         replace BK341 := am (blk_drew BK341.out)
         replace HB := am (below_drew1 HB.out)
         obtain ⟨p343, q343, ad343, e343, hw343_0, hw343_1, hw343_2, hw343_3, hx343_0, hx343_1, hx343_2, hx343_3⟩ := aT_T137 HR0 HB x6_1
         obtain rfl : ad339 = ad343 := (by injection e343)
         obtain ⟨p344, q344, ad344, e344, hw344_0, hw344_1, hw344_2, hw344_3, hx344_0, hx344_1, hx344_2, hx344_3⟩ := aT_T137 HR0 HB x6_1
         obtain rfl : ad339 = ad344 := (by injection e344)
         refine start_ (n := 17) (S := fun w' => w'.cell? (ad339.add ((x6_1).toNat * 4)) = some (.int .i64 ((rd_T137 l0 x6_1).f0)) ∧ w'.cell? ⟨(ad339.add ((x6_1).toNat * 4)).block, (ad339.add ((x6_1).toNat * 4)).off + 1, none⟩ = some (.int .i64 ((rd_T137 l0 x6_1).f1)) ∧ w'.cell? ⟨(ad339.add ((x6_1).toNat * 4)).block, (ad339.add ((x6_1).toNat * 4)).off + 2, none⟩ = some (.int .i64 ((rd_T137 l0 x6_1).f2)) ∧ w'.cell? ⟨(ad339.add ((x6_1).toNat * 4)).block, (ad339.add ((x6_1).toNat * 4)).off + 3, none⟩ = some (.int .i64 ((rd_T137 l0 x6_1).f3)) ∧ w'.cell? (ad339.add ((x6_1).toNat * 4)) = some (.int .i64 ((rd_T137 l0 x6_1).f0)) ∧ w'.cell? ⟨(ad339.add ((x6_1).toNat * 4)).block, (ad339.add ((x6_1).toNat * 4)).off + 1, none⟩ = some (.int .i64 ((rd_T137 l0 x6_1).f1)) ∧ w'.cell? ⟨(ad339.add ((x6_1).toNat * 4)).block, (ad339.add ((x6_1).toNat * 4)).off + 2, none⟩ = some (.int .i64 ((rd_T137 l0 x6_1).f2)) ∧ w'.cell? ⟨(ad339.add ((x6_1).toNat * 4)).block, (ad339.add ((x6_1).toNat * 4)).off + 3, none⟩ = some (.int .i64 ((rd_T137 l0 x6_1).f3))) (ds := []) #[false, false, false, false, false, false, false, false, false, false, false, false, false, false, false, false, false] (by kernel_rfl) rfl rfl ⟨(hb_ HB hw343_0), (hb_ HB hw343_1), (hb_ HB hw343_2), (hb_ HB hw343_3), (hb_ HB hw344_0), (hb_ HB hw344_1), (hb_ HB hw344_2), (hb_ HB hw344_3)⟩ (fun hHeld => ?_); refine with_tabW spec_LinksAt.tab11 spec_LinksAt.bits11 (fun HT_ HW_ => ?_)
         generalize wr.drew = w27 at HO_5 BK341 HB hx343_0 hx343_1 hx343_2 hx343_3 hx344_0 hx344_1 hx344_2 hx344_3 hHeld ⊢
         refine put 0 43 (bt 17 1) HT_ ?_
         refine put 1 44 (bt 17 3) HT_ ?_
         refine put 2 45 (bt 17 7) HT_ ?_
         refine put 3 46 (bt 17 15) HT_ ?_
         refine put 4 47 (bt 17 31) HT_ ?_
         refine put 5 48 (bt 17 63) HT_ ?_
         refine put 6 49 (bt 17 127) HT_ ?_
         refine put 8 51 (bt 17 383) HT_ ?_
         refine put 9 52 (bt 17 895) HT_ ?_
         refine put 10 53 (bt 17 1919) HT_ ?_
         refine put 11 54 (bt 17 3967) HT_ ?_
         refine put 14 57 (bt 17 20351) HT_ ?_
         refine tat8 7 50 (bt 17 20479) HT_ HW_ hHeld ?_
         refine tat8 12 55 (bt 17 24575) HT_ HW_ hHeld ?_
         refine put 13 56 (bt 17 32767) HT_ ?_
         refine on 15 58 (bt 17 65535) HT_ (fun K hK => ?_)
         refine goes_ Try.func159 (by kernel_rfl) rfl #[.agg #[.int .i64 ((rd_T137 l0 x6_1).f2), .int .i64 ((rd_T137 l0 x6_1).f3)], .int .i64 a1] (by rfl) rfl rfl sl ?_
         with_reducible refine (spec_InSpan.calls ((rd_T137 l0 x6_1).f2) ((rd_T137 l0 x6_1).f3) a1 true _ A23.out).mono ?_
         rintro e w28 ⟨rfl, hb⟩
         refine ⟨_, rfl, ?_⟩
         replace HO_5 := rb HO_5 hb
         replace BK341 := bb BK341 hb
         replace HB := bsw hb
         (try clear hb)
         (try clear hb2)
         (try clear hk)
         (try clear hi)
         refine hK.out _ _ ⟨(hb_ HB hw343_0), (hb_ HB hw343_1), (hb_ HB hw343_2), (hb_ HB hw343_3), (hb_ HB hw344_0), (hb_ HB hw344_1), (hb_ HB hw344_2), (hb_ HB hw344_3)⟩ (fun hHeld => ?_)
         clear hK K
         refine nm 58 ?_
         refine put 16 59 (bt 17 131071) HT_ ?_
         refine done_ (done_of HT_.out (by kernel_rfl)) ?_
         obtain ⟨hcz29_0, hcz29_1, hfz29_0, hfz29_1⟩ := cc2 BK341
         try go_wp2_with (first | ((with_reducible refine gate_builtin (b := .append) (xs := #[.tmp 60, .tmp 62]) rfl ?_); at_builtin; refine Kd.R_append k134 (w0 := w) w.heap.size rfl (.tmp 60) (.tmp 62) 74 134 (.agg #[(.int .i64 0), (.int .i64 0)]) 16 rfl Try.underlying74 info134 rfl (by decide) (by omega) (.slice Ao26 x5_1.length co26) x5_1 (⟨((rd_T137 l0 x6_1).f0), ((rd_T137 l0 x6_1).f1)⟩ : S134) [.int .i64 ((rd_T137 l0 x6_1).f0), .int .i64 ((rd_T137 l0 x6_1).f1)] (fun k_ => k_ ≠ gb341) (fun _ => False) rfl rfl ?aP (fun _ hk => hk.elim) ?aF ?aO ?aB ?aS ?aL ?_; (case aP => exact k134_mkM _ _ _ (⟨((rd_T137 l0 x6_1).f0), ((rd_T137 l0 x6_1).f1)⟩ : S134)); (case aB => exact (sbw)); (case aF => exact (fun k_ hk => Kd.freshB (g := gb341) (o := .cells #[.int .i64 ((rd_T137 l0 x6_1).f0), .int .i64 ((rd_T137 l0 x6_1).f1)] 134 (0, 0)) (sk BK341) k_ hk)); (case aO => exact (sr HO_5)); (case aS => exact (below_size (sbw))); (case aL => have := LMc25.out; omega); intro v347 w30 ho hb hg hat; rw [← Ny346.out] at ho; replace BK341 := am (blk_grown (g := gb341) (o := .cells #[.int .i64 ((rd_T137 l0 x6_1).f0), .int .i64 ((rd_T137 l0 x6_1).f1)] 134 (0, 0)) (sk BK341) hg (Kd.R_away HO_5.out (fun _ hk => hk))); replace HB := am hb; have HO348 := am ho; clear HO_5; clear ho hb hg hat))
         go_roundg k2
         case measure => have := HK1.out; have := HK2.out; omega
         case rel => exact ⟨(y346), (wrap64 (x6_1 + 1)), sc, H', kk2, ⟨by exact rm HO348 (fun _ hk => trivial)⟩, ⟨sbw⟩⟩
        ·replace H := im H
         have H' := am H
         clear H
         obtain ⟨Ao31, co31, eo31⟩ := Kd.R_slice HO_5.out
         subst eo31
         try go_wp2
         replace HO_5 := am (Kd.R_drew HO_5.out)
         replace BK341 := am (blk_drew BK341.out)
         replace HB := am (below_drew1 HB.out)
         obtain ⟨p343, q343, ad343, e343, hw343_0, hw343_1, hw343_2, hw343_3, hx343_0, hx343_1, hx343_2, hx343_3⟩ := aT_T137 HR0 HB x6_1
         obtain rfl : ad339 = ad343 := (by injection e343)
         obtain ⟨p344, q344, ad344, e344, hw344_0, hw344_1, hw344_2, hw344_3, hx344_0, hx344_1, hx344_2, hx344_3⟩ := aT_T137 HR0 HB x6_1
         obtain rfl : ad339 = ad344 := (by injection e344)
         refine start_ (n := 17) (S := fun w' => w'.cell? (ad339.add ((x6_1).toNat * 4)) = some (.int .i64 ((rd_T137 l0 x6_1).f0)) ∧ w'.cell? ⟨(ad339.add ((x6_1).toNat * 4)).block, (ad339.add ((x6_1).toNat * 4)).off + 1, none⟩ = some (.int .i64 ((rd_T137 l0 x6_1).f1)) ∧ w'.cell? ⟨(ad339.add ((x6_1).toNat * 4)).block, (ad339.add ((x6_1).toNat * 4)).off + 2, none⟩ = some (.int .i64 ((rd_T137 l0 x6_1).f2)) ∧ w'.cell? ⟨(ad339.add ((x6_1).toNat * 4)).block, (ad339.add ((x6_1).toNat * 4)).off + 3, none⟩ = some (.int .i64 ((rd_T137 l0 x6_1).f3)) ∧ w'.cell? (ad339.add ((x6_1).toNat * 4)) = some (.int .i64 ((rd_T137 l0 x6_1).f0)) ∧ w'.cell? ⟨(ad339.add ((x6_1).toNat * 4)).block, (ad339.add ((x6_1).toNat * 4)).off + 1, none⟩ = some (.int .i64 ((rd_T137 l0 x6_1).f1)) ∧ w'.cell? ⟨(ad339.add ((x6_1).toNat * 4)).block, (ad339.add ((x6_1).toNat * 4)).off + 2, none⟩ = some (.int .i64 ((rd_T137 l0 x6_1).f2)) ∧ w'.cell? ⟨(ad339.add ((x6_1).toNat * 4)).block, (ad339.add ((x6_1).toNat * 4)).off + 3, none⟩ = some (.int .i64 ((rd_T137 l0 x6_1).f3))) (ds := []) #[false, false, false, false, false, false, false, false, false, false, false, false, false, false, false, false, false] (by kernel_rfl) rfl rfl ⟨(hb_ HB hw343_0), (hb_ HB hw343_1), (hb_ HB hw343_2), (hb_ HB hw343_3), (hb_ HB hw344_0), (hb_ HB hw344_1), (hb_ HB hw344_2), (hb_ HB hw344_3)⟩ (fun hHeld => ?_); refine with_tabW spec_LinksAt.tab11 spec_LinksAt.bits11 (fun HT_ HW_ => ?_)
         generalize wr.drew = w32 at HO_5 BK341 HB hx343_0 hx343_1 hx343_2 hx343_3 hx344_0 hx344_1 hx344_2 hx344_3 hHeld ⊢
         refine put 0 43 (bt 17 1) HT_ ?_
         refine put 1 44 (bt 17 3) HT_ ?_
         refine put 2 45 (bt 17 7) HT_ ?_
         refine put 3 46 (bt 17 15) HT_ ?_
         refine put 4 47 (bt 17 31) HT_ ?_
         refine put 5 48 (bt 17 63) HT_ ?_
         refine put 6 49 (bt 17 127) HT_ ?_
         refine put 8 51 (bt 17 383) HT_ ?_
         refine put 9 52 (bt 17 895) HT_ ?_
         refine put 10 53 (bt 17 1919) HT_ ?_
         refine put 11 54 (bt 17 3967) HT_ ?_
         refine put 14 57 (bt 17 20351) HT_ ?_
         refine tat8 7 50 (bt 17 20479) HT_ HW_ hHeld ?_
         refine tat8 12 55 (bt 17 24575) HT_ HW_ hHeld ?_
         refine put 13 56 (bt 17 32767) HT_ ?_
         refine on 15 58 (bt 17 65535) HT_ (fun K hK => ?_)
         refine goes_ Try.func159 (by kernel_rfl) rfl #[.agg #[.int .i64 ((rd_T137 l0 x6_1).f2), .int .i64 ((rd_T137 l0 x6_1).f3)], .int .i64 a1] (by rfl) rfl rfl sl ?_
         with_reducible refine (spec_InSpan.calls ((rd_T137 l0 x6_1).f2) ((rd_T137 l0 x6_1).f3) a1 false _ A23.out).mono ?_
         rintro e w33 ⟨rfl, hb⟩
         refine ⟨_, rfl, ?_⟩
         replace HO_5 := rb HO_5 hb
         replace BK341 := bb BK341 hb
         replace HB := bsw hb
         (try clear hb)
         (try clear hb2)
         (try clear hk)
         (try clear hi)
         refine hK.out _ _ ⟨(hb_ HB hw343_0), (hb_ HB hw343_1), (hb_ HB hw343_2), (hb_ HB hw343_3), (hb_ HB hw344_0), (hb_ HB hw344_1), (hb_ HB hw344_2), (hb_ HB hw344_3)⟩ (fun hHeld => ?_)
         clear hK K
         refine nm 58 ?_
         refine put 16 59 (bt 17 131071) HT_ ?_
         refine done_ (done_of HT_.out (by kernel_rfl)) ?_
         try go_wp2
         go_roundg k2
         case measure => have := HK1.out; have := HK2.out; omega
         case rel => exact ⟨(x5_1), (wrap64 (x6_1 + 1)), sc, H', kk2, ⟨by exact rm HO_5 (fun _ hk => trivial)⟩, ⟨sbw⟩⟩
   ·obtain rfl := Option.some.inj H
    go_wp2
    go_ret
    exact ⟨_, se, sr HO_5, sb⟩

end Go.Proofs.Ytiihaabhjphaeaa.QFnSwitched
