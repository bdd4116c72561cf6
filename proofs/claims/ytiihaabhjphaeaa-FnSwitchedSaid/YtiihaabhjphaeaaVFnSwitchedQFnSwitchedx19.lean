/- Printed by a program of the session. Conditions: none. (squeezed). -/
import Derived.Test.YtiihaabhjphaeaaVFnSwitchedQFnSwitchedx18
namespace Go.Proofs.Ytiihaabhjphaeaa.QFnSwitched
set_option maxHeartbeats 8000000
set_option maxRecDepth 100000
open Go.RowKit Go.Proofs.YtiihaabhjphaeaaW.PrintWords Go.Proofs.YtiihaabhjphaeaaW.PrintLast Go.Proofs.YtiihaabhjphaeaaW.PrintMore Go.Proofs.Ytiihaabhjphaeaa.Open Go.Proofs.Ytiihaabhjphaeaa.Sq
attribute [local go_sem] max2_int min2_int max_two min_two max_three min_three max_four min_four   -- for this text's walks alone
attribute [local go_sem] isSome_set
set_option linter.unusedVariables false
set_option linter.unusedSimpArgs false

theorem a19_10 {P : Prop} (h : P := by rw [hg]; exact (keep_size (w := w) (g := g) (row := none) a19_4)) : P := h
theorem a19_9 {P : Prop} (h : P := by rw [hg]; exact (keep_size (w := w) (g := g) (row := none) (by exact kp HK))) : P := h
theorem a19_8 {P : Prop} (h : P := by have h_ : (x4_2 : Int) < ((t620.length : Int) : Int) := sa; first | exact h_ | (have e_ := (HN74.out); omega) | simpa using h_) : P := h
theorem a19_7 {P : Prop} (h : P := by have h_ : (x4_2 : Int) < ((t620.length : Int) : Int) := sa; first | exact h_ | (have e_ := (Kd.S_reads' HO_626003.out).1; omega) | simpa using h_) : P := h
theorem a19_6 {P : Prop} (h : P := by repeat (first | (with_reducible first | exact HI0.out | apply IsS152.alloc | apply IsS152.drewN | apply IsS152.drew | apply IsS152.set_1 | apply IsS152.set_2 | refine IsS152.far ?_ NB0_616.out _) | exact HI0.out)) : P := h
theorem a19_5 {P : Prop} (h : P := by first | (rw [add_block]; exact Kd.S_lt HO_626003.out _ rfl) | (show (Addr.add _ _).block < _; rw [add_block]; exact Kd.S_lt HO_626003.out _ rfl) | exact Kd.S_lt HO_626003.out _ rfl) : P := h
theorem a19_4 {P : Prop} (h : P := by repeat (first | (with_reducible first | exact HK.out | apply KeepBut.set_ | apply keep_drewN | apply keep_drew | apply keep_alloc | refine keep_far ?_ GW616.out _) | exact HK.out)) : P := h
theorem a19_3 {P : Prop} (h : P := by first | (rw [add_block]; exact (fun e_ => ((HL651_2.out.1 _ e_.symm).2) rfl)) | (show some (Addr.add _ _).block ≠ _; rw [add_block]; exact (fun e_ => ((HL651_2.out.1 _ e_.symm).2) rfl)) | exact (fun e_ => ((HL651_2.out.1 _ e_.symm).2) rfl)) : P := h
theorem a19_2 {P : Prop} (h : P := by repeat (first | (with_reducible first | exact HB.out | apply below_alloc | apply pw_below_drewN | apply below_drew1 | refine below_set ?_ (IsS152.ge HI0.out) | refine below_set ?_ GE616.out | refine below_set ?_ GE625.out) | exact HB.out)) : P := h
theorem a19_1 {P : Prop} (h : P := by repeat (first | (with_reducible first | exact HK.out | apply KeepBut.set_ | apply keep_drewN | apply keep_drew | apply keep_alloc | refine keep_far ?_ GW616.out _ | refine keep_far ?_ GW625.out _) | exact HK.out)) : P := h
theorem a19_0 {P : Prop} (h : P := by repeat (first | (with_reducible first | exact HI0.out | apply IsS152.alloc | apply IsS152.drewN | apply IsS152.drew | apply IsS152.set_1 | apply IsS152.set_2 | refine IsS152.far ?_ NB0_616.out _ | refine IsS152.far ?_ NB0_625.out _) | exact HI0.out)) : P := h
def spec_l17Any.j0 : Nat → Int → List Int → Int → Int → Int → Int → Int → List (S105) → Option (Int × Int × Int × (List (S105)) × Int × Int)
  | 0, _, _, _, _, _, _, _, _ => none
  | k + 1, x4, x1000, x1001, x1002, x626000, x626001, x626002, x626003 => (spec_l1Below.f x1000 x1001 x1002 10).bind fun bt629 => (if bt629.1 = 0 then ((spec_l1Int.f x1000 bt629.2.1 bt629.2.2 (([(-1), 5, 6] : List Int))).bind fun bt635 => (some (x626000, x626001, bt635.1, x626003, bt635.2.1, bt635.2.2))) else (if bt629.1 = 1 then ((spec_l1Int.f x1000 bt629.2.1 bt629.2.2 (([(-1), 0, 5, 6] : List Int))).bind fun bt641 => (some (x626000, bt641.1, x626002, x626003, bt641.2.1, bt641.2.2))) else (if bt629.1 = 2 then (if 0 ≤ x4 then (if x4 ≤ (x626003.length : Int) then (some (x626000, x626001, x626002, (x626003.take (x4 : Int).toNat), bt629.2.1, bt629.2.2)) else (none)) else (none)) else (if bt629.1 = 3 then ((spec_l4Raw.f x1000 bt629.2.1 bt629.2.2).bind fun bt647 => (if 0 ≤ x4 then (if x4 < (x626003.length : Int) then (some (x626000, x626001, x626002, (x626003.set (x4 : Int).toNat (⟨(⟨(rd_T105 x626003 x4).f0.f0, bt647.1⟩ : S102), (rd_T105 x626003 x4).f1, (rd_T105 x626003 x4).f2⟩ : S105)), bt647.2.1, bt647.2.2)) else (none)) else (none))) else (if bt629.1 = 4 then (if 0 ≤ x4 then (if x4 < (x626003.length : Int) then (if ((rd_T105 x626003 x4).f1).length < 8796093022208 then (some (x626000, x626001, x626002, (x626003.set (x4 : Int).toNat (⟨(⟨(rd_T105 x626003 x4).f0.f0, (rd_T105 x626003 x4).f0.f1⟩ : S102), (((rd_T105 x626003 x4).f1) ++ [(⟨0, 1⟩ : S134)]), (rd_T105 x626003 x4).f2⟩ : S105)), bt629.2.1, bt629.2.2)) else (none)) else (none)) else (none)) else (some (x626000, x626001, x626002, x626003, bt629.2.1, bt629.2.2)))))))
def spec_l17Any.f (k : Nat) (s0_0 : List Int) (s0_1 : Int) (s0_2 : Int) : Option (Int × Int × Int × (List (S105)) × Int × Int) := (spec_l17Draw.f k s0_0 s0_1 s0_2).bind fun bt617 => (if (bt617.2.2.2.1.length : Int) > 0 then ((spec_l1Below.f s0_0 bt617.2.2.2.2.1 bt617.2.2.2.2.2 (bt617.2.2.2.1.length : Int)).bind fun bt626 => (spec_l17Any.j0 k bt626.1 s0_0 bt626.2.1 bt626.2.2 bt617.1 bt617.2.1 bt617.2.2.1 bt617.2.2.2.1)) else (spec_l17Any.j0 k 0 s0_0 bt617.2.2.2.2.1 bt617.2.2.2.2.2 bt617.1 bt617.2.1 bt617.2.2.1 bt617.2.2.2.1))
theorem spec_l17Any.mono_l : ∀ k, (∀ y0 y1 y2 y3 y4 y5 y6 y7, LeO (spec_l17Any.j0 k y0 y1 y2 y3 y4 y5 y6 y7) (spec_l17Any.j0 (k + 1) y0 y1 y2 y3 y4 y5 y6 y7))
  | 0 => fun _ _ _ _ _ _ _ _ r h => by simp [spec_l17Any.j0] at h
  | k + 1 => by
    have ih0 := spec_l17Any.mono_l k
    · intro y0 y1 y2 y3 y4 y5 y6 y7
      unfold spec_l17Any.j0
      have m0 := @spec_l17Draw.mono
      exact mo
theorem spec_l17Any.mono : ∀ a0 a1 a2 k, LeO (spec_l17Any.f k a0 a1 a2) (spec_l17Any.f (k + 1) a0 a1 a2) := by
  intro a0 a1 a2 k
  have ih0 := spec_l17Any.mono_l k
  unfold spec_l17Any.f
  have m0 := @spec_l17Draw.mono
  exact mo
def spec_l17Any.T13 : Bool × List (List Nat × List Nat) := (true, [([], []), ([0], [0]), ([], []), ([], []), ([3], [3]), ([1, 2, 0, 1, 2, 3, 4], [1, 2]), ([5, 0, 1, 2, 3, 4], [5]), ([6, 0, 1, 2, 3, 4], [6]), ([7, 4, 4, 0, 1, 2, 3, 4], [4, 7])])
def spec_l17Any.B13 : List Nat := [0, 1, 0, 0, 8, 31, 63, 127, 255]
theorem spec_l17Any.tab13 : rtab .any (opsOf Try.f78 13) = spec_l17Any.T13 := by kernel_rfl
theorem spec_l17Any.bits13 : waitsOk spec_l17Any.T13.2 spec_l17Any.B13 = true := by kernel_rfl
def spec_l17Any.T15 : Bool × List (List Nat × List Nat) := (true, [([], []), ([0], [0]), ([], []), ([], []), ([3], [3]), ([], []), ([4, 5], [4, 5]), ([6], [6]), ([7], [7]), ([], []), ([9], [9]), ([8, 10], [8, 10]), ([1, 2, 0, 1, 2, 3, 4, 5, 6, 7, 8, 9, 10, 11], [1, 2]), ([12, 0, 1, 2, 3, 4, 5, 6, 7, 8, 9, 10, 11], [12]), ([13, 11, 11, 0, 1, 2, 3, 4, 5, 6, 7, 8, 9, 10, 11], [11, 13])])
def spec_l17Any.B15 : List Nat := [0, 1, 0, 0, 8, 0, 56, 120, 248, 0, 512, 2040, 4095, 8191, 16383]
theorem spec_l17Any.tab15 : rtab .any (opsOf Try.f78 15) = spec_l17Any.T15 := by kernel_rfl
theorem spec_l17Any.bits15 : waitsOk spec_l17Any.T15.2 spec_l17Any.B15 = true := by kernel_rfl
theorem e19_0 {P : Prop} (h : P := by
 go_wp2_with (first | ((with_reducible refine gc 76 rfl ?_); refine gL (some 15) Try.func76 #[.pointer (some ⟨g, 0, none⟩), .int .i64 (t620.length : Int)] ?_; (with_reducible refine (spec_l1Below.calls g s0_0 t623 t624 (t620.length : Int) t626 t627 t628 w0 _ ?side1 ?side2 A12.out).mono ?_); (case side1 => repeat (first | (with_reducible first | exact HI0.out | apply IsS152.alloc | apply IsS152.drewN | apply IsS152.drew | apply IsS152.set_1 | apply IsS152.set_2 | refine IsS152.far ?_ NB0_616.out _ | refine IsS152.far ?_ NB0_625.out _) | exact HI0.out)); (case side2 => repeat (first | (with_reducible first | exact HB.out | apply below_alloc | apply pw_below_drewN | apply below_drew1 | refine below_set ?_ (IsS152.ge HI0.out) | refine below_set ?_ GE616.out | refine below_set ?_ GE625.out) | exact HB.out)); rintro e w16 ⟨rfl, hi, hb, hk⟩; refine ⟨_, rfl, ?_⟩; replace BK616 := am (KeepBut.blk hk (g' := gb616) (o := .cells #[.int .i64 0, .int .i64 0, .int .i64 0, .slice none 0 0] 31 (0, 0)) (sp BK616) NB616_0.out (by simp)); replace HO622 := am (Kd.S_mono (Kd.S_keep (IsS152.apartS (show IsS152 w0 _ g s0_0 t623 t624 from a19_0) (by (with_reducible repeat (first | apply Kd.S_alloc | apply Kd.S_drewN | apply Kd.S_drew)); exact (Kd.S_mono (Kd.S_far (p := ⟨gb625, 3, none⟩) (Kd.S_far (p := ⟨gb625, 2, none⟩) (Kd.S_far (p := ⟨gb625, 1, none⟩) (Kd.S_far (p := ⟨gb625, 0, none⟩) (Kd.S_types HO622.out BK625.out (by decide)) (fun _ hk => hk.2) (.int .i64 t617)) (fun _ hk => hk.2) (.int .i64 t618)) (fun _ hk => hk.2) (.int .i64 t619)) (fun _ hk => hk.2) (.slice Ao10 t620.length co10)) (fun _ h_ => h_.1))) (by decide)) hk (fun _ h => h.2)) (fun _ h => h.1)); replace BK625 := am (KeepBut.blk hk (g' := gb625) (o := .cells #[.int .i64 t617, .int .i64 t618, .int .i64 t619, .slice Ao10 t620.length co10] 31 (0, 0)) (sp BK625) NB625_0.out (by simp)); replace HK := am (KeepBut.trans a19_1 hk (.inl rfl)); replace HB := am hb; replace HI0 := am hi; (try clear hb); (try clear hk); (try clear hi)) | (have _ := c52b0; (with_reducible refine gc 76 rfl ?_); refine gL (some 17) Try.func76 #[.pointer (some ⟨g, 0, none⟩), .int .i64 10] ?_; (with_reducible refine (spec_l1Below.calls g s0_0 x1001_2 x1002_2 10 t629 t630 t631 w0 _ ?side1 ?side2 A17.out).mono ?_); (case side1 => repeat (first | (with_reducible first | exact HI0.out | apply IsS152.alloc | apply IsS152.drewN | apply IsS152.drew | apply IsS152.set_1 | apply IsS152.set_2 | refine IsS152.far ?_ NB0_616.out _ | refine IsS152.far ?_ NB0_625.out _) | exact HI0.out)); (case side2 => repeat (first | (with_reducible first | exact HB.out | apply below_alloc | apply pw_below_drewN | apply below_drew1 | refine below_set ?_ (IsS152.ge HI0.out) | refine below_set ?_ GE616.out | refine below_set ?_ GE625.out) | exact HB.out)); rintro e w85 ⟨rfl, hi, hb, hk⟩; refine ⟨_, rfl, ?_⟩; replace HO_626003 := am (Kd.S_mono (Kd.S_keep (IsS152.apartS (show IsS152 w0 _ g s0_0 x1001_2 x1002_2 from a19_0) (ss HO_626003) (by decide)) hk (fun _ h => h.2)) (fun _ h => h.1)); replace BK616 := am (KeepBut.blk hk (g' := gb616) (o := .cells #[.int .i64 0, .int .i64 0, .int .i64 0, .slice none 0 0] 31 (0, 0)) (sk BK616) NB616_0.out (by simp)); replace BK625 := am (KeepBut.blk hk (g' := gb625) (o := .cells #[.int .i64 t617, .int .i64 t618, .int .i64 t619, .slice Ao10 t620.length co10] 31 (0, 0)) (sk BK625) NB625_0.out (by simp)); replace HK := am (KeepBut.trans a19_1 hk (.inl rfl)); replace HB := am hb; replace HI0 := am hi; (try clear hb); (try clear hk); (try clear hi); have hnb86 := NB625_616.out; have hnc86 := NB616_625.out; have hnb87 := NB625_0.out; have hnc87 := NB0_625.out; obtain ⟨hcz88_0, hcz88_1, hcz88_2, hcz88_3, hfz88_0, hfz88_1, hfz88_2, hfz88_3⟩ := cc4 BK625; have hnb89 := NB616_0.out; have hnc89 := NB0_616.out; obtain ⟨hcz90_0, hcz90_1, hcz90_2, hcz90_3, hfz90_0, hfz90_1, hfz90_2, hfz90_3⟩ := cc4 BK616) | (have _ := c42b0; (with_reducible refine gc 76 rfl ?_); refine gL (some 17) Try.func76 #[.pointer (some ⟨g, 0, none⟩), .int .i64 10] ?_; (with_reducible refine (spec_l1Below.calls g s0_0 x1001_2 x1002_2 10 t629 t630 t631 w0 _ ?side1 ?side2 A17.out).mono ?_); (case side1 => repeat (first | (with_reducible first | exact HI0.out | apply IsS152.alloc | apply IsS152.drewN | apply IsS152.drew | apply IsS152.set_1 | apply IsS152.set_2 | refine IsS152.far ?_ NB0_616.out _ | refine IsS152.far ?_ NB0_625.out _) | exact HI0.out)); (case side2 => repeat (first | (with_reducible first | exact HB.out | apply below_alloc | apply pw_below_drewN | apply below_drew1 | refine below_set ?_ (IsS152.ge HI0.out) | refine below_set ?_ GE616.out | refine below_set ?_ GE625.out) | exact HB.out)); rintro e w45 ⟨rfl, hi, hb, hk⟩; refine ⟨_, rfl, ?_⟩; replace HO_626003 := am (Kd.S_mono (Kd.S_keep (IsS152.apartS (show IsS152 w0 _ g s0_0 x1001_2 x1002_2 from a19_0) (ss HO_626003) (by decide)) hk (fun _ h => h.2)) (fun _ h => h.1)); replace BK616 := am (KeepBut.blk hk (g' := gb616) (o := .cells #[.int .i64 0, .int .i64 0, .int .i64 0, .slice none 0 0] 31 (0, 0)) (sk BK616) NB616_0.out (by simp)); replace BK625 := am (KeepBut.blk hk (g' := gb625) (o := .cells #[.int .i64 t617, .int .i64 t618, .int .i64 t619, .slice Ao10 t620.length co10] 31 (0, 0)) (sk BK625) NB625_0.out (by simp)); replace HK := am (KeepBut.trans a19_1 hk (.inl rfl)); replace HB := am hb; replace HI0 := am hi; (try clear hb); (try clear hk); (try clear hi); have hnb46 := NB625_616.out; have hnc46 := NB616_625.out; have hnb47 := NB625_0.out; have hnc47 := NB0_625.out; obtain ⟨hcz48_0, hcz48_1, hcz48_2, hcz48_3, hfz48_0, hfz48_1, hfz48_2, hfz48_3⟩ := cc4 BK625; have q49 : (x4_2 : Int) ≤ ((t620.length : Int) : Int) := sa; obtain ⟨i049, hi049, _, hsz49, _⟩ := info_parts info105; have hcut49 := cut_to (P := Try.prog) 29 105 .i64 Try.underlying29 hi049 Ao10 t620.length co10 x4_2 (sa) q49 (Kd.S_reads' HO_626003.out).2.1; have hr49 := Kd.S_take (m := (x4_2 : Int).toNat) HO_626003.out (by omega); have hy49 : y644.length = (x4_2 : Int).toNat := (by rw [Ny644.out, List.length_take]; omega); rw [← Ny644.out] at hr49; rw [← hy49] at hr49 hcut49; clear hy49 hi049 hsz49 HO_626003; have HO646 := am hr49; clear hr49; replace q49 := eq_true q49; have hnb50 := NB616_0.out; have hnc50 := NB0_616.out; obtain ⟨hcz51_0, hcz51_1, hcz51_2, hcz51_3, hfz51_0, hfz51_1, hfz51_2, hfz51_3⟩ := cc4 BK616) | ((with_reducible refine gc 76 rfl ?_); refine gL (some 17) Try.func76 #[.pointer (some ⟨g, 0, none⟩), .int .i64 10] ?_; (with_reducible refine (spec_l1Below.calls g s0_0 x1001_2 x1002_2 10 t629 t630 t631 w0 _ ?side1 ?side2 A17.out).mono ?_); (case side1 => repeat (first | (with_reducible first | exact HI0.out | apply IsS152.alloc | apply IsS152.drewN | apply IsS152.drew | apply IsS152.set_1 | apply IsS152.set_2 | refine IsS152.far ?_ NB0_616.out _ | refine IsS152.far ?_ NB0_625.out _) | exact HI0.out)); (case side2 => repeat (first | (with_reducible first | exact HB.out | apply below_alloc | apply pw_below_drewN | apply below_drew1 | refine below_set ?_ (IsS152.ge HI0.out) | refine below_set ?_ GE616.out | refine below_set ?_ GE625.out) | exact HB.out)); rintro e w20 ⟨rfl, hi, hb, hk⟩; refine ⟨_, rfl, ?_⟩; replace HO_626003 := am (Kd.S_mono (Kd.S_keep (IsS152.apartS (show IsS152 w0 _ g s0_0 x1001_2 x1002_2 from a19_0) (ss HO_626003) (by decide)) hk (fun _ h => h.2)) (fun _ h => h.1)); replace BK616 := am (KeepBut.blk hk (g' := gb616) (o := .cells #[.int .i64 0, .int .i64 0, .int .i64 0, .slice none 0 0] 31 (0, 0)) (sk BK616) NB616_0.out (by simp)); replace BK625 := am (KeepBut.blk hk (g' := gb625) (o := .cells #[.int .i64 t617, .int .i64 t618, .int .i64 t619, .slice Ao10 t620.length co10] 31 (0, 0)) (sk BK625) NB625_0.out (by simp)); replace HK := am (KeepBut.trans a19_1 hk (.inl rfl)); replace HB := am hb; replace HI0 := am hi; (try clear hb); (try clear hk); (try clear hi)) | ((with_reducible refine gd 21 rfl ?_); refine Kd.R_lit (Kd.int .i64) _ 3 ?hg (N := 21) ?hd (xs := ([(-1), 5, 6] : List Int)) (inner := [.int .i64 (-1), .int .i64 5, .int .i64 6]) (ok := fun _ => True) (okp := fun _ => True) ?hr ?hp (fun _ hk => hk) trivial (Below.refl _ _) (Nat.le_refl _) (by simp) ?_; (case hd => rfl); (case hg => rfl); (case hr => first | (go_simp; done) | (go_simp; rfl)); (case hp => exact (Reps.one (show Kd.M (Kd.int .i64) _ _ _ (-1) [.int .i64 (-1)] from rfl) (Reps.one (show Kd.M (Kd.int .i64) _ _ _ 5 [.int .i64 5] from rfl) (Reps.one (show Kd.M (Kd.int .i64) _ _ _ 6 [.int .i64 6] from rfl) (Reps.none _ _))))); intro v633 w21 ho22 hb hg_ hnew_; clear hg_ hnew_; (first | rw [← Ny632.out] at ho22 | (simp only [Int.reduceToNat] at ho22; rw [← Ny632.out] at ho22)); replace HO_626003 := am (Kd.S_elder' (ss HO_626003) (Kd.R_base ho22) hb); have HO634 := am (Kd.R_lower ho22 (keep_size (w := w) (g := g) (row := none) a19_1)); replace BK616 := bb BK616 hb; replace BK625 := bb BK625 hb; replace HK := am (KeepBut.trans a19_1 (KeepBut.of_below hb g none) (.inl rfl)); replace HB := am (below_step a19_2 hb); replace HI0 := am (IsS152.below a19_0 hb); clear hb ho22; obtain ⟨Ao23, co23, eo23⟩ := Kd.R_slice HO634.out; subst eo23) | ((with_reducible refine gc 109 rfl ?_); refine gL (some 22) Try.func109 #[.pointer (some ⟨g, 0, none⟩), .slice Ao23 y632.length co23] ?_; (with_reducible refine (spec_l1Int.calls g s0_0 t630 t631 _ _ y632 t635 t636 t637 w0 _ ?side1 ?side2 ?side3 ?side4 ?side5 A19.out).mono ?_); (case side1 => repeat (first | (with_reducible first | exact HI0.out | apply IsS152.alloc | apply IsS152.drewN | apply IsS152.drew | apply IsS152.set_1 | apply IsS152.set_2 | refine IsS152.far ?_ NB0_616.out _ | refine IsS152.far ?_ NB0_625.out _) | exact HI0.out)); (case side2 => repeat (first | (with_reducible first | exact HB.out | apply below_alloc | apply pw_below_drewN | apply below_drew1 | refine below_set ?_ (IsS152.ge HI0.out) | refine below_set ?_ GE616.out | refine below_set ?_ GE625.out) | exact HB.out)); (case side3 => exact cr HO634); (case side4 => exact (Kd.R_reads' HO634.out).2.1); (case side5 => exact far_slice (IsS152.own_ne HI0.out HO634.out (by decide))); rintro e w24 ⟨rfl, hi, hb, hk⟩; refine ⟨_, rfl, ?_⟩; replace HO_626003 := am (Kd.S_mono (Kd.S_keep (IsS152.apartS (show IsS152 w0 _ g s0_0 t630 t631 from a19_0) (ss HO_626003) (by decide)) hk (fun _ h => h.2)) (fun _ h => h.1)); replace BK616 := am (KeepBut.blk hk (g' := gb616) (o := .cells #[.int .i64 0, .int .i64 0, .int .i64 0, .slice none 0 0] 31 (0, 0)) (sk BK616) NB616_0.out (by simp)); replace BK625 := am (KeepBut.blk hk (g' := gb625) (o := .cells #[.int .i64 t617, .int .i64 t618, .int .i64 t619, .slice Ao10 t620.length co10] 31 (0, 0)) (sk BK625) NB625_0.out (by simp)); replace HO634 := am (Kd.R_mono (Kd.R_keep (IsS152.apart (show IsS152 w0 _ g s0_0 t630 t631 from a19_0) (sr HO634) (by decide)) hk (fun _ h => h.2)) (fun _ h => h.1)); replace HK := am (KeepBut.trans a19_1 hk (.inl rfl)); replace HB := am hb; replace HI0 := am hi; (try clear hb); (try clear hk); (try clear hi); have hnb25 := NB625_616.out; have hnc25 := NB616_625.out; have hnb26 := NB625_0.out; have hnc26 := NB0_625.out; obtain ⟨hcz27_0, hcz27_1, hcz27_2, hcz27_3, hfz27_0, hfz27_1, hfz27_2, hfz27_3⟩ := cc4 BK625; have hnb28 := NB616_0.out; have hnc28 := NB0_616.out; obtain ⟨hcz29_0, hcz29_1, hcz29_2, hcz29_3, hfz29_0, hfz29_1, hfz29_2, hfz29_3⟩ := cc4 BK616) | ((with_reducible refine gd 27 rfl ?_); refine Kd.R_lit (Kd.int .i64) _ 3 ?hg (N := 27) ?hd (xs := ([(-1), 0, 5, 6] : List Int)) (inner := [.int .i64 (-1), .int .i64 0, .int .i64 5, .int .i64 6]) (ok := fun _ => True) (okp := fun _ => True) ?hr ?hp (fun _ hk => hk) trivial (Below.refl _ _) (Nat.le_refl _) (by simp) ?_; (case hd => rfl); (case hg => rfl); (case hr => first | (go_simp; done) | (go_simp; rfl)); (case hp => exact (Reps.one (show Kd.M (Kd.int .i64) _ _ _ (-1) [.int .i64 (-1)] from rfl) (Reps.one (show Kd.M (Kd.int .i64) _ _ _ 0 [.int .i64 0] from rfl) (Reps.one (show Kd.M (Kd.int .i64) _ _ _ 5 [.int .i64 5] from rfl) (Reps.one (show Kd.M (Kd.int .i64) _ _ _ 6 [.int .i64 6] from rfl) (Reps.none _ _)))))); intro v639 w33 ho34 hb hg_ hnew_; clear hg_ hnew_; (first | rw [← Ny638.out] at ho34 | (simp only [Int.reduceToNat] at ho34; rw [← Ny638.out] at ho34)); replace HO_626003 := am (Kd.S_elder' (ss HO_626003) (Kd.R_base ho34) hb); have HO640 := am (Kd.R_lower ho34 (keep_size (w := w) (g := g) (row := none) a19_1)); replace BK616 := bb BK616 hb; replace BK625 := bb BK625 hb; replace HK := am (KeepBut.trans a19_1 (KeepBut.of_below hb g none) (.inl rfl)); replace HB := am (below_step a19_2 hb); replace HI0 := am (IsS152.below a19_0 hb); clear hb ho34; obtain ⟨Ao35, co35, eo35⟩ := Kd.R_slice HO640.out; subst eo35) | ((with_reducible refine gc 109 rfl ?_); refine gL (some 28) Try.func109 #[.pointer (some ⟨g, 0, none⟩), .slice Ao35 y638.length co35] ?_; (with_reducible refine (spec_l1Int.calls g s0_0 t630 t631 _ _ y638 t641 t642 t643 w0 _ ?side1 ?side2 ?side3 ?side4 ?side5 A31.out).mono ?_); (case side1 => repeat (first | (with_reducible first | exact HI0.out | apply IsS152.alloc | apply IsS152.drewN | apply IsS152.drew | apply IsS152.set_1 | apply IsS152.set_2 | refine IsS152.far ?_ NB0_616.out _ | refine IsS152.far ?_ NB0_625.out _) | exact HI0.out)); (case side2 => repeat (first | (with_reducible first | exact HB.out | apply below_alloc | apply pw_below_drewN | apply below_drew1 | refine below_set ?_ (IsS152.ge HI0.out) | refine below_set ?_ GE616.out | refine below_set ?_ GE625.out) | exact HB.out)); (case side3 => exact cr HO640); (case side4 => exact (Kd.R_reads' HO640.out).2.1); (case side5 => exact far_slice (IsS152.own_ne HI0.out HO640.out (by decide))); rintro e w36 ⟨rfl, hi, hb, hk⟩; refine ⟨_, rfl, ?_⟩; replace HO_626003 := am (Kd.S_mono (Kd.S_keep (IsS152.apartS (show IsS152 w0 _ g s0_0 t630 t631 from a19_0) (ss HO_626003) (by decide)) hk (fun _ h => h.2)) (fun _ h => h.1)); replace BK616 := am (KeepBut.blk hk (g' := gb616) (o := .cells #[.int .i64 0, .int .i64 0, .int .i64 0, .slice none 0 0] 31 (0, 0)) (sk BK616) NB616_0.out (by simp)); replace BK625 := am (KeepBut.blk hk (g' := gb625) (o := .cells #[.int .i64 t617, .int .i64 t618, .int .i64 t619, .slice Ao10 t620.length co10] 31 (0, 0)) (sk BK625) NB625_0.out (by simp)); replace HO640 := am (Kd.R_mono (Kd.R_keep (IsS152.apart (show IsS152 w0 _ g s0_0 t630 t631 from a19_0) (sr HO640) (by decide)) hk (fun _ h => h.2)) (fun _ h => h.1)); replace HK := am (KeepBut.trans a19_1 hk (.inl rfl)); replace HB := am hb; replace HI0 := am hi; (try clear hb); (try clear hk); (try clear hi); have hnb37 := NB625_616.out; have hnc37 := NB616_625.out; have hnb38 := NB625_0.out; have hnc38 := NB0_625.out; obtain ⟨hcz39_0, hcz39_1, hcz39_2, hcz39_3, hfz39_0, hfz39_1, hfz39_2, hfz39_3⟩ := cc4 BK625; have hnb40 := NB616_0.out; have hnc40 := NB0_616.out; obtain ⟨hcz41_0, hcz41_1, hcz41_2, hcz41_3, hfz41_0, hfz41_1, hfz41_2, hfz41_3⟩ := cc4 BK616))
 first
 | have _ := A12
   go_meet
   case rel => exact ⟨_, (t626), (t627), (t628), sc, H', ⟨by first | omega | exact Nat.le_refl _⟩, ⟨ss HO622⟩, ⟨sk BK616⟩, ⟨sk BK625⟩, ⟨a19_0⟩, ⟨a19_1⟩, ⟨a19_2⟩⟩
 | have _ := A19
   refine bodyPost_ret (results_cell_row rfl _ _ gb616 31 #[.int .i64 t617, .int .i64 t618, .int .i64 t635, .slice Ao10 t620.length co10] (0, 0) _ rfl (sp BK616) Try.underlying31 rfl (by kernel_rfl)) rfl ?_
   exact ⟨_, se, by (with_reducible repeat (first | apply Kd.S_alloc | apply Kd.S_drewN | apply Kd.S_drew)); exact Kd.S_mono (Kd.S_far (p := ⟨gb616, 3, none⟩) (Kd.S_far (p := ⟨gb616, 2, none⟩) (Kd.S_far (p := ⟨gb616, 1, none⟩) (Kd.S_far (p := ⟨gb616, 0, none⟩) (Kd.S_far (p := ⟨gb625, 2, none⟩) (Kd.S_types (Kd.S_types HO_626003.out BK625.out (by decide)) BK616.out (by decide)) (fun _ hk => hk.1.2) (.int .i64 t635)) (fun _ hk => hk.2) (.int .i64 t617)) (fun _ hk => hk.2) (.int .i64 t618)) (fun _ hk => hk.2) (.int .i64 t635)) (fun _ hk => hk.2) (.slice Ao10 t620.length co10)) (fun _ hk => trivial), a19_0, a19_2, a19_1⟩
 | have _ := A31
   refine bodyPost_ret (results_cell_row rfl _ _ gb616 31 #[.int .i64 t617, .int .i64 t641, .int .i64 t619, .slice Ao10 t620.length co10] (0, 0) _ rfl (sp BK616) Try.underlying31 rfl (by kernel_rfl)) rfl ?_
   exact ⟨_, se, by (with_reducible repeat (first | apply Kd.S_alloc | apply Kd.S_drewN | apply Kd.S_drew)); exact Kd.S_mono (Kd.S_far (p := ⟨gb616, 3, none⟩) (Kd.S_far (p := ⟨gb616, 2, none⟩) (Kd.S_far (p := ⟨gb616, 1, none⟩) (Kd.S_far (p := ⟨gb616, 0, none⟩) (Kd.S_far (p := ⟨gb625, 1, none⟩) (Kd.S_types (Kd.S_types HO_626003.out BK625.out (by decide)) BK616.out (by decide)) (fun _ hk => hk.1.2) (.int .i64 t641)) (fun _ hk => hk.2) (.int .i64 t617)) (fun _ hk => hk.2) (.int .i64 t641)) (fun _ hk => hk.2) (.int .i64 t619)) (fun _ hk => hk.2) (.slice Ao10 t620.length co10)) (fun _ hk => trivial), a19_0, a19_2, a19_1⟩
 | have _ := c43b0
   refine bodyPost_ret (results_cell_row rfl _ _ gb616 31 #[.int .i64 t617, .int .i64 t618, .int .i64 t619, .slice Ao10 y644.length co10] (0, 0) _ rfl (sp BK616) Try.underlying31 rfl (by kernel_rfl)) rfl ?_
   exact ⟨_, se, by (with_reducible repeat (first | apply Kd.S_alloc | apply Kd.S_drewN | apply Kd.S_drew)); exact Kd.S_mono (Kd.S_far (p := ⟨gb616, 3, none⟩) (Kd.S_far (p := ⟨gb616, 2, none⟩) (Kd.S_far (p := ⟨gb616, 1, none⟩) (Kd.S_far (p := ⟨gb616, 0, none⟩) (Kd.S_far (p := ⟨gb625, 3, none⟩) (Kd.S_types (Kd.S_types HO646.out BK625.out (by decide)) BK616.out (by decide)) (fun _ hk => hk.1.2) (.slice Ao10 y644.length co10)) (fun _ hk => hk.2) (.int .i64 t617)) (fun _ hk => hk.2) (.int .i64 t618)) (fun _ hk => hk.2) (.int .i64 t619)) (fun _ hk => hk.2) (.slice Ao10 y644.length co10)) (fun _ hk => trivial), a19_0, a19_2, a19_1⟩
 | refine bodyPost_ret (results_cell_row rfl _ _ gb616 31 #[.int .i64 t617, .int .i64 t618, .int .i64 t619, .slice Ao10 t620.length co10] (0, 0) _ rfl (sp BK616) Try.underlying31 rfl (by kernel_rfl)) rfl ?_
   exact ⟨_, se, by (with_reducible repeat (first | apply Kd.S_alloc | apply Kd.S_drewN | apply Kd.S_drew)); exact Kd.S_mono (Kd.S_far (p := ⟨gb616, 3, none⟩) (Kd.S_far (p := ⟨gb616, 2, none⟩) (Kd.S_far (p := ⟨gb616, 1, none⟩) (Kd.S_far (p := ⟨gb616, 0, none⟩) (Kd.S_types HO_626003.out BK616.out (by decide)) (fun _ hk => hk.2) (.int .i64 t617)) (fun _ hk => hk.2) (.int .i64 t618)) (fun _ hk => hk.2) (.int .i64 t619)) (fun _ hk => hk.2) (.slice Ao10 t620.length co10)) (fun _ hk => trivial), a19_0, a19_2, a19_1⟩
   ) : P := h
theorem spec_l17Any.calls (k : Nat) (g : Nat) (s0_0 : List Int) (s0_1 : Int) (s0_2 : Int) (r1 : Int) (r2 : Int) (r3 : Int) (r4 : List (S105)) (r5 : Int) (r6 : Int) (w0 w : World) (hI : IsS152 w0 w g s0_0 s0_1 s0_2) (hB : Below w0.heap.size w0 w) (h : spec_l17Any.f k s0_0 s0_1 s0_2 = some (r1, r2, r3, r4, r5, r6)) :
    Calls Try.prog 78 #[.pointer (some ⟨g, 0, none⟩)] w fun e w' => ∃ v3_ : Value, e = .returned (.agg #[.int .i64 r1, .int .i64 r2, .int .i64 r3, v3_]) ∧ Kd.S k105 105 w' w.heap.size (fun _ => True) v3_ r4 ∧ IsS152 w0 w' g s0_0 r5 r6 ∧ Below w0.heap.size w0 w' ∧ KeepBut w w' g none := by
 have hu31 := Try.underlying31
 have hu134 := Try.underlying134
 have HI0 := am hI
 have HK := am (KeepBut.refl w g none)
 have HL := am hB.size
 clear hI
 have HW0 := am hB.size
 have HB := am hB
 clear hB
 have H := h; unfold spec_l17Any.f at H
 clear h
 obtain ⟨⟨t617, t618, t619, t620, t623, t624⟩, A2, H⟩ := bnd H
 try dsimp only at H
 have HC3 := am H
 clear H
 go_enter Try.func78, Try.ntmps78
 go_upto_if 10 with (first | ((with_reducible refine gd 2 rfl ?_); refine box_event ?hg (N := 2) ?hd (cs := #[.int .i64 0, .int .i64 0, .int .i64 0, .slice none 0 0]) (t := 31) ?hr ?_; (case hd => rfl); (case hg => rfl); (case hr => first | (go_simp; done) | (go_simp; rfl)); intro gb616 hg w4 hbox hb; have n0_ := am (IsS152.below (by exact si152 HI0) hb); have n1_ := am (KeepBut.trans (by exact kp HK) (KeepBut.of_below hb g none) (.inl rfl)); have n2_ := am (below_step (by exact sj152 HB HI0) hb); have n3_ := am (hbox); have n4_ := am ((a19_9 : w.heap.size ≤ gb616)); have n5_ := am ((Nat.le_trans HW0.out (a19_9 : w.heap.size ≤ gb616) : w0.heap.size ≤ gb616)); have n6_ := am ((by rw [hg]; exact Nat.ne_of_lt (IsS152.lt (show IsS152 w0 _ g s0_0 s0_1 s0_2 from by exact si152 HI0)) : g ≠ gb616)); have n7_ := am ((by rw [hg]; exact Nat.ne_of_gt (IsS152.lt (show IsS152 w0 _ g s0_0 s0_1 s0_2 from by exact si152 HI0)) : gb616 ≠ g)); clear HI0; clear HK; clear HB; have HI0 := n0_; have HK := n1_; have HB := n2_; have BK616 := n3_; have GW616 := n4_; have GE616 := n5_; have NB0_616 := n6_; have NB616_0 := n7_; clear n0_ n1_ n2_ n3_ n4_ n5_ n6_ n7_; clear hb hbox hg) | ((with_reducible refine gc 87 rfl ?_); refine goesL_ (some 6) rfl rfl Try.func87 (by kernel_rfl) rfl #[.pointer (some ⟨g, 0, none⟩)] rfl sl ?_; (with_reducible refine (spec_l17Draw.calls k g s0_0 s0_1 s0_2 t617 t618 t619 t620 t623 t624 w0 _ ?side1 ?side2 A2.out).mono ?_); (case side1 => repeat (first | (with_reducible first | exact HI0.out | apply IsS152.alloc | apply IsS152.drewN | apply IsS152.drew | apply IsS152.set_1 | apply IsS152.set_2 | refine IsS152.far ?_ NB0_616.out _) | exact HI0.out)); (case side2 => repeat (first | (with_reducible first | exact HB.out | apply below_alloc | apply pw_below_drewN | apply below_drew1 | refine below_set ?_ (IsS152.ge HI0.out) | refine below_set ?_ GE616.out) | exact HB.out)); rintro e w5 ⟨v621, rfl, ho0, hi, hb, hk⟩; refine ⟨_, rfl, ?_⟩; have n0_ := am (KeepBut.blk hk (g' := gb616) (o := .cells #[.int .i64 0, .int .i64 0, .int .i64 0, .slice none 0 0] 31 (0, 0)) (sk BK616) NB616_0.out (by simp)); have n1_ := am (Kd.S_lower ho0 (keep_size (w := w) (g := g) (row := none) a19_4)); have n2_ := am (KeepBut.trans a19_4 hk (.inl rfl)); have n3_ := am (hb); have n4_ := am (hi); clear BK616; clear HK; clear HB; clear HI0; have BK616 := n0_; have HO622 := n1_; have HK := n2_; have HB := n3_; have HI0 := n4_; clear n0_ n1_ n2_ n3_ n4_; (try clear hb); (try clear hk); (try clear hi); (try clear ho0)) | ((with_reducible refine gd 3 rfl ?_); refine box_event ?hg (N := 3) ?hd (cs := #[.int .i64 0, .int .i64 0, .int .i64 0, .slice none 0 0]) (t := 31) ?hr ?_; (case hd => rfl); (case hg => rfl); (case hr => first | (go_simp; done) | (go_simp; rfl)); intro gb625 hg w6 hbox hb; have n0_ := am (Kd.S_below (ss HO622) hb); have n1_ := am (IsS152.below a19_6 hb); have n2_ := bb BK616 hb; have n3_ := am (KeepBut.trans a19_4 (KeepBut.of_below hb g none) (.inl rfl)); have n4_ := am (below_step (by repeat (first | (with_reducible first | exact HB.out | apply below_alloc | apply pw_below_drewN | apply below_drew1 | refine below_set ?_ (IsS152.ge HI0.out) | refine below_set ?_ GE616.out) | exact HB.out)) hb); have n5_ := am (hbox); have n6_ := am ((a19_10 : w.heap.size ≤ gb625)); have n7_ := am ((Nat.le_trans HW0.out (a19_10 : w.heap.size ≤ gb625) : w0.heap.size ≤ gb625)); have n8_ := am ((by rw [hg]; exact Nat.ne_of_lt (blk_lt (g := gb616) (o := .cells #[.int .i64 0, .int .i64 0, .int .i64 0, .slice none 0 0] 31 (0, 0)) (sk BK616)) : gb616 ≠ gb625)); have n9_ := am ((by rw [hg]; exact Nat.ne_of_gt (blk_lt (g := gb616) (o := .cells #[.int .i64 0, .int .i64 0, .int .i64 0, .slice none 0 0] 31 (0, 0)) (sk BK616)) : gb625 ≠ gb616)); have n10_ := am ((by rw [hg]; exact Nat.ne_of_lt (IsS152.lt (show IsS152 w0 _ g s0_0 t623 t624 from a19_6)) : g ≠ gb625)); have n11_ := am ((by rw [hg]; exact Nat.ne_of_gt (IsS152.lt (show IsS152 w0 _ g s0_0 t623 t624 from a19_6)) : gb625 ≠ g)); clear HO622; clear HI0; clear BK616; clear HK; clear HB; have HO622 := n0_; have HI0 := n1_; have BK616 := n2_; have HK := n3_; have HB := n4_; have BK625 := n5_; have GW625 := n6_; have GE625 := n7_; have NB616_625 := n8_; have NB625_616 := n9_; have NB0_625 := n10_; have NB625_0 := n11_; clear n0_ n1_ n2_ n3_ n4_ n5_ n6_ n7_ n8_ n9_ n10_ n11_; clear hb hbox hg; have hnb7 := NB625_616.out; have hnc7 := NB616_625.out; have hnb8 := NB625_0.out; have hnc8 := NB0_625.out; have hcz9_0 : w6.cell? ⟨gb625, 0, none⟩ = some (.int .i64 0) := bc0 BK625; have hcz9_1 : w6.cell? ⟨gb625, 1, none⟩ = some (.int .i64 0) := bc1 BK625; have hcz9_2 : w6.cell? ⟨gb625, 2, none⟩ = some (.int .i64 0) := bc2 BK625; have hcz9_3 : w6.cell? ⟨gb625, 3, none⟩ = some (.slice none 0 0) := bc3 BK625; have hfz9_0 := blk_frozen BK625.out 0; have hfz9_1 := blk_frozen BK625.out 1; have hfz9_2 := blk_frozen BK625.out 2; have hfz9_3 := blk_frozen BK625.out 3; obtain ⟨Ao10, co10, eo10⟩ := Kd.S_slice HO622.out; subst eo10))
 (try simp only [Act.put, List.setIfInBounds_toArray, List.set_cons_zero, List.set_cons_succ])
 go_cut [4] (fun v4 wc => ∃ (kq : Nat) (x4_2 : Int) (x1001_2 : Int) (x1002_2 : Int), v4 = .int .i64 x4_2 ∧ Aside0 (spec_l17Any.j0 kq x4_2 s0_0 x1001_2 x1002_2 t617 t618 t619 t620 = some (r1, r2, r3, r4, r5, r6)) ∧ Aside0 (kq ≤ k) ∧ Aside0 (Kd.S k105 105 wc w.heap.size (fun _ => True) (.slice Ao10 t620.length co10) t620) ∧ Aside0 (wc.heap[gb616]? = some (.cells #[.int .i64 0, .int .i64 0, .int .i64 0, (.slice none 0 0)] 31 (0, 0))) ∧ Aside0 (wc.heap[gb625]? = some (.cells #[.int .i64 t617, .int .i64 t618, .int .i64 t619, (.slice Ao10 t620.length co10)] 31 (0, 0))) ∧ Aside0 (IsS152 w0 wc g s0_0 x1001_2 x1002_2) ∧ Aside0 (KeepBut w wc g none) ∧ Aside0 (Below w0.heap.size w0 wc))
 case first =>
  have H := HC3.out
  clear HC3
  obtain ⟨c11, c11b0, H⟩ | ⟨c11, c11b0, H⟩ := ic_ H
  ·have c11b1 : decide (0 < t620.length) = true := decide_eq_true (by omega)
   clear c11
   (first | rw [c11b0] | (simp only [i64_w, i32_w]; rw [c11b0]) | rw [c11b1] | skip)
   obtain ⟨⟨t626, t627, t628⟩, A12, H⟩ := bnd H
   try dsimp only at H
   have H' := am H
   clear H
   have hnb13 := NB625_616.out
   have hnc13 := NB616_625.out
   have hnb14 := NB625_0.out
   have hnc14 := NB0_625.out
   obtain ⟨hcz15_0, hcz15_1, hcz15_2, hcz15_3, hfz15_0, hfz15_1, hfz15_2, hfz15_3⟩ := cc4 BK625
   exact e19_0
  ·have c11b1 : decide (0 < t620.length) = false := decide_eq_false (by omega)
   clear c11
   (first | rw [c11b0] | (simp only [i64_w, i32_w]; rw [c11b0]) | rw [c11b1] | skip)
   have H' := am H
   clear H
   go_wp2
   go_meet
   case rel => exact ⟨_, (0), (t623), (t624), sc, H', ⟨by first | omega | exact Nat.le_refl _⟩, ⟨by (with_reducible repeat (first | apply Kd.S_alloc | apply Kd.S_drewN | apply Kd.S_drew)); exact Kd.S_mono (Kd.S_far (p := ⟨gb625, 3, none⟩) (Kd.S_far (p := ⟨gb625, 2, none⟩) (Kd.S_far (p := ⟨gb625, 1, none⟩) (Kd.S_far (p := ⟨gb625, 0, none⟩) (Kd.S_types HO622.out BK625.out (by decide)) (fun _ hk => hk.2) (.int .i64 t617)) (fun _ hk => hk.2) (.int .i64 t618)) (fun _ hk => hk.2) (.int .i64 t619)) (fun _ hk => hk.2) (.slice Ao10 t620.length co10)) (fun _ hk => trivial)⟩, ⟨sp BK616⟩, ⟨sp BK625⟩, ⟨a19_0⟩, ⟨a19_1⟩, ⟨a19_2⟩⟩
 case rest =>
  clear HC3
  obtain ⟨kq, x4_2, x1001_2, x1002_2, rfl, HA, HJ2, HO_626003, BK616, BK625, HI0, HK, HB⟩ := hcut
  cases kq with
  | zero => exact absurd HA.out (by simp [spec_l17Any.j0])
  | succ kj2 =>
   have H := HA.out
   clear HA
   simp only [spec_l17Any.j0] at H
   obtain ⟨⟨t629, t630, t631⟩, A17, H⟩ := bnd H
   try dsimp only at H
   obtain ⟨-, c18b0, c18b1, H⟩ | ⟨c18, c18b0, c18b1, H⟩ := ib_ H
   ·obtain ⟨y632, hy632⟩ : ∃ y_ : List Int, y_ = (([(-1), 5, 6] : List Int)) := ⟨_, rfl⟩
    replace H : ((spec_l1Int.f s0_0 t630 t631 y632).bind fun bt635 => (some (t617, t618, bt635.1, t620, bt635.2.1, bt635.2.2))) = some (r1, r2, r3, r4, r5, r6) := ry hy632 H
    have Ny632 := am hy632
    clear hy632
    obtain ⟨⟨t635, t636, t637⟩, A19, H⟩ := bnd H
    try dsimp only at H
    simp only [Option.some.injEq, Prod.mk.injEq] at H
    obtain ⟨rfl, rfl, rfl, rfl, rfl, rfl⟩ := H
    exact e19_0
   ·obtain ⟨-, c30b0, c30b1, H⟩ | ⟨c30, c30b0, c30b1, H⟩ := ib_ H
    ·obtain ⟨y638, hy638⟩ : ∃ y_ : List Int, y_ = (([(-1), 0, 5, 6] : List Int)) := ⟨_, rfl⟩
     replace H : ((spec_l1Int.f s0_0 t630 t631 y638).bind fun bt641 => (some (t617, bt641.1, t619, t620, bt641.2.1, bt641.2.2))) = some (r1, r2, r3, r4, r5, r6) := ry hy638 H
     have Ny638 := am hy638
     clear hy638
     obtain ⟨⟨t641, t642, t643⟩, A31, H⟩ := bnd H
     try dsimp only at H
     simp only [Option.some.injEq, Prod.mk.injEq] at H
     obtain ⟨rfl, rfl, rfl, rfl, rfl, rfl⟩ := H
     exact e19_0
    ·obtain ⟨-, c42b0, c42b1, H⟩ | ⟨c42, c42b0, c42b1, H⟩ := ib_ H
     ·obtain ⟨c43, H⟩ := ia_ H
      have c43b0 := eq_true c43
      have c43b1 := decide_eq_true c43
      clear c43
      obtain ⟨c44, H⟩ := ia_ H
      have c44b0 := eq_true c44
      have c44b1 := decide_eq_true c44
      clear c44
      obtain ⟨y644, hy644⟩ : ∃ y_ : List (S105), y_ = (t620.take (x4_2 : Int).toNat) := ⟨_, rfl⟩
      replace H : (some (t617, t618, t619, y644, t630, t631)) = some (r1, r2, r3, r4, r5, r6) := ry hy644 H
      have Ny644 := am hy644
      clear hy644
      simp only [Option.some.injEq, Prod.mk.injEq] at H
      obtain ⟨rfl, rfl, rfl, rfl, rfl, rfl⟩ := H
      exact e19_0
     ·obtain ⟨-, c52b0, c52b1, H⟩ | ⟨c52, c52b0, c52b1, H⟩ := ib_ H
      ·obtain ⟨⟨t647, t648, t649⟩, A53, H⟩ := bnd H
       try dsimp only at H
       obtain ⟨c54b0, H⟩ := id_ H
       obtain ⟨c55b0, H⟩ := id_ H
       obtain ⟨y650, hy650⟩ : ∃ y_ : List (S105), y_ = (t620.set (x4_2 : Int).toNat (⟨(⟨(rd_T105 t620 x4_2).f0.f0, t647⟩ : S102), (rd_T105 t620 x4_2).f1, (rd_T105 t620 x4_2).f2⟩ : S105)) := ⟨_, rfl⟩
       replace H : (some (t617, t618, t619, y650, t648, t649)) = some (r1, r2, r3, r4, r5, r6) := ry hy650 H
       have Ny650 := am hy650
       clear hy650
       simp only [Option.some.injEq, Prod.mk.injEq] at H
       obtain ⟨rfl, rfl, rfl, rfl, rfl, rfl⟩ := H
       try go_wp2_with (first | ((with_reducible refine gc 76 rfl ?_); refine gL (some 17) Try.func76 #[.pointer (some ⟨g, 0, none⟩), .int .i64 10] ?_; (with_reducible refine (spec_l1Below.calls g s0_0 x1001_2 x1002_2 10 t629 t630 t631 w0 _ ?side1 ?side2 A17.out).mono ?_); (case side1 => repeat (first | (with_reducible first | exact HI0.out | apply IsS152.alloc | apply IsS152.drewN | apply IsS152.drew | apply IsS152.set_1 | apply IsS152.set_2 | refine IsS152.far ?_ NB0_616.out _ | refine IsS152.far ?_ NB0_625.out _) | exact HI0.out)); (case side2 => repeat (first | (with_reducible first | exact HB.out | apply below_alloc | apply pw_below_drewN | apply below_drew1 | refine below_set ?_ (IsS152.ge HI0.out) | refine below_set ?_ GE616.out | refine below_set ?_ GE625.out) | exact HB.out)); rintro e w57 ⟨rfl, hi, hb, hk⟩; refine ⟨_, rfl, ?_⟩; replace HO_626003 := am (Kd.S_mono (Kd.S_keep (IsS152.apartS (show IsS152 w0 _ g s0_0 x1001_2 x1002_2 from a19_0) (ss HO_626003) (by decide)) hk (fun _ h => h.2)) (fun _ h => h.1)); replace BK616 := am (KeepBut.blk hk (g' := gb616) (o := .cells #[.int .i64 0, .int .i64 0, .int .i64 0, .slice none 0 0] 31 (0, 0)) (sk BK616) NB616_0.out (by simp)); replace BK625 := am (KeepBut.blk hk (g' := gb625) (o := .cells #[.int .i64 t617, .int .i64 t618, .int .i64 t619, .slice Ao10 t620.length co10] 31 (0, 0)) (sk BK625) NB625_0.out (by simp)); replace HK := am (KeepBut.trans a19_1 hk (.inl rfl)); replace HB := am hb; replace HI0 := am hi; (try clear hb); (try clear hk); (try clear hi)))
       replace HO_626003 := am (Kd.S_drew HO_626003.out)
       replace BK616 := am (blk_drew BK616.out)
       replace BK625 := am (blk_drew BK625.out)
       replace HI0 := am (IsS152.drew HI0.out)
       replace HK := am (keep_drew HK.out)
       replace HB := am (below_drew1 HB.out)
       refine start_ (n := 9) (S := fun w' => w'.cell? ⟨gb625, 0, none⟩ = some (.int .i64 t617) ∧ w'.cell? ⟨gb625, 1, none⟩ = some (.int .i64 t618) ∧ w'.cell? ⟨gb625, 2, none⟩ = some (.int .i64 t619) ∧ w'.cell? ⟨gb625, 3, none⟩ = some (.slice Ao10 t620.length co10)) (ds := [8]) #[false, false, false, false, false, false, false, false, false] (by kernel_rfl) rfl rfl ⟨bc0 BK625, bc1 BK625, bc2 BK625, bc3 BK625⟩ (fun hHeld => ?_); refine with_tabW spec_l17Any.tab13 spec_l17Any.bits13 (fun HT_ HW_ => ?_)
       generalize w57.drew = w58 at HO_626003 BK616 BK625 HI0 HK HB hHeld ⊢
       refine put 0 39 (bt 9 1) HT_ ?_
       refine put 2 41 (bt 9 5) HT_ ?_
       refine put 3 42 (bt 9 13) HT_ ?_
       refine tat4 1 40 (bt 9 15) HT_ HW_ hHeld ?_
       refine on 4 43 (bt 9 31) HT_ (fun K hK => ?_)
       refine goes_ Try.func89 (by kernel_rfl) rfl #[.pointer (some ⟨g, 0, none⟩)] (by rfl) rfl rfl sl ?_
       with_reducible refine (spec_l4Raw.calls g s0_0 t630 t631 t647 t648 t649 w0 _ ?side1 ?side2 A53.out).mono ?_
       (case side1 => repeat (first | (with_reducible first | exact HI0.out | apply IsS152.alloc | apply IsS152.drewN | apply IsS152.drew | apply IsS152.set_1 | apply IsS152.set_2 | refine IsS152.far ?_ NB0_616.out _ | refine IsS152.far ?_ NB0_625.out _) | exact HI0.out))
       (case side2 => repeat (first | (with_reducible first | exact HB.out | apply below_alloc | apply pw_below_drewN | apply below_drew1 | refine below_set ?_ (IsS152.ge HI0.out) | refine below_set ?_ GE616.out | refine below_set ?_ GE625.out) | exact HB.out))
       rintro e w59 ⟨rfl, hi, hb, hk⟩
       refine ⟨_, rfl, ?_⟩
       replace HO_626003 := am (Kd.S_mono (Kd.S_keep (IsS152.apartS (show IsS152 w0 _ g s0_0 t630 t631 from a19_0) (ss HO_626003) (by decide)) hk (fun _ h => h.2)) (fun _ h => h.1))
       replace BK616 := am (KeepBut.blk hk (g' := gb616) (o := .cells #[.int .i64 0, .int .i64 0, .int .i64 0, .slice none 0 0] 31 (0, 0)) (sk BK616) NB616_0.out (by simp))
       replace BK625 := am (KeepBut.blk hk (g' := gb625) (o := .cells #[.int .i64 t617, .int .i64 t618, .int .i64 t619, .slice Ao10 t620.length co10] 31 (0, 0)) (sk BK625) NB625_0.out (by simp))
       replace HK := am (KeepBut.trans a19_1 hk (.inl rfl))
       replace HB := am hb
       replace HI0 := am hi
       (try clear hb)
       (try clear hb2)
       (try clear hk)
       (try clear hi)
       have p56 : 0 ≤ (x4_2 : Int) := sa
       have q56 : (x4_2 : Int) < ((t620.length : Int) : Int) := sa
       obtain ⟨go56, co56, eo56, gb56, gl56, cl56, HG56⟩ := Kd.S_form HO_626003.out (by omega)
       (first | cases eo56 | (injection eo56 with ea_ en_ ec_; (first | subst ea_ | (injection ea_ with ea_; subst ea_)); subst ec_; clear en_))
       have GB56 := am gb56
       have GG56 := am HG56
       clear gb56 gl56 HG56
       obtain ⟨_, ce56, hcl56, hM56, hcc56, hfr56, _, _⟩ := Kd.S_elem HO_626003.out z105 (x4_2 : Int) p56 q56
       obtain ⟨ve56_2, ve56_3, rfl, ge56_2, ge56_3⟩ := k105_openM hM56
       have hx56_0 : World.cell? _ ⟨go56, (x4_2 : Int).toNat * 4, none⟩ = some (.int .i64 ((rd_T105 t620 x4_2).f0.f0)) := hcc56 0 _ rfl
       have hx56_1 : World.cell? _ ⟨go56, (x4_2 : Int).toNat * 4 + 1, none⟩ = some (.int .i64 ((rd_T105 t620 x4_2).f0.f1)) := hcc56 1 _ rfl
       have hx56_2 : World.cell? _ ⟨go56, (x4_2 : Int).toNat * 4 + 2, none⟩ = some (ve56_2) := hcc56 2 _ rfl
       have hx56_3 : World.cell? _ ⟨go56, (x4_2 : Int).toNat * 4 + 3, none⟩ = some (ve56_3) := hcc56 3 _ rfl
       have hf56_0 : World.frozen? _ ⟨go56, (x4_2 : Int).toNat * 4, none⟩ = false := hfr56 0
       have hf56_1 : World.frozen? _ ⟨go56, (x4_2 : Int).toNat * 4 + 1, none⟩ = false := hfr56 1
       have hf56_2 : World.frozen? _ ⟨go56, (x4_2 : Int).toNat * 4 + 2, none⟩ = false := hfr56 2
       have hf56_3 : World.frozen? _ ⟨go56, (x4_2 : Int).toNat * 4 + 3, none⟩ = false := hfr56 3
       (try clear hcl56); (try clear hcc56); (try clear hfr56); (try clear hM56)
       replace p56 := eq_true p56
       replace q56 := eq_true q56
       have HN0_go56 := am (show g ≠ go56 from by have h_ := IsS152.own_neS HI0.out HO_626003.out (by decide); intro e_; exact h_ (by rw [e_]; rfl))
       have HX60 := am (show Kd.S k105 105 _ w.heap.size (fun k_ => ((fun _ => True)) k_ ∧ ¬ (fun _ => False) k_) (.slice (some ⟨go56, 0, none⟩) t620.length co10) t620 from (Kd.S_mono HO_626003.out (fun k_ hk => ⟨trivial, fun e_ => e_⟩)))
       obtain ⟨oki60, ce60, hcl60, hM60, hcc60, hfr60, hoki60, hH60⟩ := Kd.S_elem HX60.out z105 (x4_2 : Int) (sa) a19_7
       obtain ⟨ve60_2, ve60_3, rfl, ge60_2, ge60_3⟩ := k105_openM hM60
       have HP60 := (Kd.S_seg hH60 (sa) a19_7 (seg := [.int .i64 t647]) (j := 1) (show 2 ≤ 4 from by decide) (x' := (⟨(⟨(rd_T105 t620 x4_2).f0.f0, t647⟩ : S102), (rd_T105 t620 x4_2).f1, (rd_T105 t620 x4_2).f2⟩ : S105)) (k105_mkM _ _ _ (⟨(⟨(rd_T105 t620 x4_2).f0.f0, t647⟩ : S102), (rd_T105 t620 x4_2).f1, (rd_T105 t620 x4_2).f2⟩ : S105) ge60_2 ge60_3) (fun _ hk => Or.inl hk) (fun _ hk => hk.elim)).1
       rw [← Ny650.out] at HP60
       have HQ60 := am HP60
       (try clear hcl60); (try clear hcc60); (try clear hfr60); (try clear hM60); (try clear HP60)
       refine hK.out _ _ ⟨bc0 BK625, bc1 BK625, bc2 BK625, bc3 BK625⟩ (fun hHeld => ?_)
       clear hK K
       refine nm 43 ?_
       refine put 5 44 (bt 9 63) HT_ ?_
       refine put 6 45 (bt 9 127) HT_ ?_
       refine put 7 46 (bt 9 255) HT_ ?_
       refine last_ (i := 8) (N := none) (bt 9 511) rfl rfl (one_of HT_.out (by kernel_rfl)) (by decide) (fun K hK => ?_)
       refine skip_ (w1 := ?_) (by rfl) rfl ?_ ?_
       rotate_left
       ·go_simp
        rfl
       refine hK.out _ _ ?_
       clear hK K
       refine done_ (done_of HT_.out (by kernel_rfl)) ?_
       have n0_ : Aside0 (Kd.S k105 105 (w59.setCell ⟨go56, (x4_2 : Int).toNat * 4 + 1, none⟩ (.int .i64 t647)) w.heap.size (fun _ => True) (.slice (some ⟨go56, 0, none⟩) t620.length co10) y650) := ⟨ss HQ60⟩
       have n1_ : Aside0 ((w59.setCell ⟨go56, (x4_2 : Int).toNat * 4 + 1, none⟩ (.int .i64 t647)).heap[gb616]? = some (.cells #[.int .i64 0, .int .i64 0, .int .i64 0, .slice none 0 0] 31 (0, 0))) := ⟨by (with_reducible repeat (first | refine blk_drewN ?_ _ | refine blk_drew ?_ | refine blk_alloc ?_ _)); refine blk_far ?_ (by have h_ := Kd.S_ne HO_626003.out BK616.out (by decide); intro e_; exact h_ (by rw [e_]; rfl)) _; (with_reducible repeat (first | refine blk_drewN ?_ _ | refine blk_drew ?_ | refine blk_alloc ?_ _)); exact BK616.out⟩
       have n2_ : Aside0 ((w59.setCell ⟨go56, (x4_2 : Int).toNat * 4 + 1, none⟩ (.int .i64 t647)).heap[gb625]? = some (.cells #[.int .i64 t617, .int .i64 t618, .int .i64 t619, .slice (some ⟨go56, 0, none⟩) t620.length co10] 31 (0, 0))) := ⟨by (with_reducible repeat (first | refine blk_drewN ?_ _ | refine blk_drew ?_ | refine blk_alloc ?_ _)); refine blk_far ?_ (by have h_ := Kd.S_ne HO_626003.out BK625.out (by decide); intro e_; exact h_ (by rw [e_]; rfl)) _; (with_reducible repeat (first | refine blk_drewN ?_ _ | refine blk_drew ?_ | refine blk_alloc ?_ _)); exact BK625.out⟩
       have n3_ : Aside0 (IsS152 w0 (w59.setCell ⟨go56, (x4_2 : Int).toNat * 4 + 1, none⟩ (.int .i64 t647)) g s0_0 t648 t649) := ⟨by repeat (first | (with_reducible first | exact HI0.out | apply IsS152.alloc | apply IsS152.drewN | apply IsS152.drew | apply IsS152.set_1 | apply IsS152.set_2 | refine IsS152.far ?_ HN0_go56.out _ | refine IsS152.far ?_ NB0_616.out _ | refine IsS152.far ?_ NB0_625.out _) | exact HI0.out)⟩
       have n4_ : Aside0 (KeepBut w (w59.setCell ⟨go56, (x4_2 : Int).toNat * 4 + 1, none⟩ (.int .i64 t647)) g none) := ⟨by repeat (first | (with_reducible first | exact HK.out | apply KeepBut.set_ | apply keep_drewN | apply keep_drew | apply keep_alloc | refine keep_far ?_ GB56.out _ | refine keep_far ?_ GW616.out _ | refine keep_far ?_ GW625.out _) | exact HK.out)⟩
       have n5_ : Aside0 (Below w0.heap.size w0 (w59.setCell ⟨go56, (x4_2 : Int).toNat * 4 + 1, none⟩ (.int .i64 t647))) := ⟨by repeat (first | (with_reducible first | exact HB.out | apply below_alloc | apply pw_below_drewN | apply below_drew1 | refine below_set ?_ (Nat.le_trans HL.out GB56.out) | refine below_set ?_ (IsS152.ge HI0.out) | refine below_set ?_ GE616.out | refine below_set ?_ GE625.out) | exact HB.out)⟩
       (try clear HO_626003)
       (try clear BK616)
       (try clear BK625)
       (try clear HI0)
       (try clear HK)
       (try clear HB)
       generalize (w59.setCell ⟨go56, (x4_2 : Int).toNat * 4 + 1, none⟩ (.int .i64 t647)) = w61 at n0_ n1_ n2_ n3_ n4_ n5_ ⊢
       have HO_626003 := n0_
       have BK616 := n1_
       have BK625 := n2_
       have HI0 := n3_
       have HK := n4_
       have HB := n5_
       clear n0_ n1_ n2_ n3_ n4_ n5_
       have hnb62 := NB625_616.out
       have hnc62 := NB616_625.out
       have hnb63 := NB625_0.out
       have hnc63 := NB0_625.out
       obtain ⟨hcz64_0, hcz64_1, hcz64_2, hcz64_3, hfz64_0, hfz64_1, hfz64_2, hfz64_3⟩ := cc4 BK625
       have hnb65 := NB616_0.out
       have hnc65 := NB0_616.out
       obtain ⟨hcz66_0, hcz66_1, hcz66_2, hcz66_3, hfz66_0, hfz66_1, hfz66_2, hfz66_3⟩ := cc4 BK616
       try go_wp2
       refine bodyPost_ret (results_cell_row rfl _ _ gb616 31 #[.int .i64 t617, .int .i64 t618, .int .i64 t619, .slice (some ⟨go56, 0, none⟩) t620.length co10] (0, 0) _ rfl (sp BK616) Try.underlying31 rfl (by kernel_rfl)) rfl ?_
       exact ⟨_, se, by (with_reducible repeat (first | apply Kd.S_alloc | apply Kd.S_drewN | apply Kd.S_drew)); exact Kd.S_mono (Kd.S_far (p := ⟨gb616, 3, none⟩) (Kd.S_far (p := ⟨gb616, 2, none⟩) (Kd.S_far (p := ⟨gb616, 1, none⟩) (Kd.S_far (p := ⟨gb616, 0, none⟩) (Kd.S_types HO_626003.out BK616.out (by decide)) (fun _ hk => hk.2) (.int .i64 t617)) (fun _ hk => hk.2) (.int .i64 t618)) (fun _ hk => hk.2) (.int .i64 t619)) (fun _ hk => hk.2) (.slice (some ⟨go56, 0, none⟩) t620.length co10)) (fun _ hk => trivial), a19_0, a19_2, a19_1⟩
      ·obtain ⟨-, c67b0, c67b1, H⟩ | ⟨c67, c67b0, c67b1, H⟩ := ib_ H
       ·obtain ⟨c68b0, H⟩ := id_ H
        obtain ⟨c69b0, H⟩ := id_ H
        obtain ⟨LMc70, H⟩ := il_ H
        obtain ⟨y652, hy652⟩ : ∃ y_ : List (S134), y_ = (((rd_T105 t620 x4_2).f1) ++ [(⟨0, 1⟩ : S134)]) := ⟨_, rfl⟩
        replace H : (some (t617, t618, t619, (t620.set (x4_2 : Int).toNat (⟨(⟨(rd_T105 t620 x4_2).f0.f0, (rd_T105 t620 x4_2).f0.f1⟩ : S102), y652, (rd_T105 t620 x4_2).f2⟩ : S105)), t630, t631)) = some (r1, r2, r3, r4, r5, r6) := ry hy652 H
        have Ny652 := am hy652
        clear hy652
        obtain ⟨y655, hy655⟩ : ∃ y_ : List (S105), y_ = (t620.set (x4_2 : Int).toNat (⟨(⟨(rd_T105 t620 x4_2).f0.f0, (rd_T105 t620 x4_2).f0.f1⟩ : S102), y652, (rd_T105 t620 x4_2).f2⟩ : S105)) := ⟨_, rfl⟩
        replace H : (some (t617, t618, t619, y655, t630, t631)) = some (r1, r2, r3, r4, r5, r6) := ry hy655 H
        have Ny655 := am hy655
        clear hy655
        simp only [Option.some.injEq, Prod.mk.injEq] at H
        obtain ⟨rfl, rfl, rfl, rfl, rfl, rfl⟩ := H
        try go_wp2_with (first | ((with_reducible refine gc 76 rfl ?_); refine gL (some 17) Try.func76 #[.pointer (some ⟨g, 0, none⟩), .int .i64 10] ?_; (with_reducible refine (spec_l1Below.calls g s0_0 x1001_2 x1002_2 10 t629 t630 t631 w0 _ ?side1 ?side2 A17.out).mono ?_); (case side1 => repeat (first | (with_reducible first | exact HI0.out | apply IsS152.alloc | apply IsS152.drewN | apply IsS152.drew | apply IsS152.set_1 | apply IsS152.set_2 | refine IsS152.far ?_ NB0_616.out _ | refine IsS152.far ?_ NB0_625.out _) | exact HI0.out)); (case side2 => repeat (first | (with_reducible first | exact HB.out | apply below_alloc | apply pw_below_drewN | apply below_drew1 | refine below_set ?_ (IsS152.ge HI0.out) | refine below_set ?_ GE616.out | refine below_set ?_ GE625.out) | exact HB.out)); rintro e w72 ⟨rfl, hi, hb, hk⟩; refine ⟨_, rfl, ?_⟩; replace HO_626003 := am (Kd.S_mono (Kd.S_keep (IsS152.apartS (show IsS152 w0 _ g s0_0 x1001_2 x1002_2 from a19_0) (ss HO_626003) (by decide)) hk (fun _ h => h.2)) (fun _ h => h.1)); replace BK616 := am (KeepBut.blk hk (g' := gb616) (o := .cells #[.int .i64 0, .int .i64 0, .int .i64 0, .slice none 0 0] 31 (0, 0)) (sk BK616) NB616_0.out (by simp)); replace BK625 := am (KeepBut.blk hk (g' := gb625) (o := .cells #[.int .i64 t617, .int .i64 t618, .int .i64 t619, .slice Ao10 t620.length co10] 31 (0, 0)) (sk BK625) NB625_0.out (by simp)); replace HK := am (KeepBut.trans a19_1 hk (.inl rfl)); replace HB := am hb; replace HI0 := am hi; (try clear hb); (try clear hk); (try clear hi)))
        replace HO_626003 := am (Kd.S_drew HO_626003.out)
        replace BK616 := am (blk_drew BK616.out)
        replace BK625 := am (blk_drew BK625.out)
        replace HI0 := am (IsS152.drew HI0.out)
        replace HK := am (keep_drew HK.out)
        replace HB := am (below_drew1 HB.out)
        have p651 : 0 ≤ (x4_2 : Int) := sa
        have q651 : x4_2 < (t620.length : Int) := sa
        obtain ⟨ad651, A651_2, c651_2, A651_3, c651_3, e651, hx651_0, hx651_1, hx651_2, hx651_3, hl651_2, hi651_2, hl651_3, hi651_3⟩ := at_T105 (Kd.S_reads' HO_626003.out).2.2 x4_2 p651 q651
        cases e651
        obtain ⟨ce651, hce651, hMe651, hcc651⟩ := Kd.S_get HO_626003.out z105 x4_2 p651 (by first | exact q651 | exact sa | (have e_ := (Kd.S_reads' HO_626003.out).1; omega))
        obtain ⟨ve651_2, ve651_3, rfl, ge651_2, ge651_3⟩ := k105_openM hMe651
        have hv651_2 := hcc651 2 _ rfl
        rw [add_field _ _ 2 (by omega)] at hv651_2
        replace hv651_2 := Option.some.inj (hv651_2.symm.trans hx651_2)
        rw [hv651_2] at ge651_2
        have HL651_2 := am (show Kd.R k134 134 _ _ _ _ ((rd_T105 t620 x4_2).f1) from ge651_2)
        clear hv651_2 ge651_2
        have HX651_2 := am hx651_2
        have hv651_3 := hcc651 3 _ rfl
        rw [add_field _ _ 3 (by omega)] at hv651_3
        replace hv651_3 := Option.some.inj (hv651_3.symm.trans hx651_3)
        rw [hv651_3] at ge651_3
        have HL651_3 := am (show Kd.R k55 55 _ _ _ _ ((rd_T105 t620 x4_2).f2) from ge651_3)
        clear hv651_3 ge651_3
        have HX651_3 := am hx651_3
        clear hcc651 hce651
        have HR651_2 := am hi651_2
        have HC651_2 := am hl651_2
        clear hi651_2 hl651_2
        have HR651_3 := am hi651_3
        have HC651_3 := am hl651_3
        clear hi651_3 hl651_3
        replace p651 := eq_true p651
        replace q651 := eq_true q651
        obtain ⟨go74, co74, eo74, gb74, gl74, cl74, HG74⟩ := Kd.S_form HO_626003.out (by have h_ : (x4_2 : Int) < ((t620.length : Int) : Int) := sa; have h2_ : 0 ≤ (x4_2 : Int) := (sa); omega)
        (first | cases eo74 | (injection eo74 with ea_ en_ ec_; (first | subst ea_ | (injection ea_ with ea_; subst ea_)); subst ec_; clear en_))
        have GB74 := am gb74
        have GG74 := am HG74
        clear gb74 gl74 HG74
        (first | simp only [add_plain] at hx651_0 | skip)
        (first | simp only [add_plain] at hx651_1 | skip)
        (first | simp only [add_plain] at hx651_2 | skip)
        (first | simp only [add_plain] at hx651_3 | skip)
        obtain ⟨oki74, ce74, hcl74, hM74, hcc74, _, _, hH74⟩ := Kd.S_elem HO_626003.out z105 (x4_2 : Int) (sa) a19_7
        obtain ⟨ve74_2, ve74_3, rfl, ge74_2, ge74_3⟩ := k105_openM hM74
        have hv74 := hcc74 2 _ rfl
        have hX74 := HX651_2.out
        (try simp only [add_plain] at hX74)
        (try simp only [Nat.add_zero] at hv74)
        replace hv74 := Option.some.inj (hv74.symm.trans hX74)
        subst hv74
        clear hX74 hcc74 hcl74
        have UU74 := am (show Kd.R k134 134 _ w.heap.size oki74 (.slice A651_2 ((rd_T105 t620 x4_2).f1).length c651_2) ((rd_T105 t620 x4_2).f1) from ge74_2)
        have HH74 := am hH74
        have HN74 := am (Kd.S_reads' HO_626003.out).1
        have HE74_3 := am ge74_3
        clear hH74 ge74_2 ge74_3
        refine start_ (n := 15) (S := fun w' => w'.cell? ⟨gb625, 0, none⟩ = some (.int .i64 t617) ∧ w'.cell? ⟨gb625, 1, none⟩ = some (.int .i64 t618) ∧ w'.cell? ⟨gb625, 2, none⟩ = some (.int .i64 t619) ∧ w'.cell? ⟨gb625, 3, none⟩ = some (.slice (some ⟨go74, 0, none⟩) t620.length co10) ∧ w'.cell? ⟨go74, ((x4_2).toNat * 4), none⟩ = some (.int .i64 ((rd_T105 t620 x4_2).f0.f0)) ∧ w'.cell? ⟨go74, ((x4_2).toNat * 4) + 1, none⟩ = some (.int .i64 ((rd_T105 t620 x4_2).f0.f1)) ∧ w'.cell? ⟨go74, ((x4_2).toNat * 4) + 2, none⟩ = some (.slice A651_2 ((rd_T105 t620 x4_2).f1).length c651_2) ∧ w'.cell? ⟨go74, ((x4_2).toNat * 4) + 3, none⟩ = some (.slice A651_3 ((rd_T105 t620 x4_2).f2).length c651_3)) (ds := [14]) #[false, false, false, false, false, false, false, false, false, false, false, false, false, false, false] (by kernel_rfl) rfl rfl ⟨bc0 BK625, bc1 BK625, bc2 BK625, bc3 BK625, hx651_0, hx651_1, hx651_2, hx651_3⟩ (fun hHeld => ?_); refine with_tabW spec_l17Any.tab15 spec_l17Any.bits15 (fun HT_ HW_ => ?_)
        generalize w72.drew = w73 at HO_626003 BK616 BK625 HI0 HK HB GG74 HE74_3 HH74 HL651_2 HL651_3 HR651_2 HR651_3 HX651_2 HX651_3 UU74 hx651_0 hx651_1 hx651_2 hx651_3 hHeld ⊢
        refine put 0 49 (bt 15 1) HT_ ?_
        refine put 2 51 (bt 15 5) HT_ ?_
        refine put 3 52 (bt 15 13) HT_ ?_
        refine put 5 54 (bt 15 45) HT_ ?_
        refine put 9 58 (bt 15 557) HT_ ?_
        refine tat8 1 50 (bt 15 559) HT_ HW_ hHeld ?_
        refine tat8 4 53 (bt 15 575) HT_ HW_ hHeld ?_
        refine put 6 55 (bt 15 639) HT_ ?_
        refine put 7 56 (bt 15 767) HT_ ?_
        refine tat8 8 57 (bt 15 1023) HT_ HW_ hHeld ?_
        refine on 10 59 (bt 15 2047) HT_ (fun K hK => ?_)
        refine value_ (w1 := ?_) (v := ?_) (by rfl) rfl ?_ ?_
        rotate_left 2
        ·go_simp
         constructor
         ·rfl
         ·rfl
        refine hK.out _ _ ⟨(blk_cell (blk_alloc BK625.out _) 0).trans rfl, (blk_cell (blk_alloc BK625.out _) 1).trans rfl, (blk_cell (blk_alloc BK625.out _) 2).trans rfl, (blk_cell (blk_alloc BK625.out _) 3).trans rfl, (World.cell?_alloc_lt _ _ _ (World.block_lt_of_cell? _ _ (hHeld.2.2.2.2.1))).trans (hHeld.2.2.2.2.1), (World.cell?_alloc_lt _ _ _ (World.block_lt_of_cell? _ _ (hHeld.2.2.2.2.2.1))).trans (hHeld.2.2.2.2.2.1), (World.cell?_alloc_lt _ _ _ (World.block_lt_of_cell? _ _ (hHeld.2.2.2.2.2.2.1))).trans (hHeld.2.2.2.2.2.2.1), (World.cell?_alloc_lt _ _ _ (World.block_lt_of_cell? _ _ (hHeld.2.2.2.2.2.2.2))).trans (hHeld.2.2.2.2.2.2.2)⟩ (fun hHeld => ?_)
        clear hK K
        refine nm 59 ?_
        refine on 11 60 (bt 15 4095) HT_ (fun K hK => ?_)
        refine Kd.R_append_step k134 w.heap.size (by rfl) (.tmp 57) (.tmp 59) 74 134 (.agg #[(.int .i64 0), (.int .i64 0)]) 16 rfl Try.underlying74 info134 rfl (by decide) (by omega) (.slice A651_2 ((rd_T105 t620 x4_2).f1).length c651_2) ((rd_T105 t620 x4_2).f1) (⟨0, 1⟩ : S134) [.int .i64 0, .int .i64 1] (fun k_ => oki74 k_ ∨ ((fun _ => True)) k_ ∧ w73.heap.size ≤ k_) (fun _ => False) rfl rfl ?aP (fun _ hk => hk.elim) ?aF ?aO (Below.refl _ _) ?aS ?aL ?_
        (case aP => exact k134_mkM _ _ _ (⟨0, 1⟩ : S134))
        (case aF => exact (fun k_ hk => .inr ⟨trivial, hk⟩))
        (case aO => exact (by exact rm UU74 (fun _ hk => .inl hk)))
        (case aS => exact (keep_size (w := w) (g := g) (row := none) a19_1))
        (case aL => have := LMc70.out; omega)
        intro v653 w75 ho hb hg hat
        (first | have HS4_ := cell_grown hg (hHeld.2.2.2.2.1) a19_3 | have HS4_ := cell_grown hg (cell_unalloc (hHeld.2.2.2.2.1) a19_5) a19_3)
        (first | have HS5_ := cell_grown hg (hHeld.2.2.2.2.2.1) a19_3 | have HS5_ := cell_grown hg (cell_unalloc (hHeld.2.2.2.2.2.1) a19_5) a19_3)
        (first | have HS6_ := cell_grown hg (hHeld.2.2.2.2.2.2.1) a19_3 | have HS6_ := cell_grown hg (cell_unalloc (hHeld.2.2.2.2.2.2.1) a19_5) a19_3)
        (first | have HS7_ := cell_grown hg (hHeld.2.2.2.2.2.2.2) a19_3 | have HS7_ := cell_grown hg (cell_unalloc (hHeld.2.2.2.2.2.2.2) a19_5) a19_3)
        rw [← Ny652.out] at ho
        replace BK616 := am (blk_grown (g := gb616) (o := .cells #[.int .i64 0, .int .i64 0, .int .i64 0, .slice none 0 0] 31 (0, 0)) (sk BK616) hg (Kd.R_ne HL651_2.out BK616.out (by decide)))
        replace BK625 := am (blk_grown (g := gb625) (o := .cells #[.int .i64 t617, .int .i64 t618, .int .i64 t619, .slice (some ⟨go74, 0, none⟩) t620.length co10] 31 (0, 0)) (sk BK625) hg (Kd.R_ne HL651_2.out BK625.out (by decide)))
        replace HB := am (below_weaken a19_2 HL.out hb)
        replace HI0 := am (IsS152.grown a19_0 hg (IsS152.own_ne HI0.out HL651_2.out (by decide)))
        replace HK := am (KeepBut.trans a19_1 (KeepBut.of_grown hg g) (Kd.R_base2 HL651_2.out))
        replace HH74 := am (Kd.H_grown (Kd.H_widen (by repeat (first | exact HH74.out | refine Kd.H_alloc ?_ _ | refine Kd.H_drewN ?_ _ | refine Kd.H_drew ?_))) hg (fun k_ e_ => .inl (UU74.out.1 k_ e_)))
        replace HE74_3 := am (Kd.R_over' (v := (.slice A651_2 ((rd_T105 t620 x4_2).f1).length c651_2)) (sr HE74_3) (Kd.R_typed UU74.out) (by decide) hg)
        have HO654 := am ho
        clear HO_626003 UU74 HL651_2 HL651_3 ho hb hg hat
        have p71 : 0 ≤ (x4_2 : Int) := sa
        have q71 : (x4_2 : Int) < ((t620.length : Int) : Int) := sa
        replace p71 := eq_true p71
        replace q71 := eq_true q71
        obtain ⟨Ao78, co78, eo78⟩ := Kd.R_slice HO654.out
        (first | subst eo78 | (injection eo78 with f1_ f2_ f3_; have f4_ := f1_.symm; have f5_ := f3_.symm; clear f1_ f2_ f3_; subst f4_; subst f5_))
        obtain ⟨_, _, hraw76, _, _, hcc76, _⟩ := Kd.H_raw HH74.out (sa) a19_8
        obtain ⟨_, hfr76⟩ := Kd.H_at HH74.out (sa) a19_8
        have hx76_0 := hcc76 2 _ rfl
        have hf76_0 := hfr76 2
        (try rw [show (k105).sz = 4 from rfl] at hx76_0)
        (try rw [show (k105).sz = 4 from rfl] at hf76_0)
        have HP76 := Kd.S_seg0 HH74.out (sa) a19_8 (seg := [.slice Ao78 y652.length co78]) (j := 2) (show 3 ≤ 4 from by decide) (x' := (⟨(⟨(rd_T105 t620 x4_2).f0.f0, (rd_T105 t620 x4_2).f0.f1⟩ : S102), y652, (rd_T105 t620 x4_2).f2⟩ : S105)) (k105_mkM _ _ _ (⟨(⟨(rd_T105 t620 x4_2).f0.f0, (rd_T105 t620 x4_2).f0.f1⟩ : S102), y652, (rd_T105 t620 x4_2).f2⟩ : S105) HO654.out (Kd.R_mono HE74_3.out (fun _ h_ => .inl h_))) (fun _ hk => hk)
        clear hcc76 hfr76
        have HN0_go74 := am (show g ≠ go74 from by have h_ := IsS152.own_ne HI0.out hraw76 (by decide); intro e_; exact h_ (by rw [e_]; rfl))
        have HNB616_go74 := am (show gb616 ≠ go74 from by have h_ := Kd.R_ne hraw76 BK616.out (by decide); intro e_; exact h_ (by rw [e_]; rfl))
        have HNB625_go74 := am (show gb625 ≠ go74 from by have h_ := Kd.R_ne hraw76 BK625.out (by decide); intro e_; exact h_ (by rw [e_]; rfl))
        have HS76 := HP76.1
        rw [← Ny655.out] at HS76
        have HQ76 := am HS76
        obtain ⟨_, hgg76⟩ := Kd.R_typed hraw76 go74 rfl
        have GG76_ := am hgg76
        clear HP76 HS76 hgg76
        refine hK.out _ _ ⟨bc0 BK625, bc1 BK625, bc2 BK625, bc3 BK625, HS4_, HS5_, HS6_, HS7_⟩ (fun hHeld => ?_)
        clear hK K
        refine nm 60 ?_
        refine put 12 61 (bt 15 8191) HT_ ?_
        refine put 13 62 (bt 15 16383) HT_ ?_
        refine last_ (i := 14) (N := none) (bt 15 32767) rfl rfl (one_of HT_.out (by kernel_rfl)) (by decide) (fun K hK => ?_)
        refine skip_ (w1 := ?_) (by rfl) rfl ?_ ?_
        rotate_left
        ·go_simp
         rfl
        refine hK.out _ _ ?_
        clear hK K
        refine done_ (done_of HT_.out (by kernel_rfl)) ?_
        have n0_ : Aside0 (Kd.S k105 105 (w75.setCell ⟨go74, (x4_2 : Int).toNat * 4 + 2, none⟩ (.slice Ao78 y652.length co78)) w.heap.size (fun _ => True) (.slice (some ⟨go74, 0, none⟩) t620.length co10) y655) := ⟨ss HQ76⟩
        have n1_ : Aside0 ((w75.setCell ⟨go74, (x4_2 : Int).toNat * 4 + 2, none⟩ (.slice Ao78 y652.length co78)).heap[gb616]? = some (.cells #[.int .i64 0, .int .i64 0, .int .i64 0, .slice none 0 0] 31 (0, 0))) := ⟨sp BK616⟩
        have n2_ : Aside0 ((w75.setCell ⟨go74, (x4_2 : Int).toNat * 4 + 2, none⟩ (.slice Ao78 y652.length co78)).heap[gb625]? = some (.cells #[.int .i64 t617, .int .i64 t618, .int .i64 t619, .slice (some ⟨go74, 0, none⟩) t620.length co10] 31 (0, 0))) := ⟨sp BK625⟩
        have n3_ : Aside0 (IsS152 w0 (w75.setCell ⟨go74, (x4_2 : Int).toNat * 4 + 2, none⟩ (.slice Ao78 y652.length co78)) g s0_0 t630 t631) := ⟨by repeat (first | (with_reducible first | exact HI0.out | apply IsS152.alloc | apply IsS152.drewN | apply IsS152.drew | apply IsS152.set_1 | apply IsS152.set_2 | refine IsS152.far ?_ HN0_go74.out _ | refine IsS152.far ?_ NB0_616.out _ | refine IsS152.far ?_ NB0_625.out _) | exact HI0.out)⟩
        have n4_ : Aside0 (KeepBut w (w75.setCell ⟨go74, (x4_2 : Int).toNat * 4 + 2, none⟩ (.slice Ao78 y652.length co78)) g none) := ⟨by repeat (first | (with_reducible first | exact HK.out | apply KeepBut.set_ | apply keep_drewN | apply keep_drew | apply keep_alloc | refine keep_far ?_ GB74.out _ | refine keep_far ?_ GW616.out _ | refine keep_far ?_ GW625.out _) | exact HK.out)⟩
        have n5_ : Aside0 (Below w0.heap.size w0 (w75.setCell ⟨go74, (x4_2 : Int).toNat * 4 + 2, none⟩ (.slice Ao78 y652.length co78))) := ⟨by repeat (first | (with_reducible first | exact HB.out | apply below_alloc | apply pw_below_drewN | apply below_drew1 | refine below_set ?_ (Nat.le_trans HL.out GB74.out) | refine below_set ?_ (IsS152.ge HI0.out) | refine below_set ?_ GE616.out | refine below_set ?_ GE625.out) | exact HB.out)⟩
        (try clear HO_626003)
        (try clear BK616)
        (try clear BK625)
        (try clear HI0)
        (try clear HK)
        (try clear HB)
        generalize (w75.setCell ⟨go74, (x4_2 : Int).toNat * 4 + 2, none⟩ (.slice Ao78 y652.length co78)) = w79 at n0_ n1_ n2_ n3_ n4_ n5_ ⊢
        have HO_626003 := n0_
        have BK616 := n1_
        have BK625 := n2_
        have HI0 := n3_
        have HK := n4_
        have HB := n5_
        clear n0_ n1_ n2_ n3_ n4_ n5_
        have hnb80 := NB625_616.out
        have hnc80 := NB616_625.out
        have hnb81 := NB625_0.out
        have hnc81 := NB0_625.out
        obtain ⟨hcz82_0, hcz82_1, hcz82_2, hcz82_3, hfz82_0, hfz82_1, hfz82_2, hfz82_3⟩ := cc4 BK625
        have hnb83 := NB616_0.out
        have hnc83 := NB0_616.out
        obtain ⟨hcz84_0, hcz84_1, hcz84_2, hcz84_3, hfz84_0, hfz84_1, hfz84_2, hfz84_3⟩ := cc4 BK616
        try go_wp2
        refine bodyPost_ret (results_cell_row rfl _ _ gb616 31 #[.int .i64 t617, .int .i64 t618, .int .i64 t619, .slice (some ⟨go74, 0, none⟩) t620.length co10] (0, 0) _ rfl (sp BK616) Try.underlying31 rfl (by kernel_rfl)) rfl ?_
        exact ⟨_, se, by (with_reducible repeat (first | apply Kd.S_alloc | apply Kd.S_drewN | apply Kd.S_drew)); exact Kd.S_mono (Kd.S_far (p := ⟨gb616, 3, none⟩) (Kd.S_far (p := ⟨gb616, 2, none⟩) (Kd.S_far (p := ⟨gb616, 1, none⟩) (Kd.S_far (p := ⟨gb616, 0, none⟩) (Kd.S_types HO_626003.out BK616.out (by decide)) (fun _ hk => hk.2) (.int .i64 t617)) (fun _ hk => hk.2) (.int .i64 t618)) (fun _ hk => hk.2) (.int .i64 t619)) (fun _ hk => hk.2) (.slice (some ⟨go74, 0, none⟩) t620.length co10)) (fun _ hk => trivial), a19_0, a19_2, a19_1⟩
       ·simp only [Option.some.injEq, Prod.mk.injEq] at H
        obtain ⟨rfl, rfl, rfl, rfl, rfl, rfl⟩ := H
        exact e19_0
end Go.Proofs.Ytiihaabhjphaeaa.QFnSwitched
