/- Printed by a program of the session. Conditions: none. (squeezed). -/
import Derived.Test.YtiihaabhjphaeaaVFnSwitchedSq2
import Derived.Test.YtiihaabhjphaeaaVFnSwitchedQFnSwitchedx2
namespace Go.Proofs.Ytiihaabhjphaeaa.QFnSwitched
set_option maxHeartbeats 8000000
set_option maxRecDepth 100000
open Go.RowKit Go.Proofs.YtiihaabhjphaeaaW.PrintWords Go.Proofs.YtiihaabhjphaeaaW.PrintLast Go.Proofs.YtiihaabhjphaeaaW.PrintMore Go.Proofs.Ytiihaabhjphaeaa.Open Go.Proofs.Ytiihaabhjphaeaa.Sq
attribute [local go_sem] max2_int min2_int max_two min_two max_three min_three max_four min_four   -- for this text's walks alone
attribute [local go_sem] isSome_set
set_option linter.unusedVariables false
set_option linter.unusedSimpArgs false

theorem a3_0 {P : Prop} (h : P := by (with_reducible repeat (first | apply Kd.R_alloc | apply Kd.R_drewN | apply Kd.R_drew)); exact (Kd.R_mono (Kd.R_far (p := ⟨gb119, 3, none⟩) (Kd.R_far (p := ⟨gb119, 2, none⟩) (Kd.R_far (p := ⟨gb119, 1, none⟩) (Kd.R_far (p := ⟨gb119, 0, none⟩) (Kd.R_types HO_7.out BK119.out (by decide)) (fun _ hk => hk.2) (.int .i64 ((rd_T105 l0_3 x14_1).f0.f0))) (fun _ hk => hk.2) (.int .i64 ((rd_T105 l0_3 x14_1).f0.f1))) (fun _ hk => hk.2) (.slice A118_2 ((rd_T105 l0_3 x14_1).f1).length c118_2)) (fun _ hk => hk.2) (.slice A118_3 ((rd_T105 l0_3 x14_1).f2).length c118_3)) (fun _ h_ => h_.1))) : P := h
def impl_PiecesIn.l0 : Nat → Int → Int → List Int → List (S105) → Int → Int → Option (List Int)
  | 0, _, _, _, _, _, _ => none
  | k + 1, x1, x2, x7, x12, x13, x14 => if x14 < x13 then (if 0 ≤ x14 then (if x14 < (x12.length : Int) then ((impl_IsSpan.f ((rd_T105 x12 x14).f0.f0) ((rd_T105 x12 x14).f0.f1)).bind fun t120 => (if t120 = true then (if x1 ≤ x2 then (if ((rd_T105 x12 x14).f0.f0) ≤ x2 then (if ((rd_T105 x12 x14).f0.f1) > x1 then (if x7.length < 17592186044416 then (impl_PiecesIn.l0 k x1 x2 (x7 ++ [x14]) x12 x13 (wrap64 (x14 + 1))) else (none)) else (impl_PiecesIn.l0 k x1 x2 x7 x12 x13 (wrap64 (x14 + 1)))) else (impl_PiecesIn.l0 k x1 x2 x7 x12 x13 (wrap64 (x14 + 1)))) else (impl_PiecesIn.l0 k x1 x2 x7 x12 x13 (wrap64 (x14 + 1)))) else (impl_PiecesIn.l0 k x1 x2 x7 x12 x13 (wrap64 (x14 + 1))))) else (none)) else (none)) else (some x7)
def impl_PiecesIn.f (k : Nat) (a0_0 : Int) (a0_1 : Int) (a0_2 : Int) (l0_3 : List (S105)) (a1 : Int) (a2 : Int) : Option (List Int) := impl_PiecesIn.l0 k a1 a2 (([] : List Int)) l0_3 (l0_3.length : Int) 0
theorem impl_PiecesIn.mono_l : ∀ k, (∀ y0 y1 y2 y3 y4 y5, LeO (impl_PiecesIn.l0 k y0 y1 y2 y3 y4 y5) (impl_PiecesIn.l0 (k + 1) y0 y1 y2 y3 y4 y5))
  | 0 => fun _ _ _ _ _ _ r h => by simp [impl_PiecesIn.l0] at h
  | k + 1 => by
    have ih0 := impl_PiecesIn.mono_l k
    · intro y0 y1 y2 y3 y4 y5
      unfold impl_PiecesIn.l0
      exact mo
theorem impl_PiecesIn.mono : ∀ a0 a1 a2 a3 a4 a5 k, LeO (impl_PiecesIn.f k a0 a1 a2 a3 a4 a5) (impl_PiecesIn.f (k + 1) a0 a1 a2 a3 a4 a5) := by
  intro a0 a1 a2 a3 a4 a5 k
  have ih0 := impl_PiecesIn.mono_l k
  unfold impl_PiecesIn.f
  exact mo
theorem e3_0 {P : Prop} (h : P := by
 go_wp2_with (first | ((with_reducible refine gd 9 rfl ?_); refine bx 9 #[.int .i64 0, .int .i64 0, .slice none 0 0, .slice none 0 0] 105 ?_; intro gb119 hg w17 hbox hb; replace HO_7 := rb HO_7 hb; have GW119 := bzw w hg; have GE119 := bzw w hg; replace HB := bsw hb; have BK119 := am hbox; have NB114_119 := nl BK114 hg; have NB119_114 := ng BK114 hg; replace BK114 := bb BK114 hb; clear hb hbox hg; have hnb18 := NB119_114.out; have hnc18 := NB114_119.out; obtain ⟨hcz19_0, hcz19_1, hcz19_2, hcz19_3, hfz19_0, hfz19_1, hfz19_2, hfz19_3⟩ := cc4 BK119) | (have _ := c14b0; (with_reducible refine gc 79 rfl ?_); refine gL (some 21) Try.func79 #[.agg #[.int .i64 ((rd_T105 l0_3 x14_1).f0.f0), .int .i64 ((rd_T105 l0_3 x14_1).f0.f1)]] ?_; (with_reducible refine (impl_IsSpan.calls ((rd_T105 l0_3 x14_1).f0.f0) ((rd_T105 l0_3 x14_1).f0.f1) true _ A11.out).mono ?_); rintro e w20 ⟨rfl, hb⟩; refine ⟨_, rfl, ?_⟩; replace HO_7 := am (Kd.R_below a3_0 hb); replace BK114 := am (blk_below (g := gb114) (o := .cells #[.int .i64 a0_0, .int .i64 a0_1, .int .i64 a0_2, .slice (some ad118) l0_3.length c0_3] 31 (0, 0)) (sp BK114) hb); replace BK119 := am (blk_below (g := gb119) (o := .cells #[.int .i64 ((rd_T105 l0_3 x14_1).f0.f0), .int .i64 ((rd_T105 l0_3 x14_1).f0.f1), .slice A118_2 ((rd_T105 l0_3 x14_1).f1).length c118_2, .slice A118_3 ((rd_T105 l0_3 x14_1).f2).length c118_3] 105 (0, 0)) (sp BK119) hb); replace HB := bsw hb; (try clear hb); (try clear hk); obtain ⟨hcz21_0, hcz21_1, hcz21_2, hcz21_3, hfz21_0, hfz21_1, hfz21_2, hfz21_3⟩ := cc4 BK119) | (have _ := c14b0; (with_reducible refine gate_builtin (b := .append) (xs := #[.tmp 41, .tmp 43]) rfl ?_); at_builtin; refine Kd.R_append (Kd.int .i64) (w0 := w) w.heap.size rfl (.tmp 41) (.tmp 43) 28 3 (.int .i64 0) 8 rfl Try.underlying28 info3 rfl (by decide) (by omega) u7 x7_1 x14_1 [.int .i64 x14_1] (fun _ => True) (fun _ => False) rfl rfl ?aP (fun _ hk => hk.elim) ?aF ?aO ?aB ?aS ?aL ?_; (case aP => exact rfl); (case aB => exact (sbw)); (case aF => exact (fun _ _ => trivial)); (case aO => exact (sr HO_7)); (case aS => exact (below_size (sbw))); (case aL => have := LMc16.out; omega); intro v122 w22 ho hb hg hat; rw [← Ny121.out] at ho; replace BK114 := am (blk_grown (g := gb114) (o := .cells #[.int .i64 a0_0, .int .i64 a0_1, .int .i64 a0_2, .slice (some ad118) l0_3.length c0_3] 31 (0, 0)) (sk BK114) hg (Kd.R_ne HO_7.out BK114.out (by decide))); replace BK119 := am (blk_grown (g := gb119) (o := .cells #[.int .i64 ((rd_T105 l0_3 x14_1).f0.f0), .int .i64 ((rd_T105 l0_3 x14_1).f0.f1), .slice A118_2 ((rd_T105 l0_3 x14_1).f1).length c118_2, .slice A118_3 ((rd_T105 l0_3 x14_1).f2).length c118_3] 105 (0, 0)) (sk BK119) hg (Kd.R_ne HO_7.out BK119.out (by decide))); replace HB := am hb; have HO123 := am ho; clear HO_7; clear ho hb hg hat) | (have _ := c13b0; (with_reducible refine gc 79 rfl ?_); refine gL (some 21) Try.func79 #[.agg #[.int .i64 ((rd_T105 l0_3 x14_1).f0.f0), .int .i64 ((rd_T105 l0_3 x14_1).f0.f1)]] ?_; (with_reducible refine (impl_IsSpan.calls ((rd_T105 l0_3 x14_1).f0.f0) ((rd_T105 l0_3 x14_1).f0.f1) true _ A11.out).mono ?_); rintro e w36 ⟨rfl, hb⟩; refine ⟨_, rfl, ?_⟩; replace HO_7 := am (Kd.R_below a3_0 hb); replace BK114 := am (blk_below (g := gb114) (o := .cells #[.int .i64 a0_0, .int .i64 a0_1, .int .i64 a0_2, .slice (some ad118) l0_3.length c0_3] 31 (0, 0)) (sp BK114) hb); replace BK119 := am (blk_below (g := gb119) (o := .cells #[.int .i64 ((rd_T105 l0_3 x14_1).f0.f0), .int .i64 ((rd_T105 l0_3 x14_1).f0.f1), .slice A118_2 ((rd_T105 l0_3 x14_1).f1).length c118_2, .slice A118_3 ((rd_T105 l0_3 x14_1).f2).length c118_3] 105 (0, 0)) (sp BK119) hb); replace HB := bsw hb; (try clear hb); (try clear hk)) | ((with_reducible refine gc 79 rfl ?_); refine gL (some 21) Try.func79 #[.agg #[.int .i64 ((rd_T105 l0_3 x14_1).f0.f0), .int .i64 ((rd_T105 l0_3 x14_1).f0.f1)]] ?_; (with_reducible refine (impl_IsSpan.calls ((rd_T105 l0_3 x14_1).f0.f0) ((rd_T105 l0_3 x14_1).f0.f1) false _ A11.out).mono ?_); rintro e w40 ⟨rfl, hb⟩; refine ⟨_, rfl, ?_⟩; replace HO_7 := am (Kd.R_below a3_0 hb); replace BK114 := am (blk_below (g := gb114) (o := .cells #[.int .i64 a0_0, .int .i64 a0_1, .int .i64 a0_2, .slice (some ad118) l0_3.length c0_3] 31 (0, 0)) (sp BK114) hb); replace BK119 := am (blk_below (g := gb119) (o := .cells #[.int .i64 ((rd_T105 l0_3 x14_1).f0.f0), .int .i64 ((rd_T105 l0_3 x14_1).f0.f1), .slice A118_2 ((rd_T105 l0_3 x14_1).f1).length c118_2, .slice A118_3 ((rd_T105 l0_3 x14_1).f2).length c118_3] 105 (0, 0)) (sp BK119) hb); replace HB := bsw hb; (try clear hb); (try clear hk)))
 first
 | have _ := y121
   go_roundg k1
   case measure => have := HK1.out; omega
   case rel => exact ⟨(y121), (wrap64 (x14_1 + 1)), sc, H', kk1, ⟨sr HO123⟩, ⟨sk BK114⟩, ⟨sbw⟩⟩
 | go_roundg k1
   case measure => have := HK1.out; omega
   case rel => exact ⟨(x7_1), (wrap64 (x14_1 + 1)), sc, H', kk1, ⟨sr HO_7⟩, ⟨sk BK114⟩, ⟨sbw⟩⟩) : P := h
theorem impl_PiecesIn.calls (k : Nat) (a0_0 : Int) (a0_1 : Int) (a0_2 : Int) (A0_3 : Option Addr) (c0_3 : Nat) (l0_3 : List (S105)) (a1 : Int) (a2 : Int) (r : List Int) (w : World) (hr0_3 : Kd.C k105 w A0_3 l0_3.length l0_3) (hc0_3 : l0_3.length ≤ c0_3) (h : impl_PiecesIn.f k a0_0 a0_1 a0_2 l0_3 a1 a2 = some r) :
    Calls Try.prog 17 #[.agg #[.int .i64 a0_0, .int .i64 a0_1, .int .i64 a0_2, .slice A0_3 l0_3.length c0_3], .int .i64 a1, .int .i64 a2] w fun e w' => ∃ v0_ : Value, e = .returned (v0_) ∧ Kd.R (Kd.int .i64) 3 w' w.heap.size (fun _ => True) v0_ r ∧ Below w.heap.size w w' := by
 have hu31 := Try.underlying31
 have hu105 := Try.underlying105
 have hu102 := Try.underlying102
 have HR0_3 := am hr0_3
 have HC0_3 := am hc0_3
 clear hr0_3 hc0_3
 have HB := am (Below.refl w.heap.size w)
 have H := h; unfold impl_PiecesIn.f at H
 clear h
 obtain ⟨y115, hy115⟩ : ∃ y_ : List Int, y_ = (([] : List Int)) := ⟨_, rfl⟩
 replace H : (impl_PiecesIn.l0 k a1 a2 y115 l0_3 (l0_3.length : Int) 0) = some r := ry hy115 H
 have Ny115 := am hy115
 clear hy115
 have H' := am H
 clear H
 go_enter Try.func17, Try.ntmps17
 go_wp2_with (first | ((with_reducible refine gd 3 rfl ?_); refine bx 3 #[.int .i64 a0_0, .int .i64 a0_1, .int .i64 a0_2, .slice A0_3 l0_3.length c0_3] 31 ?_; intro gb114 hg w4 hbox hb; have GW114 := bz w hg; have GE114 := bz w hg; replace HB := bs hb; have BK114 := am hbox; clear hb hbox hg) | ((with_reducible refine gd 10 rfl ?_); refine Kd.R_lit (Kd.int .i64) _ 3 ?hg (N := 10) ?hd (xs := ([] : List Int)) (inner := []) (ok := fun _ => True) (okp := fun _ => True) ?hr ?hp (fun _ hk => hk) trivial (Below.refl _ _) (Nat.le_refl _) (by simp) ?_; (case hd => rfl); (case hg => rfl); (case hr => first | (go_simp; done) | (go_simp; rfl)); (case hp => exact (Reps.none _ _)); intro v116 w5 ho6 hb hg_ hnew_; clear hg_ hnew_; (first | rw [← Ny115.out] at ho6 | (simp only [Int.reduceToNat] at ho6; rw [← Ny115.out] at ho6)); have HO117 := am (Kd.R_lower ho6 (below_size (sbw))); replace BK114 := bb BK114 hb; replace HB := bsw hb; clear hb ho6; obtain ⟨hcz7_0, hcz7_1, hcz7_2, hcz7_3, hfz7_0, hfz7_1, hfz7_2, hfz7_3⟩ := cc4 BK114))
 go_loopg [7, 14] k (fun kq v7 v14 w' => ∃ (x7_1 : List Int) (x14_1 : Int), v14 = .int .i64 x14_1 ∧ Aside0 (impl_PiecesIn.l0 kq a1 a2 x7_1 l0_3 (l0_3.length : Int) x14_1 = some r) ∧ Aside0 (kq ≤ k) ∧ Aside0 (Kd.R (Kd.int .i64) 3 w' w.heap.size (fun _ => True) v7 x7_1) ∧ Aside0 (w'.heap[gb114]? = some (.cells #[.int .i64 a0_0, .int .i64 a0_1, .int .i64 a0_2, (.slice A0_3 l0_3.length c0_3)] 31 (0, 0))) ∧ Aside0 (Below w.heap.size w w'))
 case atStart => exact ⟨(y115), (0), sc, H', kk0, ⟨sr HO117⟩, ⟨sk BK114⟩, ⟨sbw⟩⟩
 case round =>
  clear H'
  try clear hcz7_0
  try clear hcz7_1
  try clear hcz7_2
  try clear hcz7_3
  try clear hfz7_0
  try clear hfz7_1
  try clear hfz7_2
  try clear hfz7_3
  obtain ⟨x7_1, x14_1, rfl, HA, HK1, HO_7, BK114, HB⟩ := hrel
  cases gk with
  | zero => exact absurd HA.out (by simp [impl_PiecesIn.l0])
  | succ k1 =>
   have H := HA.out
   clear HA
   simp only [impl_PiecesIn.l0] at H
   obtain ⟨-, c8b0, H⟩ | ⟨-, c8b0, H⟩ := ic_ H
   ·obtain ⟨c9b0, H⟩ := id_ H
    obtain ⟨c10b0, H⟩ := id_ H
    obtain ⟨t120, A11, H⟩ := bnd H
    obtain rfl | rfl := tt t120
    ·replace H := ip H
     obtain ⟨-, c13b0, H⟩ | ⟨-, c13b0, H⟩ := ic_ H
     ·obtain ⟨-, c14b0, H⟩ | ⟨-, c14b0, H⟩ := ic_ H
      ·obtain ⟨-, c15b0, H⟩ | ⟨-, c15b0, H⟩ := ic_ H
       ·obtain ⟨LMc16, H⟩ := il_ H
        obtain ⟨y121, hy121⟩ : ∃ y_ : List Int, y_ = (x7_1 ++ [x14_1]) := ⟨_, rfl⟩
        replace H : (impl_PiecesIn.l0 k1 a1 a2 y121 l0_3 (l0_3.length : Int) (wrap64 (x14_1 + 1))) = some r := ry hy121 H
        have Ny121 := am hy121
        clear hy121
        have H' := am H
        clear H
        obtain ⟨p118, q118, ad118, A118_2, c118_2, A118_3, c118_3, e118, _, _, _, _, hx118_0, hx118_1, hx118_2, hx118_3, HC118_2, HR118_2, HC118_3, HR118_3⟩ := aT_T105 HR0_3 HB x14_1
        cases e118
        exact e3_0
       ·have H' := am H
        clear H
        obtain ⟨p118, q118, ad118, A118_2, c118_2, A118_3, c118_3, e118, _, _, _, _, hx118_0, hx118_1, hx118_2, hx118_3, HC118_2, HR118_2, HC118_3, HR118_3⟩ := aT_T105 HR0_3 HB x14_1
        cases e118
        exact e3_0
      ·have H' := am H
       clear H
       obtain ⟨p118, q118, ad118, A118_2, c118_2, A118_3, c118_3, e118, _, _, _, _, hx118_0, hx118_1, hx118_2, hx118_3, HC118_2, HR118_2, HC118_3, HR118_3⟩ := aT_T105 HR0_3 HB x14_1
       cases e118
       exact e3_0
     ·have H' := am H
      clear H
      obtain ⟨p118, q118, ad118, A118_2, c118_2, A118_3, c118_3, e118, _, _, _, _, hx118_0, hx118_1, hx118_2, hx118_3, HC118_2, HR118_2, HC118_3, HR118_3⟩ := aT_T105 HR0_3 HB x14_1
      cases e118
      exact e3_0
    ·replace H := im H
     have H' := am H
     clear H
     obtain ⟨p118, q118, ad118, A118_2, c118_2, A118_3, c118_3, e118, _, _, _, _, hx118_0, hx118_1, hx118_2, hx118_3, HC118_2, HR118_2, HC118_3, HR118_3⟩ := aT_T105 HR0_3 HB x14_1
     cases e118
     exact e3_0
   ·obtain rfl := Option.some.inj H
    go_wp2
    go_ret
    exact ⟨_, se, sr HO_7, sbw⟩

def slices_Clone_int_int.f (l0 : List Int) : Option (List Int) := if l0.length < 17592186044416 then some l0 else none
theorem slices_Clone_int_int.calls (A0 : Option Addr) (c0 : Nat) (l0 : List Int) (r : List Int) (w : World) (hr0 : Kd.C (Kd.int .i64) w A0 l0.length l0) (hc0 : l0.length ≤ c0) (h : slices_Clone_int_int.f l0 = some r) :
    Calls Try.prog 150 #[.slice A0 l0.length c0] w fun e w' => ∃ v0_ : Value, e = .returned (v0_) ∧ Kd.R (Kd.int .i64) 3 w' w.heap.size (fun _ => True) v0_ r ∧ Below w.heap.size w w' := by
 have hu := Try.underlying28
 unfold slices_Clone_int_int.f at h
 by_cases hm : l0.length < 17592186044416
 rotate_left
 ·rw [if_neg hm] at h
  cases h
 rw [if_pos hm] at h
 obtain rfl := Option.some.inj h
 cases A0 with
 | none =>
  have hz : l0 = [] := by
   obtain ⟨_, _, h3⟩ := hr0
   refine List.length_eq_zero_iff.mp (Classical.byContradiction fun hne => ?_)
   obtain ⟨ad, e, _⟩ := h3 (by omega)
   cases e
  subst hz
  have he := Go.Lib.run_eql_slice_nil (P := Try.prog) w 28 3 none 0 c0 0 0 hu
  go_enter Try.func150, Try.ntmps150
  go_wp2
  go_ret
  exact ⟨_, rfl, Kd.R_nil _ _ _ _ _, Below.refl _ _⟩
 | some ad =>
  have he := Go.Lib.run_eql_slice_nil (P := Try.prog) w 28 3 (some ad) l0.length c0 0 0 hu
  go_enter Try.func150, Try.ntmps150
  go_wp2_with (first | ((with_reducible refine gd 5 rfl ?_); refine Kd.R_lit (Kd.int .i64) _ 3 ?hg (N := 5) ?hd (xs := ([] : List Int)) (inner := []) (ok := fun _ => True) (okp := fun _ => True) ?hr ?hp (fun _ hk => hk) trivial (Below.refl _ _) (Nat.le_refl _) (by simp) ?_; (case hd => rfl); (case hg => rfl); (case hr => first | (go_simp; done) | (go_simp; rfl)); (case hp => exact (Reps.none _ _)); intro v5 w5 ho5 hb5 hg_ hnew_; clear hg_ hnew_) | ((with_reducible refine gd 7 rfl ?_); refine Kd.R_append_rows (Kd.int .i64) (w0 := w) w.heap.size rfl (.tmp 5) (.tmp 6) 28 3 (.int .i64 0) 8 rfl Try.underlying28 info3 rfl (by decide) (by omega) v5 [] l0 _ _ _ (fun _ => True) (fun _ => False) rfl rfl ?aO ?aR (fun _ _ h => h) (fun _ h => h.elim) ?aF ?aB ?aS ?aL ?_; (case aR => exact Kd.C_below hr0 hb5); (case aB => exact hb5); (case aF => exact (fun _ _ => trivial)); (case aO => exact ho5); (case aS => exact below_size hb5); (case aL => simp only [List.length_nil]; omega); intro v7 w7 ho7 hb7 hg7 hat7))
  go_ret
  rw [List.nil_append] at ho7
  exact ⟨v7, rfl, ho7, hb7⟩

def impl_cloneTable.f (a0_0 : Int) (l0_1 : List Int) (l0_2 : List Int) : Option (Int × List Int × List Int) := (slices_Clone_int_int.f l0_1).bind fun t126 => ((slices_Clone_int_int.f l0_2).bind fun t129 => (some (a0_0, t126, t129)))
def impl_cloneTable.T1 : Bool × List (List Nat × List Nat) := (true, [([], []), ([0], [0]), ([], []), ([2], [2]), ([3], [3]), ([], []), ([5], [5]), ([6, 4], [6]), ([1, 4, 7], [1, 4, 7]), ([8, 7, 0, 1, 2, 3, 4, 5, 6, 7, 8], [8])])
def impl_cloneTable.B1 : List Nat := [0, 1, 0, 4, 12, 0, 32, 124, 255, 511]
theorem impl_cloneTable.tab1 : rtab .any (opsOf Try.f103 1) = impl_cloneTable.T1 := by kernel_rfl
theorem impl_cloneTable.bits1 : waitsOk impl_cloneTable.T1.2 impl_cloneTable.B1 = true := by kernel_rfl
theorem impl_cloneTable.calls (a0_0 : Int) (A0_1 : Option Addr) (c0_1 : Nat) (l0_1 : List Int) (A0_2 : Option Addr) (c0_2 : Nat) (l0_2 : List Int) (r1 : Int) (r2 : List Int) (r3 : List Int) (w : World) (hr0_1 : Kd.C (Kd.int .i64) w A0_1 l0_1.length l0_1) (hc0_1 : l0_1.length ≤ c0_1) (hr0_2 : Kd.C (Kd.int .i64) w A0_2 l0_2.length l0_2) (hc0_2 : l0_2.length ≤ c0_2) (h : impl_cloneTable.f a0_0 l0_1 l0_2 = some (r1, r2, r3)) :
    Calls Try.prog 103 #[.agg #[.int .i64 a0_0, .slice A0_1 l0_1.length c0_1, .slice A0_2 l0_2.length c0_2]] w fun e w' => ∃ v1_ v2_ : Value, e = .returned (.agg #[.int .i64 r1, v1_, v2_]) ∧ Kd.R (Kd.int .i64) 3 w' w.heap.size (fun k_ => some k_ ≠ (v2_ : Value).ownBlock) v1_ r2 ∧ Kd.R (Kd.int .i64) 3 w' w.heap.size (fun k_ => some k_ ≠ (v1_ : Value).ownBlock) v2_ r3 ∧ Below w.heap.size w w' := by
 have hu55 := Try.underlying55
 have HR0_1 := am hr0_1
 have HC0_1 := am hc0_1
 clear hr0_1 hc0_1
 have HR0_2 := am hr0_2
 have HC0_2 := am hc0_2
 clear hr0_2 hc0_2
 have HB := am (Below.refl w.heap.size w)
 have H := h; unfold impl_cloneTable.f at H
 clear h
 obtain ⟨t126, A2, H⟩ := bnd H
 obtain ⟨t129, A3, H⟩ := bnd H
 simp only [Option.some.injEq, Prod.mk.injEq] at H
 obtain ⟨rfl, rfl, rfl⟩ := H
 go_enter Try.func103, Try.ntmps103
 try go_wp2_with (first | ((with_reducible refine gd 1 rfl ?_); refine bx 1 #[.int .i64 a0_0, .slice A0_1 l0_1.length c0_1, .slice A0_2 l0_2.length c0_2] 55 ?_; intro gb124 hg w4 hbox hb; have GW124 := bz w hg; have GE124 := bz w hg; replace HB := bs hb; have BK124 := am hbox; clear hb hbox hg) | ((with_reducible refine gd 2 rfl ?_); refine bx 2 #[.int .i64 0, .slice none 0 0, .slice none 0 0] 55 ?_; intro gb125 hg w5 hbox hb; have GW125 := bzw w hg; have GE125 := bzw w hg; replace HB := bsw hb; have BK125 := am hbox; have NB124_125 := nl BK124 hg; have NB125_124 := ng BK124 hg; replace BK124 := bb BK124 hb; clear hb hbox hg))
 replace BK124 := am (blk_drew BK124.out)
 replace BK125 := am (blk_drew BK125.out)
 replace HB := am (below_drew1 HB.out)
 refine start_ (n := 10) (S := fun w' => w'.cell? ⟨gb124, 0, none⟩ = some (.int .i64 a0_0) ∧ w'.cell? ⟨gb124, 1, none⟩ = some (.slice A0_1 l0_1.length c0_1) ∧ w'.cell? ⟨gb124, 2, none⟩ = some (.slice A0_2 l0_2.length c0_2)) (ds := []) #[false, false, false, false, false, false, false, false, false, false] (by kernel_rfl) rfl rfl ⟨bc0 BK124, bc1 BK124, bc2 BK124⟩ (fun hHeld => ?_); refine with_tabW impl_cloneTable.tab1 impl_cloneTable.bits1 (fun HT_ HW_ => ?_)
 generalize w5.drew = w6 at BK124 BK125 HB hHeld ⊢
 refine put 0 3 (bt 10 1) HT_ ?_
 refine put 2 5 (bt 10 5) HT_ ?_
 refine put 5 8 (bt 10 37) HT_ ?_
 refine tat3 1 4 (bt 10 39) HT_ HW_ hHeld ?_
 refine tat3 3 6 (bt 10 47) HT_ HW_ hHeld ?_
 refine tat3 6 9 (bt 10 111) HT_ HW_ hHeld ?_
 refine on 4 7 (bt 10 127) HT_ (fun K hK => ?_)
 refine goes_ Try.func150 (by kernel_rfl) rfl #[.slice A0_1 l0_1.length c0_1] (by rfl) rfl rfl sl ?_
 with_reducible refine (slices_Clone_int_int.calls _ _ l0_1 t126 _ ?side1 ?side2 A2.out).mono ?_
 (case side1 => exact cb HR0_1)
 (case side2 => exact HC0_1.out)
 rintro e w7 ⟨v127, rfl, ho0, hb⟩
 refine ⟨_, rfl, ?_⟩
 have HO128 := am (Kd.R_lower ho0 (below_size (sbw)))
 replace BK124 := bb BK124 hb
 replace BK125 := bb BK125 hb
 replace HB := bsw hb
 (try clear hb)
 (try clear hb2)
 (try clear hk)
 (try clear hi)
 (try clear ho0)
 refine hK.out _ _ ⟨bc0 BK124, bc1 BK124, bc2 BK124⟩ (fun hHeld => ?_)
 clear hK K
 refine nm 7 ?_
 refine on 7 10 (bt 10 255) HT_ (fun K hK => ?_)
 refine goes_ Try.func150 (by kernel_rfl) rfl #[.slice A0_2 l0_2.length c0_2] (by rfl) rfl rfl sl ?_
 with_reducible refine (slices_Clone_int_int.calls _ _ l0_2 t129 _ ?side1 ?side2 A3.out).mono ?_
 (case side1 => exact cb HR0_2)
 (case side2 => exact HC0_2.out)
 rintro e w8 ⟨v130, rfl, ho0, hb⟩
 refine ⟨_, rfl, ?_⟩
 have HO131 := am (Kd.R_lower (Kd.R_new' ho0 (Kd.R_lt (sr HO128))) (below_size (sbw)))
 replace HO128 := am (Kd.R_elder' (sr HO128) (Kd.R_base ho0) hb)
 replace BK124 := bb BK124 hb
 replace BK125 := bb BK125 hb
 replace HB := bsw hb
 (try clear hb)
 (try clear hb2)
 (try clear hk)
 (try clear hi)
 (try clear ho0)
 obtain ⟨Ao9, co9, eo9⟩ := Kd.R_slice HO131.out
 (first | subst eo9 | (injection eo9 with f1_ f2_ f3_; have f4_ := f1_.symm; have f5_ := f3_.symm; clear f1_ f2_ f3_; subst f4_; subst f5_))
 obtain ⟨Ao10, co10, eo10⟩ := Kd.R_slice HO128.out
 (first | subst eo10 | (injection eo10 with f1_ f2_ f3_; have f4_ := f1_.symm; have f5_ := f3_.symm; clear f1_ f2_ f3_; subst f4_; subst f5_))
 refine hK.out _ _ ⟨bc0 BK124, bc1 BK124, bc2 BK124⟩ (fun hHeld => ?_)
 clear hK K
 refine nm 10 ?_
 refine put 8 11 (bt 10 511) HT_ ?_
 refine one_ (i := 9) (N := none) (bt 10 1023) rfl rfl (one_of HT_.out (by kernel_rfl)) (by decide) (fun K hK => ?_)
 obtain ⟨hs11, hfs11⟩ := cc1 BK125
 have hns11_0 := NB124_125.out
 have hms11_0 := NB125_124.out
 have hs12 := bc1 BK125
 have hfs12 := bf BK125 1
 have hns12_0 := NB124_125.out
 have hms12_0 := NB125_124.out
 have hs13 := bc2 BK125
 have hfs13 := bf BK125 2
 have hns13_0 := NB124_125.out
 have hms13_0 := NB125_124.out
 refine skip_ (w1 := ?_) (by rfl) rfl ?_ ?_
 rotate_left
 ·go_simp
  rfl
 refine hK.out _ _ ⟨((cell_far (p := ⟨gb125, _, none⟩) NB124_125.out _).trans (((cell_far (p := ⟨gb125, _, none⟩) NB124_125.out _).trans (((cell_far (p := ⟨gb125, _, none⟩) NB124_125.out _).trans (hHeld.1)))))), ((cell_far (p := ⟨gb125, _, none⟩) NB124_125.out _).trans (((cell_far (p := ⟨gb125, _, none⟩) NB124_125.out _).trans (((cell_far (p := ⟨gb125, _, none⟩) NB124_125.out _).trans (hHeld.2.1)))))), ((cell_far (p := ⟨gb125, _, none⟩) NB124_125.out _).trans (((cell_far (p := ⟨gb125, _, none⟩) NB124_125.out _).trans (((cell_far (p := ⟨gb125, _, none⟩) NB124_125.out _).trans (hHeld.2.2))))))⟩ (fun hHeld => ?_)
 clear hK K
 refine done_ (done_of HT_.out (by kernel_rfl)) ?_
 try go_wp2
 refine bodyPost_ret (results_cell_row rfl _ _ gb125 55 #[.int .i64 a0_0, .slice Ao10 t126.length co10, .slice Ao9 t129.length co9] (0, 0) _ rfl (sp BK125) Try.underlying55 rfl (by kernel_rfl)) rfl ?_
 exact ⟨_, _, se, by (with_reducible repeat (first | apply Kd.R_alloc | apply Kd.R_drewN | apply Kd.R_drew)); exact Kd.R_mono (h3 HO128 BK125) (fun _ hk => hk.1.2), by (with_reducible repeat (first | apply Kd.R_alloc | apply Kd.R_drewN | apply Kd.R_drew)); exact Kd.R_mono (h3 HO131 BK125) (fun _ hk => hk.1.2), sbw⟩

def impl_TableIn.f (a0_0 : Int) (a0_1 : Int) (a0_2 : Int) (l0_3 : List (S105)) (a1 : Int) (a2 : Int) : Option (Int × List Int × List Int × Bool) := (impl_isIndex.f a1 (l0_3.length : Int)).bind fun t134 => (if t134 = true then (if 0 ≤ a1 then (if a1 < (l0_3.length : Int) then ((impl_isIndex.f a2 (((rd_T105 l0_3 a1).f2).length : Int)).bind fun t136 => (if t136 = true then (if 0 ≤ a2 then (if a2 < (((rd_T105 l0_3 a1).f2).length : Int) then ((impl_cloneTable.f ((rd_T55 ((rd_T105 l0_3 a1).f2) a2).f0) ((rd_T55 ((rd_T105 l0_3 a1).f2) a2).f1) ((rd_T55 ((rd_T105 l0_3 a1).f2) a2).f2)).bind fun bt139 => (some (bt139.1, bt139.2.1, bt139.2.2, true))) else (none)) else (none)) else (some (0, ([] : List Int), ([] : List Int), false)))) else (none)) else (none)) else (some (0, ([] : List Int), ([] : List Int), false)))
theorem e3_1 {P : Prop} (h : P := by
 go_enter Try.func41, Try.ntmps41
 go_wp2_with (first | ((with_reducible refine gd 3 rfl ?_); (try (refine gate_guard (by rfl) ?_; dsimp only)); refine bx 3 #[.int .i64 a0_0, .int .i64 a0_1, .int .i64 a0_2, .slice A0_3 l0_3.length c0_3] 31 ?_; intro gb132 hg w13 hbox hb; have GW132 := bz w hg; have GE132 := bz w hg; replace HB := bs hb; have BK132 := am hbox; clear hb hbox hg) | ((with_reducible refine gd 6 rfl ?_); (try (refine gate_guard (by rfl) ?_; dsimp only)); refine bx 6 #[.int .i64 0, .slice none 0 0, .slice none 0 0] 55 ?_; intro gb133 hg w14 hbox hb; have GW133 := bzw w hg; have GE133 := bzw w hg; replace HB := bsw hb; have BK133 := am hbox; have NB132_133 := nl BK132 hg; have NB133_132 := ng BK132 hg; replace BK132 := bb BK132 hb; clear hb hbox hg; have hnb15 := NB132_133.out; have hnc15 := NB133_132.out; obtain ⟨hcz16_0, hcz16_1, hcz16_2, hcz16_3, hfz16_0, hfz16_1, hfz16_2, hfz16_3⟩ := cc4 BK132) | (have _ := A8; (with_reducible refine gc 77 rfl ?_); refine gL (some 12) Try.func77 #[.int .i64 a1, .int .i64 (l0_3.length : Int)] ?_; (with_reducible refine (impl_isIndex.calls a1 (l0_3.length : Int) true _ A4.out).mono ?_); rintro e w' ⟨rfl, ⟨nd, rfl⟩⟩; refine ⟨_, rfl, ?_⟩; obtain ⟨p135, q135, ad135, A135_2, c135_2, A135_3, c135_3, e135, _, _, _, _, hx135_0, hx135_1, hx135_2, hx135_3, HC135_2, HR135_2, HC135_3, HR135_3⟩ := aT_T105 HR0_3 HB a1; cases e135) | (have _ := A12; go_at_call 77; (with_reducible refine (impl_isIndex.calls a2 (((rd_T105 l0_3 a1).f2).length : Int) true _ A8.out).mono ?_); rintro e w' ⟨rfl, ⟨nd, rfl⟩⟩; obtain ⟨p137, q137, ad137, A137_2, c137_2, A137_3, c137_3, e137, _, _, _, _, hx137_0, hx137_1, hx137_2, hx137_3, HC137_2, HR137_2, HC137_3, HR137_3⟩ := aT_T105 HR0_3 HB a1; obtain rfl : ad135 = ad137 := (by injection e137); have ea_ := Option.some.inj (hx135_2.symm.trans hx137_2); injection ea_ with ea_ en_ ec_; subst ea_; subst ec_; clear en_; have ea_ := Option.some.inj (hx135_3.symm.trans hx137_3); injection ea_ with ea_ en_ ec_; subst ea_; subst ec_; clear en_; obtain ⟨p138, q138, ad138, A138_1, c138_1, A138_2, c138_2, e138, _, _, _, hx138_0, hx138_1, hx138_2, HC138_1, HR138_1, HC138_2, HR138_2⟩ := aT_T55 HR137_3 HB a2; cases e138) | (have _ := A12; (with_reducible refine gc 103 rfl ?_); refine gL (some 36) Try.func103 #[.agg #[.int .i64 ((rd_T55 ((rd_T105 l0_3 a1).f2) a2).f0), .slice A138_1 ((rd_T55 ((rd_T105 l0_3 a1).f2) a2).f1).length c138_1, .slice A138_2 ((rd_T55 ((rd_T105 l0_3 a1).f2) a2).f2).length c138_2]] ?_; (with_reducible refine (impl_cloneTable.calls ((rd_T55 ((rd_T105 l0_3 a1).f2) a2).f0) _ _ ((rd_T55 ((rd_T105 l0_3 a1).f2) a2).f1) _ _ ((rd_T55 ((rd_T105 l0_3 a1).f2) a2).f2) t139 t140 t143 _ ?side1 ?side2 ?side3 ?side4 A12.out).mono ?_); (case side1 => exact cb HR138_1); (case side2 => exact HC138_1.out); (case side3 => exact cb HR138_2); (case side4 => exact HC138_2.out); rintro e w17 ⟨v141, v144, rfl, ho0, ho1, hb⟩; refine ⟨_, rfl, ?_⟩; have HO142 := am (Kd.R_lower ho0 (below_size (sbw))); have HO145 := am (Kd.R_lower ho1 (below_size (sbw))); replace BK132 := bb BK132 hb; replace BK133 := bb BK133 hb; replace HB := bsw hb; (try clear hb); (try clear ho0); (try clear ho1); obtain ⟨hcz18_0, hcz18_1, hcz18_2, hfz18_0, hfz18_1, hfz18_2⟩ := cc3 BK133; obtain ⟨Ao19, co19, eo19⟩ := Kd.R_slice HO142.out; subst eo19; obtain ⟨Ao20, co20, eo20⟩ := Kd.R_slice HO145.out; subst eo20) | (have _ := A8; go_at_call 77; (with_reducible refine (impl_isIndex.calls a2 (((rd_T105 l0_3 a1).f2).length : Int) false _ A8.out).mono ?_); rintro e w' ⟨rfl, ⟨nd, rfl⟩⟩; obtain ⟨hcz25_0, hcz25_1, hcz25_2, hfz25_0, hfz25_1, hfz25_2⟩ := cc3 BK133) | ((with_reducible refine gc 77 rfl ?_); refine gL (some 12) Try.func77 #[.int .i64 a1, .int .i64 (l0_3.length : Int)] ?_; (with_reducible refine (impl_isIndex.calls a1 (l0_3.length : Int) false _ A4.out).mono ?_); rintro e w' ⟨rfl, ⟨nd, rfl⟩⟩; refine ⟨_, rfl, ?_⟩; obtain ⟨hcz30_0, hcz30_1, hcz30_2, hfz30_0, hfz30_1, hfz30_2⟩ := cc3 BK133))
 first
 | have _ := A12
   refine bodyPost_ret (results_ct rfl _ _ gb133 55 #[.int .i64 t139, .slice Ao19 t140.length co19, .slice Ao20 t143.length co20] (0, 0) _ rfl (sp BK133) Try.underlying55 rfl (by kernel_rfl)) rfl ?_
   exact ⟨_, _, se, by (with_reducible repeat (first | apply Kd.R_alloc | apply Kd.R_drewN | apply Kd.R_drew)); exact Kd.R_mono (h3 HO142 BK133) (fun _ hk => hk.1), by (with_reducible repeat (first | apply Kd.R_alloc | apply Kd.R_drewN | apply Kd.R_drew)); exact Kd.R_mono (h3 HO145 BK133) (fun _ hk => hk.1), sbw⟩
 | have _ := A8
   refine bodyPost_ret (results_ct rfl _ _ gb133 55 #[.int .i64 0, .slice none 0 0, .slice none 0 0] (0, 0) _ rfl (sp BK133) Try.underlying55 rfl (by kernel_rfl)) rfl ?_
   exact ⟨_, _, se, sn, sn, sbw⟩
 | refine bodyPost_ret (results_ct rfl _ _ gb133 55 #[.int .i64 0, .slice none 0 0, .slice none 0 0] (0, 0) _ rfl (sp BK133) Try.underlying55 rfl (by kernel_rfl)) rfl ?_
   exact ⟨_, _, se, sn, sn, sbw⟩
   ) : P := h
theorem impl_TableIn.calls (a0_0 : Int) (a0_1 : Int) (a0_2 : Int) (A0_3 : Option Addr) (c0_3 : Nat) (l0_3 : List (S105)) (a1 : Int) (a2 : Int) (r1 : Int) (r2 : List Int) (r3 : List Int) (r4 : Bool) (w : World) (hr0_3 : Kd.C k105 w A0_3 l0_3.length l0_3) (hc0_3 : l0_3.length ≤ c0_3) (h : impl_TableIn.f a0_0 a0_1 a0_2 l0_3 a1 a2 = some (r1, r2, r3, r4)) :
    Calls Try.prog 41 #[.agg #[.int .i64 a0_0, .int .i64 a0_1, .int .i64 a0_2, .slice A0_3 l0_3.length c0_3], .int .i64 a1, .int .i64 a2] w fun e w' => ∃ v1_ v2_ : Value, e = .returned (.tuple #[.agg #[.int .i64 r1, v1_, v2_], .bool r4]) ∧ Kd.R (Kd.int .i64) 3 w' w.heap.size (fun k_ => some k_ ≠ (v2_ : Value).ownBlock) v1_ r2 ∧ Kd.R (Kd.int .i64) 3 w' w.heap.size (fun k_ => some k_ ≠ (v1_ : Value).ownBlock) v2_ r3 ∧ Below w.heap.size w w' := by
 have hu31 := Try.underlying31
 have hu55 := Try.underlying55
 have HR0_3 := am hr0_3
 have HC0_3 := am hc0_3
 clear hr0_3 hc0_3
 have HB := am (Below.refl w.heap.size w)
 have H := h; unfold impl_TableIn.f at H
 clear h
 obtain ⟨t134, A4, H⟩ := bnd H
 obtain rfl | rfl := tt t134
 ·replace H := ip H
  obtain ⟨c6b0, H⟩ := id_ H
  obtain ⟨c7b0, H⟩ := id_ H
  obtain ⟨t136, A8, H⟩ := bnd H
  obtain rfl | rfl := tt t136
  ·replace H := ip H
   obtain ⟨c10b0, H⟩ := id_ H
   obtain ⟨c11b0, H⟩ := id_ H
   obtain ⟨⟨t139, t140, t143⟩, A12, H⟩ := bnd H
   try dsimp only at H
   simp only [Option.some.injEq, Prod.mk.injEq] at H
   obtain ⟨rfl, rfl, rfl, rfl⟩ := H
   exact e3_1
  ·replace H := im H
   simp only [Option.some.injEq, Prod.mk.injEq] at H
   obtain ⟨rfl, rfl, rfl, rfl⟩ := H
   exact e3_1
 ·replace H := im H
  simp only [Option.some.injEq, Prod.mk.injEq] at H
  obtain ⟨rfl, rfl, rfl, rfl⟩ := H
  exact e3_1
def impl_IsSafeMix.l0 : Nat → Int → List (List Int) → List Int → Int → Int → Int → Int → Int → List (S105) → Option (Bool)
  | 0, _, _, _, _, _, _, _, _, _ => none
  | k + 1, x1, x9, x18, x19, x20, x147000, x147001, x147002, x147003 => if x20 < x19 then (if 0 ≤ x20 then (if x20 < (x18.length : Int) then ((impl_TableIn.f x147000 x147001 x147002 x147003 (rd x18 x20) x1).bind fun bt154 => (if x9.length < 5864062014805 then (impl_IsSafeMix.l0 k x1 (x9 ++ [bt154.2.2.1]) x18 x19 (wrap64 (x20 + 1)) x147000 x147001 x147002 x147003) else (none))) else (none)) else (none)) else ((impl_UnionHasLoop.f k x9).bind fun t166 => (some (!t166)))
def impl_IsSafeMix.f (k : Nat) (a0_0 : Int) (a0_1 : Int) (a0_2 : Int) (l0_3 : List (S105)) (a1 : Int) (a2 : Int) (a3 : Int) : Option (Bool) := (impl_PiecesIn.f k a0_0 a0_1 a0_2 l0_3 a2 a3).bind fun t150 => (impl_IsSafeMix.l0 k a1 (([] : List (List Int))) t150 (t150.length : Int) 0 a0_0 a0_1 a0_2 l0_3)
theorem impl_IsSafeMix.mono_l : ∀ k, (∀ y0 y1 y2 y3 y4 y5 y6 y7 y8, LeO (impl_IsSafeMix.l0 k y0 y1 y2 y3 y4 y5 y6 y7 y8) (impl_IsSafeMix.l0 (k + 1) y0 y1 y2 y3 y4 y5 y6 y7 y8))
  | 0 => fun _ _ _ _ _ _ _ _ _ r h => by simp [impl_IsSafeMix.l0] at h
  | k + 1 => by
    have ih0 := impl_IsSafeMix.mono_l k
    · intro y0 y1 y2 y3 y4 y5 y6 y7 y8
      unfold impl_IsSafeMix.l0
      have m0 := @impl_PiecesIn.mono
      have m1 := @impl_UnionHasLoop.mono
      exact mo
theorem impl_IsSafeMix.mono : ∀ a0 a1 a2 a3 a4 a5 a6 k, LeO (impl_IsSafeMix.f k a0 a1 a2 a3 a4 a5 a6) (impl_IsSafeMix.f (k + 1) a0 a1 a2 a3 a4 a5 a6) := by
  intro a0 a1 a2 a3 a4 a5 a6 k
  have ih0 := impl_IsSafeMix.mono_l k
  unfold impl_IsSafeMix.f
  have m0 := @impl_PiecesIn.mono
  have m1 := @impl_UnionHasLoop.mono
  exact mo
theorem impl_IsSafeMix.calls (k : Nat) (a0_0 : Int) (a0_1 : Int) (a0_2 : Int) (A0_3 : Option Addr) (c0_3 : Nat) (l0_3 : List (S105)) (a1 : Int) (a2 : Int) (a3 : Int) (r : Bool) (w : World) (hr0_3 : Kd.C k105 w A0_3 l0_3.length l0_3) (hc0_3 : l0_3.length ≤ c0_3) (h : impl_IsSafeMix.f k a0_0 a0_1 a0_2 l0_3 a1 a2 a3 = some r) :
    Calls Try.prog 19 #[.agg #[.int .i64 a0_0, .int .i64 a0_1, .int .i64 a0_2, .slice A0_3 l0_3.length c0_3], .int .i64 a1, .int .i64 a2, .int .i64 a3] w fun e w' => e = .returned (.bool r) ∧ Below w.heap.size w w' := by
 have hu31 := Try.underlying31
 have hu55 := Try.underlying55
 have HR0_3 := am hr0_3
 have HC0_3 := am hc0_3
 clear hr0_3 hc0_3
 have HB := am (Below.refl w.heap.size w)
 have H := h; unfold impl_IsSafeMix.f at H
 clear h
 obtain ⟨y147, hy147⟩ : ∃ y_ : List (List Int), y_ = (([] : List (List Int))) := ⟨_, rfl⟩
 replace H : ((impl_PiecesIn.f k a0_0 a0_1 a0_2 l0_3 a2 a3).bind fun t150 => (impl_IsSafeMix.l0 k a1 y147 t150 (t150.length : Int) 0 a0_0 a0_1 a0_2 l0_3)) = some r := ry hy147 H
 have Ny147 := am hy147
 clear hy147
 obtain ⟨t150, A5, H⟩ := bnd H
 have H' := am H
 clear H
 go_enter Try.func19, Try.ntmps19
 go_wp2_with (first | ((with_reducible refine gd 4 rfl ?_); refine bx 4 #[.int .i64 a0_0, .int .i64 a0_1, .int .i64 a0_2, .slice A0_3 l0_3.length c0_3] 31 ?_; intro gb146 hg w6 hbox hb; have GW146 := bz w hg; have GE146 := bz w hg; replace HB := bs hb; have BK146 := am hbox; clear hb hbox hg) | ((with_reducible refine gd 14 rfl ?_); refine Kd.S_lit (Kd.slice 3 (Kd.int .i64)) _ 28 ?hg (N := 14) ?hd (xs := ([] : List (List Int))) (inner := []) (ok := fun _ => True) (okp := fun _ => True) ?hr ?hp (fun _ hk => hk) trivial (Below.refl _ _) (Nat.le_refl _) (by simp) ?_; (case hd => rfl); (case hg => rfl); (case hr => first | (go_simp; done) | (go_simp; rfl)); (case hp => exact (Reps.none _ _)); intro v148 w7 ho8 hb hg_ hnew_; clear hg_ hnew_; (first | rw [← Ny147.out] at ho8 | (simp only [Int.reduceToNat] at ho8; rw [← Ny147.out] at ho8)); have HO149 := am (Kd.S_lower ho8 (below_size (sbw))); replace BK146 := bb BK146 hb; replace HB := bsw hb; clear hb ho8; obtain ⟨hcz9_0, hcz9_1, hcz9_2, hcz9_3, hfz9_0, hfz9_1, hfz9_2, hfz9_3⟩ := cc4 BK146) | ((with_reducible refine gc 17 rfl ?_); refine gL (some 18) Try.func17 #[.agg #[.int .i64 a0_0, .int .i64 a0_1, .int .i64 a0_2, .slice A0_3 l0_3.length c0_3], .int .i64 a2, .int .i64 a3] ?_; (with_reducible refine (impl_PiecesIn.calls k a0_0 a0_1 a0_2 _ _ l0_3 a2 a3 t150 _ ?side1 ?side2 A5.out).mono ?_); (case side1 => exact cb HR0_3); (case side2 => exact HC0_3.out); rintro e w10 ⟨v151, rfl, ho0, hb⟩; refine ⟨_, rfl, ?_⟩; replace HO149 := am (Kd.S_elder' (ss HO149) (Kd.R_base ho0) hb); have HO152 := am (Kd.R_lower ho0 (below_size (sbw))); replace BK146 := bb BK146 hb; replace HB := bsw hb; (try clear hb); (try clear hk); (try clear ho0); obtain ⟨Ao11, co11, eo11⟩ := Kd.R_slice HO152.out; subst eo11))
 go_loopg [9, 20] k (fun kq v9 v20 w' => ∃ (x9_1 : List (List Int)) (x20_1 : Int), v20 = .int .i64 x20_1 ∧ Aside0 (impl_IsSafeMix.l0 kq a1 x9_1 t150 (t150.length : Int) x20_1 a0_0 a0_1 a0_2 l0_3 = some r) ∧ Aside0 (kq ≤ k) ∧ Aside0 (Kd.S (Kd.slice 3 (Kd.int .i64)) 28 w' w.heap.size (fun k_ => some k_ ≠ ((.slice Ao11 t150.length co11) : Value).ownBlock) v9 x9_1) ∧ Aside0 (Kd.R (Kd.int .i64) 3 w' w.heap.size (fun _ => True) (.slice Ao11 t150.length co11) t150) ∧ Aside0 (w'.heap[gb146]? = some (.cells #[.int .i64 a0_0, .int .i64 a0_1, .int .i64 a0_2, (.slice A0_3 l0_3.length c0_3)] 31 (0, 0))) ∧ Aside0 (Below w.heap.size w w'))
 case atStart => exact ⟨(y147), (0), sc, H', kk0, ⟨by (with_reducible repeat (first | apply Kd.S_alloc | apply Kd.S_drewN | apply Kd.S_drew)); exact Kd.S_mono HO149.out (fun _ hk => hk.2)⟩, ⟨sr HO152⟩, ⟨sk BK146⟩, ⟨sbw⟩⟩
 case round =>
  clear H'
  obtain ⟨x9_1, x20_1, rfl, HA, HK1, HO_9, HO_18, BK146, HB⟩ := hrel
  cases gk with
  | zero => exact absurd HA.out (by simp [impl_IsSafeMix.l0])
  | succ k1 =>
   have H := HA.out
   clear HA
   simp only [impl_IsSafeMix.l0] at H
   obtain ⟨-, c12b0, H⟩ | ⟨-, c12b0, H⟩ := ic_ H
   ·obtain ⟨c13b0, H⟩ := id_ H
    obtain ⟨c14b0, H⟩ := id_ H
    obtain ⟨⟨t154, t155, t158, t161⟩, A15, H⟩ := bnd H
    try dsimp only at H
    obtain ⟨LMc16, H⟩ := il_ H
    obtain ⟨y163, hy163⟩ : ∃ y_ : List (List Int), y_ = (x9_1 ++ [t158]) := ⟨_, rfl⟩
    replace H : (impl_IsSafeMix.l0 k1 a1 y163 t150 (t150.length : Int) (wrap64 (x20_1 + 1)) a0_0 a0_1 a0_2 l0_3) = some r := ry hy163 H
    have Ny163 := am hy163
    clear hy163
    have H' := am H
    clear H
    have p153 : 0 ≤ (x20_1 : Int) := sa
    have q153 : x20_1 < (t150.length : Int) := sa
    obtain ⟨ad153, e153, hx153_0⟩ := Kd.at_int (Kd.R_reads' HO_18.out).2.2 x20_1 p153 q153
    cases e153
    replace p153 := eq_true p153
    replace q153 := eq_true q153
    obtain ⟨hcz17_0, hcz17_1, hcz17_2, hcz17_3, hfz17_0, hfz17_1, hfz17_2, hfz17_3⟩ := cc4 BK146
    go_wp2_with (first | ((with_reducible refine gc 41 rfl ?_); refine gL (some 28) Try.func41 #[.agg #[.int .i64 a0_0, .int .i64 a0_1, .int .i64 a0_2, .slice A0_3 l0_3.length c0_3], .int .i64 (rd t150 x20_1), .int .i64 a1] ?_; (with_reducible refine (impl_TableIn.calls a0_0 a0_1 a0_2 _ _ l0_3 (rd t150 x20_1) a1 t154 t155 t158 t161 _ ?side1 ?side2 A15.out).mono ?_); (case side1 => exact cb HR0_3); (case side2 => exact HC0_3.out); rintro e w18 ⟨v156, v159, rfl, ho0, ho1, hb⟩; refine ⟨_, rfl, ?_⟩; replace HO_9 := am (Kd.S_mono (Kd.S_told (Kd.S_told (Kd.S_old (ss HO_9) hb) (Kd.R_base ho0)) (Kd.R_base ho1)) (fun _ h_ => h_.1)); have HO157 := am (Kd.R_lower (Kd.R_new' ho0 (Kd.R_lt (sr HO_18))) (below_size (sbw))); have HO160 := am (Kd.R_lower (Kd.R_new' ho1 (Kd.R_lt (sr HO_18))) (below_size (sbw))); replace HO_18 := am (Kd.R_mono (Kd.R_told (Kd.R_told (Kd.R_old (sr HO_18) hb) (Kd.R_base ho0)) (Kd.R_base ho1)) (fun _ h_ => h_.1)); replace BK146 := bb BK146 hb; replace HB := bsw hb; (try clear hb); (try clear hk); (try clear ho0); (try clear ho1)) | ((with_reducible refine gd 12 rfl ?_); refine bx 12 #[.int .i64 0, .slice none 0 0, .slice none 0 0] 55 ?_; intro gb162 hg w19 hbox hb; replace HO_9 := am (Kd.S_below (ss HO_9) hb); replace HO_18 := rb HO_18 hb; replace HO157 := rb HO157 hb; replace HO160 := rb HO160 hb; have GW162 := bzw w hg; have GE162 := bzw w hg; replace HB := bsw hb; have BK162 := am hbox; have NB146_162 := nl BK146 hg; have NB162_146 := ng BK146 hg; replace BK146 := bb BK146 hb; clear hb hbox hg; have hnb20 := NB162_146.out; have hnc20 := NB146_162.out; obtain ⟨hcz21_0, hcz21_1, hcz21_2, hfz21_0, hfz21_1, hfz21_2⟩ := cc3 BK162; obtain ⟨Ao22, co22, eo22⟩ := Kd.R_slice HO157.out; subst eo22; obtain ⟨Ao23, co23, eo23⟩ := Kd.R_slice HO160.out; subst eo23) | ((with_reducible refine gate_store (t := 55) (p := 12) rfl ?_); refine store_event (t := 55) (p := 12) (v := ?vo_w24) (w1 := (((w19.setCell ⟨gb162, 0, none⟩ (.int .i64 t154)).setCell ⟨gb162, 1, none⟩ (.slice Ao22 t155.length co22)).setCell ⟨gb162, 2, none⟩ (.slice Ao23 t158.length co23))) ?hg ?ho ?hn ?hr ?_; (case ho => rfl); (case hg => rfl); (case hn => rfl); (case hr => first | (go_simp; done) | (go_simp; rfl)); intro w24 hw; replace HO_9 : Aside0 (Kd.S (Kd.slice 3 (Kd.int .i64)) 28 w24 w.heap.size (fun k_ => some k_ ≠ (.slice (some ad153) t150.length co11 : Value).ownBlock ∧ some k_ ≠ (.slice Ao22 t155.length co22 : Value).ownBlock ∧ some k_ ≠ (.slice Ao23 t158.length co23 : Value).ownBlock) u9 x9_1) := ⟨(by rw [hw]; exact (by (with_reducible repeat (first | apply Kd.S_alloc | apply Kd.S_drewN | apply Kd.S_drew)); exact Kd.S_mono (Kd.S_far (p := ⟨gb162, 2, none⟩) (Kd.S_far (p := ⟨gb162, 1, none⟩) (Kd.S_far (p := ⟨gb162, 0, none⟩) (Kd.S_types HO_9.out BK162.out (by decide)) (fun _ hk => hk.2) (.int .i64 t154)) (fun _ hk => hk.2) (.slice Ao22 t155.length co22)) (fun _ hk => hk.2) (.slice Ao23 t158.length co23)) (fun _ hk => ⟨hk.1.1.1, ⟨hk.1.1.2, hk.1.2⟩⟩)))⟩; replace HO_18 : Aside0 (Kd.R (Kd.int .i64) 3 w24 w.heap.size (fun k_ => some k_ ≠ (.slice Ao22 t155.length co22 : Value).ownBlock ∧ some k_ ≠ (.slice Ao23 t158.length co23 : Value).ownBlock) (.slice (some ad153) t150.length co11) t150) := ⟨(by rw [hw]; exact (by (with_reducible repeat (first | apply Kd.R_alloc | apply Kd.R_drewN | apply Kd.R_drew)); exact Kd.R_mono (h3 HO_18 BK162) (fun _ hk => ⟨hk.1.1.2, hk.1.2⟩)))⟩; replace HO157 : Aside0 (Kd.R (Kd.int .i64) 3 w24 w.heap.size (fun k_ => some k_ ≠ (.slice (some ad153) t150.length co11 : Value).ownBlock ∧ some k_ ≠ (.slice Ao23 t158.length co23 : Value).ownBlock) (.slice Ao22 t155.length co22) t155) := ⟨(by rw [hw]; exact (by (with_reducible repeat (first | apply Kd.R_alloc | apply Kd.R_drewN | apply Kd.R_drew)); exact Kd.R_mono (h3 HO157 BK162) (fun _ hk => ⟨hk.1.2, hk.1.1⟩)))⟩; replace HO160 : Aside0 (Kd.R (Kd.int .i64) 3 w24 w.heap.size (fun k_ => some k_ ≠ (.slice (some ad153) t150.length co11 : Value).ownBlock ∧ some k_ ≠ (.slice Ao22 t155.length co22 : Value).ownBlock) (.slice Ao23 t158.length co23) t158) := ⟨(by rw [hw]; exact (by (with_reducible repeat (first | apply Kd.R_alloc | apply Kd.R_drewN | apply Kd.R_drew)); exact Kd.R_mono (h3 HO160 BK162) (fun _ hk => ⟨hk.1.2, hk.1.1⟩)))⟩; replace BK146 : Aside0 (w24.heap[gb146]? = some (.cells #[.int .i64 a0_0, .int .i64 a0_1, .int .i64 a0_2, .slice A0_3 l0_3.length c0_3] 31 (0, 0))) := ⟨(by rw [hw]; exact (sp BK146))⟩; replace BK162 : Aside0 (w24.heap[gb162]? = some (.cells #[.int .i64 t154, .slice Ao22 t155.length co22, .slice Ao23 t158.length co23] 55 (0, 0))) := ⟨(by rw [hw]; exact (sp BK162))⟩; replace HB : Aside0 (Below w.heap.size w w24) := ⟨(by rw [hw]; exact (sbw))⟩; clear hw; obtain ⟨hcz25_0, hcz25_1, hcz25_2, hfz25_0, hfz25_1, hfz25_2⟩ := cc3 BK162) | ((with_reducible refine gate_builtin (b := .append) (xs := #[.tmp 31, .tmp 34]) rfl ?_); at_builtin; refine Kd.S_append (Kd.slice 3 (Kd.int .i64)) (w0 := w) w.heap.size rfl (.tmp 31) (.tmp 34) 24 28 (.slice none 0 0) 24 rfl Try.underlying24 info28 rfl (by decide) (by omega) u9 x9_1 t158 [.slice Ao23 t158.length co23] (fun k_ => some k_ ≠ (.slice (some ad153) t150.length co11 : Value).ownBlock ∧ some k_ ≠ (.slice Ao22 t155.length co22 : Value).ownBlock) (fun k_ => some k_ = (.slice Ao23 t158.length co23 : Value).ownBlock) rfl rfl ?aP (fun k_ hk_ => ((Kd.R_mono (ok' := fun k_ => ((fun k_ => some k_ ≠ (.slice (some ad153) t150.length co11 : Value).ownBlock ∧ some k_ ≠ (.slice Ao22 t155.length co22 : Value).ownBlock)) k_ ∧ some k_ ≠ (u9 : Value).ownBlock) (Kd.R_apart' (HO160.out) (Kd.S_typed HO_9.out) (by decide)) (fun k_ hk => ⟨⟨hk.1.1, hk.1.2⟩, hk.2⟩))).1 k_ hk_.symm) ?aF ?aO ?aB ?aS ?aL ?_; (case aP => exact Kd.M_row (Kd.R_mono (Kd.R_tight rfl (Kd.R_mono (ok' := fun k_ => ((fun k_ => some k_ ≠ (.slice (some ad153) t150.length co11 : Value).ownBlock ∧ some k_ ≠ (.slice Ao22 t155.length co22 : Value).ownBlock)) k_ ∧ some k_ ≠ (u9 : Value).ownBlock) (Kd.R_apart' (HO160.out) (Kd.S_typed HO_9.out) (by decide)) (fun k_ hk => ⟨⟨hk.1.1, hk.1.2⟩, hk.2⟩))) (fun _ h_ => h_))); (case aB => exact (sbw)); (case aF => exact (fun k_ hk => ⟨Kd.fresh' (Kd.R_lt (sr HO_18)) k_ hk, Kd.fresh' (Kd.R_lt (sr HO157)) k_ hk⟩)); (case aO => exact (by (with_reducible repeat (first | apply Kd.S_alloc | apply Kd.S_drewN | apply Kd.S_drew)); exact Kd.S_mono HO_9.out (fun k_ hk => ⟨⟨hk.1, hk.2.1⟩, fun e_ => hk.2.2 e_⟩))); (case aS => exact (below_size (sbw))); (case aL => have := LMc16.out; omega); intro v164 w26 ho hb hg hat; rw [← Ny163.out] at ho; replace HO_18 := am (Kd.R_over' (sr HO_18) (Kd.S_typed (ss HO_9)) (by decide) hg); replace BK146 := am (blk_grown (g := gb146) (o := .cells #[.int .i64 a0_0, .int .i64 a0_1, .int .i64 a0_2, .slice A0_3 l0_3.length c0_3] 31 (0, 0)) (sk BK146) hg (Kd.S_ne HO_9.out BK146.out (by decide))); replace HO157 := am (Kd.R_over' (sr HO157) (Kd.S_typed (ss HO_9)) (by decide) hg); replace BK162 := am (blk_grown (g := gb162) (o := .cells #[.int .i64 t154, .slice Ao22 t155.length co22, .slice Ao23 t158.length co23] 55 (0, 0)) (sk BK162) hg (Kd.S_ne HO_9.out BK162.out (by decide))); replace HB := am hb; have HO165 := am ho; clear HO_9 HO160; clear ho hb hg hat))
    go_roundg k1
    case measure => have := HK1.out; omega
    case rel => exact ⟨(y163), (wrap64 (x20_1 + 1)), sc, H', kk1, ⟨by (with_reducible repeat (first | apply Kd.S_alloc | apply Kd.S_drewN | apply Kd.S_drew)); exact Kd.S_mono HO165.out (fun _ hk => hk.1)⟩, ⟨by exact rm HO_18 (fun _ hk => trivial)⟩, ⟨sk BK146⟩, ⟨sbw⟩⟩
   ·obtain ⟨t166, A27, H⟩ := bnd H
    obtain rfl := Option.some.inj H
    obtain ⟨Ao28, co28, eo28⟩ := Kd.S_slice HO_9.out
    subst eo28
    go_wp2_with (first | ((with_reducible refine gc 14 rfl ?_); refine gL (some 38) Try.func14 #[.slice Ao28 x9_1.length co28] ?_; (with_reducible refine (impl_UnionHasLoop.calls k1 _ _ x9_1 t166 _ ?side1 ?side2 A27.out).mono ?_); (case side1 => repeat (first | exact (Kd.S_reads' HO_9.out).2.2 | (with_reducible refine Kd.C_alloc ?_ _) | (with_reducible refine Kd.C_drewN ?_ _) | (with_reducible refine Kd.C_drew ?_))); (case side2 => exact (Kd.S_reads' HO_9.out).2.1); rintro e w29 ⟨rfl, hb⟩; refine ⟨_, rfl, ?_⟩; replace HO_9 := am (Kd.S_below (ss HO_9) hb); replace HO_18 := rb HO_18 hb; replace BK146 := bb BK146 hb; replace HB := bsw hb; (try clear hb)))
    go_ret
    exact ⟨se, sbw⟩

-- NOT PRINTED: function 104 (impl_Piece)

def impl_InSpan.f (a0_0 : Int) (a0_1 : Int) (a1 : Int) : Option (Bool) := (impl_IsSpan.f a0_0 a0_1).bind fun t168 => (if t168 = true then (if a0_0 ≤ a1 then (some (decide (a1 < a0_1))) else (some false)) else (some false))
theorem e3_2 {P : Prop} (h : P := by
 obtain rfl := Option.some.inj H
 go_enter Try.func93, Try.ntmps93
 go_wp2_with (first | ((with_reducible refine gd 2 rfl ?_); refine bx 2 #[.int .i64 a0_0, .int .i64 a0_1] 102 ?_; intro gb167 hg w6 hbox hb; have GW167 := bz w hg; have GE167 := bz w hg; replace HB := bs hb; have BK167 := am hbox; clear hb hbox hg; obtain ⟨hcz7_0, hcz7_1, hfz7_0, hfz7_1⟩ := cc2 BK167) | (have _ := c5b0; (with_reducible refine gc 79 rfl ?_); refine gL (some 6) Try.func79 #[.agg #[.int .i64 a0_0, .int .i64 a0_1]] ?_; (with_reducible refine (impl_IsSpan.calls a0_0 a0_1 true _ A3.out).mono ?_); rintro e w8 ⟨rfl, hb⟩; refine ⟨_, rfl, ?_⟩; replace BK167 := bb BK167 hb; replace HB := bsw hb; (try clear hb); obtain ⟨hcz9_0, hcz9_1, hfz9_0, hfz9_1⟩ := cc2 BK167) | ((with_reducible refine gc 79 rfl ?_); refine gL (some 6) Try.func79 #[.agg #[.int .i64 a0_0, .int .i64 a0_1]] ?_; (with_reducible refine (impl_IsSpan.calls a0_0 a0_1 false _ A3.out).mono ?_); rintro e w16 ⟨rfl, hb⟩; refine ⟨_, rfl, ?_⟩; replace BK167 := bb BK167 hb; replace HB := bsw hb; (try clear hb)))
 first
 | have _ := c5b0
   go_ret
   exact ⟨se, sbw⟩
 | go_ret
   exact ⟨se, sbw⟩
   ) : P := h
theorem impl_InSpan.calls (a0_0 : Int) (a0_1 : Int) (a1 : Int) (r : Bool) (w : World) (h : impl_InSpan.f a0_0 a0_1 a1 = some r) :
    Calls Try.prog 93 #[.agg #[.int .i64 a0_0, .int .i64 a0_1], .int .i64 a1] w fun e w' => e = .returned (.bool r) ∧ Below w.heap.size w w' := by
 have hu102 := Try.underlying102
 have HB := am (Below.refl w.heap.size w)
 have H := h; unfold impl_InSpan.f at H
 clear h
 obtain ⟨t168, A3, H⟩ := bnd H
 obtain rfl | rfl := tt t168
 ·replace H := ip H
  obtain ⟨-, c5b0, H⟩ | ⟨-, c5b0, H⟩ := ic_ H
  ·exact e3_2
  ·exact e3_2
 ·replace H := im H
  exact e3_2
-- NOT PRINTED: function 105 (impl_PieceAt_1)

def impl_PieceAt.hit (x : S105) (t : Int) : Bool := impl_InSpan.f x.f0.f0 x.f0.f1 t == some true
def impl_PieceAt.go (t : Int) : List S105 → Nat → Int
  | [], _ => -1
  | x :: xs, i => if impl_PieceAt.hit x t = true then (i : Int) else impl_PieceAt.go t xs (i + 1)
def impl_PieceAt.f (a0_0 : Int) (a0_1 : Int) (a0_2 : Int) (l0_3 : List (S105)) (a1 : Int) : Option (Int) := if l0_3.length ≤ 4611686018427387904 then some (impl_PieceAt.go a1 l0_3 0) else none
theorem impl_PieceAt.tot (a b t : Int) : ∃ q, impl_InSpan.f a b t = some q := by
  have h : ∃ q, impl_IsSpan.f a b = some q := by
    unfold impl_IsSpan.f
    repeat' split
    all_goals exact ⟨_, rfl⟩
  obtain ⟨q, hq⟩ := h
  unfold impl_InSpan.f
  rw [hq, Option.bind_some]
  repeat' split
  all_goals exact ⟨_, rfl⟩
theorem impl_PieceAt.lit (x : S105) (A2 A3 : Option Addr) (n2 c2 n3 c3 : Nat) (t : Int) (gb : Nat) (W : World) (hc : W.cell? ⟨gb, 0, none⟩ = some (.int .i64 t)) :
    Calls Try.prog 105 #[.agg #[.int .i64 x.f0.f0, .int .i64 x.f0.f1, .slice A2 n2 c2, .slice A3 n3 c3], .pointer (some ⟨gb, 0, none⟩)] W fun e w' => e = .returned (.bool (impl_PieceAt.hit x t)) ∧ Below W.heap.size W w' := by
  have hu := Try.underlying105
  have hus := Try.underlying102
  obtain ⟨q, hq⟩ := impl_PieceAt.tot x.f0.f0 x.f0.f1 t
  rw [show impl_PieceAt.hit x t = q from by unfold impl_PieceAt.hit; rw [hq]; cases q <;> rfl]
  have hlt := World.block_lt_of_cell? W _ hc
  go_enter Try.func105, Try.ntmps105
  go_wp2_with (first | ((with_reducible refine gd 2 rfl ?_); refine box_event ?hg (N := 2) ?hd (cs := #[.int .i64 x.f0.f0, .int .i64 x.f0.f1, .slice A2 n2 c2, .slice A3 n3 c3]) (t := 105) ?hr ?_; (case hd => rfl); (case hg => rfl); (case hr => first | (go_simp; done) | (go_simp; rfl)); intro gbx hg w3 hbox hb3; subst hg; have hc3 : w3.cell? ⟨gb, 0, none⟩ = some (.int .i64 t) := (hb3.cell hlt).trans hc; have hx0 : w3.cell? ⟨W.heap.size, 0, none⟩ = some (.int .i64 x.f0.f0) := (blk_cell hbox 0).trans rfl; have hx1 : w3.cell? ⟨W.heap.size, 1, none⟩ = some (.int .i64 x.f0.f1) := (blk_cell hbox 1).trans rfl) | (go_at_call 93; refine (impl_InSpan.calls x.f0.f0 x.f0.f1 t q _ hq).mono ?_; rintro e w' ⟨rfl, hb⟩))
  go_ret
  exact ⟨rfl, below_step hb3 hb⟩
theorem impl_PieceAt.idx (A0 : Option Addr) (c0 : Nat) (l : List S105) (t : Int) (gb : Nat) (w : World) (hr : Kd.C k105 w A0 l.length l) (hm : l.length ≤ 4611686018427387904) (hc : w.cell? ⟨gb, 0, none⟩ = some (.int .i64 t)) :
    Calls Try.prog 104 #[.slice A0 l.length c0, .func (.func 105) #[] #[.pointer (some ⟨gb, 0, none⟩)]] w fun e w' => e = .returned (.int .i64 (impl_PieceAt.go t l 0)) ∧ Below w.heap.size w w' := by
  have hu := Try.underlying105
  have hlt := World.block_lt_of_cell? w _ hc
  go_enter Try.func104, Try.ntmps104
  go_wp2
  go_loopg [5, 8] l.length (fun gg _ s8 wr => ∃ i : Int, 0 ≤ i ∧ i ≤ (l.length : Int) ∧ (l.length : Int) - i ≤ gg ∧ s8 = .int .i64 i ∧ Aside0 (Below w.heap.size w wr) ∧ Aside0 (impl_PieceAt.go t (l.drop i.toNat) i.toNat = impl_PieceAt.go t l 0))
  case atStart => exact ⟨0, by omega, by omega, by omega, rfl, ⟨Below.refl _ w⟩, ⟨rfl⟩⟩
  case round =>
    obtain ⟨i, hi0, hi1, hg, rfl, BW, HI⟩ := hrel
    by_cases hlt2 : i < (l.length : Int)
    · obtain ⟨ad, A2, c2, A3, c3, e0, hx0, hx1, hx2, hx3, _⟩ := at_T105 hr i hi0 hlt2
      cases e0
      replace hx0 := (BW.out.cell (World.block_lt_of_cell? w _ hx0)).trans hx0
      replace hx1 := (BW.out.cell (World.block_lt_of_cell? w _ hx1)).trans hx1
      replace hx2 := (BW.out.cell (World.block_lt_of_cell? w _ hx2)).trans hx2
      replace hx3 := (BW.out.cell (World.block_lt_of_cell? w _ hx3)).trans hx3
      have hc' : wr.cell? ⟨gb, 0, none⟩ = some (.int .i64 t) := (BW.out.cell hlt).trans hc
      have hcall := impl_PieceAt.lit (rd_T105 l i) A2 A3 (rd_T105 l i).f1.length c2 (rd_T105 l i).f2.length c3 t gb wr hc'
      have hd : l.drop i.toNat = rd_T105 l i :: l.drop (i.toNat + 1) := by
        have hlt3 : i.toNat < l.length := by omega
        rw [List.drop_eq_getElem_cons hlt3, show rd_T105 l i = l.getD i.toNat z105 from rfl, List.getD_eq_getElem?_getD, List.getElem?_eq_getElem hlt3]
        rfl
      cases hq : impl_PieceAt.hit (rd_T105 l i) t with
      | true =>
        rw [hq] at hcall
        go_wp2_with (go_at_call 105; refine hcall.mono ?_; rintro e w' ⟨rfl, hb'⟩)
        go_ret
        refine ⟨?_, below_step BW.out hb'⟩
        rw [← HI.out, hd, impl_PieceAt.go, if_pos hq, Int.toNat_of_nonneg hi0]
        rfl
      | false =>
        rw [hq] at hcall
        go_wp2_with (go_at_call 105; refine hcall.mono ?_; rintro e w' ⟨rfl, hb'⟩)
        go_roundg (l.length - (i.toNat + 1))
        case measure => omega
        case rel =>
          refine ⟨i + 1, by omega, by omega, by omega, by go_num, ⟨below_step BW.out hb'⟩, ⟨?_⟩⟩
          rw [← HI.out, hd, impl_PieceAt.go, if_neg (by rw [hq]; simp), show (i + 1).toNat = i.toNat + 1 by omega]
    · have : i = (l.length : Int) := by omega
      subst this
      go_wp2
      go_ret
      refine ⟨?_, BW.out⟩
      rw [← HI.out, Int.toNat_natCast, List.drop_length, impl_PieceAt.go]
      rfl
theorem impl_PieceAt.calls (a0_0 : Int) (a0_1 : Int) (a0_2 : Int) (A0_3 : Option Addr) (c0_3 : Nat) (l0_3 : List (S105)) (a1 : Int) (r : Int) (w : World) (hr0_3 : Kd.C k105 w A0_3 l0_3.length l0_3) (hc0_3 : l0_3.length ≤ c0_3) (h : impl_PieceAt.f a0_0 a0_1 a0_2 l0_3 a1 = some r) :
    Calls Try.prog 42 #[.agg #[.int .i64 a0_0, .int .i64 a0_1, .int .i64 a0_2, .slice A0_3 l0_3.length c0_3], .int .i64 a1] w fun e w' => e = .returned (.int .i64 r) ∧ Below w.heap.size w w' := by
 have hu := Try.underlying31
 unfold impl_PieceAt.f at h
 by_cases hm : l0_3.length ≤ 4611686018427387904
 rotate_left
 ·rw [if_neg hm] at h
  cases h
 rw [if_pos hm] at h
 obtain rfl := Option.some.inj h
 go_enter Try.func42, Try.ntmps42
 go_wp2_with (go_at_call 104; refine (impl_PieceAt.idx A0_3 c0_3 l0_3 a1 _ _ (Kd.C_alloc (Kd.C_alloc hr0_3 _) _) hm ?_).mono ?_; (case refine_1 => go_simp); rintro e w' ⟨rfl, hb⟩)
 go_ret
 exact ⟨rfl, below_step (below_alloc (below_alloc (Below.refl _ _) _) _) hb⟩

end Go.Proofs.Ytiihaabhjphaeaa.QFnSwitched
