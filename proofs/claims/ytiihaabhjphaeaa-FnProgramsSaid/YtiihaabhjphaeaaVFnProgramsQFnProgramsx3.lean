/- Printed by a program of the session. Conditions: none. (squeezed). -/
import Derived.Test.YtiihaabhjphaeaaVFnProgramsSq2
import Derived.Test.YtiihaabhjphaeaaVFnProgramsQFnProgramsx2
namespace Go.Proofs.Ytiihaabhjphaeaa.QFnPrograms
set_option maxHeartbeats 8000000
set_option maxRecDepth 100000
open Go.RowKit Go.Proofs.YtiihaabhjphaeaaW.PrintWords Go.Proofs.YtiihaabhjphaeaaW.PrintLast Go.Proofs.YtiihaabhjphaeaaW.PrintMore Go.Proofs.Ytiihaabhjphaeaa.Open Go.Proofs.Ytiihaabhjphaeaa.Sq
attribute [local go_sem] max2_int min2_int max_two min_two max_three min_three max_four min_four   -- for this text's walks alone
attribute [local go_sem] isSome_set
set_option linter.unusedVariables false
set_option linter.unusedSimpArgs false

def impl_NeighborsIn.l0 : Nat → Int → List Int → List (S134) → Int → Int → Option (List Int)
  | 0, _, _, _, _, _ => none
  | k + 1, x1, x5, x9, x10, x11 => if x11 < x10 then (if 0 ≤ x11 then (if x11 < (x9.length : Int) then (if ((rd_T134 x9 x11).f0) = x1 then (if x5.length < 17592186044416 then ((some (x5 ++ [(rd_T134 x9 x11).f1] : List Int)).bind fun y126 => (if ((rd_T134 x9 x11).f1) = x1 then (if y126.length < 17592186044416 then (impl_NeighborsIn.l0 k x1 (y126 ++ [(rd_T134 x9 x11).f0]) x9 x10 (wrap64 (x11 + 1))) else (none)) else (impl_NeighborsIn.l0 k x1 y126 x9 x10 (wrap64 (x11 + 1))))) else (none)) else (if ((rd_T134 x9 x11).f1) = x1 then (if x5.length < 17592186044416 then (impl_NeighborsIn.l0 k x1 (x5 ++ [(rd_T134 x9 x11).f0]) x9 x10 (wrap64 (x11 + 1))) else (none)) else (impl_NeighborsIn.l0 k x1 x5 x9 x10 (wrap64 (x11 + 1))))) else (none)) else (none)) else ((slices_Sort_int_int.f x5).bind fun t120 => ((slices_Compact_int_int.f t120).bind fun t121 => (some t121)))
def impl_NeighborsIn.f (k : Nat) (l0 : List (S134)) (a1 : Int) : Option (List Int) := impl_NeighborsIn.l0 k a1 (([] : List Int)) l0 (l0.length : Int) 0
theorem impl_NeighborsIn.mono_l : ∀ k, (∀ y0 y1 y2 y3 y4, LeO (impl_NeighborsIn.l0 k y0 y1 y2 y3 y4) (impl_NeighborsIn.l0 (k + 1) y0 y1 y2 y3 y4))
  | 0 => fun _ _ _ _ _ r h => by simp [impl_NeighborsIn.l0] at h
  | k + 1 => by
    have ih0 := impl_NeighborsIn.mono_l k
    · intro y0 y1 y2 y3 y4
      unfold impl_NeighborsIn.l0
      exact mo
theorem impl_NeighborsIn.mono : ∀ a0 a1 k, LeO (impl_NeighborsIn.f k a0 a1) (impl_NeighborsIn.f (k + 1) a0 a1) := by
  intro a0 a1 k
  have ih0 := impl_NeighborsIn.mono_l k
  unfold impl_NeighborsIn.f
  exact mo
theorem impl_NeighborsIn.calls (k : Nat) (A0 : Option Addr) (c0 : Nat) (l0 : List (S134)) (a1 : Int) (r : List Int) (w : World) (hr0 : Kd.C k134 w A0 l0.length l0) (hc0 : l0.length ≤ c0) (h : impl_NeighborsIn.f k l0 a1 = some r) :
    Calls Try.prog 60 #[.slice A0 l0.length c0, .int .i64 a1] w fun e w' => ∃ v0_ : Value, e = .returned (v0_) ∧ Kd.R (Kd.int .i64) 3 w' w.heap.size (fun _ => True) v0_ r ∧ Below w.heap.size w w' := by
 have hu134 := Try.underlying134
 have HR0 := am hr0
 have HC0 := am hc0
 clear hr0 hc0
 have HB := am (Below.refl w.heap.size w)
 have H := h; unfold impl_NeighborsIn.f at H
 clear h
 obtain ⟨y117, hy117⟩ : ∃ y_ : List Int, y_ = (([] : List Int)) := ⟨_, rfl⟩
 replace H : (impl_NeighborsIn.l0 k a1 y117 l0 (l0.length : Int) 0) = some r := ry hy117 H
 have Ny117 := am hy117
 clear hy117
 have H' := am H
 clear H
 go_enter Try.func60, Try.ntmps60
 go_wp2_with (first | ((with_reducible refine gd 8 rfl ?_); refine Kd.R_lit (Kd.int .i64) _ 3 ?hg (N := 8) ?hd (xs := ([] : List Int)) (inner := []) (ok := fun _ => True) (okp := fun _ => True) ?hr ?hp (fun _ hk => hk) trivial (Below.refl _ _) (Nat.le_refl _) (by simp) ?_; (case hd => rfl); (case hg => rfl); (case hr => first | (go_simp; done) | (go_simp; rfl)); (case hp => exact (Reps.none _ _)); intro v118 w3 ho4 hb hg_ hnew_; clear hg_ hnew_; (first | rw [← Ny117.out] at ho4 | (simp only [Int.reduceToNat] at ho4; rw [← Ny117.out] at ho4)); have HO119 := am (Kd.R_lower ho4 (below_size (sb))); replace HB := bs hb; clear hb ho4))
 go_loopg [5, 11] k (fun kq v5 v11 w' => ∃ (x5_1 : List Int) (x11_1 : Int), v11 = .int .i64 x11_1 ∧ Aside0 (impl_NeighborsIn.l0 kq a1 x5_1 l0 (l0.length : Int) x11_1 = some r) ∧ Aside0 (kq ≤ k) ∧ Aside0 (Kd.R (Kd.int .i64) 3 w' w.heap.size (fun _ => True) v5 x5_1) ∧ Aside0 (Below w.heap.size w w'))
 case atStart => exact ⟨(y117), (0), sc, H', kk0, ⟨sr HO119⟩, ⟨sb⟩⟩
 case round =>
  clear H'
  obtain ⟨x5_1, x11_1, rfl, HA, HK1, HO_5, HB⟩ := hrel
  cases gk with
  | zero => exact absurd HA.out (by simp [impl_NeighborsIn.l0])
  | succ k1 =>
   have H := HA.out
   clear HA
   simp only [impl_NeighborsIn.l0] at H
   obtain ⟨c5, H⟩ | ⟨c5, H⟩ := ie_ H
   ·have c5b0 := decide_eq_true c5
    clear c5
    obtain ⟨c6b0, H⟩ := id_ H
    obtain ⟨c7b0, H⟩ := id_ H
    obtain ⟨c8, H⟩ | ⟨c8, H⟩ := ie_ H
    ·have c8b0 : (((rd_T134 l0 x11_1).f0) == a1) = true := beq_iff_eq.mpr c8
     have c8b1 : (((rd_T134 l0 x11_1).f0) != a1) = false := bne_eq_false_iff_eq.mpr c8
     clear c8
     obtain ⟨LMc9, H⟩ := il_ H
     obtain ⟨y126, hy126⟩ : ∃ y_ : List Int, y_ = (x5_1 ++ [(rd_T134 l0 x11_1).f1]) := ⟨_, rfl⟩
     replace H : (if ((rd_T134 l0 x11_1).f1) = a1 then (if y126.length < 17592186044416 then (impl_NeighborsIn.l0 k1 a1 (y126 ++ [(rd_T134 l0 x11_1).f0]) l0 (l0.length : Int) (wrap64 (x11_1 + 1))) else (none)) else (impl_NeighborsIn.l0 k1 a1 y126 l0 (l0.length : Int) (wrap64 (x11_1 + 1)))) = some r := ry hy126 H
     have Ny126 := am hy126
     clear hy126
     obtain ⟨c10, H⟩ | ⟨c10, H⟩ := ie_ H
     ·have c10b0 : (((rd_T134 l0 x11_1).f1) == a1) = true := beq_iff_eq.mpr c10
      have c10b1 : (((rd_T134 l0 x11_1).f1) != a1) = false := bne_eq_false_iff_eq.mpr c10
      clear c10
      obtain ⟨LMc11, H⟩ := il_ H
      obtain ⟨y129, hy129⟩ : ∃ y_ : List Int, y_ = (y126 ++ [(rd_T134 l0 x11_1).f0]) := ⟨_, rfl⟩
      replace H : (impl_NeighborsIn.l0 k1 a1 y129 l0 (l0.length : Int) (wrap64 (x11_1 + 1))) = some r := ry hy129 H
      have Ny129 := am hy129
      clear hy129
      have H' := am H
      clear H
      obtain ⟨p124, q124, ad124, e124, _, _, hx124_0, hx124_1⟩ := aT_T134 HR0 HB x11_1
      cases e124
      go_wp2_with (first | ((with_reducible refine gd 7 rfl ?_); refine bx 7 #[.int .i64 0, .int .i64 0] 134 ?_; intro gb125 hg w12 hbox hb; replace HO_5 := rb HO_5 hb; have GW125 := bz w hg; have GE125 := bz w hg; replace HB := bs hb; have BK125 := am hbox; clear hb hbox hg; obtain ⟨hcz13_0, hcz13_1, hfz13_0, hfz13_1⟩ := cc2 BK125) | ((with_reducible refine gate_builtin (b := .append) (xs := #[.tmp 19, .tmp 22]) rfl ?_); at_builtin; refine Kd.R_append (Kd.int .i64) (w0 := w) w.heap.size rfl (.tmp 19) (.tmp 22) 28 3 (.int .i64 0) 8 rfl Try.underlying28 info3 rfl (by decide) (by omega) u5 x5_1 ((rd_T134 l0 x11_1).f1) [.int .i64 ((rd_T134 l0 x11_1).f1)] (fun _ => True) (fun _ => False) rfl (by first | (go_simp; done) | (go_simp; rfl)) ?aP (fun _ hk => hk.elim) ?aF ?aO ?aB ?aS ?aL ?_; (case aP => exact rfl); (case aB => exact (sbw)); (case aF => exact (fun _ _ => trivial)); (case aO => exact (by (with_reducible repeat (first | apply Kd.R_alloc | apply Kd.R_drewN | apply Kd.R_drew)); exact Kd.R_mono (Kd.R_far (p := ⟨gb125, 1, none⟩) (Kd.R_far (p := ⟨gb125, 0, none⟩) (Kd.R_types HO_5.out BK125.out (by decide)) (fun _ hk => hk.2) (.int .i64 ((rd_T134 l0 x11_1).f0))) (fun _ hk => hk.2) (.int .i64 ((rd_T134 l0 x11_1).f1))) (fun _ hk => trivial))); (case aS => exact (below_size (sbw))); (case aL => have := LMc9.out; omega); intro v127 w14 ho hb hg hat; rw [← Ny126.out] at ho; replace BK125 := am (blk_grown (g := gb125) (o := .cells #[.int .i64 ((rd_T134 l0 x11_1).f0), .int .i64 ((rd_T134 l0 x11_1).f1)] 134 (0, 0)) (sp BK125) hg (Kd.R_ne HO_5.out BK125.out (by decide))); replace HB := am hb; have HO128 := am ho; clear HO_5; clear ho hb hg hat; obtain ⟨hcz15_0, hcz15_1, hfz15_0, hfz15_1⟩ := cc2 BK125) | ((with_reducible refine gate_builtin (b := .append) (xs := #[.tmp 28, .tmp 31]) rfl ?_); at_builtin; refine Kd.R_append (Kd.int .i64) (w0 := w) w.heap.size rfl (.tmp 28) (.tmp 31) 28 3 (.int .i64 0) 8 rfl Try.underlying28 info3 rfl (by decide) (by omega) v127 y126 ((rd_T134 l0 x11_1).f0) [.int .i64 ((rd_T134 l0 x11_1).f0)] (fun _ => True) (fun _ => False) rfl rfl ?aP (fun _ hk => hk.elim) ?aF ?aO ?aB ?aS ?aL ?_; (case aP => exact rfl); (case aB => exact (sbw)); (case aF => exact (fun _ _ => trivial)); (case aO => exact (sr HO128)); (case aS => exact (below_size (sbw))); (case aL => have := LMc11.out; omega); intro v130 w16 ho hb hg hat; rw [← Ny129.out] at ho; replace BK125 := am (blk_grown (g := gb125) (o := .cells #[.int .i64 ((rd_T134 l0 x11_1).f0), .int .i64 ((rd_T134 l0 x11_1).f1)] 134 (0, 0)) (sk BK125) hg (Kd.R_ne HO128.out BK125.out (by decide))); replace HB := am hb; have HO131 := am ho; clear HO128; clear ho hb hg hat))
      go_roundg k1
      case measure => have := HK1.out; omega
      case rel => exact ⟨(y129), (wrap64 (x11_1 + 1)), sc, H', kk1, ⟨sr HO131⟩, ⟨sbw⟩⟩
     ·have c10b0 : (((rd_T134 l0 x11_1).f1) == a1) = false := beq_eq_false_iff_ne.mpr c10
      have c10b1 : (((rd_T134 l0 x11_1).f1) != a1) = true := bne_iff_ne.mpr c10
      have H' := am H
      clear H
      obtain ⟨p124, q124, ad124, e124, _, _, hx124_0, hx124_1⟩ := aT_T134 HR0 HB x11_1
      cases e124
      go_wp2_with (first | ((with_reducible refine gd 7 rfl ?_); refine bx 7 #[.int .i64 0, .int .i64 0] 134 ?_; intro gb125 hg w17 hbox hb; replace HO_5 := rb HO_5 hb; have GW125 := bz w hg; have GE125 := bz w hg; replace HB := bs hb; have BK125 := am hbox; clear hb hbox hg; obtain ⟨hcz18_0, hcz18_1, hfz18_0, hfz18_1⟩ := cc2 BK125) | ((with_reducible refine gate_builtin (b := .append) (xs := #[.tmp 19, .tmp 22]) rfl ?_); at_builtin; refine Kd.R_append (Kd.int .i64) (w0 := w) w.heap.size rfl (.tmp 19) (.tmp 22) 28 3 (.int .i64 0) 8 rfl Try.underlying28 info3 rfl (by decide) (by omega) u5 x5_1 ((rd_T134 l0 x11_1).f1) [.int .i64 ((rd_T134 l0 x11_1).f1)] (fun _ => True) (fun _ => False) rfl (by first | (go_simp; done) | (go_simp; rfl)) ?aP (fun _ hk => hk.elim) ?aF ?aO ?aB ?aS ?aL ?_; (case aP => exact rfl); (case aB => exact (sbw)); (case aF => exact (fun _ _ => trivial)); (case aO => exact (by (with_reducible repeat (first | apply Kd.R_alloc | apply Kd.R_drewN | apply Kd.R_drew)); exact Kd.R_mono (Kd.R_far (p := ⟨gb125, 1, none⟩) (Kd.R_far (p := ⟨gb125, 0, none⟩) (Kd.R_types HO_5.out BK125.out (by decide)) (fun _ hk => hk.2) (.int .i64 ((rd_T134 l0 x11_1).f0))) (fun _ hk => hk.2) (.int .i64 ((rd_T134 l0 x11_1).f1))) (fun _ hk => trivial))); (case aS => exact (below_size (sbw))); (case aL => have := LMc9.out; omega); intro v127 w19 ho hb hg hat; rw [← Ny126.out] at ho; replace BK125 := am (blk_grown (g := gb125) (o := .cells #[.int .i64 ((rd_T134 l0 x11_1).f0), .int .i64 ((rd_T134 l0 x11_1).f1)] 134 (0, 0)) (sp BK125) hg (Kd.R_ne HO_5.out BK125.out (by decide))); replace HB := am hb; have HO128 := am ho; clear HO_5; clear ho hb hg hat; obtain ⟨hcz20_0, hcz20_1, hfz20_0, hfz20_1⟩ := cc2 BK125))
      go_roundg k1
      case measure => have := HK1.out; omega
      case rel => exact ⟨(y126), (wrap64 (x11_1 + 1)), sc, H', kk1, ⟨sr HO128⟩, ⟨sbw⟩⟩
    ·have c8b0 : (((rd_T134 l0 x11_1).f0) == a1) = false := beq_eq_false_iff_ne.mpr c8
     have c8b1 : (((rd_T134 l0 x11_1).f0) != a1) = true := bne_iff_ne.mpr c8
     obtain ⟨c21, H⟩ | ⟨c21, H⟩ := ie_ H
     ·have c21b0 : (((rd_T134 l0 x11_1).f1) == a1) = true := beq_iff_eq.mpr c21
      have c21b1 : (((rd_T134 l0 x11_1).f1) != a1) = false := bne_eq_false_iff_eq.mpr c21
      clear c21
      obtain ⟨LMc22, H⟩ := il_ H
      obtain ⟨y132, hy132⟩ : ∃ y_ : List Int, y_ = (x5_1 ++ [(rd_T134 l0 x11_1).f0]) := ⟨_, rfl⟩
      replace H : (impl_NeighborsIn.l0 k1 a1 y132 l0 (l0.length : Int) (wrap64 (x11_1 + 1))) = some r := ry hy132 H
      have Ny132 := am hy132
      clear hy132
      have H' := am H
      clear H
      obtain ⟨p124, q124, ad124, e124, _, _, hx124_0, hx124_1⟩ := aT_T134 HR0 HB x11_1
      cases e124
      go_wp2_with (first | ((with_reducible refine gd 7 rfl ?_); refine bx 7 #[.int .i64 0, .int .i64 0] 134 ?_; intro gb125 hg w23 hbox hb; replace HO_5 := rb HO_5 hb; have GW125 := bz w hg; have GE125 := bz w hg; replace HB := bs hb; have BK125 := am hbox; clear hb hbox hg; obtain ⟨hcz24_0, hcz24_1, hfz24_0, hfz24_1⟩ := cc2 BK125) | ((with_reducible refine gate_builtin (b := .append) (xs := #[.tmp 28, .tmp 31]) rfl ?_); at_builtin; refine Kd.R_append (Kd.int .i64) (w0 := w) w.heap.size rfl (.tmp 28) (.tmp 31) 28 3 (.int .i64 0) 8 rfl Try.underlying28 info3 rfl (by decide) (by omega) u5 x5_1 ((rd_T134 l0 x11_1).f0) [.int .i64 ((rd_T134 l0 x11_1).f0)] (fun _ => True) (fun _ => False) rfl (by first | (go_simp; done) | (go_simp; rfl)) ?aP (fun _ hk => hk.elim) ?aF ?aO ?aB ?aS ?aL ?_; (case aP => exact rfl); (case aB => exact (sbw)); (case aF => exact (fun _ _ => trivial)); (case aO => exact (by (with_reducible repeat (first | apply Kd.R_alloc | apply Kd.R_drewN | apply Kd.R_drew)); exact Kd.R_mono (Kd.R_far (p := ⟨gb125, 1, none⟩) (Kd.R_far (p := ⟨gb125, 0, none⟩) (Kd.R_types HO_5.out BK125.out (by decide)) (fun _ hk => hk.2) (.int .i64 ((rd_T134 l0 x11_1).f0))) (fun _ hk => hk.2) (.int .i64 ((rd_T134 l0 x11_1).f1))) (fun _ hk => trivial))); (case aS => exact (below_size (sbw))); (case aL => have := LMc22.out; omega); intro v133 w25 ho hb hg hat; rw [← Ny132.out] at ho; replace BK125 := am (blk_grown (g := gb125) (o := .cells #[.int .i64 ((rd_T134 l0 x11_1).f0), .int .i64 ((rd_T134 l0 x11_1).f1)] 134 (0, 0)) (sp BK125) hg (Kd.R_ne HO_5.out BK125.out (by decide))); replace HB := am hb; have HO134 := am ho; clear HO_5; clear ho hb hg hat))
      go_roundg k1
      case measure => have := HK1.out; omega
      case rel => exact ⟨(y132), (wrap64 (x11_1 + 1)), sc, H', kk1, ⟨sr HO134⟩, ⟨sbw⟩⟩
     ·have c21b0 : (((rd_T134 l0 x11_1).f1) == a1) = false := beq_eq_false_iff_ne.mpr c21
      have c21b1 : (((rd_T134 l0 x11_1).f1) != a1) = true := bne_iff_ne.mpr c21
      have H' := am H
      clear H
      obtain ⟨p124, q124, ad124, e124, _, _, hx124_0, hx124_1⟩ := aT_T134 HR0 HB x11_1
      cases e124
      go_wp2_with (first | ((with_reducible refine gd 7 rfl ?_); refine bx 7 #[.int .i64 0, .int .i64 0] 134 ?_; intro gb125 hg w26 hbox hb; replace HO_5 := rb HO_5 hb; have GW125 := bz w hg; have GE125 := bz w hg; replace HB := bs hb; have BK125 := am hbox; clear hb hbox hg; obtain ⟨hcz27_0, hcz27_1, hfz27_0, hfz27_1⟩ := cc2 BK125))
      go_roundg k1
      case measure => have := HK1.out; omega
      case rel => exact ⟨(x5_1), (wrap64 (x11_1 + 1)), sc, H', kk1, ⟨by (with_reducible repeat (first | apply Kd.R_alloc | apply Kd.R_drewN | apply Kd.R_drew)); exact Kd.R_mono (Kd.R_far (p := ⟨gb125, 1, none⟩) (Kd.R_far (p := ⟨gb125, 0, none⟩) (Kd.R_types HO_5.out BK125.out (by decide)) (fun _ hk => hk.2) (.int .i64 ((rd_T134 l0 x11_1).f0))) (fun _ hk => hk.2) (.int .i64 ((rd_T134 l0 x11_1).f1))) (fun _ hk => trivial)⟩, ⟨sbw⟩⟩
   ·have c5b0 := decide_eq_false c5
    clear c5
    obtain ⟨t120, A28, H⟩ := bnd H
    obtain ⟨t121, A29, H⟩ := bnd H
    obtain rfl := Option.some.inj H
    obtain ⟨Ao30, co30, eo30⟩ := Kd.R_slice HO_5.out
    subst eo30
    go_wp2_with (first | ((with_reducible refine gc 128 rfl ?_); refine gL (some 35) Try.func128 #[.slice Ao30 x5_1.length co30] ?_; (with_reducible refine (slices_Sort_int_int.calls (fun k_ => some k_ = (.slice Ao30 x5_1.length co30 : Value).ownBlock) (.slice Ao30 x5_1.length co30) x5_1 t120 w _ ?side1 ?side2 A28.out).mono ?_); (case side1 => repeat (first | (with_reducible first | exact HB.out | apply below_alloc | apply pw_below_drewN | apply below_drew1) | exact HB.out)); (case side2 => exact Kd.R_tight rfl HO_5.out); rintro e w31 ⟨rfl, hy0, hb, hkp⟩; refine ⟨_, rfl, ?_⟩; replace HO_5 := am (Kd.R_reok rfl hy0 (fun k_ e_ => HO_5.out.1 k_ e_)); replace HB := am hb; (try clear hb); (try clear hkp); (try clear hy0)) | ((with_reducible refine gc 129 rfl ?_); refine gL (some 37) Try.func129 #[.slice Ao30 x5_1.length co30] ?_; (with_reducible refine (slices_Compact_int_int.calls (fun k_ => some k_ = (.slice Ao30 x5_1.length co30 : Value).ownBlock) (.slice Ao30 x5_1.length co30) t120 t121 w _ ?side1 ?side2 A29.out).mono ?_); (case side1 => repeat (first | (with_reducible first | exact HB.out | apply below_alloc | apply pw_below_drewN | apply below_drew1) | exact HB.out)); (case side2 => exact Kd.R_tight rfl HO_5.out); rintro e w32 ⟨v122, rfl, ho0, hb, hkp⟩; refine ⟨_, rfl, ?_⟩; have HO123 := am (Kd.R_mono (ok' := fun k_ => True) ho0 (fun k_ hk_ => trivial)); replace HB := am hb; clear HO_5; (try clear hb); (try clear hkp); (try clear ho0)))
    go_ret
    exact ⟨_, se, sr HO123, sb⟩

def impl_isIndex.f (a0 : Int) (a1 : Int) : Option (Bool) := if a0 ≥ 0 then (some (decide (a0 < a1))) else (some false)
theorem impl_isIndex.calls (a0 : Int) (a1 : Int) (r : Bool) (w : World) (h : impl_isIndex.f a0 a1 = some r) :
    Calls Try.prog 77 #[.int .i64 a0, .int .i64 a1] w fun e w' => e = .returned (.bool r) ∧ Drawn0 w w' := by
 have H := h; unfold impl_isIndex.f at H
 clear h
 obtain ⟨c3, H⟩ | ⟨c3, H⟩ := ie_ H
 ·have c3b0 := decide_eq_true c3
  clear c3
  obtain rfl := Option.some.inj H
  go_enter Try.func77, Try.ntmps77
  go_wp2
  go_ret
  exact ⟨sc, sd⟩
 ·have c3b0 := decide_eq_false c3
  clear c3
  obtain rfl := Option.some.inj H
  go_enter Try.func77, Try.ntmps77
  go_wp2
  go_ret
  exact ⟨sc, sd⟩

end Go.Proofs.Ytiihaabhjphaeaa.QFnPrograms
