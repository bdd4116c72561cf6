/- Printed by a program of the session. Conditions: none. (squeezed). -/
import Derived.Test.YtiihaabhjphaeaaVFnSwitchedQFnSwitchedx15
namespace Go.Proofs.Ytiihaabhjphaeaa.QFnSwitched
set_option maxHeartbeats 8000000
set_option maxRecDepth 100000
open Go.RowKit Go.Proofs.YtiihaabhjphaeaaW.PrintWords Go.Proofs.YtiihaabhjphaeaaW.PrintLast Go.Proofs.YtiihaabhjphaeaaW.PrintMore Go.Proofs.Ytiihaabhjphaeaa.Open Go.Proofs.Ytiihaabhjphaeaa.Sq
attribute [local go_sem] max2_int min2_int max_two min_two max_three min_three max_four min_four   -- for this text's walks alone
attribute [local go_sem] isSome_set
set_option linter.unusedVariables false
set_option linter.unusedSimpArgs false

theorem a16_3 {P : Prop} (h : P := by exact rm HO_13 (fun _ hk => ⟨hk.2, hk.1⟩)) : P := h
theorem a16_2 {P : Prop} (h : P := by exact rm HO_10 (fun _ hk => ⟨hk.2, hk.1⟩)) : P := h
theorem a16_1 {P : Prop} (h : P := by have := HK1.out; have := HK2.out; first | omega | exact Nat.le_refl _) : P := h
theorem a16_0 {P : Prop} (h : P := by have := HK1.out; have := HK2.out; have := HJ12.out; omega) : P := h
mutual
def spec_NextTo.l0 : Nat → List (S134) → Int → Int → Int → List Int → List Int → Int → Option (List Int)
  | 0, _, _, _, _, _, _, _ => none
  | k + 1, x0, x1, x2, x3, x9, x10, x11 => if x11 < (x10.length : Int) then ((spec_NeighborsIn.f k x0 x11).bind fun t497 => (spec_NextTo.l1 k x0 x1 x2 x3 x9 x10 x11 (-1) t497 0)) else (some x9)
def spec_NextTo.l1 : Nat → List (S134) → Int → Int → Int → List Int → List Int → Int → Int → List Int → Int → Option (List Int)
  | 0, _, _, _, _, _, _, _, _, _, _ => none
  | k + 1, x0, x1, x2, x3, x9, x10, x11, x12, x13, x14 => if x14 < (x13.length : Int) then (if 0 ≤ x11 then (if x11 < (x10.length : Int) then (if (rd x10 x11) > 0 then (spec_NextTo.j2 k x0 x1 x2 x3 x9 x10 x11 x12 x13 x14 (decide (x12 < 0))) else (spec_NextTo.j2 k x0 x1 x2 x3 x9 x10 x11 x12 x13 x14 false)) else (none)) else (none)) else (spec_NextTo.j2 k x0 x1 x2 x3 x9 x10 x11 x12 x13 x14 false)
def spec_NextTo.j2 : Nat → List (S134) → Int → Int → Int → List Int → List Int → Int → Int → List Int → Int → Bool → Option (List Int)
  | 0, _, _, _, _, _, _, _, _, _, _, _ => none
  | k + 1, x0, x1, x2, x3, x9, x10, x11, x12, x13, x14, x45 => if x45 = true then (if 0 ≤ x14 then (if x14 < (x13.length : Int) then ((spec_l1In.f (rd x13 x14) 0 (wrap64 (x1 - 1))).bind fun t502 => (if t502 = true then (if (rd x13 x14) < x2 then (if 0 ≤ (rd x13 x14) then (if (rd x13 x14) < (x10.length : Int) then (if 0 ≤ x11 then (if x11 < (x10.length : Int) then (if (rd x10 (rd x13 x14)) = (wrap64 ((rd x10 x11) - 1)) then (spec_NextTo.l1 k x0 x1 x2 x3 x9 x10 x11 (rd x13 x14) x13 (wrap64 (x14 + 1))) else (spec_NextTo.l1 k x0 x1 x2 x3 x9 x10 x11 x12 x13 (wrap64 (x14 + 1)))) else (none)) else (none)) else (none)) else (none)) else (if (rd x13 x14) = x3 then (if 0 ≤ (rd x13 x14) then (if (rd x13 x14) < (x10.length : Int) then (if 0 ≤ x11 then (if x11 < (x10.length : Int) then (if (rd x10 (rd x13 x14)) = (wrap64 ((rd x10 x11) - 1)) then (spec_NextTo.l1 k x0 x1 x2 x3 x9 x10 x11 (rd x13 x14) x13 (wrap64 (x14 + 1))) else (spec_NextTo.l1 k x0 x1 x2 x3 x9 x10 x11 x12 x13 (wrap64 (x14 + 1)))) else (none)) else (none)) else (none)) else (none)) else (spec_NextTo.l1 k x0 x1 x2 x3 x9 x10 x11 x12 x13 (wrap64 (x14 + 1))))) else (spec_NextTo.l1 k x0 x1 x2 x3 x9 x10 x11 x12 x13 (wrap64 (x14 + 1))))) else (none)) else (none)) else (if x9.length < 17592186044416 then (spec_NextTo.l0 k x0 x1 x2 x3 (x9 ++ [x12]) x10 (wrap64 (x11 + 1))) else (none))
end
def spec_NextTo.f (k : Nat) (l0 : List (S134)) (a1 : Int) (a2 : Int) (a3 : Int) : Option (List Int) := (spec_DistancesTo.f k l0 a1 a2 a3).bind fun t494 => (spec_NextTo.l0 k l0 a1 a2 a3 (([] : List Int)) t494 0)
theorem spec_NextTo.mono_l : ∀ k, (∀ y0 y1 y2 y3 y4 y5 y6, LeO (spec_NextTo.l0 k y0 y1 y2 y3 y4 y5 y6) (spec_NextTo.l0 (k + 1) y0 y1 y2 y3 y4 y5 y6)) ∧ (∀ y0 y1 y2 y3 y4 y5 y6 y7 y8 y9, LeO (spec_NextTo.l1 k y0 y1 y2 y3 y4 y5 y6 y7 y8 y9) (spec_NextTo.l1 (k + 1) y0 y1 y2 y3 y4 y5 y6 y7 y8 y9)) ∧ (∀ y0 y1 y2 y3 y4 y5 y6 y7 y8 y9 y10, LeO (spec_NextTo.j2 k y0 y1 y2 y3 y4 y5 y6 y7 y8 y9 y10) (spec_NextTo.j2 (k + 1) y0 y1 y2 y3 y4 y5 y6 y7 y8 y9 y10))
  | 0 => ⟨fun _ _ _ _ _ _ _ r h => by simp [spec_NextTo.l0] at h, fun _ _ _ _ _ _ _ _ _ _ r h => by simp [spec_NextTo.l1] at h, fun _ _ _ _ _ _ _ _ _ _ _ r h => by simp [spec_NextTo.j2] at h⟩
  | k + 1 => by
    obtain ⟨ih0, ih1, ih2⟩ := spec_NextTo.mono_l k
    refine ⟨?_, ?_, ?_⟩
    · intro y0 y1 y2 y3 y4 y5 y6
      unfold spec_NextTo.l0
      have m0 := @spec_DistancesTo.mono
      have m1 := @spec_NeighborsIn.mono
      exact mo
    · intro y0 y1 y2 y3 y4 y5 y6 y7 y8 y9
      unfold spec_NextTo.l1
      have m0 := @spec_DistancesTo.mono
      have m1 := @spec_NeighborsIn.mono
      exact mo
    · intro y0 y1 y2 y3 y4 y5 y6 y7 y8 y9 y10
      unfold spec_NextTo.j2
      have m0 := @spec_DistancesTo.mono
      have m1 := @spec_NeighborsIn.mono
      exact mo
theorem spec_NextTo.mono : ∀ a0 a1 a2 a3 k, LeO (spec_NextTo.f k a0 a1 a2 a3) (spec_NextTo.f (k + 1) a0 a1 a2 a3) := by
  intro a0 a1 a2 a3 k
  obtain ⟨ih0, ih1, ih2⟩ := spec_NextTo.mono_l k
  unfold spec_NextTo.f
  have m0 := @spec_DistancesTo.mono
  have m1 := @spec_NeighborsIn.mono
  exact mo
theorem spec_NextTo.calls (k : Nat) (A0 : Option Addr) (c0 : Nat) (l0 : List (S134)) (a1 : Int) (a2 : Int) (a3 : Int) (r : List Int) (w : World) (hr0 : Kd.C k134 w A0 l0.length l0) (hc0 : l0.length ≤ c0) (h : spec_NextTo.f k l0 a1 a2 a3 = some r) :
    Calls Try.prog 176 #[.slice A0 l0.length c0, .int .i64 a1, .int .i64 a2, .int .i64 a3] w fun e w' => ∃ v0_ : Value, e = .returned (v0_) ∧ Kd.R (Kd.int .i64) 3 w' w.heap.size (fun _ => True) v0_ r ∧ Below w.heap.size w w' := by
 have HR0 := am hr0
 have HC0 := am hc0
 clear hr0 hc0
 have HB := am (Below.refl w.heap.size w)
 have H := h; unfold spec_NextTo.f at H
 clear h
 obtain ⟨y491, hy491⟩ : ∃ y_ : List Int, y_ = (([] : List Int)) := ⟨_, rfl⟩
 replace H : ((spec_DistancesTo.f k l0 a1 a2 a3).bind fun t494 => (spec_NextTo.l0 k l0 a1 a2 a3 y491 t494 0)) = some r := ry hy491 H
 have Ny491 := am hy491
 clear hy491
 obtain ⟨t494, A5, H⟩ := bnd H
 have H' := am H
 clear H
 go_enter Try.func176, Try.ntmps176
 go_wp2_with (first | ((with_reducible refine gd 16 rfl ?_); refine Kd.R_lit (Kd.int .i64) _ 3 ?hg (N := 16) ?hd (xs := ([] : List Int)) (inner := []) (ok := fun _ => True) (okp := fun _ => True) ?hr ?hp (fun _ hk => hk) trivial (Below.refl _ _) (Nat.le_refl _) (by simp) ?_; (case hd => rfl); (case hg => rfl); (case hr => first | (go_simp; done) | (go_simp; rfl)); (case hp => exact (Reps.none _ _)); intro v492 w6 ho7 hb hg_ hnew_; clear hg_ hnew_; (first | rw [← Ny491.out] at ho7 | (simp only [Int.reduceToNat] at ho7; rw [← Ny491.out] at ho7)); have HO493 := am (Kd.R_lower ho7 (below_size (sb))); replace HB := bs hb; clear hb ho7) | (go_at_call 56; (with_reducible refine (spec_DistancesTo.calls k _ _ l0 a1 a2 a3 t494 _ ?side1 ?side2 A5.out).mono ?_); (case side1 => exact cb HR0); (case side2 => exact HC0.out); rintro e w8 ⟨v495, rfl, ho0, hb⟩; have HO496 := am (Kd.R_lower (Kd.R_new' ho0 (Kd.R_lt (sr HO493))) (below_size (sb))); replace HO493 := am (Kd.R_elder' (sr HO493) (Kd.R_base ho0) hb); replace HB := bs hb; (try clear hb); (try clear hk); (try clear ho0)))
 repeat (go_quiet (first | ((with_reducible refine gd 16 rfl ?_); refine Kd.R_lit (Kd.int .i64) _ 3 ?hg (N := 16) ?hd (xs := ([] : List Int)) (inner := []) (ok := fun _ => True) (okp := fun _ => True) ?hr ?hp (fun _ hk => hk) trivial (Below.refl _ _) (Nat.le_refl _) (by simp) ?_; (case hd => rfl); (case hg => rfl); (case hr => first | (go_simp; done) | (go_simp; rfl)); (case hp => exact (Reps.none _ _)); intro v492 w6 ho7 hb hg_ hnew_; clear hg_ hnew_; (first | rw [← Ny491.out] at ho7 | (simp only [Int.reduceToNat] at ho7; rw [← Ny491.out] at ho7)); have n0_ := am (Kd.R_lower ho7 (below_size (sb))); have n1_ := am (below_step (sb) hb); clear HB; have HO493 := n0_; have HB := n1_; clear n0_ n1_; clear hb ho7) | (go_at_call 56; (with_reducible refine (spec_DistancesTo.calls k _ _ l0 a1 a2 a3 t494 _ ?side1 ?side2 A5.out).mono ?_); (case side1 => exact cb HR0); (case side2 => exact HC0.out); rintro e w8 ⟨v495, rfl, ho0, hb⟩; have n0_ := am (Kd.R_elder' (sr HO493) (Kd.R_base ho0) hb); have n1_ := am (Kd.R_lower (Kd.R_new' ho0 (Kd.R_lt (sr HO493))) (below_size (sb))); have n2_ := am (below_step (sb) hb); clear HO493; clear HB; have HO493 := n0_; have HO496 := n1_; have HB := n2_; clear n0_ n1_ n2_; (try clear hb); (try clear hk); (try clear ho0))); try go_wp2_with (first | ((with_reducible refine gd 16 rfl ?_); refine Kd.R_lit (Kd.int .i64) _ 3 ?hg (N := 16) ?hd (xs := ([] : List Int)) (inner := []) (ok := fun _ => True) (okp := fun _ => True) ?hr ?hp (fun _ hk => hk) trivial (Below.refl _ _) (Nat.le_refl _) (by simp) ?_; (case hd => rfl); (case hg => rfl); (case hr => first | (go_simp; done) | (go_simp; rfl)); (case hp => exact (Reps.none _ _)); intro v492 w6 ho7 hb hg_ hnew_; clear hg_ hnew_; (first | rw [← Ny491.out] at ho7 | (simp only [Int.reduceToNat] at ho7; rw [← Ny491.out] at ho7)); have n0_ := am (Kd.R_lower ho7 (below_size (sb))); have n1_ := am (below_step (sb) hb); clear HB; have HO493 := n0_; have HB := n1_; clear n0_ n1_; clear hb ho7) | (go_at_call 56; (with_reducible refine (spec_DistancesTo.calls k _ _ l0 a1 a2 a3 t494 _ ?side1 ?side2 A5.out).mono ?_); (case side1 => exact cb HR0); (case side2 => exact HC0.out); rintro e w8 ⟨v495, rfl, ho0, hb⟩; have n0_ := am (Kd.R_elder' (sr HO493) (Kd.R_base ho0) hb); have n1_ := am (Kd.R_lower (Kd.R_new' ho0 (Kd.R_lt (sr HO493))) (below_size (sb))); have n2_ := am (below_step (sb) hb); clear HO493; clear HB; have HO493 := n0_; have HO496 := n1_; have HB := n2_; clear n0_ n1_ n2_; (try clear hb); (try clear hk); (try clear ho0))))
 go_loopg [9, 11] k (fun kq v9 v11 w' => ∃ (x9_1 : List Int) (x11_1 : Int), v11 = .int .i64 x11_1 ∧ Aside0 (spec_NextTo.l0 kq l0 a1 a2 a3 x9_1 t494 x11_1 = some r) ∧ Aside0 (kq ≤ k) ∧ Aside0 (Kd.R (Kd.int .i64) 3 w' w.heap.size (fun k_ => some k_ ≠ (v495 : Value).ownBlock) v9 x9_1) ∧ Aside0 (Kd.R (Kd.int .i64) 3 w' w.heap.size (fun k_ => some k_ ≠ (v9 : Value).ownBlock) v495 t494) ∧ Aside0 (Below w.heap.size w w'))
 case atStart => exact ⟨(y491), (0), sc, H', kk0, ⟨by exact rm HO493 (fun _ hk => hk.2)⟩, ⟨by exact rm HO496 (fun _ hk => hk.2)⟩, ⟨sb⟩⟩
 case round =>
  clear H'
  obtain ⟨x9_1, x11_1, rfl, HA, HK1, HO_9, HO_10, HB⟩ := hrel
  cases gk with
  | zero => exact absurd HA.out (by simp [spec_NextTo.l0])
  | succ k1 =>
   have H := HA.out
   clear HA
   simp only [spec_NextTo.l0] at H
   obtain ⟨-, c9b0, H⟩ | ⟨-, c9b0, H⟩ := ic_ H
   ·obtain ⟨t497, A10, H⟩ := bnd H
    have H' := am H
    clear H
    obtain ⟨Ao11, co11, eo11⟩ := Kd.R_slice HO_10.out
    subst eo11
    go_wp2_with (first | (go_at_call 127; (with_reducible refine (spec_NeighborsIn.calls k1 _ _ l0 x11_1 t497 _ ?side1 ?side2 A10.out).mono ?_); (case side1 => exact cb HR0); (case side2 => exact HC0.out); rintro e w12 ⟨v498, rfl, ho0, hb⟩; have HO499 := am (Kd.R_lower (Kd.R_new' (Kd.R_new' ho0 (Kd.R_lt (sr HO_9))) (Kd.R_lt (sr HO_10))) (below_size (sb))); replace HO_9 := am (Kd.R_elder' (sr HO_9) (Kd.R_base ho0) hb); replace HO_10 := am (Kd.R_elder' (sr HO_10) (Kd.R_base ho0) hb); replace HB := bs hb; (try clear hb); (try clear ho0)))
    repeat (go_quiet (first | (go_at_call 127; (with_reducible refine (spec_NeighborsIn.calls k1 _ _ l0 x11_1 t497 _ ?side1 ?side2 A10.out).mono ?_); (case side1 => exact cb HR0); (case side2 => exact HC0.out); rintro e w12 ⟨v498, rfl, ho0, hb⟩; have n0_ := am (Kd.R_elder' (sr HO_9) (Kd.R_base ho0) hb); have n1_ := am (Kd.R_elder' (sr HO_10) (Kd.R_base ho0) hb); have n2_ := am (Kd.R_lower (Kd.R_new' (Kd.R_new' ho0 (Kd.R_lt (sr HO_9))) (Kd.R_lt (sr HO_10))) (below_size (sb))); have n3_ := am (below_step (sb) hb); clear HO_9; clear HO_10; clear HB; have HO_9 := n0_; have HO_10 := n1_; have HO499 := n2_; have HB := n3_; clear n0_ n1_ n2_ n3_; (try clear hb); (try clear ho0))); try go_wp2_with (first | (go_at_call 127; (with_reducible refine (spec_NeighborsIn.calls k1 _ _ l0 x11_1 t497 _ ?side1 ?side2 A10.out).mono ?_); (case side1 => exact cb HR0); (case side2 => exact HC0.out); rintro e w12 ⟨v498, rfl, ho0, hb⟩; have n0_ := am (Kd.R_elder' (sr HO_9) (Kd.R_base ho0) hb); have n1_ := am (Kd.R_elder' (sr HO_10) (Kd.R_base ho0) hb); have n2_ := am (Kd.R_lower (Kd.R_new' (Kd.R_new' ho0 (Kd.R_lt (sr HO_9))) (Kd.R_lt (sr HO_10))) (below_size (sb))); have n3_ := am (below_step (sb) hb); clear HO_9; clear HO_10; clear HB; have HO_9 := n0_; have HO_10 := n1_; have HO499 := n2_; have HB := n3_; clear n0_ n1_ n2_ n3_; (try clear hb); (try clear ho0))))
    go_loopg [12, 14] k1 (fun kq v12 v14 w' => ∃ (x12_2 : Int) (x14_2 : Int), v12 = .int .i64 x12_2 ∧ v14 = .int .i64 x14_2 ∧ Aside0 (spec_NextTo.l1 kq l0 a1 a2 a3 x9_1 t494 x11_1 x12_2 t497 x14_2 = some r) ∧ Aside0 (kq ≤ k1) ∧ Aside0 (Kd.R (Kd.int .i64) 3 w' w.heap.size (fun k_ => some k_ ≠ ((.slice Ao11 t494.length co11) : Value).ownBlock ∧ some k_ ≠ (v498 : Value).ownBlock) u9 x9_1) ∧ Aside0 (Kd.R (Kd.int .i64) 3 w' w.heap.size (fun k_ => some k_ ≠ (u9 : Value).ownBlock ∧ some k_ ≠ (v498 : Value).ownBlock) (.slice Ao11 t494.length co11) t494) ∧ Aside0 (Kd.R (Kd.int .i64) 3 w' w.heap.size (fun k_ => some k_ ≠ (u9 : Value).ownBlock ∧ some k_ ≠ ((.slice Ao11 t494.length co11) : Value).ownBlock) v498 t497) ∧ Aside0 (Below w.heap.size w w'))
    case atStart => exact ⟨((-1)), (0), sc, sc, H', kk0, ⟨sr HO_9⟩, ⟨sr HO_10⟩, ⟨by exact rm HO499 (fun _ hk => ⟨hk.1.2, hk.2⟩)⟩, ⟨sb⟩⟩
    case round =>
     clear H'
     try clear c9
     try clear c9b0
     obtain ⟨x12_2, x14_2, rfl, rfl, HA, HK2, HO_9, HO_10, HO_13, HB⟩ := hrel
     cases gk with
     | zero => exact absurd HA.out (by simp [spec_NextTo.l1])
     | succ k2 =>
      have H := HA.out
      clear HA
      simp only [spec_NextTo.l1] at H
      have HC13 := am H
      clear H
      go_upto_region 9 with (fail)
      repeat (go_quiet (fail); go_upto_region 9 with (fail))
      go_cut [45] (fun v45 wc => ∃ (kq : Nat) (x45_12 : Bool), v45 = .bool x45_12 ∧ Aside0 (spec_NextTo.j2 kq l0 a1 a2 a3 x9_1 t494 x11_1 x12_2 t497 x14_2 x45_12 = some r) ∧ Aside0 (kq ≤ k2) ∧ Aside0 (Kd.R (Kd.int .i64) 3 wc w.heap.size (fun k_ => some k_ ≠ ((.slice Ao11 t494.length co11) : Value).ownBlock ∧ some k_ ≠ (v498 : Value).ownBlock) u9 x9_1) ∧ Aside0 (Kd.R (Kd.int .i64) 3 wc w.heap.size (fun k_ => some k_ ≠ (u9 : Value).ownBlock ∧ some k_ ≠ (v498 : Value).ownBlock) (.slice Ao11 t494.length co11) t494) ∧ Aside0 (Kd.R (Kd.int .i64) 3 wc w.heap.size (fun k_ => some k_ ≠ (u9 : Value).ownBlock ∧ some k_ ≠ ((.slice Ao11 t494.length co11) : Value).ownBlock) v498 t497) ∧ Aside0 (Below w.heap.size w wc))
      case first =>
       have H := HC13.out
       clear HC13
       obtain ⟨-, c14b0, H⟩ | ⟨-, c14b0, H⟩ := ic_ H
       ·(first | rw [c14b0] | (simp only [i64_w, i32_w]; rw [c14b0]) | rw [c14b1] | skip)
        obtain ⟨c15b0, H⟩ := id_ H
        obtain ⟨c16b0, H⟩ := id_ H
        obtain ⟨-, c17b0, H⟩ | ⟨-, c17b0, H⟩ := ic_ H
        ·have H' := am H
         clear H
         obtain ⟨Ao18, co18, eo18⟩ := Kd.R_slice HO_13.out
         subst eo18
         have p500 : 0 ≤ (x11_1 : Int) := sa
         have q500 : x11_1 < (t494.length : Int) := sa
         obtain ⟨ad500, e500, hx500_0⟩ := Kd.at_int (Kd.R_reads' HO_10.out).2.2 x11_1 p500 q500
         cases e500
         replace p500 := eq_true p500
         replace q500 := eq_true q500
         go_wp2
         repeat (go_quiet (fail); try go_wp2)
         go_meet
         case rel => exact ⟨_, (decide (x12_2 < 0)), sc, H', ⟨a16_1⟩, ⟨sr HO_9⟩, ⟨sr HO_10⟩, ⟨sr HO_13⟩, ⟨sb⟩⟩
        ·have H' := am H
         clear H
         obtain ⟨Ao19, co19, eo19⟩ := Kd.R_slice HO_13.out
         subst eo19
         have p500 : 0 ≤ (x11_1 : Int) := sa
         have q500 : x11_1 < (t494.length : Int) := sa
         obtain ⟨ad500, e500, hx500_0⟩ := Kd.at_int (Kd.R_reads' HO_10.out).2.2 x11_1 p500 q500
         cases e500
         replace p500 := eq_true p500
         replace q500 := eq_true q500
         go_wp2
         repeat (go_quiet (fail); try go_wp2)
         go_meet
         case rel => exact ⟨_, (false), sc, H', ⟨a16_1⟩, ⟨sr HO_9⟩, ⟨sr HO_10⟩, ⟨sr HO_13⟩, ⟨sb⟩⟩
       ·(first | rw [c14b0] | (simp only [i64_w, i32_w]; rw [c14b0]) | rw [c14b1] | skip)
        have H' := am H
        clear H
        obtain ⟨Ao20, co20, eo20⟩ := Kd.R_slice HO_13.out
        subst eo20
        go_wp2
        repeat (go_quiet (fail); try go_wp2)
        go_meet
        case rel => exact ⟨_, (false), sc, H', ⟨a16_1⟩, ⟨sr HO_9⟩, ⟨sr HO_10⟩, ⟨sr HO_13⟩, ⟨sb⟩⟩
      case rest =>
       clear HC13
       try clear c9
       try clear c9b0
       obtain ⟨kq, x45_12, rfl, HA, HJ12, HO_9, HO_10, HO_13, HB⟩ := hcut
       cases kq with
       | zero => exact absurd HA.out (by simp [spec_NextTo.j2])
       | succ kj12 =>
        have H := HA.out
        clear HA
        simp only [spec_NextTo.j2] at H
        obtain rfl | rfl := tt x45_12
        ·replace H := ip H
         obtain ⟨c22b0, H⟩ := id_ H
         obtain ⟨c23b0, H⟩ := id_ H
         obtain ⟨t502, A24, H⟩ := bnd H
         obtain rfl | rfl := tt t502
         ·replace H := ip H
          obtain ⟨-, c26b0, H⟩ | ⟨-, c26b0, H⟩ := ic_ H
          ·obtain ⟨c27b0, H⟩ := id_ H
           obtain ⟨c28b0, H⟩ := id_ H
           obtain ⟨c29b0, H⟩ := id_ H
           obtain ⟨c30b0, H⟩ := id_ H
           obtain ⟨c31, H⟩ | ⟨c31, H⟩ := ie_ H
           ·have c31b0 : ((rd t494 (rd t497 x14_2)) == (wrap64 ((rd t494 x11_1) - 1))) = true := beq_iff_eq.mpr c31
            have c31b0_ := c31b0
            simp only [← i64_w] at c31b0_
            have c31b1 : ((rd t494 (rd t497 x14_2)) != (wrap64 ((rd t494 x11_1) - 1))) = false := bne_eq_false_iff_eq.mpr c31
            have c31b1_ := c31b1
            simp only [← i64_w] at c31b1_
            clear c31
            have H' := am H
            clear H
            obtain ⟨Ao32, co32, eo32⟩ := Kd.R_slice HO_13.out
            subst eo32
            have p501 : 0 ≤ (x14_2 : Int) := sa
            have q501 : x14_2 < (t497.length : Int) := sa
            obtain ⟨ad501, e501, hx501_0⟩ := Kd.at_int (Kd.R_reads' HO_13.out).2.2 x14_2 p501 q501
            cases e501
            replace p501 := eq_true p501
            replace q501 := eq_true q501
            go_wp2_with (first | (go_at_call 85; (try simp only [i64_w, i32_w]); (with_reducible refine (spec_l1In.calls (rd t497 x14_2) 0 (wrap64 (a1 - 1)) true _ A24.out).mono ?_); rintro e w' ⟨rfl, ⟨nd, rfl⟩⟩; (try first | exact ⟨rfl, _, World.drewN_drewN _ _ _⟩ | exact ⟨rfl, _, Eq.trans (World.drewN_drewN _ _ _) (congrArg (World.drewN _) (Nat.add_assoc _ _ _))⟩); have p503 : 0 ≤ ((rd t497 x14_2) : Int) := sa; have q503 : (rd t497 x14_2) < (t494.length : Int) := sa; obtain ⟨ad503, e503, hx503_0⟩ := Kd.at_int (Kd.R_reads' HO_10.out).2.2 (rd t497 x14_2) p503 q503; cases e503; replace p503 := eq_true p503; replace q503 := eq_true q503; have p504 : 0 ≤ (x11_1 : Int) := sa; have q504 : x11_1 < (t494.length : Int) := sa; obtain ⟨ad504, e504, hx504_0⟩ := Kd.at_int (Kd.R_reads' HO_10.out).2.2 x11_1 p504 q504; obtain rfl : ad503 = ad504 := (by injection e504); replace p504 := eq_true p504; replace q504 := eq_true q504))
            repeat (go_quiet (first | (go_at_call 85; (try simp only [i64_w, i32_w]); (with_reducible refine (spec_l1In.calls (rd t497 x14_2) 0 (wrap64 (a1 - 1)) true _ A24.out).mono ?_); rintro e w' ⟨rfl, ⟨nd, rfl⟩⟩; (try first | exact ⟨rfl, _, World.drewN_drewN _ _ _⟩ | exact ⟨rfl, _, Eq.trans (World.drewN_drewN _ _ _) (congrArg (World.drewN _) (Nat.add_assoc _ _ _))⟩); have p503 : 0 ≤ ((rd t497 x14_2) : Int) := sa; have q503 : (rd t497 x14_2) < (t494.length : Int) := sa; obtain ⟨ad503, e503, hx503_0⟩ := Kd.at_int (Kd.R_reads' HO_10.out).2.2 (rd t497 x14_2) p503 q503; cases e503; replace p503 := eq_true p503; replace q503 := eq_true q503; have p504 : 0 ≤ (x11_1 : Int) := sa; have q504 : x11_1 < (t494.length : Int) := sa; obtain ⟨ad504, e504, hx504_0⟩ := Kd.at_int (Kd.R_reads' HO_10.out).2.2 x11_1 p504 q504; obtain rfl : ad503 = ad504 := (by injection e504); replace p504 := eq_true p504; replace q504 := eq_true q504)); try go_wp2_with (first | (go_at_call 85; (try simp only [i64_w, i32_w]); (with_reducible refine (spec_l1In.calls (rd t497 x14_2) 0 (wrap64 (a1 - 1)) true _ A24.out).mono ?_); rintro e w' ⟨rfl, ⟨nd, rfl⟩⟩; (try first | exact ⟨rfl, _, World.drewN_drewN _ _ _⟩ | exact ⟨rfl, _, Eq.trans (World.drewN_drewN _ _ _) (congrArg (World.drewN _) (Nat.add_assoc _ _ _))⟩); have p503 : 0 ≤ ((rd t497 x14_2) : Int) := sa; have q503 : (rd t497 x14_2) < (t494.length : Int) := sa; obtain ⟨ad503, e503, hx503_0⟩ := Kd.at_int (Kd.R_reads' HO_10.out).2.2 (rd t497 x14_2) p503 q503; cases e503; replace p503 := eq_true p503; replace q503 := eq_true q503; have p504 : 0 ≤ (x11_1 : Int) := sa; have q504 : x11_1 < (t494.length : Int) := sa; obtain ⟨ad504, e504, hx504_0⟩ := Kd.at_int (Kd.R_reads' HO_10.out).2.2 x11_1 p504 q504; obtain rfl : ad503 = ad504 := (by injection e504); replace p504 := eq_true p504; replace q504 := eq_true q504)))
            go_roundg kj12
            case measure => have := HK1.out; have := HK2.out; have := HJ12.out; omega
            case rel => exact ⟨(rd t497 x14_2), (wrap64 (x14_2 + 1)), sc, sc, H', ⟨a16_0⟩, ⟨sr HO_9⟩, ⟨sr HO_10⟩, ⟨sr HO_13⟩, ⟨sb⟩⟩
           ·have c31b0 : ((rd t494 (rd t497 x14_2)) == (wrap64 ((rd t494 x11_1) - 1))) = false := beq_eq_false_iff_ne.mpr c31
            have c31b0_ := c31b0
            simp only [← i64_w] at c31b0_
            have c31b1 : ((rd t494 (rd t497 x14_2)) != (wrap64 ((rd t494 x11_1) - 1))) = true := bne_iff_ne.mpr c31
            have c31b1_ := c31b1
            simp only [← i64_w] at c31b1_
            have H' := am H
            clear H
            obtain ⟨Ao33, co33, eo33⟩ := Kd.R_slice HO_13.out
            subst eo33
            have p501 : 0 ≤ (x14_2 : Int) := sa
            have q501 : x14_2 < (t497.length : Int) := sa
            obtain ⟨ad501, e501, hx501_0⟩ := Kd.at_int (Kd.R_reads' HO_13.out).2.2 x14_2 p501 q501
            cases e501
            replace p501 := eq_true p501
            replace q501 := eq_true q501
            go_wp2_with (first | (go_at_call 85; (try simp only [i64_w, i32_w]); (with_reducible refine (spec_l1In.calls (rd t497 x14_2) 0 (wrap64 (a1 - 1)) true _ A24.out).mono ?_); rintro e w' ⟨rfl, ⟨nd, rfl⟩⟩; (try first | exact ⟨rfl, _, World.drewN_drewN _ _ _⟩ | exact ⟨rfl, _, Eq.trans (World.drewN_drewN _ _ _) (congrArg (World.drewN _) (Nat.add_assoc _ _ _))⟩); have p503 : 0 ≤ ((rd t497 x14_2) : Int) := sa; have q503 : (rd t497 x14_2) < (t494.length : Int) := sa; obtain ⟨ad503, e503, hx503_0⟩ := Kd.at_int (Kd.R_reads' HO_10.out).2.2 (rd t497 x14_2) p503 q503; cases e503; replace p503 := eq_true p503; replace q503 := eq_true q503; have p504 : 0 ≤ (x11_1 : Int) := sa; have q504 : x11_1 < (t494.length : Int) := sa; obtain ⟨ad504, e504, hx504_0⟩ := Kd.at_int (Kd.R_reads' HO_10.out).2.2 x11_1 p504 q504; obtain rfl : ad503 = ad504 := (by injection e504); replace p504 := eq_true p504; replace q504 := eq_true q504))
            repeat (go_quiet (first | (go_at_call 85; (try simp only [i64_w, i32_w]); (with_reducible refine (spec_l1In.calls (rd t497 x14_2) 0 (wrap64 (a1 - 1)) true _ A24.out).mono ?_); rintro e w' ⟨rfl, ⟨nd, rfl⟩⟩; (try first | exact ⟨rfl, _, World.drewN_drewN _ _ _⟩ | exact ⟨rfl, _, Eq.trans (World.drewN_drewN _ _ _) (congrArg (World.drewN _) (Nat.add_assoc _ _ _))⟩); have p503 : 0 ≤ ((rd t497 x14_2) : Int) := sa; have q503 : (rd t497 x14_2) < (t494.length : Int) := sa; obtain ⟨ad503, e503, hx503_0⟩ := Kd.at_int (Kd.R_reads' HO_10.out).2.2 (rd t497 x14_2) p503 q503; cases e503; replace p503 := eq_true p503; replace q503 := eq_true q503; have p504 : 0 ≤ (x11_1 : Int) := sa; have q504 : x11_1 < (t494.length : Int) := sa; obtain ⟨ad504, e504, hx504_0⟩ := Kd.at_int (Kd.R_reads' HO_10.out).2.2 x11_1 p504 q504; obtain rfl : ad503 = ad504 := (by injection e504); replace p504 := eq_true p504; replace q504 := eq_true q504)); try go_wp2_with (first | (go_at_call 85; (try simp only [i64_w, i32_w]); (with_reducible refine (spec_l1In.calls (rd t497 x14_2) 0 (wrap64 (a1 - 1)) true _ A24.out).mono ?_); rintro e w' ⟨rfl, ⟨nd, rfl⟩⟩; (try first | exact ⟨rfl, _, World.drewN_drewN _ _ _⟩ | exact ⟨rfl, _, Eq.trans (World.drewN_drewN _ _ _) (congrArg (World.drewN _) (Nat.add_assoc _ _ _))⟩); have p503 : 0 ≤ ((rd t497 x14_2) : Int) := sa; have q503 : (rd t497 x14_2) < (t494.length : Int) := sa; obtain ⟨ad503, e503, hx503_0⟩ := Kd.at_int (Kd.R_reads' HO_10.out).2.2 (rd t497 x14_2) p503 q503; cases e503; replace p503 := eq_true p503; replace q503 := eq_true q503; have p504 : 0 ≤ (x11_1 : Int) := sa; have q504 : x11_1 < (t494.length : Int) := sa; obtain ⟨ad504, e504, hx504_0⟩ := Kd.at_int (Kd.R_reads' HO_10.out).2.2 x11_1 p504 q504; obtain rfl : ad503 = ad504 := (by injection e504); replace p504 := eq_true p504; replace q504 := eq_true q504)))
            go_roundg kj12
            case measure => have := HK1.out; have := HK2.out; have := HJ12.out; omega
            case rel => exact ⟨(x12_2), (wrap64 (x14_2 + 1)), sc, sc, H', ⟨a16_0⟩, ⟨sr HO_9⟩, ⟨sr HO_10⟩, ⟨sr HO_13⟩, ⟨sb⟩⟩
          ·obtain ⟨-, c34b0, c34b1, H⟩ | ⟨c34, c34b0, c34b1, H⟩ := ib_ H
           ·obtain ⟨c35b0, H⟩ := id_ H
            obtain ⟨c36b0, H⟩ := id_ H
            obtain ⟨c37b0, H⟩ := id_ H
            obtain ⟨c38b0, H⟩ := id_ H
            obtain ⟨c39, H⟩ | ⟨c39, H⟩ := ie_ H
            ·have c39b0 : ((rd t494 (rd t497 x14_2)) == (wrap64 ((rd t494 x11_1) - 1))) = true := beq_iff_eq.mpr c39
             have c39b0_ := c39b0
             simp only [← i64_w] at c39b0_
             have c39b1 : ((rd t494 (rd t497 x14_2)) != (wrap64 ((rd t494 x11_1) - 1))) = false := bne_eq_false_iff_eq.mpr c39
             have c39b1_ := c39b1
             simp only [← i64_w] at c39b1_
             clear c39
             have H' := am H
             clear H
             obtain ⟨Ao40, co40, eo40⟩ := Kd.R_slice HO_13.out
             subst eo40
             have p501 : 0 ≤ (x14_2 : Int) := sa
             have q501 : x14_2 < (t497.length : Int) := sa
             obtain ⟨ad501, e501, hx501_0⟩ := Kd.at_int (Kd.R_reads' HO_13.out).2.2 x14_2 p501 q501
             cases e501
             replace p501 := eq_true p501
             replace q501 := eq_true q501
             go_wp2_with (first | (go_at_call 85; (try simp only [i64_w, i32_w]); (with_reducible refine (spec_l1In.calls (rd t497 x14_2) 0 (wrap64 (a1 - 1)) true _ A24.out).mono ?_); rintro e w' ⟨rfl, ⟨nd, rfl⟩⟩; (try first | exact ⟨rfl, _, World.drewN_drewN _ _ _⟩ | exact ⟨rfl, _, Eq.trans (World.drewN_drewN _ _ _) (congrArg (World.drewN _) (Nat.add_assoc _ _ _))⟩); have p505 : 0 ≤ ((rd t497 x14_2) : Int) := sa; have q505 : (rd t497 x14_2) < (t494.length : Int) := sa; obtain ⟨ad505, e505, hx505_0⟩ := Kd.at_int (Kd.R_reads' HO_10.out).2.2 (rd t497 x14_2) p505 q505; cases e505; replace p505 := eq_true p505; replace q505 := eq_true q505; have p506 : 0 ≤ (x11_1 : Int) := sa; have q506 : x11_1 < (t494.length : Int) := sa; obtain ⟨ad506, e506, hx506_0⟩ := Kd.at_int (Kd.R_reads' HO_10.out).2.2 x11_1 p506 q506; obtain rfl : ad505 = ad506 := (by injection e506); replace p506 := eq_true p506; replace q506 := eq_true q506))
             repeat (go_quiet (first | (go_at_call 85; (try simp only [i64_w, i32_w]); (with_reducible refine (spec_l1In.calls (rd t497 x14_2) 0 (wrap64 (a1 - 1)) true _ A24.out).mono ?_); rintro e w' ⟨rfl, ⟨nd, rfl⟩⟩; (try first | exact ⟨rfl, _, World.drewN_drewN _ _ _⟩ | exact ⟨rfl, _, Eq.trans (World.drewN_drewN _ _ _) (congrArg (World.drewN _) (Nat.add_assoc _ _ _))⟩); have p505 : 0 ≤ ((rd t497 x14_2) : Int) := sa; have q505 : (rd t497 x14_2) < (t494.length : Int) := sa; obtain ⟨ad505, e505, hx505_0⟩ := Kd.at_int (Kd.R_reads' HO_10.out).2.2 (rd t497 x14_2) p505 q505; cases e505; replace p505 := eq_true p505; replace q505 := eq_true q505; have p506 : 0 ≤ (x11_1 : Int) := sa; have q506 : x11_1 < (t494.length : Int) := sa; obtain ⟨ad506, e506, hx506_0⟩ := Kd.at_int (Kd.R_reads' HO_10.out).2.2 x11_1 p506 q506; obtain rfl : ad505 = ad506 := (by injection e506); replace p506 := eq_true p506; replace q506 := eq_true q506)); try go_wp2_with (first | (go_at_call 85; (try simp only [i64_w, i32_w]); (with_reducible refine (spec_l1In.calls (rd t497 x14_2) 0 (wrap64 (a1 - 1)) true _ A24.out).mono ?_); rintro e w' ⟨rfl, ⟨nd, rfl⟩⟩; (try first | exact ⟨rfl, _, World.drewN_drewN _ _ _⟩ | exact ⟨rfl, _, Eq.trans (World.drewN_drewN _ _ _) (congrArg (World.drewN _) (Nat.add_assoc _ _ _))⟩); have p505 : 0 ≤ ((rd t497 x14_2) : Int) := sa; have q505 : (rd t497 x14_2) < (t494.length : Int) := sa; obtain ⟨ad505, e505, hx505_0⟩ := Kd.at_int (Kd.R_reads' HO_10.out).2.2 (rd t497 x14_2) p505 q505; cases e505; replace p505 := eq_true p505; replace q505 := eq_true q505; have p506 : 0 ≤ (x11_1 : Int) := sa; have q506 : x11_1 < (t494.length : Int) := sa; obtain ⟨ad506, e506, hx506_0⟩ := Kd.at_int (Kd.R_reads' HO_10.out).2.2 x11_1 p506 q506; obtain rfl : ad505 = ad506 := (by injection e506); replace p506 := eq_true p506; replace q506 := eq_true q506)))
             go_roundg kj12
             case measure => have := HK1.out; have := HK2.out; have := HJ12.out; omega
             case rel => exact ⟨(rd t497 x14_2), (wrap64 (x14_2 + 1)), sc, sc, H', ⟨a16_0⟩, ⟨sr HO_9⟩, ⟨sr HO_10⟩, ⟨sr HO_13⟩, ⟨sb⟩⟩
            ·have c39b0 : ((rd t494 (rd t497 x14_2)) == (wrap64 ((rd t494 x11_1) - 1))) = false := beq_eq_false_iff_ne.mpr c39
             have c39b0_ := c39b0
             simp only [← i64_w] at c39b0_
             have c39b1 : ((rd t494 (rd t497 x14_2)) != (wrap64 ((rd t494 x11_1) - 1))) = true := bne_iff_ne.mpr c39
             have c39b1_ := c39b1
             simp only [← i64_w] at c39b1_
             have H' := am H
             clear H
             obtain ⟨Ao41, co41, eo41⟩ := Kd.R_slice HO_13.out
             subst eo41
             have p501 : 0 ≤ (x14_2 : Int) := sa
             have q501 : x14_2 < (t497.length : Int) := sa
             obtain ⟨ad501, e501, hx501_0⟩ := Kd.at_int (Kd.R_reads' HO_13.out).2.2 x14_2 p501 q501
             cases e501
             replace p501 := eq_true p501
             replace q501 := eq_true q501
             go_wp2_with (first | (go_at_call 85; (try simp only [i64_w, i32_w]); (with_reducible refine (spec_l1In.calls (rd t497 x14_2) 0 (wrap64 (a1 - 1)) true _ A24.out).mono ?_); rintro e w' ⟨rfl, ⟨nd, rfl⟩⟩; (try first | exact ⟨rfl, _, World.drewN_drewN _ _ _⟩ | exact ⟨rfl, _, Eq.trans (World.drewN_drewN _ _ _) (congrArg (World.drewN _) (Nat.add_assoc _ _ _))⟩); have p505 : 0 ≤ ((rd t497 x14_2) : Int) := sa; have q505 : (rd t497 x14_2) < (t494.length : Int) := sa; obtain ⟨ad505, e505, hx505_0⟩ := Kd.at_int (Kd.R_reads' HO_10.out).2.2 (rd t497 x14_2) p505 q505; cases e505; replace p505 := eq_true p505; replace q505 := eq_true q505; have p506 : 0 ≤ (x11_1 : Int) := sa; have q506 : x11_1 < (t494.length : Int) := sa; obtain ⟨ad506, e506, hx506_0⟩ := Kd.at_int (Kd.R_reads' HO_10.out).2.2 x11_1 p506 q506; obtain rfl : ad505 = ad506 := (by injection e506); replace p506 := eq_true p506; replace q506 := eq_true q506))
             repeat (go_quiet (first | (go_at_call 85; (try simp only [i64_w, i32_w]); (with_reducible refine (spec_l1In.calls (rd t497 x14_2) 0 (wrap64 (a1 - 1)) true _ A24.out).mono ?_); rintro e w' ⟨rfl, ⟨nd, rfl⟩⟩; (try first | exact ⟨rfl, _, World.drewN_drewN _ _ _⟩ | exact ⟨rfl, _, Eq.trans (World.drewN_drewN _ _ _) (congrArg (World.drewN _) (Nat.add_assoc _ _ _))⟩); have p505 : 0 ≤ ((rd t497 x14_2) : Int) := sa; have q505 : (rd t497 x14_2) < (t494.length : Int) := sa; obtain ⟨ad505, e505, hx505_0⟩ := Kd.at_int (Kd.R_reads' HO_10.out).2.2 (rd t497 x14_2) p505 q505; cases e505; replace p505 := eq_true p505; replace q505 := eq_true q505; have p506 : 0 ≤ (x11_1 : Int) := sa; have q506 : x11_1 < (t494.length : Int) := sa; obtain ⟨ad506, e506, hx506_0⟩ := Kd.at_int (Kd.R_reads' HO_10.out).2.2 x11_1 p506 q506; obtain rfl : ad505 = ad506 := (by injection e506); replace p506 := eq_true p506; replace q506 := eq_true q506)); try go_wp2_with (first | (go_at_call 85; (try simp only [i64_w, i32_w]); (with_reducible refine (spec_l1In.calls (rd t497 x14_2) 0 (wrap64 (a1 - 1)) true _ A24.out).mono ?_); rintro e w' ⟨rfl, ⟨nd, rfl⟩⟩; (try first | exact ⟨rfl, _, World.drewN_drewN _ _ _⟩ | exact ⟨rfl, _, Eq.trans (World.drewN_drewN _ _ _) (congrArg (World.drewN _) (Nat.add_assoc _ _ _))⟩); have p505 : 0 ≤ ((rd t497 x14_2) : Int) := sa; have q505 : (rd t497 x14_2) < (t494.length : Int) := sa; obtain ⟨ad505, e505, hx505_0⟩ := Kd.at_int (Kd.R_reads' HO_10.out).2.2 (rd t497 x14_2) p505 q505; cases e505; replace p505 := eq_true p505; replace q505 := eq_true q505; have p506 : 0 ≤ (x11_1 : Int) := sa; have q506 : x11_1 < (t494.length : Int) := sa; obtain ⟨ad506, e506, hx506_0⟩ := Kd.at_int (Kd.R_reads' HO_10.out).2.2 x11_1 p506 q506; obtain rfl : ad505 = ad506 := (by injection e506); replace p506 := eq_true p506; replace q506 := eq_true q506)))
             go_roundg kj12
             case measure => have := HK1.out; have := HK2.out; have := HJ12.out; omega
             case rel => exact ⟨(x12_2), (wrap64 (x14_2 + 1)), sc, sc, H', ⟨a16_0⟩, ⟨sr HO_9⟩, ⟨sr HO_10⟩, ⟨sr HO_13⟩, ⟨sb⟩⟩
           ·have H' := am H
            clear H
            obtain ⟨Ao42, co42, eo42⟩ := Kd.R_slice HO_13.out
            subst eo42
            have p501 : 0 ≤ (x14_2 : Int) := sa
            have q501 : x14_2 < (t497.length : Int) := sa
            obtain ⟨ad501, e501, hx501_0⟩ := Kd.at_int (Kd.R_reads' HO_13.out).2.2 x14_2 p501 q501
            cases e501
            replace p501 := eq_true p501
            replace q501 := eq_true q501
            go_wp2_with (first | (go_at_call 85; (try simp only [i64_w, i32_w]); (with_reducible refine (spec_l1In.calls (rd t497 x14_2) 0 (wrap64 (a1 - 1)) true _ A24.out).mono ?_); rintro e w' ⟨rfl, ⟨nd, rfl⟩⟩; (try first | exact ⟨rfl, _, World.drewN_drewN _ _ _⟩ | exact ⟨rfl, _, Eq.trans (World.drewN_drewN _ _ _) (congrArg (World.drewN _) (Nat.add_assoc _ _ _))⟩)))
            repeat (go_quiet (first | (go_at_call 85; (try simp only [i64_w, i32_w]); (with_reducible refine (spec_l1In.calls (rd t497 x14_2) 0 (wrap64 (a1 - 1)) true _ A24.out).mono ?_); rintro e w' ⟨rfl, ⟨nd, rfl⟩⟩; (try first | exact ⟨rfl, _, World.drewN_drewN _ _ _⟩ | exact ⟨rfl, _, Eq.trans (World.drewN_drewN _ _ _) (congrArg (World.drewN _) (Nat.add_assoc _ _ _))⟩))); try go_wp2_with (first | (go_at_call 85; (try simp only [i64_w, i32_w]); (with_reducible refine (spec_l1In.calls (rd t497 x14_2) 0 (wrap64 (a1 - 1)) true _ A24.out).mono ?_); rintro e w' ⟨rfl, ⟨nd, rfl⟩⟩; (try first | exact ⟨rfl, _, World.drewN_drewN _ _ _⟩ | exact ⟨rfl, _, Eq.trans (World.drewN_drewN _ _ _) (congrArg (World.drewN _) (Nat.add_assoc _ _ _))⟩))))
            go_roundg kj12
            case measure => have := HK1.out; have := HK2.out; have := HJ12.out; omega
            case rel => exact ⟨(x12_2), (wrap64 (x14_2 + 1)), sc, sc, H', ⟨a16_0⟩, ⟨sr HO_9⟩, ⟨sr HO_10⟩, ⟨sr HO_13⟩, ⟨sb⟩⟩
         ·replace H := im H
          have H' := am H
          clear H
          obtain ⟨Ao43, co43, eo43⟩ := Kd.R_slice HO_13.out
          subst eo43
          have p501 : 0 ≤ (x14_2 : Int) := sa
          have q501 : x14_2 < (t497.length : Int) := sa
          obtain ⟨ad501, e501, hx501_0⟩ := Kd.at_int (Kd.R_reads' HO_13.out).2.2 x14_2 p501 q501
          cases e501
          replace p501 := eq_true p501
          replace q501 := eq_true q501
          go_wp2_with (first | (go_at_call 85; (try simp only [i64_w, i32_w]); (with_reducible refine (spec_l1In.calls (rd t497 x14_2) 0 (wrap64 (a1 - 1)) false _ A24.out).mono ?_); rintro e w' ⟨rfl, ⟨nd, rfl⟩⟩; (try first | exact ⟨rfl, _, World.drewN_drewN _ _ _⟩ | exact ⟨rfl, _, Eq.trans (World.drewN_drewN _ _ _) (congrArg (World.drewN _) (Nat.add_assoc _ _ _))⟩)))
          repeat (go_quiet (first | (go_at_call 85; (try simp only [i64_w, i32_w]); (with_reducible refine (spec_l1In.calls (rd t497 x14_2) 0 (wrap64 (a1 - 1)) false _ A24.out).mono ?_); rintro e w' ⟨rfl, ⟨nd, rfl⟩⟩; (try first | exact ⟨rfl, _, World.drewN_drewN _ _ _⟩ | exact ⟨rfl, _, Eq.trans (World.drewN_drewN _ _ _) (congrArg (World.drewN _) (Nat.add_assoc _ _ _))⟩))); try go_wp2_with (first | (go_at_call 85; (try simp only [i64_w, i32_w]); (with_reducible refine (spec_l1In.calls (rd t497 x14_2) 0 (wrap64 (a1 - 1)) false _ A24.out).mono ?_); rintro e w' ⟨rfl, ⟨nd, rfl⟩⟩; (try first | exact ⟨rfl, _, World.drewN_drewN _ _ _⟩ | exact ⟨rfl, _, Eq.trans (World.drewN_drewN _ _ _) (congrArg (World.drewN _) (Nat.add_assoc _ _ _))⟩))))
          go_roundg kj12
          case measure => have := HK1.out; have := HK2.out; have := HJ12.out; omega
          case rel => exact ⟨(x12_2), (wrap64 (x14_2 + 1)), sc, sc, H', ⟨a16_0⟩, ⟨sr HO_9⟩, ⟨sr HO_10⟩, ⟨sr HO_13⟩, ⟨sb⟩⟩
        ·replace H := im H
         obtain ⟨LMc44, H⟩ := il_ H
         obtain ⟨y507, hy507⟩ : ∃ y_ : List Int, y_ = (x9_1 ++ [x12_2]) := ⟨_, rfl⟩
         replace H : (spec_NextTo.l0 kj12 l0 a1 a2 a3 y507 t494 (wrap64 (x11_1 + 1))) = some r := ry hy507 H
         have Ny507 := am hy507
         clear hy507
         have H' := am H
         clear H
         go_wp2_with (first | ((with_reducible refine gate_builtin (b := .append) (xs := #[.tmp 79, .tmp 81]) rfl ?_); at_builtin; refine Kd.R_append (Kd.int .i64) (w0 := w) w.heap.size rfl (.tmp 79) (.tmp 81) 28 3 (.int .i64 0) 8 rfl Try.underlying28 info3 rfl (by decide) (by omega) u9 x9_1 x12_2 [.int .i64 x12_2] (fun k_ => some k_ ≠ (.slice Ao11 t494.length co11 : Value).ownBlock ∧ some k_ ≠ (v498 : Value).ownBlock) (fun _ => False) rfl rfl ?aP (fun _ hk => hk.elim) ?aF ?aO ?aB ?aS ?aL ?_; (case aP => exact rfl); (case aB => exact (sb)); (case aF => exact (fun k_ hk => ⟨Kd.fresh' (Kd.R_lt (sr HO_10)) k_ hk, Kd.fresh' (Kd.R_lt (sr HO_13)) k_ hk⟩)); (case aO => exact (sr HO_9)); (case aS => exact (below_size (sb))); (case aL => have := LMc44.out; omega); intro v508 w45 ho hb hg hat; rw [← Ny507.out] at ho; replace HO_10 := am (Kd.R_after (ok := (fun k_ => some k_ ≠ (v498 : Value).ownBlock)) a16_2 hg hat); replace HO_13 := am (Kd.R_after (ok := (fun k_ => some k_ ≠ (.slice Ao11 t494.length co11 : Value).ownBlock)) a16_3 hg hat); replace HB := am hb; have HO509 := am ho; clear HO_9; clear ho hb hg hat))
         repeat (go_quiet (first | ((with_reducible refine gate_builtin (b := .append) (xs := #[.tmp 79, .tmp 81]) rfl ?_); at_builtin; refine Kd.R_append (Kd.int .i64) (w0 := w) w.heap.size rfl (.tmp 79) (.tmp 81) 28 3 (.int .i64 0) 8 rfl Try.underlying28 info3 rfl (by decide) (by omega) u9 x9_1 x12_2 [.int .i64 x12_2] (fun k_ => some k_ ≠ (.slice Ao11 t494.length co11 : Value).ownBlock ∧ some k_ ≠ (v498 : Value).ownBlock) (fun _ => False) rfl rfl ?aP (fun _ hk => hk.elim) ?aF ?aO ?aB ?aS ?aL ?_; (case aP => exact rfl); (case aB => exact (sb)); (case aF => exact (fun k_ hk => ⟨Kd.fresh' (Kd.R_lt (sr HO_10)) k_ hk, Kd.fresh' (Kd.R_lt (sr HO_13)) k_ hk⟩)); (case aO => exact (sr HO_9)); (case aS => exact (below_size (sb))); (case aL => have := LMc44.out; omega); intro v508 w45 ho hb hg hat; rw [← Ny507.out] at ho; have n0_ := am (Kd.R_after (ok := (fun k_ => some k_ ≠ (v498 : Value).ownBlock)) a16_2 hg hat); have n1_ := am (Kd.R_after (ok := (fun k_ => some k_ ≠ (.slice Ao11 t494.length co11 : Value).ownBlock)) a16_3 hg hat); have n2_ := am (hb); have n3_ := am (ho); clear HO_10; clear HO_13; clear HB; clear HO_9; have HO_10 := n0_; have HO_13 := n1_; have HB := n2_; have HO509 := n3_; clear n0_ n1_ n2_ n3_; clear ho hb hg hat)); try go_wp2_with (first | ((with_reducible refine gate_builtin (b := .append) (xs := #[.tmp 79, .tmp 81]) rfl ?_); at_builtin; refine Kd.R_append (Kd.int .i64) (w0 := w) w.heap.size rfl (.tmp 79) (.tmp 81) 28 3 (.int .i64 0) 8 rfl Try.underlying28 info3 rfl (by decide) (by omega) u9 x9_1 x12_2 [.int .i64 x12_2] (fun k_ => some k_ ≠ (.slice Ao11 t494.length co11 : Value).ownBlock ∧ some k_ ≠ (v498 : Value).ownBlock) (fun _ => False) rfl rfl ?aP (fun _ hk => hk.elim) ?aF ?aO ?aB ?aS ?aL ?_; (case aP => exact rfl); (case aB => exact (sb)); (case aF => exact (fun k_ hk => ⟨Kd.fresh' (Kd.R_lt (sr HO_10)) k_ hk, Kd.fresh' (Kd.R_lt (sr HO_13)) k_ hk⟩)); (case aO => exact (sr HO_9)); (case aS => exact (below_size (sb))); (case aL => have := LMc44.out; omega); intro v508 w45 ho hb hg hat; rw [← Ny507.out] at ho; have n0_ := am (Kd.R_after (ok := (fun k_ => some k_ ≠ (v498 : Value).ownBlock)) a16_2 hg hat); have n1_ := am (Kd.R_after (ok := (fun k_ => some k_ ≠ (.slice Ao11 t494.length co11 : Value).ownBlock)) a16_3 hg hat); have n2_ := am (hb); have n3_ := am (ho); clear HO_10; clear HO_13; clear HB; clear HO_9; have HO_10 := n0_; have HO_13 := n1_; have HB := n2_; have HO509 := n3_; clear n0_ n1_ n2_ n3_; clear ho hb hg hat)))
         go_roundg kj12
         case measure => have := HK1.out; have := HK2.out; have := HJ12.out; omega
         case rel => exact ⟨(y507), (wrap64 (x11_1 + 1)), sc, H', ⟨a16_0⟩, ⟨by exact rm HO509 (fun _ hk => hk.1)⟩, ⟨by exact rm HO_10 (fun _ hk => hk.2)⟩, ⟨sb⟩⟩
   ·obtain rfl := Option.some.inj H
    obtain ⟨Ao46, co46, eo46⟩ := Kd.R_slice HO_10.out
    subst eo46
    go_wp2
    repeat (go_quiet (fail); try go_wp2)
    go_ret
    exact ⟨_, se, by exact rm HO_9 (fun _ hk => trivial), sb⟩

def spec_TableOf.f (k : Nat) (l0 : List (S134)) (a1 : Int) (a2 : Int) (a3 : Int) : Option (Int × List Int × List Int) := (spec_DistancesTo.f k l0 a1 a2 a3).bind fun t511 => ((spec_NextTo.f k l0 a1 a2 a3).bind fun t514 => (some (a3, t511, t514)))
theorem spec_TableOf.mono : ∀ a0 a1 a2 a3 k, LeO (spec_TableOf.f k a0 a1 a2 a3) (spec_TableOf.f (k + 1) a0 a1 a2 a3) := by
  intro a0 a1 a2 a3 k
  unfold spec_TableOf.f
  have m0 := @spec_DistancesTo.mono
  have m1 := @spec_NextTo.mono
  exact mo
theorem spec_TableOf.calls (k : Nat) (A0 : Option Addr) (c0 : Nat) (l0 : List (S134)) (a1 : Int) (a2 : Int) (a3 : Int) (r1 : Int) (r2 : List Int) (r3 : List Int) (w : World) (hr0 : Kd.C k134 w A0 l0.length l0) (hc0 : l0.length ≤ c0) (h : spec_TableOf.f k l0 a1 a2 a3 = some (r1, r2, r3)) :
    Calls Try.prog 149 #[.slice A0 l0.length c0, .int .i64 a1, .int .i64 a2, .int .i64 a3] w fun e w' => ∃ v1_ v2_ : Value, e = .returned (.agg #[.int .i64 r1, v1_, v2_]) ∧ Kd.R (Kd.int .i64) 3 w' w.heap.size (fun k_ => some k_ ≠ (v2_ : Value).ownBlock) v1_ r2 ∧ Kd.R (Kd.int .i64) 3 w' w.heap.size (fun k_ => some k_ ≠ (v1_ : Value).ownBlock) v2_ r3 ∧ Below w.heap.size w w' := by
 have hu55 := Try.underlying55
 have HR0 := am hr0
 have HC0 := am hc0
 clear hr0 hc0
 have HB := am (Below.refl w.heap.size w)
 have H := h; unfold spec_TableOf.f at H
 clear h
 obtain ⟨t511, A5, H⟩ := bnd H
 obtain ⟨t514, A6, H⟩ := bnd H
 simp only [Option.some.injEq, Prod.mk.injEq] at H
 obtain ⟨rfl, rfl, rfl⟩ := H
 go_enter Try.func149, Try.ntmps149
 go_wp2_with (first | ((with_reducible refine gd 8 rfl ?_); refine bx 8 #[.int .i64 0, .slice none 0 0, .slice none 0 0] 55 ?_; intro gb510 hg w7 hbox hb; have GW510 := bz w hg; have GE510 := bz w hg; replace HB := bs hb; have BK510 := am hbox; clear hb hbox hg) | ((with_reducible refine gc 56 rfl ?_); refine gL (some 14) Try.func56 #[.slice A0 l0.length c0, .int .i64 a1, .int .i64 a2, .int .i64 a3] ?_; (with_reducible refine (spec_DistancesTo.calls k _ _ l0 a1 a2 a3 t511 _ ?side1 ?side2 A5.out).mono ?_); (case side1 => exact cb HR0); (case side2 => exact HC0.out); rintro e w8 ⟨v512, rfl, ho0, hb⟩; refine ⟨_, rfl, ?_⟩; have HO513 := am (Kd.R_lower ho0 (below_size (sbw))); replace BK510 := bb BK510 hb; replace HB := bsw hb; (try clear hb); (try clear ho0)) | ((with_reducible refine gc 176 rfl ?_); refine gL (some 19) Try.func176 #[.slice A0 l0.length c0, .int .i64 a1, .int .i64 a2, .int .i64 a3] ?_; (with_reducible refine (spec_NextTo.calls k _ _ l0 a1 a2 a3 t514 _ ?side1 ?side2 A6.out).mono ?_); (case side1 => exact cb HR0); (case side2 => exact HC0.out); rintro e w9 ⟨v515, rfl, ho0, hb⟩; refine ⟨_, rfl, ?_⟩; have HO516 := am (Kd.R_lower (Kd.R_new' ho0 (Kd.R_lt (sr HO513))) (below_size (sbw))); replace HO513 := am (Kd.R_elder' (sr HO513) (Kd.R_base ho0) hb); replace BK510 := bb BK510 hb; replace HB := bsw hb; (try clear hb); (try clear ho0); obtain ⟨Ao10, co10, eo10⟩ := Kd.R_slice HO516.out; subst eo10; obtain ⟨Ao11, co11, eo11⟩ := Kd.R_slice HO513.out; subst eo11; obtain ⟨hcz12_0, hcz12_1, hcz12_2, hfz12_0, hfz12_1, hfz12_2⟩ := cc3 BK510))
 refine bodyPost_ret (results_cell_row rfl _ _ gb510 55 #[.int .i64 a3, .slice Ao11 t511.length co11, .slice Ao10 t514.length co10] (0, 0) _ rfl (sp BK510) Try.underlying55 rfl (by kernel_rfl)) rfl ?_
 exact ⟨_, _, se, by (with_reducible repeat (first | apply Kd.R_alloc | apply Kd.R_drewN | apply Kd.R_drew)); exact Kd.R_mono (h3 HO513 BK510) (fun _ hk => hk.1.2), by (with_reducible repeat (first | apply Kd.R_alloc | apply Kd.R_drewN | apply Kd.R_drew)); exact Kd.R_mono (h3 HO516 BK510) (fun _ hk => hk.1.2), sbw⟩

def spec_l17Tables.l0 : Nat → List (S134) → Int → Int → List (S55) → Int → Option ((List (S55)))
  | 0, _, _, _, _, _ => none
  | k + 1, x0, x1, x2, x7, x8 => if x8 < x1 then ((spec_TableOf.f k x0 x1 x2 x8).bind fun bt520 => (if x7.length < 2513169434916 then (spec_l17Tables.l0 k x0 x1 x2 (x7 ++ [(⟨bt520.1, bt520.2.1, bt520.2.2⟩ : S55)]) (wrap64 (x8 + 1))) else (none))) else (some x7)
def spec_l17Tables.f (k : Nat) (l0 : List (S134)) (a1 : Int) (a2 : Int) : Option ((List (S55))) := spec_l17Tables.l0 k l0 a1 a2 (([] : List (S55))) 0
theorem spec_l17Tables.mono_l : ∀ k, (∀ y0 y1 y2 y3 y4, LeO (spec_l17Tables.l0 k y0 y1 y2 y3 y4) (spec_l17Tables.l0 (k + 1) y0 y1 y2 y3 y4))
  | 0 => fun _ _ _ _ _ r h => by simp [spec_l17Tables.l0] at h
  | k + 1 => by
    have ih0 := spec_l17Tables.mono_l k
    · intro y0 y1 y2 y3 y4
      unfold spec_l17Tables.l0
      have m0 := @spec_TableOf.mono
      exact mo
theorem spec_l17Tables.mono : ∀ a0 a1 a2 k, LeO (spec_l17Tables.f k a0 a1 a2) (spec_l17Tables.f (k + 1) a0 a1 a2) := by
  intro a0 a1 a2 k
  have ih0 := spec_l17Tables.mono_l k
  unfold spec_l17Tables.f
  have m0 := @spec_TableOf.mono
  exact mo
theorem spec_l17Tables.calls (k : Nat) (A0 : Option Addr) (c0 : Nat) (l0 : List (S134)) (a1 : Int) (a2 : Int) (r : List (S55)) (w : World) (hr0 : Kd.C k134 w A0 l0.length l0) (hc0 : l0.length ≤ c0) (h : spec_l17Tables.f k l0 a1 a2 = some r) :
    Calls Try.prog 116 #[.slice A0 l0.length c0, .int .i64 a1, .int .i64 a2] w fun e w' => ∃ v0_ : Value, e = .returned (v0_) ∧ Kd.S k55 55 w' w.heap.size (fun _ => True) v0_ r ∧ Below w.heap.size w w' := by
 have HR0 := am hr0
 have HC0 := am hc0
 clear hr0 hc0
 have HB := am (Below.refl w.heap.size w)
 have H := h; unfold spec_l17Tables.f at H
 clear h
 obtain ⟨y517, hy517⟩ : ∃ y_ : List (S55), y_ = (([] : List (S55))) := ⟨_, rfl⟩
 replace H : (spec_l17Tables.l0 k l0 a1 a2 y517 0) = some r := ry hy517 H
 have Ny517 := am hy517
 clear hy517
 have H' := am H
 clear H
 go_enter Try.func116, Try.ntmps116
 go_wp2_with (first | ((with_reducible refine gd 9 rfl ?_); refine Kd.S_lit k55 _ 55 ?hg (N := 9) ?hd (xs := ([] : List (S55))) (inner := []) (ok := fun _ => True) (okp := fun _ => True) ?hr ?hp (fun _ hk => hk) trivial (Below.refl _ _) (Nat.le_refl _) (by simp) ?_; (case hd => rfl); (case hg => rfl); (case hr => first | (go_simp; done) | (go_simp; rfl)); (case hp => exact (Reps.none _ _)); intro v518 w4 ho5 hb hg_ hnew_; clear hg_ hnew_; (first | rw [← Ny517.out] at ho5 | (simp only [Int.reduceToNat] at ho5; rw [← Ny517.out] at ho5)); have HO519 := am (Kd.S_lower ho5 (below_size (sb))); replace HB := bs hb; clear hb ho5))
 go_loopg [7, 8] k (fun kq v7 v8 w' => ∃ (x7_1 : List (S55)) (x8_1 : Int), v8 = .int .i64 x8_1 ∧ Aside0 (spec_l17Tables.l0 kq l0 a1 a2 x7_1 x8_1 = some r) ∧ Aside0 (kq ≤ k) ∧ Aside0 (Kd.S k55 55 w' w.heap.size (fun _ => True) v7 x7_1) ∧ Aside0 (Below w.heap.size w w'))
 case atStart => exact ⟨(y517), (0), sc, H', kk0, ⟨ss HO519⟩, ⟨sb⟩⟩
 case round =>
  clear H'
  obtain ⟨x7_1, x8_1, rfl, HA, HK1, HO_7, HB⟩ := hrel
  cases gk with
  | zero => exact absurd HA.out (by simp [spec_l17Tables.l0])
  | succ k1 =>
   have H := HA.out
   clear HA
   simp only [spec_l17Tables.l0] at H
   obtain ⟨-, c6b0, H⟩ | ⟨-, c6b0, H⟩ := ic_ H
   ·obtain ⟨⟨t520, t521, t524⟩, A7, H⟩ := bnd H
    try dsimp only at H
    obtain ⟨LMc8, H⟩ := il_ H
    obtain ⟨y527, hy527⟩ : ∃ y_ : List (S55), y_ = (x7_1 ++ [(⟨t520, t521, t524⟩ : S55)]) := ⟨_, rfl⟩
    replace H : (spec_l17Tables.l0 k1 l0 a1 a2 y527 (wrap64 (x8_1 + 1))) = some r := ry hy527 H
    have Ny527 := am hy527
    clear hy527
    have H' := am H
    clear H
    go_wp2_with (first | ((with_reducible refine gc 149 rfl ?_); refine gL (some 20) Try.func149 #[.slice A0 l0.length c0, .int .i64 a1, .int .i64 a2, .int .i64 x8_1] ?_; (with_reducible refine (spec_TableOf.calls k1 _ _ l0 a1 a2 x8_1 t520 t521 t524 _ ?side1 ?side2 A7.out).mono ?_); (case side1 => exact cb HR0); (case side2 => exact HC0.out); rintro e w9 ⟨v522, v525, rfl, ho0, ho1, hb⟩; refine ⟨_, rfl, ?_⟩; replace HO_7 := am (Kd.S_mono (Kd.S_told (Kd.S_told (Kd.S_old (ss HO_7) hb) (Kd.R_base ho0)) (Kd.R_base ho1)) (fun _ h_ => h_.1)); have HO523 := am (Kd.R_lower ho0 (below_size (sb))); have HO526 := am (Kd.R_lower ho1 (below_size (sb))); replace HB := bs hb; (try clear hb); (try clear hk); (try clear ho0); (try clear ho1); obtain ⟨Ao11, co11, eo11⟩ := Kd.R_slice HO523.out; subst eo11; obtain ⟨Ao12, co12, eo12⟩ := Kd.R_slice HO526.out; subst eo12) | ((with_reducible refine gate_builtin (b := .append) (xs := #[.tmp 15, .tmp 21]) rfl ?_); at_builtin; refine Kd.S_append k55 (w0 := w) w.heap.size rfl (.tmp 15) (.tmp 21) 103 55 (.agg #[(.int .i64 0), (.slice none 0 0), (.slice none 0 0)]) 56 rfl Try.underlying103 info55 rfl (by decide) (by omega) u7 x7_1 (⟨t520, t521, t524⟩ : S55) [.int .i64 t520, .slice Ao11 t521.length co11, .slice Ao12 t524.length co12] (fun _ => True) (fun k_ => some k_ = (.slice Ao11 t521.length co11 : Value).ownBlock ∨ some k_ = (.slice Ao12 t524.length co12 : Value).ownBlock) rfl rfl ?aP (fun k_ hk_ => hk_.elim (fun h_ => ((Kd.R_mono (ok' := fun k_ => ((fun _ => True)) k_ ∧ some k_ ≠ (u7 : Value).ownBlock) (Kd.R_apart' (HO523.out) (Kd.S_typed HO_7.out) (by decide)) (fun k_ hk => ⟨trivial, hk.2⟩))).1 k_ h_.symm) (fun h_ => ((Kd.R_mono (ok' := fun k_ => ((fun _ => True)) k_ ∧ some k_ ≠ (u7 : Value).ownBlock) (Kd.R_apart' (HO526.out) (Kd.S_typed HO_7.out) (by decide)) (fun k_ hk => ⟨trivial, hk.2⟩))).1 k_ h_.symm)) ?aF ?aO ?aB ?aS ?aL ?_; (case aP => exact k55_mkM _ _ _ (⟨t520, t521, t524⟩ : S55) (Kd.R_mono (Kd.R_tight rfl (Kd.R_mono (ok' := fun k_ => ((fun _ => True)) k_ ∧ some k_ ≠ (u7 : Value).ownBlock) (Kd.R_apart' (HO523.out) (Kd.S_typed HO_7.out) (by decide)) (fun k_ hk => ⟨trivial, hk.2⟩))) (fun _ h_ => Or.inl h_)) (Kd.R_mono (Kd.R_tight rfl (Kd.R_mono (ok' := fun k_ => ((fun _ => True)) k_ ∧ some k_ ≠ (u7 : Value).ownBlock) (Kd.R_apart' (HO526.out) (Kd.S_typed HO_7.out) (by decide)) (fun k_ hk => ⟨trivial, hk.2⟩))) (fun _ h_ => Or.inr (h_)))); (case aB => exact (sb)); (case aF => exact (fun _ _ => trivial)); (case aO => exact (by (with_reducible repeat (first | apply Kd.S_alloc | apply Kd.S_drewN | apply Kd.S_drew)); exact Kd.S_mono HO_7.out (fun k_ hk => ⟨trivial, fun e_ => e_.elim (fun h_ => hk.1.2 h_) (fun h_ => hk.2 h_)⟩))); (case aS => exact (below_size (sb))); (case aL => have := LMc8.out; omega); intro v528 w10 ho hb hg hat; rw [← Ny527.out] at ho; replace HB := am hb; have HO529 := am ho; clear HO_7 HO523 HO526; clear ho hb hg hat))
    go_roundg k1
    case measure => have := HK1.out; omega
    case rel => exact ⟨(y527), (wrap64 (x8_1 + 1)), sc, H', kk1, ⟨ss HO529⟩, ⟨sb⟩⟩
   ·obtain rfl := Option.some.inj H
    go_wp2
    go_ret
    exact ⟨_, se, ss HO_7, sb⟩

end Go.Proofs.Ytiihaabhjphaeaa.QFnSwitched
