/- What the Go functions of the law FnExactBuildProgram come to, as Lean functions, and that they do: by a program of the session, out of the kit's printer. Conditions: none. (squeezed). -/
import Derived.Test.YtcjlbgbenjmkgaaVFnExactBuildProgramSq2
import Derived.Test.YtcjlbgbenjmkgaaVFnExactBuildProgramSq
import Derived.Test.YtcjlbgbenjmkgaaVFnExactBuildProgramQFnExactBuildProgramx0
import Derived.Test.YtcjlbgbenjmkgaaVFnExactBuildProgramQFnExactBuildProgramx2
import Derived.Test.YtcjlbgbenjmkgaaVFnExactBuildProgramQFnExactBuildProgramx7
import Derived.Test.YtcjlbgbenjmkgaaVFnExactBuildProgramQFnExactBuildProgramx8
namespace Go.Proofs.Ytcjlbgbenjmkgaa.QFnExactBuildProgram
open Go.RowKit Go.Proofs.YtcjlbgbenjmkgaaW.PrintWords Go.Proofs.YtcjlbgbenjmkgaaW.PrintLast Go.Proofs.YtcjlbgbenjmkgaaW.PrintMore Go.Proofs.Ytcjlbgbenjmkgaa.Open Go.Proofs.Ytcjlbgbenjmkgaa.Sq
attribute [local go_sem] max2_int min2_int max_two min_two max_three min_three max_four min_four   -- for this text's walks alone
attribute [local go_sem] isSome_set
set_option linter.unusedVariables false
set_option linter.unusedSimpArgs false

/-! ### spec_NextTo: function 55 -/
mutual
def spec_NextTo.l0 : Nat → List (S60) → Int → Int → Int → List Int → List Int → Int → Option (List Int)
  | 0, _, _, _, _, _, _, _ => none
  | k + 1, x0, x1, x2, x3, x9, x10, x11 => if x11 < (x10.length : Int) then ((spec_NeighborsIn.f k x0 x11).bind fun t277 => (spec_NextTo.l1 k x0 x1 x2 x3 x9 x10 x11 (-1) t277 0)) else (some x9)
def spec_NextTo.l1 : Nat → List (S60) → Int → Int → Int → List Int → List Int → Int → Int → List Int → Int → Option (List Int)
  | 0, _, _, _, _, _, _, _, _, _, _ => none
  | k + 1, x0, x1, x2, x3, x9, x10, x11, x12, x13, x14 => if x14 < (x13.length : Int) then (if 0 ≤ x11 then (if x11 < (x10.length : Int) then (if (rd x10 x11) > 0 then (spec_NextTo.j2 k x0 x1 x2 x3 x9 x10 x11 x12 x13 x14 (decide (x12 < 0))) else (spec_NextTo.j2 k x0 x1 x2 x3 x9 x10 x11 x12 x13 x14 false)) else (none)) else (none)) else (spec_NextTo.j2 k x0 x1 x2 x3 x9 x10 x11 x12 x13 x14 false)
def spec_NextTo.j2 : Nat → List (S60) → Int → Int → Int → List Int → List Int → Int → Int → List Int → Int → Bool → Option (List Int)
  | 0, _, _, _, _, _, _, _, _, _, _, _ => none
  | k + 1, x0, x1, x2, x3, x9, x10, x11, x12, x13, x14, x45 => if x45 = true then (if 0 ≤ x14 then (if x14 < (x13.length : Int) then ((spec_l1In.f (rd x13 x14) 0 (wrap64 (x1 - 1))).bind fun t282 => (if t282 = true then (if (rd x13 x14) < x2 then (if 0 ≤ (rd x13 x14) then (if (rd x13 x14) < (x10.length : Int) then (if 0 ≤ x11 then (if x11 < (x10.length : Int) then (if (rd x10 (rd x13 x14)) = (wrap64 ((rd x10 x11) - 1)) then (spec_NextTo.l1 k x0 x1 x2 x3 x9 x10 x11 (rd x13 x14) x13 (wrap64 (x14 + 1))) else (spec_NextTo.l1 k x0 x1 x2 x3 x9 x10 x11 x12 x13 (wrap64 (x14 + 1)))) else (none)) else (none)) else (none)) else (none)) else (if (rd x13 x14) = x3 then (if 0 ≤ (rd x13 x14) then (if (rd x13 x14) < (x10.length : Int) then (if 0 ≤ x11 then (if x11 < (x10.length : Int) then (if (rd x10 (rd x13 x14)) = (wrap64 ((rd x10 x11) - 1)) then (spec_NextTo.l1 k x0 x1 x2 x3 x9 x10 x11 (rd x13 x14) x13 (wrap64 (x14 + 1))) else (spec_NextTo.l1 k x0 x1 x2 x3 x9 x10 x11 x12 x13 (wrap64 (x14 + 1)))) else (none)) else (none)) else (none)) else (none)) else (spec_NextTo.l1 k x0 x1 x2 x3 x9 x10 x11 x12 x13 (wrap64 (x14 + 1))))) else (spec_NextTo.l1 k x0 x1 x2 x3 x9 x10 x11 x12 x13 (wrap64 (x14 + 1))))) else (none)) else (none)) else (if x9.length < 17592186044416 then (spec_NextTo.l0 k x0 x1 x2 x3 (x9 ++ [x12]) x10 (wrap64 (x11 + 1))) else (none))
end
def spec_NextTo.f (k : Nat) (l0 : List (S60)) (a1 : Int) (a2 : Int) (a3 : Int) : Option (List Int) := (spec_DistancesTo.f k l0 a1 a2 a3).bind fun t274 => (spec_NextTo.l0 k l0 a1 a2 a3 (([] : List Int)) t274 0)
theorem spec_NextTo.mono_l : ∀ k, (∀ y0 y1 y2 y3 y4 y5 y6, LeO (spec_NextTo.l0 k y0 y1 y2 y3 y4 y5 y6) (spec_NextTo.l0 (k + 1) y0 y1 y2 y3 y4 y5 y6)) ∧ (∀ y0 y1 y2 y3 y4 y5 y6 y7 y8 y9, LeO (spec_NextTo.l1 k y0 y1 y2 y3 y4 y5 y6 y7 y8 y9) (spec_NextTo.l1 (k + 1) y0 y1 y2 y3 y4 y5 y6 y7 y8 y9)) ∧ (∀ y0 y1 y2 y3 y4 y5 y6 y7 y8 y9 y10, LeO (spec_NextTo.j2 k y0 y1 y2 y3 y4 y5 y6 y7 y8 y9 y10) (spec_NextTo.j2 (k + 1) y0 y1 y2 y3 y4 y5 y6 y7 y8 y9 y10))
  | 0 => ⟨fun _ _ _ _ _ _ _ r h => by simp [spec_NextTo.l0] at h, fun _ _ _ _ _ _ _ _ _ _ r h => by simp [spec_NextTo.l1] at h, fun _ _ _ _ _ _ _ _ _ _ _ r h => by simp [spec_NextTo.j2] at h⟩
  | k + 1 => by
    obtain ⟨ih0, ih1, ih2⟩ := spec_NextTo.mono_l k
    refine ⟨?_, ?_, ?_⟩
    · intro y0 y1 y2 y3 y4 y5 y6
      unfold spec_NextTo.l0
      have m0 := @spec_DistancesTo.mono
      have m1 := @spec_NeighborsIn.mono
      exact mo
    · intro y0 y1 y2 y3 y4 y5 y6 y7 y8 y9
      unfold spec_NextTo.l1
      have m0 := @spec_DistancesTo.mono
      have m1 := @spec_NeighborsIn.mono
      exact mo
    · intro y0 y1 y2 y3 y4 y5 y6 y7 y8 y9 y10
      unfold spec_NextTo.j2
      have m0 := @spec_DistancesTo.mono
      have m1 := @spec_NeighborsIn.mono
      exact mo
theorem spec_NextTo.mono : ∀ a0 a1 a2 a3 k, LeO (spec_NextTo.f k a0 a1 a2 a3) (spec_NextTo.f (k + 1) a0 a1 a2 a3) := by
  intro a0 a1 a2 a3 k
  obtain ⟨ih0, ih1, ih2⟩ := spec_NextTo.mono_l k
  unfold spec_NextTo.f
  have m0 := @spec_DistancesTo.mono
  have m1 := @spec_NeighborsIn.mono
  exact mo
set_option maxHeartbeats 8000000 in
set_option maxRecDepth 100000 in
theorem spec_NextTo.calls (k : Nat) (A0 : Option Addr) (c0 : Nat) (l0 : List (S60)) (a1 : Int) (a2 : Int) (a3 : Int) (r : List Int) (w : World) (hr0 : Kd.C k60 w A0 l0.length l0) (hc0 : l0.length ≤ c0) (h : spec_NextTo.f k l0 a1 a2 a3 = some r) :
    Calls Try.prog 55 #[.slice A0 l0.length c0, .int .i64 a1, .int .i64 a2, .int .i64 a3] w fun e w' => ∃ v0_ : Value, e = .returned (v0_) ∧ Kd.R (Kd.int .i64) 3 w' w.heap.size (fun _ => True) v0_ r ∧ Below w.heap.size w w' := by
 have HR0 := Aside0.mk hr0
 have HC0 := Aside0.mk hc0
 clear hr0 hc0
 have HB := Aside0.mk (Below.refl w.heap.size w)
 have H : ((spec_DistancesTo.f k l0 a1 a2 a3).bind fun t274 => (spec_NextTo.l0 k l0 a1 a2 a3 (([] : List Int)) t274 0)) = some r := h
 clear h
 obtain ⟨y271, hy271⟩ : ∃ y_ : List Int, y_ = (([] : List Int)) := ⟨_, rfl⟩
 replace H : ((spec_DistancesTo.f k l0 a1 a2 a3).bind fun t274 => (spec_NextTo.l0 k l0 a1 a2 a3 y271 t274 0)) = some r := by first | (rw [hy271]; with_reducible exact H) | (have H2_ := (Option.bind_some _ _).symm.trans H; rw [hy271]; with_reducible exact H2_) | (have H2_ := (Option.bind_some _ _).symm.trans H; with_reducible exact H2_) | with_reducible exact H | (rw [hy271]; exact H) | exact H
 have Ny271 := Aside0.mk hy271
 clear hy271
 obtain ⟨t274, A5, H⟩ := bnd H
 have H' := Aside0.mk H
 clear H
 go_enter Try.func55, Try.ntmps55
 go_wp2_with (first | ((with_reducible refine gate_dst (N := 16) rfl ?_); refine Kd.R_lit (Kd.int .i64) _ 3 ?hg (N := 16) ?hd (xs := ([] : List Int)) (inner := []) (ok := fun _ => True) (okp := fun _ => True) ?hr ?hp (fun _ hk => hk) trivial (Below.refl _ _) (Nat.le_refl _) (by simp) ?_; (case hd => rfl); (case hg => rfl); (case hr => first | (go_simp; done) | (go_simp; rfl)); (case hp => exact (Reps.none _ _)); intro v272 w6 ho7 hb hg_ hnew_; clear hg_ hnew_; (first | rw [← Ny271.out] at ho7 | (simp only [Int.reduceToNat] at ho7; rw [← Ny271.out] at ho7)); have HO273 := Aside0.mk (Kd.R_lower ho7 (below_size (sb))); replace HB := bs hb; clear hb ho7) | (go_at_call 54; (with_reducible refine (spec_DistancesTo.calls k _ _ l0 a1 a2 a3 t274 _ ?side1 ?side2 A5.out).mono ?_); (case side1 => exact cb HR0); (case side2 => exact HC0.out); rintro e w8 ⟨v275, rfl, ho0, hb⟩; have HO276 := Aside0.mk (Kd.R_lower (Kd.R_new' ho0 (Kd.R_lt (sr HO273))) (below_size (sb))); replace HO273 := Aside0.mk (Kd.R_elder' (sr HO273) (Kd.R_base ho0) hb); replace HB := bs hb; (try clear hb); (try clear hb2); (try clear hk); (try clear hi); (try clear ho0)))
 repeat (go_quiet (first | ((with_reducible refine gate_dst (N := 16) rfl ?_); refine Kd.R_lit (Kd.int .i64) _ 3 ?hg (N := 16) ?hd (xs := ([] : List Int)) (inner := []) (ok := fun _ => True) (okp := fun _ => True) ?hr ?hp (fun _ hk => hk) trivial (Below.refl _ _) (Nat.le_refl _) (by simp) ?_; (case hd => rfl); (case hg => rfl); (case hr => first | (go_simp; done) | (go_simp; rfl)); (case hp => exact (Reps.none _ _)); intro v272 w6 ho7 hb hg_ hnew_; clear hg_ hnew_; (first | rw [← Ny271.out] at ho7 | (simp only [Int.reduceToNat] at ho7; rw [← Ny271.out] at ho7)); have n0_ := Aside0.mk (Kd.R_lower ho7 (below_size (sb))); have n1_ := Aside0.mk (below_step (sb) hb); clear HB; have HO273 := n0_; have HB := n1_; clear n0_ n1_; clear hb ho7) | (go_at_call 54; (with_reducible refine (spec_DistancesTo.calls k _ _ l0 a1 a2 a3 t274 _ ?side1 ?side2 A5.out).mono ?_); (case side1 => exact cb HR0); (case side2 => exact HC0.out); rintro e w8 ⟨v275, rfl, ho0, hb⟩; have n0_ := Aside0.mk (Kd.R_elder' (sr HO273) (Kd.R_base ho0) hb); have n1_ := Aside0.mk (Kd.R_lower (Kd.R_new' ho0 (Kd.R_lt (sr HO273))) (below_size (sb))); have n2_ := Aside0.mk (below_step (sb) hb); clear HO273; clear HB; have HO273 := n0_; have HO276 := n1_; have HB := n2_; clear n0_ n1_ n2_; (try clear hb); (try clear hb2); (try clear hk); (try clear hi); (try clear ho0))); try go_wp2_with (first | ((with_reducible refine gate_dst (N := 16) rfl ?_); refine Kd.R_lit (Kd.int .i64) _ 3 ?hg (N := 16) ?hd (xs := ([] : List Int)) (inner := []) (ok := fun _ => True) (okp := fun _ => True) ?hr ?hp (fun _ hk => hk) trivial (Below.refl _ _) (Nat.le_refl _) (by simp) ?_; (case hd => rfl); (case hg => rfl); (case hr => first | (go_simp; done) | (go_simp; rfl)); (case hp => exact (Reps.none _ _)); intro v272 w6 ho7 hb hg_ hnew_; clear hg_ hnew_; (first | rw [← Ny271.out] at ho7 | (simp only [Int.reduceToNat] at ho7; rw [← Ny271.out] at ho7)); have n0_ := Aside0.mk (Kd.R_lower ho7 (below_size (sb))); have n1_ := Aside0.mk (below_step (sb) hb); clear HB; have HO273 := n0_; have HB := n1_; clear n0_ n1_; clear hb ho7) | (go_at_call 54; (with_reducible refine (spec_DistancesTo.calls k _ _ l0 a1 a2 a3 t274 _ ?side1 ?side2 A5.out).mono ?_); (case side1 => exact cb HR0); (case side2 => exact HC0.out); rintro e w8 ⟨v275, rfl, ho0, hb⟩; have n0_ := Aside0.mk (Kd.R_elder' (sr HO273) (Kd.R_base ho0) hb); have n1_ := Aside0.mk (Kd.R_lower (Kd.R_new' ho0 (Kd.R_lt (sr HO273))) (below_size (sb))); have n2_ := Aside0.mk (below_step (sb) hb); clear HO273; clear HB; have HO273 := n0_; have HO276 := n1_; have HB := n2_; clear n0_ n1_ n2_; (try clear hb); (try clear hb2); (try clear hk); (try clear hi); (try clear ho0))))
 go_loopg [9, 11] k (fun kq v9 v11 w' => ∃ (x9_1 : List Int) (x11_1 : Int), v11 = .int .i64 x11_1 ∧ Aside0 (spec_NextTo.l0 kq l0 a1 a2 a3 x9_1 t274 x11_1 = some r) ∧ Aside0 (kq ≤ k) ∧ Aside0 (Kd.R (Kd.int .i64) 3 w' w.heap.size (fun k_ => some k_ ≠ (v275 : Value).ownBlock) v9 x9_1) ∧ Aside0 (Kd.R (Kd.int .i64) 3 w' w.heap.size (fun k_ => some k_ ≠ (v9 : Value).ownBlock) v275 t274) ∧ Aside0 (Below w.heap.size w w'))
 case atStart => exact ⟨(y271), (0), sc, H', kk0, ⟨by (with_reducible repeat (first | apply Kd.R_alloc | apply Kd.R_drewN | apply Kd.R_drew)); exact Kd.R_mono HO273.out (fun _ hk => hk.2)⟩, ⟨by (with_reducible repeat (first | apply Kd.R_alloc | apply Kd.R_drewN | apply Kd.R_drew)); exact Kd.R_mono HO276.out (fun _ hk => hk.2)⟩, ⟨sb⟩⟩
 case round =>
  clear H'
  obtain ⟨x9_1, x11_1, rfl, HA, HK1, HO_9, HO_10, HB⟩ := hrel
  cases gk with
  | zero => exact absurd HA.out (by simp [spec_NextTo.l0])
  | succ k1 =>
   have H := HA.out
   clear HA
   simp only [spec_NextTo.l0] at H
   obtain ⟨c9, H⟩ | ⟨c9, H⟩ := ie_ H
   ·have c9b0 := decide_eq_true c9
    clear c9
    obtain ⟨t277, A10, H⟩ := bnd H
    have H' := Aside0.mk H
    clear H
    obtain ⟨Ao11, co11, eo11⟩ := Kd.R_slice HO_10.out
    subst eo11
    go_wp2_with (first | (go_at_call 67; (with_reducible refine (spec_NeighborsIn.calls k1 _ _ l0 x11_1 t277 _ ?side1 ?side2 A10.out).mono ?_); (case side1 => exact cb HR0); (case side2 => exact HC0.out); rintro e w12 ⟨v278, rfl, ho0, hb⟩; have HO279 := Aside0.mk (Kd.R_lower (Kd.R_new' (Kd.R_new' ho0 (Kd.R_lt (sr HO_9))) (Kd.R_lt (sr HO_10))) (below_size (sb))); replace HO_9 := Aside0.mk (Kd.R_elder' (sr HO_9) (Kd.R_base ho0) hb); replace HO_10 := Aside0.mk (Kd.R_elder' (sr HO_10) (Kd.R_base ho0) hb); replace HB := bs hb; (try clear hb); (try clear hb2); (try clear hk); (try clear hi); (try clear ho0)))
    repeat (go_quiet (first | (go_at_call 67; (with_reducible refine (spec_NeighborsIn.calls k1 _ _ l0 x11_1 t277 _ ?side1 ?side2 A10.out).mono ?_); (case side1 => exact cb HR0); (case side2 => exact HC0.out); rintro e w12 ⟨v278, rfl, ho0, hb⟩; have n0_ := Aside0.mk (Kd.R_elder' (sr HO_9) (Kd.R_base ho0) hb); have n1_ := Aside0.mk (Kd.R_elder' (sr HO_10) (Kd.R_base ho0) hb); have n2_ := Aside0.mk (Kd.R_lower (Kd.R_new' (Kd.R_new' ho0 (Kd.R_lt (sr HO_9))) (Kd.R_lt (sr HO_10))) (below_size (sb))); have n3_ := Aside0.mk (below_step (sb) hb); clear HO_9; clear HO_10; clear HB; have HO_9 := n0_; have HO_10 := n1_; have HO279 := n2_; have HB := n3_; clear n0_ n1_ n2_ n3_; (try clear hb); (try clear hb2); (try clear hk); (try clear hi); (try clear ho0))); try go_wp2_with (first | (go_at_call 67; (with_reducible refine (spec_NeighborsIn.calls k1 _ _ l0 x11_1 t277 _ ?side1 ?side2 A10.out).mono ?_); (case side1 => exact cb HR0); (case side2 => exact HC0.out); rintro e w12 ⟨v278, rfl, ho0, hb⟩; have n0_ := Aside0.mk (Kd.R_elder' (sr HO_9) (Kd.R_base ho0) hb); have n1_ := Aside0.mk (Kd.R_elder' (sr HO_10) (Kd.R_base ho0) hb); have n2_ := Aside0.mk (Kd.R_lower (Kd.R_new' (Kd.R_new' ho0 (Kd.R_lt (sr HO_9))) (Kd.R_lt (sr HO_10))) (below_size (sb))); have n3_ := Aside0.mk (below_step (sb) hb); clear HO_9; clear HO_10; clear HB; have HO_9 := n0_; have HO_10 := n1_; have HO279 := n2_; have HB := n3_; clear n0_ n1_ n2_ n3_; (try clear hb); (try clear hb2); (try clear hk); (try clear hi); (try clear ho0))))
    go_loopg [12, 14] k1 (fun kq v12 v14 w' => ∃ (x12_2 : Int) (x14_2 : Int), v12 = .int .i64 x12_2 ∧ v14 = .int .i64 x14_2 ∧ Aside0 (spec_NextTo.l1 kq l0 a1 a2 a3 x9_1 t274 x11_1 x12_2 t277 x14_2 = some r) ∧ Aside0 (kq ≤ k1) ∧ Aside0 (Kd.R (Kd.int .i64) 3 w' w.heap.size (fun k_ => some k_ ≠ ((.slice Ao11 t274.length co11) : Value).ownBlock ∧ some k_ ≠ (v278 : Value).ownBlock) u9 x9_1) ∧ Aside0 (Kd.R (Kd.int .i64) 3 w' w.heap.size (fun k_ => some k_ ≠ (u9 : Value).ownBlock ∧ some k_ ≠ (v278 : Value).ownBlock) (.slice Ao11 t274.length co11) t274) ∧ Aside0 (Kd.R (Kd.int .i64) 3 w' w.heap.size (fun k_ => some k_ ≠ (u9 : Value).ownBlock ∧ some k_ ≠ ((.slice Ao11 t274.length co11) : Value).ownBlock) v278 t277) ∧ Aside0 (Below w.heap.size w w'))
    case atStart => exact ⟨((-1)), (0), sc, sc, H', kk0, ⟨sr HO_9⟩, ⟨sr HO_10⟩, ⟨by (with_reducible repeat (first | apply Kd.R_alloc | apply Kd.R_drewN | apply Kd.R_drew)); exact Kd.R_mono HO279.out (fun _ hk => ⟨hk.1.2, hk.2⟩)⟩, ⟨sb⟩⟩
    case round =>
     clear H'
     try clear c9
     try clear c9b0
     obtain ⟨x12_2, x14_2, rfl, rfl, HA, HK2, HO_9, HO_10, HO_13, HB⟩ := hrel
     cases gk with
     | zero => exact absurd HA.out (by simp [spec_NextTo.l1])
     | succ k2 =>
      have H := HA.out
      clear HA
      simp only [spec_NextTo.l1] at H
      have HC13 := Aside0.mk H
      clear H
      go_upto_region 9 with (fail)
      repeat (go_quiet (fail); go_upto_region 9 with (fail))
      go_cut [45] (fun v45 wc => ∃ (kq : Nat) (x45_12 : Bool), v45 = .bool x45_12 ∧ Aside0 (spec_NextTo.j2 kq l0 a1 a2 a3 x9_1 t274 x11_1 x12_2 t277 x14_2 x45_12 = some r) ∧ Aside0 (kq ≤ k2) ∧ Aside0 (Kd.R (Kd.int .i64) 3 wc w.heap.size (fun k_ => some k_ ≠ ((.slice Ao11 t274.length co11) : Value).ownBlock ∧ some k_ ≠ (v278 : Value).ownBlock) u9 x9_1) ∧ Aside0 (Kd.R (Kd.int .i64) 3 wc w.heap.size (fun k_ => some k_ ≠ (u9 : Value).ownBlock ∧ some k_ ≠ (v278 : Value).ownBlock) (.slice Ao11 t274.length co11) t274) ∧ Aside0 (Kd.R (Kd.int .i64) 3 wc w.heap.size (fun k_ => some k_ ≠ (u9 : Value).ownBlock ∧ some k_ ≠ ((.slice Ao11 t274.length co11) : Value).ownBlock) v278 t277) ∧ Aside0 (Below w.heap.size w wc))
      case first =>
       have H := HC13.out
       clear HC13
       obtain ⟨c14, H⟩ | ⟨c14, H⟩ := ie_ H
       ·have c14b0 := decide_eq_true c14
        clear c14
        (first | rw [c14b0] | (simp only [i64_w, i32_w]; rw [c14b0]) | rw [c14b1] | skip)
        obtain ⟨c15b0, H⟩ := id_ H
        obtain ⟨c16b0, H⟩ := id_ H
        obtain ⟨c17, H⟩ | ⟨c17, H⟩ := ie_ H
        ·have c17b0 := decide_eq_true c17
         clear c17
         have H' := Aside0.mk H
         clear H
         obtain ⟨Ao18, co18, eo18⟩ := Kd.R_slice HO_13.out
         subst eo18
         have p280 : 0 ≤ (x11_1 : Int) := sa
         have q280 : x11_1 < (t274.length : Int) := sa
         obtain ⟨ad280, e280, hx280_0⟩ := Kd.at_int (Kd.R_reads' HO_10.out).2.2 x11_1 p280 q280
         cases e280
         replace p280 := eq_true p280
         replace q280 := eq_true q280
         go_wp2
         repeat (go_quiet (fail); try go_wp2)
         go_meet
         case rel => exact ⟨_, (decide (x12_2 < 0)), sc, H', ⟨by have := HK1.out; have := HK2.out; first | omega | exact Nat.le_refl _⟩, ⟨sr HO_9⟩, ⟨sr HO_10⟩, ⟨sr HO_13⟩, ⟨sb⟩⟩
        ·have c17b0 := decide_eq_false c17
         clear c17
         have H' := Aside0.mk H
         clear H
         obtain ⟨Ao19, co19, eo19⟩ := Kd.R_slice HO_13.out
         subst eo19
         have p280 : 0 ≤ (x11_1 : Int) := sa
         have q280 : x11_1 < (t274.length : Int) := sa
         obtain ⟨ad280, e280, hx280_0⟩ := Kd.at_int (Kd.R_reads' HO_10.out).2.2 x11_1 p280 q280
         cases e280
         replace p280 := eq_true p280
         replace q280 := eq_true q280
         go_wp2
         repeat (go_quiet (fail); try go_wp2)
         go_meet
         case rel => exact ⟨_, (false), sc, H', ⟨by have := HK1.out; have := HK2.out; first | omega | exact Nat.le_refl _⟩, ⟨sr HO_9⟩, ⟨sr HO_10⟩, ⟨sr HO_13⟩, ⟨sb⟩⟩
       ·have c14b0 := decide_eq_false c14
        clear c14
        (first | rw [c14b0] | (simp only [i64_w, i32_w]; rw [c14b0]) | rw [c14b1] | skip)
        have H' := Aside0.mk H
        clear H
        obtain ⟨Ao20, co20, eo20⟩ := Kd.R_slice HO_13.out
        subst eo20
        go_wp2
        repeat (go_quiet (fail); try go_wp2)
        go_meet
        case rel => exact ⟨_, (false), sc, H', ⟨by have := HK1.out; have := HK2.out; first | omega | exact Nat.le_refl _⟩, ⟨sr HO_9⟩, ⟨sr HO_10⟩, ⟨sr HO_13⟩, ⟨sb⟩⟩
      case rest =>
       clear HC13
       try clear c9
       try clear c9b0
       try clear c14
       try clear c14b0
       try clear c15b0
       try clear c16b0
       try clear c17
       try clear c17b0
       try clear hx280_0
       try clear p280
       try clear q280
       obtain ⟨kq, x45_12, rfl, HA, HJ12, HO_9, HO_10, HO_13, HB⟩ := hcut
       cases kq with
       | zero => exact absurd HA.out (by simp [spec_NextTo.j2])
       | succ kj12 =>
        have H := HA.out
        clear HA
        simp only [spec_NextTo.j2] at H
        obtain rfl | rfl := tt x45_12
        ·replace H := ip H
         obtain ⟨c22b0, H⟩ := id_ H
         obtain ⟨c23b0, H⟩ := id_ H
         obtain ⟨t282, A24, H⟩ := bnd H
         obtain rfl | rfl := tt t282
         ·replace H := ip H
          obtain ⟨c26, H⟩ | ⟨c26, H⟩ := ie_ H
          ·have c26b0 := decide_eq_true c26
           clear c26
           obtain ⟨c27b0, H⟩ := id_ H
           obtain ⟨c28b0, H⟩ := id_ H
           obtain ⟨c29b0, H⟩ := id_ H
           obtain ⟨c30b0, H⟩ := id_ H
           obtain ⟨c31, H⟩ | ⟨c31, H⟩ := ie_ H
           ·have c31b0 : ((rd t274 (rd t277 x14_2)) == (wrap64 ((rd t274 x11_1) - 1))) = true := beq_iff_eq.mpr c31
            have c31b0_ := c31b0
            simp only [← i64_w] at c31b0_
            have c31b1 : ((rd t274 (rd t277 x14_2)) != (wrap64 ((rd t274 x11_1) - 1))) = false := bne_eq_false_iff_eq.mpr c31
            have c31b1_ := c31b1
            simp only [← i64_w] at c31b1_
            clear c31
            have H' := Aside0.mk H
            clear H
            obtain ⟨Ao32, co32, eo32⟩ := Kd.R_slice HO_13.out
            subst eo32
            have p281 : 0 ≤ (x14_2 : Int) := sa
            have q281 : x14_2 < (t277.length : Int) := sa
            obtain ⟨ad281, e281, hx281_0⟩ := Kd.at_int (Kd.R_reads' HO_13.out).2.2 x14_2 p281 q281
            cases e281
            replace p281 := eq_true p281
            replace q281 := eq_true q281
            go_wp2_with (first | (go_at_call 16; (try simp only [i64_w, i32_w]); (with_reducible refine (spec_l1In.calls (rd t277 x14_2) 0 (wrap64 (a1 - 1)) true _ A24.out).mono ?_); rintro e w' ⟨rfl, ⟨nd, rfl⟩⟩; (try first | exact ⟨rfl, _, World.drewN_drewN _ _ _⟩ | exact ⟨rfl, _, Eq.trans (World.drewN_drewN _ _ _) (congrArg (World.drewN _) (Nat.add_assoc _ _ _))⟩); have p283 : 0 ≤ ((rd t277 x14_2) : Int) := sa; have q283 : (rd t277 x14_2) < (t274.length : Int) := sa; obtain ⟨ad283, e283, hx283_0⟩ := Kd.at_int (Kd.R_reads' HO_10.out).2.2 (rd t277 x14_2) p283 q283; cases e283; replace p283 := eq_true p283; replace q283 := eq_true q283; have p284 : 0 ≤ (x11_1 : Int) := sa; have q284 : x11_1 < (t274.length : Int) := sa; obtain ⟨ad284, e284, hx284_0⟩ := Kd.at_int (Kd.R_reads' HO_10.out).2.2 x11_1 p284 q284; obtain rfl : ad283 = ad284 := (by injection e284); replace p284 := eq_true p284; replace q284 := eq_true q284))
            repeat (go_quiet (first | (go_at_call 16; (try simp only [i64_w, i32_w]); (with_reducible refine (spec_l1In.calls (rd t277 x14_2) 0 (wrap64 (a1 - 1)) true _ A24.out).mono ?_); rintro e w' ⟨rfl, ⟨nd, rfl⟩⟩; (try first | exact ⟨rfl, _, World.drewN_drewN _ _ _⟩ | exact ⟨rfl, _, Eq.trans (World.drewN_drewN _ _ _) (congrArg (World.drewN _) (Nat.add_assoc _ _ _))⟩); have p283 : 0 ≤ ((rd t277 x14_2) : Int) := sa; have q283 : (rd t277 x14_2) < (t274.length : Int) := sa; obtain ⟨ad283, e283, hx283_0⟩ := Kd.at_int (Kd.R_reads' HO_10.out).2.2 (rd t277 x14_2) p283 q283; cases e283; replace p283 := eq_true p283; replace q283 := eq_true q283; have p284 : 0 ≤ (x11_1 : Int) := sa; have q284 : x11_1 < (t274.length : Int) := sa; obtain ⟨ad284, e284, hx284_0⟩ := Kd.at_int (Kd.R_reads' HO_10.out).2.2 x11_1 p284 q284; obtain rfl : ad283 = ad284 := (by injection e284); replace p284 := eq_true p284; replace q284 := eq_true q284)); try go_wp2_with (first | (go_at_call 16; (try simp only [i64_w, i32_w]); (with_reducible refine (spec_l1In.calls (rd t277 x14_2) 0 (wrap64 (a1 - 1)) true _ A24.out).mono ?_); rintro e w' ⟨rfl, ⟨nd, rfl⟩⟩; (try first | exact ⟨rfl, _, World.drewN_drewN _ _ _⟩ | exact ⟨rfl, _, Eq.trans (World.drewN_drewN _ _ _) (congrArg (World.drewN _) (Nat.add_assoc _ _ _))⟩); have p283 : 0 ≤ ((rd t277 x14_2) : Int) := sa; have q283 : (rd t277 x14_2) < (t274.length : Int) := sa; obtain ⟨ad283, e283, hx283_0⟩ := Kd.at_int (Kd.R_reads' HO_10.out).2.2 (rd t277 x14_2) p283 q283; cases e283; replace p283 := eq_true p283; replace q283 := eq_true q283; have p284 : 0 ≤ (x11_1 : Int) := sa; have q284 : x11_1 < (t274.length : Int) := sa; obtain ⟨ad284, e284, hx284_0⟩ := Kd.at_int (Kd.R_reads' HO_10.out).2.2 x11_1 p284 q284; obtain rfl : ad283 = ad284 := (by injection e284); replace p284 := eq_true p284; replace q284 := eq_true q284)))
            go_roundg kj12
            case measure => have := HK1.out; have := HK2.out; have := HJ12.out; omega
            case rel => exact ⟨(rd t277 x14_2), (wrap64 (x14_2 + 1)), sc, sc, H', ⟨by have := HK1.out; have := HK2.out; have := HJ12.out; omega⟩, ⟨sr HO_9⟩, ⟨sr HO_10⟩, ⟨sr HO_13⟩, ⟨sb⟩⟩
           ·have c31b0 : ((rd t274 (rd t277 x14_2)) == (wrap64 ((rd t274 x11_1) - 1))) = false := beq_eq_false_iff_ne.mpr c31
            have c31b0_ := c31b0
            simp only [← i64_w] at c31b0_
            have c31b1 : ((rd t274 (rd t277 x14_2)) != (wrap64 ((rd t274 x11_1) - 1))) = true := bne_iff_ne.mpr c31
            have c31b1_ := c31b1
            simp only [← i64_w] at c31b1_
            have H' := Aside0.mk H
            clear H
            obtain ⟨Ao33, co33, eo33⟩ := Kd.R_slice HO_13.out
            subst eo33
            have p281 : 0 ≤ (x14_2 : Int) := sa
            have q281 : x14_2 < (t277.length : Int) := sa
            obtain ⟨ad281, e281, hx281_0⟩ := Kd.at_int (Kd.R_reads' HO_13.out).2.2 x14_2 p281 q281
            cases e281
            replace p281 := eq_true p281
            replace q281 := eq_true q281
            go_wp2_with (first | (go_at_call 16; (try simp only [i64_w, i32_w]); (with_reducible refine (spec_l1In.calls (rd t277 x14_2) 0 (wrap64 (a1 - 1)) true _ A24.out).mono ?_); rintro e w' ⟨rfl, ⟨nd, rfl⟩⟩; (try first | exact ⟨rfl, _, World.drewN_drewN _ _ _⟩ | exact ⟨rfl, _, Eq.trans (World.drewN_drewN _ _ _) (congrArg (World.drewN _) (Nat.add_assoc _ _ _))⟩); have p283 : 0 ≤ ((rd t277 x14_2) : Int) := sa; have q283 : (rd t277 x14_2) < (t274.length : Int) := sa; obtain ⟨ad283, e283, hx283_0⟩ := Kd.at_int (Kd.R_reads' HO_10.out).2.2 (rd t277 x14_2) p283 q283; cases e283; replace p283 := eq_true p283; replace q283 := eq_true q283; have p284 : 0 ≤ (x11_1 : Int) := sa; have q284 : x11_1 < (t274.length : Int) := sa; obtain ⟨ad284, e284, hx284_0⟩ := Kd.at_int (Kd.R_reads' HO_10.out).2.2 x11_1 p284 q284; obtain rfl : ad283 = ad284 := (by injection e284); replace p284 := eq_true p284; replace q284 := eq_true q284))
            repeat (go_quiet (first | (go_at_call 16; (try simp only [i64_w, i32_w]); (with_reducible refine (spec_l1In.calls (rd t277 x14_2) 0 (wrap64 (a1 - 1)) true _ A24.out).mono ?_); rintro e w' ⟨rfl, ⟨nd, rfl⟩⟩; (try first | exact ⟨rfl, _, World.drewN_drewN _ _ _⟩ | exact ⟨rfl, _, Eq.trans (World.drewN_drewN _ _ _) (congrArg (World.drewN _) (Nat.add_assoc _ _ _))⟩); have p283 : 0 ≤ ((rd t277 x14_2) : Int) := sa; have q283 : (rd t277 x14_2) < (t274.length : Int) := sa; obtain ⟨ad283, e283, hx283_0⟩ := Kd.at_int (Kd.R_reads' HO_10.out).2.2 (rd t277 x14_2) p283 q283; cases e283; replace p283 := eq_true p283; replace q283 := eq_true q283; have p284 : 0 ≤ (x11_1 : Int) := sa; have q284 : x11_1 < (t274.length : Int) := sa; obtain ⟨ad284, e284, hx284_0⟩ := Kd.at_int (Kd.R_reads' HO_10.out).2.2 x11_1 p284 q284; obtain rfl : ad283 = ad284 := (by injection e284); replace p284 := eq_true p284; replace q284 := eq_true q284)); try go_wp2_with (first | (go_at_call 16; (try simp only [i64_w, i32_w]); (with_reducible refine (spec_l1In.calls (rd t277 x14_2) 0 (wrap64 (a1 - 1)) true _ A24.out).mono ?_); rintro e w' ⟨rfl, ⟨nd, rfl⟩⟩; (try first | exact ⟨rfl, _, World.drewN_drewN _ _ _⟩ | exact ⟨rfl, _, Eq.trans (World.drewN_drewN _ _ _) (congrArg (World.drewN _) (Nat.add_assoc _ _ _))⟩); have p283 : 0 ≤ ((rd t277 x14_2) : Int) := sa; have q283 : (rd t277 x14_2) < (t274.length : Int) := sa; obtain ⟨ad283, e283, hx283_0⟩ := Kd.at_int (Kd.R_reads' HO_10.out).2.2 (rd t277 x14_2) p283 q283; cases e283; replace p283 := eq_true p283; replace q283 := eq_true q283; have p284 : 0 ≤ (x11_1 : Int) := sa; have q284 : x11_1 < (t274.length : Int) := sa; obtain ⟨ad284, e284, hx284_0⟩ := Kd.at_int (Kd.R_reads' HO_10.out).2.2 x11_1 p284 q284; obtain rfl : ad283 = ad284 := (by injection e284); replace p284 := eq_true p284; replace q284 := eq_true q284)))
            go_roundg kj12
            case measure => have := HK1.out; have := HK2.out; have := HJ12.out; omega
            case rel => exact ⟨(x12_2), (wrap64 (x14_2 + 1)), sc, sc, H', ⟨by have := HK1.out; have := HK2.out; have := HJ12.out; omega⟩, ⟨sr HO_9⟩, ⟨sr HO_10⟩, ⟨sr HO_13⟩, ⟨sb⟩⟩
          ·have c26b0 := decide_eq_false c26
           clear c26
           obtain ⟨c34, H⟩ | ⟨c34, H⟩ := ie_ H
           ·have c34b0 : ((rd t277 x14_2) == a3) = true := beq_iff_eq.mpr c34
            have c34b1 : ((rd t277 x14_2) != a3) = false := bne_eq_false_iff_eq.mpr c34
            clear c34
            obtain ⟨c35b0, H⟩ := id_ H
            obtain ⟨c36b0, H⟩ := id_ H
            obtain ⟨c37b0, H⟩ := id_ H
            obtain ⟨c38b0, H⟩ := id_ H
            obtain ⟨c39, H⟩ | ⟨c39, H⟩ := ie_ H
            ·have c39b0 : ((rd t274 (rd t277 x14_2)) == (wrap64 ((rd t274 x11_1) - 1))) = true := beq_iff_eq.mpr c39
             have c39b0_ := c39b0
             simp only [← i64_w] at c39b0_
             have c39b1 : ((rd t274 (rd t277 x14_2)) != (wrap64 ((rd t274 x11_1) - 1))) = false := bne_eq_false_iff_eq.mpr c39
             have c39b1_ := c39b1
             simp only [← i64_w] at c39b1_
             clear c39
             have H' := Aside0.mk H
             clear H
             obtain ⟨Ao40, co40, eo40⟩ := Kd.R_slice HO_13.out
             subst eo40
             have p281 : 0 ≤ (x14_2 : Int) := sa
             have q281 : x14_2 < (t277.length : Int) := sa
             obtain ⟨ad281, e281, hx281_0⟩ := Kd.at_int (Kd.R_reads' HO_13.out).2.2 x14_2 p281 q281
             cases e281
             replace p281 := eq_true p281
             replace q281 := eq_true q281
             go_wp2_with (first | (go_at_call 16; (try simp only [i64_w, i32_w]); (with_reducible refine (spec_l1In.calls (rd t277 x14_2) 0 (wrap64 (a1 - 1)) true _ A24.out).mono ?_); rintro e w' ⟨rfl, ⟨nd, rfl⟩⟩; (try first | exact ⟨rfl, _, World.drewN_drewN _ _ _⟩ | exact ⟨rfl, _, Eq.trans (World.drewN_drewN _ _ _) (congrArg (World.drewN _) (Nat.add_assoc _ _ _))⟩); have p285 : 0 ≤ ((rd t277 x14_2) : Int) := sa; have q285 : (rd t277 x14_2) < (t274.length : Int) := sa; obtain ⟨ad285, e285, hx285_0⟩ := Kd.at_int (Kd.R_reads' HO_10.out).2.2 (rd t277 x14_2) p285 q285; cases e285; replace p285 := eq_true p285; replace q285 := eq_true q285; have p286 : 0 ≤ (x11_1 : Int) := sa; have q286 : x11_1 < (t274.length : Int) := sa; obtain ⟨ad286, e286, hx286_0⟩ := Kd.at_int (Kd.R_reads' HO_10.out).2.2 x11_1 p286 q286; obtain rfl : ad285 = ad286 := (by injection e286); replace p286 := eq_true p286; replace q286 := eq_true q286))
             repeat (go_quiet (first | (go_at_call 16; (try simp only [i64_w, i32_w]); (with_reducible refine (spec_l1In.calls (rd t277 x14_2) 0 (wrap64 (a1 - 1)) true _ A24.out).mono ?_); rintro e w' ⟨rfl, ⟨nd, rfl⟩⟩; (try first | exact ⟨rfl, _, World.drewN_drewN _ _ _⟩ | exact ⟨rfl, _, Eq.trans (World.drewN_drewN _ _ _) (congrArg (World.drewN _) (Nat.add_assoc _ _ _))⟩); have p285 : 0 ≤ ((rd t277 x14_2) : Int) := sa; have q285 : (rd t277 x14_2) < (t274.length : Int) := sa; obtain ⟨ad285, e285, hx285_0⟩ := Kd.at_int (Kd.R_reads' HO_10.out).2.2 (rd t277 x14_2) p285 q285; cases e285; replace p285 := eq_true p285; replace q285 := eq_true q285; have p286 : 0 ≤ (x11_1 : Int) := sa; have q286 : x11_1 < (t274.length : Int) := sa; obtain ⟨ad286, e286, hx286_0⟩ := Kd.at_int (Kd.R_reads' HO_10.out).2.2 x11_1 p286 q286; obtain rfl : ad285 = ad286 := (by injection e286); replace p286 := eq_true p286; replace q286 := eq_true q286)); try go_wp2_with (first | (go_at_call 16; (try simp only [i64_w, i32_w]); (with_reducible refine (spec_l1In.calls (rd t277 x14_2) 0 (wrap64 (a1 - 1)) true _ A24.out).mono ?_); rintro e w' ⟨rfl, ⟨nd, rfl⟩⟩; (try first | exact ⟨rfl, _, World.drewN_drewN _ _ _⟩ | exact ⟨rfl, _, Eq.trans (World.drewN_drewN _ _ _) (congrArg (World.drewN _) (Nat.add_assoc _ _ _))⟩); have p285 : 0 ≤ ((rd t277 x14_2) : Int) := sa; have q285 : (rd t277 x14_2) < (t274.length : Int) := sa; obtain ⟨ad285, e285, hx285_0⟩ := Kd.at_int (Kd.R_reads' HO_10.out).2.2 (rd t277 x14_2) p285 q285; cases e285; replace p285 := eq_true p285; replace q285 := eq_true q285; have p286 : 0 ≤ (x11_1 : Int) := sa; have q286 : x11_1 < (t274.length : Int) := sa; obtain ⟨ad286, e286, hx286_0⟩ := Kd.at_int (Kd.R_reads' HO_10.out).2.2 x11_1 p286 q286; obtain rfl : ad285 = ad286 := (by injection e286); replace p286 := eq_true p286; replace q286 := eq_true q286)))
             go_roundg kj12
             case measure => have := HK1.out; have := HK2.out; have := HJ12.out; omega
             case rel => exact ⟨(rd t277 x14_2), (wrap64 (x14_2 + 1)), sc, sc, H', ⟨by have := HK1.out; have := HK2.out; have := HJ12.out; omega⟩, ⟨sr HO_9⟩, ⟨sr HO_10⟩, ⟨sr HO_13⟩, ⟨sb⟩⟩
            ·have c39b0 : ((rd t274 (rd t277 x14_2)) == (wrap64 ((rd t274 x11_1) - 1))) = false := beq_eq_false_iff_ne.mpr c39
             have c39b0_ := c39b0
             simp only [← i64_w] at c39b0_
             have c39b1 : ((rd t274 (rd t277 x14_2)) != (wrap64 ((rd t274 x11_1) - 1))) = true := bne_iff_ne.mpr c39
             have c39b1_ := c39b1
             simp only [← i64_w] at c39b1_
             have H' := Aside0.mk H
             clear H
             obtain ⟨Ao41, co41, eo41⟩ := Kd.R_slice HO_13.out
             subst eo41
             have p281 : 0 ≤ (x14_2 : Int) := sa
             have q281 : x14_2 < (t277.length : Int) := sa
             obtain ⟨ad281, e281, hx281_0⟩ := Kd.at_int (Kd.R_reads' HO_13.out).2.2 x14_2 p281 q281
             cases e281
             replace p281 := eq_true p281
             replace q281 := eq_true q281
             go_wp2_with (first | (go_at_call 16; (try simp only [i64_w, i32_w]); (with_reducible refine (spec_l1In.calls (rd t277 x14_2) 0 (wrap64 (a1 - 1)) true _ A24.out).mono ?_); rintro e w' ⟨rfl, ⟨nd, rfl⟩⟩; (try first | exact ⟨rfl, _, World.drewN_drewN _ _ _⟩ | exact ⟨rfl, _, Eq.trans (World.drewN_drewN _ _ _) (congrArg (World.drewN _) (Nat.add_assoc _ _ _))⟩); have p285 : 0 ≤ ((rd t277 x14_2) : Int) := sa; have q285 : (rd t277 x14_2) < (t274.length : Int) := sa; obtain ⟨ad285, e285, hx285_0⟩ := Kd.at_int (Kd.R_reads' HO_10.out).2.2 (rd t277 x14_2) p285 q285; cases e285; replace p285 := eq_true p285; replace q285 := eq_true q285; have p286 : 0 ≤ (x11_1 : Int) := sa; have q286 : x11_1 < (t274.length : Int) := sa; obtain ⟨ad286, e286, hx286_0⟩ := Kd.at_int (Kd.R_reads' HO_10.out).2.2 x11_1 p286 q286; obtain rfl : ad285 = ad286 := (by injection e286); replace p286 := eq_true p286; replace q286 := eq_true q286))
             repeat (go_quiet (first | (go_at_call 16; (try simp only [i64_w, i32_w]); (with_reducible refine (spec_l1In.calls (rd t277 x14_2) 0 (wrap64 (a1 - 1)) true _ A24.out).mono ?_); rintro e w' ⟨rfl, ⟨nd, rfl⟩⟩; (try first | exact ⟨rfl, _, World.drewN_drewN _ _ _⟩ | exact ⟨rfl, _, Eq.trans (World.drewN_drewN _ _ _) (congrArg (World.drewN _) (Nat.add_assoc _ _ _))⟩); have p285 : 0 ≤ ((rd t277 x14_2) : Int) := sa; have q285 : (rd t277 x14_2) < (t274.length : Int) := sa; obtain ⟨ad285, e285, hx285_0⟩ := Kd.at_int (Kd.R_reads' HO_10.out).2.2 (rd t277 x14_2) p285 q285; cases e285; replace p285 := eq_true p285; replace q285 := eq_true q285; have p286 : 0 ≤ (x11_1 : Int) := sa; have q286 : x11_1 < (t274.length : Int) := sa; obtain ⟨ad286, e286, hx286_0⟩ := Kd.at_int (Kd.R_reads' HO_10.out).2.2 x11_1 p286 q286; obtain rfl : ad285 = ad286 := (by injection e286); replace p286 := eq_true p286; replace q286 := eq_true q286)); try go_wp2_with (first | (go_at_call 16; (try simp only [i64_w, i32_w]); (with_reducible refine (spec_l1In.calls (rd t277 x14_2) 0 (wrap64 (a1 - 1)) true _ A24.out).mono ?_); rintro e w' ⟨rfl, ⟨nd, rfl⟩⟩; (try first | exact ⟨rfl, _, World.drewN_drewN _ _ _⟩ | exact ⟨rfl, _, Eq.trans (World.drewN_drewN _ _ _) (congrArg (World.drewN _) (Nat.add_assoc _ _ _))⟩); have p285 : 0 ≤ ((rd t277 x14_2) : Int) := sa; have q285 : (rd t277 x14_2) < (t274.length : Int) := sa; obtain ⟨ad285, e285, hx285_0⟩ := Kd.at_int (Kd.R_reads' HO_10.out).2.2 (rd t277 x14_2) p285 q285; cases e285; replace p285 := eq_true p285; replace q285 := eq_true q285; have p286 : 0 ≤ (x11_1 : Int) := sa; have q286 : x11_1 < (t274.length : Int) := sa; obtain ⟨ad286, e286, hx286_0⟩ := Kd.at_int (Kd.R_reads' HO_10.out).2.2 x11_1 p286 q286; obtain rfl : ad285 = ad286 := (by injection e286); replace p286 := eq_true p286; replace q286 := eq_true q286)))
             go_roundg kj12
             case measure => have := HK1.out; have := HK2.out; have := HJ12.out; omega
             case rel => exact ⟨(x12_2), (wrap64 (x14_2 + 1)), sc, sc, H', ⟨by have := HK1.out; have := HK2.out; have := HJ12.out; omega⟩, ⟨sr HO_9⟩, ⟨sr HO_10⟩, ⟨sr HO_13⟩, ⟨sb⟩⟩
           ·have c34b0 : ((rd t277 x14_2) == a3) = false := beq_eq_false_iff_ne.mpr c34
            have c34b1 : ((rd t277 x14_2) != a3) = true := bne_iff_ne.mpr c34
            have H' := Aside0.mk H
            clear H
            obtain ⟨Ao42, co42, eo42⟩ := Kd.R_slice HO_13.out
            subst eo42
            have p281 : 0 ≤ (x14_2 : Int) := sa
            have q281 : x14_2 < (t277.length : Int) := sa
            obtain ⟨ad281, e281, hx281_0⟩ := Kd.at_int (Kd.R_reads' HO_13.out).2.2 x14_2 p281 q281
            cases e281
            replace p281 := eq_true p281
            replace q281 := eq_true q281
            go_wp2_with (first | (go_at_call 16; (try simp only [i64_w, i32_w]); (with_reducible refine (spec_l1In.calls (rd t277 x14_2) 0 (wrap64 (a1 - 1)) true _ A24.out).mono ?_); rintro e w' ⟨rfl, ⟨nd, rfl⟩⟩; (try first | exact ⟨rfl, _, World.drewN_drewN _ _ _⟩ | exact ⟨rfl, _, Eq.trans (World.drewN_drewN _ _ _) (congrArg (World.drewN _) (Nat.add_assoc _ _ _))⟩)))
            repeat (go_quiet (first | (go_at_call 16; (try simp only [i64_w, i32_w]); (with_reducible refine (spec_l1In.calls (rd t277 x14_2) 0 (wrap64 (a1 - 1)) true _ A24.out).mono ?_); rintro e w' ⟨rfl, ⟨nd, rfl⟩⟩; (try first | exact ⟨rfl, _, World.drewN_drewN _ _ _⟩ | exact ⟨rfl, _, Eq.trans (World.drewN_drewN _ _ _) (congrArg (World.drewN _) (Nat.add_assoc _ _ _))⟩))); try go_wp2_with (first | (go_at_call 16; (try simp only [i64_w, i32_w]); (with_reducible refine (spec_l1In.calls (rd t277 x14_2) 0 (wrap64 (a1 - 1)) true _ A24.out).mono ?_); rintro e w' ⟨rfl, ⟨nd, rfl⟩⟩; (try first | exact ⟨rfl, _, World.drewN_drewN _ _ _⟩ | exact ⟨rfl, _, Eq.trans (World.drewN_drewN _ _ _) (congrArg (World.drewN _) (Nat.add_assoc _ _ _))⟩))))
            go_roundg kj12
            case measure => have := HK1.out; have := HK2.out; have := HJ12.out; omega
            case rel => exact ⟨(x12_2), (wrap64 (x14_2 + 1)), sc, sc, H', ⟨by have := HK1.out; have := HK2.out; have := HJ12.out; omega⟩, ⟨sr HO_9⟩, ⟨sr HO_10⟩, ⟨sr HO_13⟩, ⟨sb⟩⟩
         ·replace H := im H
          have H' := Aside0.mk H
          clear H
          obtain ⟨Ao43, co43, eo43⟩ := Kd.R_slice HO_13.out
          subst eo43
          have p281 : 0 ≤ (x14_2 : Int) := sa
          have q281 : x14_2 < (t277.length : Int) := sa
          obtain ⟨ad281, e281, hx281_0⟩ := Kd.at_int (Kd.R_reads' HO_13.out).2.2 x14_2 p281 q281
          cases e281
          replace p281 := eq_true p281
          replace q281 := eq_true q281
          go_wp2_with (first | (go_at_call 16; (try simp only [i64_w, i32_w]); (with_reducible refine (spec_l1In.calls (rd t277 x14_2) 0 (wrap64 (a1 - 1)) false _ A24.out).mono ?_); rintro e w' ⟨rfl, ⟨nd, rfl⟩⟩; (try first | exact ⟨rfl, _, World.drewN_drewN _ _ _⟩ | exact ⟨rfl, _, Eq.trans (World.drewN_drewN _ _ _) (congrArg (World.drewN _) (Nat.add_assoc _ _ _))⟩)))
          repeat (go_quiet (first | (go_at_call 16; (try simp only [i64_w, i32_w]); (with_reducible refine (spec_l1In.calls (rd t277 x14_2) 0 (wrap64 (a1 - 1)) false _ A24.out).mono ?_); rintro e w' ⟨rfl, ⟨nd, rfl⟩⟩; (try first | exact ⟨rfl, _, World.drewN_drewN _ _ _⟩ | exact ⟨rfl, _, Eq.trans (World.drewN_drewN _ _ _) (congrArg (World.drewN _) (Nat.add_assoc _ _ _))⟩))); try go_wp2_with (first | (go_at_call 16; (try simp only [i64_w, i32_w]); (with_reducible refine (spec_l1In.calls (rd t277 x14_2) 0 (wrap64 (a1 - 1)) false _ A24.out).mono ?_); rintro e w' ⟨rfl, ⟨nd, rfl⟩⟩; (try first | exact ⟨rfl, _, World.drewN_drewN _ _ _⟩ | exact ⟨rfl, _, Eq.trans (World.drewN_drewN _ _ _) (congrArg (World.drewN _) (Nat.add_assoc _ _ _))⟩))))
          go_roundg kj12
          case measure => have := HK1.out; have := HK2.out; have := HJ12.out; omega
          case rel => exact ⟨(x12_2), (wrap64 (x14_2 + 1)), sc, sc, H', ⟨by have := HK1.out; have := HK2.out; have := HJ12.out; omega⟩, ⟨sr HO_9⟩, ⟨sr HO_10⟩, ⟨sr HO_13⟩, ⟨sb⟩⟩
        ·replace H := im H
         obtain ⟨LMc44, H⟩ := il_ H
         obtain ⟨y287, hy287⟩ : ∃ y_ : List Int, y_ = (x9_1 ++ [x12_2]) := ⟨_, rfl⟩
         replace H : (spec_NextTo.l0 kj12 l0 a1 a2 a3 y287 t274 (wrap64 (x11_1 + 1))) = some r := by first | (rw [hy287]; with_reducible exact H) | (have H2_ := (Option.bind_some _ _).symm.trans H; rw [hy287]; with_reducible exact H2_) | (have H2_ := (Option.bind_some _ _).symm.trans H; with_reducible exact H2_) | with_reducible exact H | (rw [hy287]; exact H) | exact H
         have Ny287 := Aside0.mk hy287
         clear hy287
         have H' := Aside0.mk H
         clear H
         go_wp2_with (first | ((with_reducible refine gate_builtin (b := .append) (xs := #[.tmp 79, .tmp 81]) rfl ?_); at_builtin; refine Kd.R_append (Kd.int .i64) (w0 := w) w.heap.size rfl (.tmp 79) (.tmp 81) 57 3 (.int .i64 0) 8 rfl Try.underlying57 info3 rfl (by decide) (by omega) u9 x9_1 x12_2 [.int .i64 x12_2] (fun k_ => some k_ ≠ (.slice Ao11 t274.length co11 : Value).ownBlock ∧ some k_ ≠ (v278 : Value).ownBlock) (fun _ => False) rfl rfl ?aP (fun _ hk => hk.elim) ?aF ?aO ?aB ?aS ?aL ?_; (case aP => exact rfl); (case aB => exact (sb)); (case aF => exact (fun k_ hk => ⟨Kd.fresh' (Kd.R_lt (sr HO_10)) k_ hk, Kd.fresh' (Kd.R_lt (sr HO_13)) k_ hk⟩)); (case aO => exact (sr HO_9)); (case aS => exact (below_size (sb))); (case aL => have := LMc44.out; omega); intro v288 w45 ho hb hg hat; rw [← Ny287.out] at ho; replace HO_10 := Aside0.mk (Kd.R_after (ok := (fun k_ => some k_ ≠ (v278 : Value).ownBlock)) (by (with_reducible repeat (first | apply Kd.R_alloc | apply Kd.R_drewN | apply Kd.R_drew)); exact Kd.R_mono HO_10.out (fun _ hk => ⟨hk.2, hk.1⟩)) hg hat); replace HO_13 := Aside0.mk (Kd.R_after (ok := (fun k_ => some k_ ≠ (.slice Ao11 t274.length co11 : Value).ownBlock)) (by (with_reducible repeat (first | apply Kd.R_alloc | apply Kd.R_drewN | apply Kd.R_drew)); exact Kd.R_mono HO_13.out (fun _ hk => ⟨hk.2, hk.1⟩)) hg hat); replace HB := Aside0.mk hb; have HO289 := Aside0.mk ho; clear HO_9; clear ho hb hg hat))
         repeat (go_quiet (first | ((with_reducible refine gate_builtin (b := .append) (xs := #[.tmp 79, .tmp 81]) rfl ?_); at_builtin; refine Kd.R_append (Kd.int .i64) (w0 := w) w.heap.size rfl (.tmp 79) (.tmp 81) 57 3 (.int .i64 0) 8 rfl Try.underlying57 info3 rfl (by decide) (by omega) u9 x9_1 x12_2 [.int .i64 x12_2] (fun k_ => some k_ ≠ (.slice Ao11 t274.length co11 : Value).ownBlock ∧ some k_ ≠ (v278 : Value).ownBlock) (fun _ => False) rfl rfl ?aP (fun _ hk => hk.elim) ?aF ?aO ?aB ?aS ?aL ?_; (case aP => exact rfl); (case aB => exact (sb)); (case aF => exact (fun k_ hk => ⟨Kd.fresh' (Kd.R_lt (sr HO_10)) k_ hk, Kd.fresh' (Kd.R_lt (sr HO_13)) k_ hk⟩)); (case aO => exact (sr HO_9)); (case aS => exact (below_size (sb))); (case aL => have := LMc44.out; omega); intro v288 w45 ho hb hg hat; rw [← Ny287.out] at ho; have n0_ := Aside0.mk (Kd.R_after (ok := (fun k_ => some k_ ≠ (v278 : Value).ownBlock)) (by (with_reducible repeat (first | apply Kd.R_alloc | apply Kd.R_drewN | apply Kd.R_drew)); exact Kd.R_mono HO_10.out (fun _ hk => ⟨hk.2, hk.1⟩)) hg hat); have n1_ := Aside0.mk (Kd.R_after (ok := (fun k_ => some k_ ≠ (.slice Ao11 t274.length co11 : Value).ownBlock)) (by (with_reducible repeat (first | apply Kd.R_alloc | apply Kd.R_drewN | apply Kd.R_drew)); exact Kd.R_mono HO_13.out (fun _ hk => ⟨hk.2, hk.1⟩)) hg hat); have n2_ := Aside0.mk (hb); have n3_ := Aside0.mk (ho); clear HO_10; clear HO_13; clear HB; clear HO_9; have HO_10 := n0_; have HO_13 := n1_; have HB := n2_; have HO289 := n3_; clear n0_ n1_ n2_ n3_; clear ho hb hg hat)); try go_wp2_with (first | ((with_reducible refine gate_builtin (b := .append) (xs := #[.tmp 79, .tmp 81]) rfl ?_); at_builtin; refine Kd.R_append (Kd.int .i64) (w0 := w) w.heap.size rfl (.tmp 79) (.tmp 81) 57 3 (.int .i64 0) 8 rfl Try.underlying57 info3 rfl (by decide) (by omega) u9 x9_1 x12_2 [.int .i64 x12_2] (fun k_ => some k_ ≠ (.slice Ao11 t274.length co11 : Value).ownBlock ∧ some k_ ≠ (v278 : Value).ownBlock) (fun _ => False) rfl rfl ?aP (fun _ hk => hk.elim) ?aF ?aO ?aB ?aS ?aL ?_; (case aP => exact rfl); (case aB => exact (sb)); (case aF => exact (fun k_ hk => ⟨Kd.fresh' (Kd.R_lt (sr HO_10)) k_ hk, Kd.fresh' (Kd.R_lt (sr HO_13)) k_ hk⟩)); (case aO => exact (sr HO_9)); (case aS => exact (below_size (sb))); (case aL => have := LMc44.out; omega); intro v288 w45 ho hb hg hat; rw [← Ny287.out] at ho; have n0_ := Aside0.mk (Kd.R_after (ok := (fun k_ => some k_ ≠ (v278 : Value).ownBlock)) (by (with_reducible repeat (first | apply Kd.R_alloc | apply Kd.R_drewN | apply Kd.R_drew)); exact Kd.R_mono HO_10.out (fun _ hk => ⟨hk.2, hk.1⟩)) hg hat); have n1_ := Aside0.mk (Kd.R_after (ok := (fun k_ => some k_ ≠ (.slice Ao11 t274.length co11 : Value).ownBlock)) (by (with_reducible repeat (first | apply Kd.R_alloc | apply Kd.R_drewN | apply Kd.R_drew)); exact Kd.R_mono HO_13.out (fun _ hk => ⟨hk.2, hk.1⟩)) hg hat); have n2_ := Aside0.mk (hb); have n3_ := Aside0.mk (ho); clear HO_10; clear HO_13; clear HB; clear HO_9; have HO_10 := n0_; have HO_13 := n1_; have HB := n2_; have HO289 := n3_; clear n0_ n1_ n2_ n3_; clear ho hb hg hat)))
         go_roundg kj12
         case measure => have := HK1.out; have := HK2.out; have := HJ12.out; omega
         case rel => exact ⟨(y287), (wrap64 (x11_1 + 1)), sc, H', ⟨by have := HK1.out; have := HK2.out; have := HJ12.out; omega⟩, ⟨by (with_reducible repeat (first | apply Kd.R_alloc | apply Kd.R_drewN | apply Kd.R_drew)); exact Kd.R_mono HO289.out (fun _ hk => hk.1)⟩, ⟨by (with_reducible repeat (first | apply Kd.R_alloc | apply Kd.R_drewN | apply Kd.R_drew)); exact Kd.R_mono HO_10.out (fun _ hk => hk.2)⟩, ⟨sb⟩⟩
   ·have c9b0 := decide_eq_false c9
    clear c9
    obtain rfl := Option.some.inj H
    obtain ⟨Ao46, co46, eo46⟩ := Kd.R_slice HO_10.out
    subst eo46
    go_wp2
    repeat (go_quiet (fail); try go_wp2)
    go_ret
    exact ⟨_, se, by (with_reducible repeat (first | apply Kd.R_alloc | apply Kd.R_drewN | apply Kd.R_drew)); exact Kd.R_mono HO_9.out (fun _ hk => trivial), sb⟩

/-! ### spec_TableOf: function 35 -/
def spec_TableOf.f (k : Nat) (l0 : List (S60)) (a1 : Int) (a2 : Int) (a3 : Int) : Option (Int × List Int × List Int) := (spec_DistancesTo.f k l0 a1 a2 a3).bind fun t291 => ((spec_NextTo.f k l0 a1 a2 a3).bind fun t294 => (some (a3, t291, t294)))
theorem spec_TableOf.mono : ∀ a0 a1 a2 a3 k, LeO (spec_TableOf.f k a0 a1 a2 a3) (spec_TableOf.f (k + 1) a0 a1 a2 a3) := by
  intro a0 a1 a2 a3 k
  unfold spec_TableOf.f
  have m0 := @spec_DistancesTo.mono
  have m1 := @spec_NextTo.mono
  exact mo
set_option maxHeartbeats 8000000 in
set_option maxRecDepth 100000 in
theorem spec_TableOf.calls (k : Nat) (A0 : Option Addr) (c0 : Nat) (l0 : List (S60)) (a1 : Int) (a2 : Int) (a3 : Int) (r1 : Int) (r2 : List Int) (r3 : List Int) (w : World) (hr0 : Kd.C k60 w A0 l0.length l0) (hc0 : l0.length ≤ c0) (h : spec_TableOf.f k l0 a1 a2 a3 = some (r1, r2, r3)) :
    Calls Try.prog 35 #[.slice A0 l0.length c0, .int .i64 a1, .int .i64 a2, .int .i64 a3] w fun e w' => ∃ v1_ v2_ : Value, e = .returned (.agg #[.int .i64 r1, v1_, v2_]) ∧ Kd.R (Kd.int .i64) 3 w' w.heap.size (fun k_ => some k_ ≠ (v2_ : Value).ownBlock) v1_ r2 ∧ Kd.R (Kd.int .i64) 3 w' w.heap.size (fun k_ => some k_ ≠ (v1_ : Value).ownBlock) v2_ r3 ∧ Below w.heap.size w w' := by
 have hu63 := Try.underlying63
 have HR0 := Aside0.mk hr0
 have HC0 := Aside0.mk hc0
 clear hr0 hc0
 have HB := Aside0.mk (Below.refl w.heap.size w)
 have H : ((spec_DistancesTo.f k l0 a1 a2 a3).bind fun t291 => ((spec_NextTo.f k l0 a1 a2 a3).bind fun t294 => (some (a3, t291, t294)))) = some (r1, r2, r3) := h
 clear h
 obtain ⟨t291, A5, H⟩ := bnd H
 obtain ⟨t294, A6, H⟩ := bnd H
 simp only [Option.some.injEq, Prod.mk.injEq] at H
 obtain ⟨rfl, rfl, rfl⟩ := H
 go_enter Try.func35, Try.ntmps35
 go_wp2_with (first | ((with_reducible refine gate_dst (N := 8) rfl ?_); refine bx 8 #[.int .i64 0, .slice none 0 0, .slice none 0 0] 63 ?_; intro gb290 hg w7 hbox hb; have GW290 := bz w hg; have GE290 := bz w hg; replace HB := bs hb; have BK290 := Aside0.mk hbox; clear hb hbox hg) | ((with_reducible refine gate_callee (f := 54) rfl ?_); refine gL (some 14) Try.func54 #[.slice A0 l0.length c0, .int .i64 a1, .int .i64 a2, .int .i64 a3] ?_; (with_reducible refine (spec_DistancesTo.calls k _ _ l0 a1 a2 a3 t291 _ ?side1 ?side2 A5.out).mono ?_); (case side1 => exact cb HR0); (case side2 => exact HC0.out); rintro e w8 ⟨v292, rfl, ho0, hb⟩; refine ⟨_, rfl, ?_⟩; have HO293 := Aside0.mk (Kd.R_lower ho0 (below_size (sbw))); replace BK290 := bb BK290 hb; replace HB := bsw hb; (try clear hb); (try clear hb2); (try clear hk); (try clear hi); (try clear ho0)) | ((with_reducible refine gate_callee (f := 55) rfl ?_); refine gL (some 19) Try.func55 #[.slice A0 l0.length c0, .int .i64 a1, .int .i64 a2, .int .i64 a3] ?_; (with_reducible refine (spec_NextTo.calls k _ _ l0 a1 a2 a3 t294 _ ?side1 ?side2 A6.out).mono ?_); (case side1 => exact cb HR0); (case side2 => exact HC0.out); rintro e w9 ⟨v295, rfl, ho0, hb⟩; refine ⟨_, rfl, ?_⟩; have HO296 := Aside0.mk (Kd.R_lower (Kd.R_new' ho0 (Kd.R_lt (sr HO293))) (below_size (sbw))); replace HO293 := Aside0.mk (Kd.R_elder' (sr HO293) (Kd.R_base ho0) hb); replace BK290 := bb BK290 hb; replace HB := bsw hb; (try clear hb); (try clear hb2); (try clear hk); (try clear hi); (try clear ho0); obtain ⟨Ao10, co10, eo10⟩ := Kd.R_slice HO296.out; subst eo10; obtain ⟨Ao11, co11, eo11⟩ := Kd.R_slice HO293.out; subst eo11; obtain ⟨hcz12_0, hcz12_1, hcz12_2, hfz12_0, hfz12_1, hfz12_2⟩ := cc3 BK290))
 refine bodyPost_ret (results_cell_row rfl _ _ gb290 63 #[.int .i64 a3, .slice Ao11 t291.length co11, .slice Ao10 t294.length co10] (0, 0) _ rfl (sp BK290) Try.underlying63 rfl (by kernel_rfl)) rfl ?_
 exact ⟨_, _, se, by (with_reducible repeat (first | apply Kd.R_alloc | apply Kd.R_drewN | apply Kd.R_drew)); exact Kd.R_mono (h3 HO293 BK290) (fun _ hk => hk.1.2), by (with_reducible repeat (first | apply Kd.R_alloc | apply Kd.R_drewN | apply Kd.R_drew)); exact Kd.R_mono (h3 HO296 BK290) (fun _ hk => hk.1.2), sbw⟩

/-! ### spec_l17Tables: function 18 -/
def spec_l17Tables.l0 : Nat → List (S60) → Int → Int → List (S63) → Int → Option ((List (S63)))
  | 0, _, _, _, _, _ => none
  | k + 1, x0, x1, x2, x7, x8 => if x8 < x1 then ((spec_TableOf.f k x0 x1 x2 x8).bind fun bt300 => (if x7.length < 2513169434916 then (spec_l17Tables.l0 k x0 x1 x2 (x7 ++ [(⟨bt300.1, bt300.2.1, bt300.2.2⟩ : S63)]) (wrap64 (x8 + 1))) else (none))) else (some x7)
def spec_l17Tables.f (k : Nat) (l0 : List (S60)) (a1 : Int) (a2 : Int) : Option ((List (S63))) := spec_l17Tables.l0 k l0 a1 a2 (([] : List (S63))) 0
theorem spec_l17Tables.mono_l : ∀ k, (∀ y0 y1 y2 y3 y4, LeO (spec_l17Tables.l0 k y0 y1 y2 y3 y4) (spec_l17Tables.l0 (k + 1) y0 y1 y2 y3 y4))
  | 0 => fun _ _ _ _ _ r h => by simp [spec_l17Tables.l0] at h
  | k + 1 => by
    have ih0 := spec_l17Tables.mono_l k
    · intro y0 y1 y2 y3 y4
      unfold spec_l17Tables.l0
      have m0 := @spec_TableOf.mono
      exact mo
theorem spec_l17Tables.mono : ∀ a0 a1 a2 k, LeO (spec_l17Tables.f k a0 a1 a2) (spec_l17Tables.f (k + 1) a0 a1 a2) := by
  intro a0 a1 a2 k
  have ih0 := spec_l17Tables.mono_l k
  unfold spec_l17Tables.f
  have m0 := @spec_TableOf.mono
  exact mo
set_option maxHeartbeats 8000000 in
set_option maxRecDepth 100000 in
theorem spec_l17Tables.calls (k : Nat) (A0 : Option Addr) (c0 : Nat) (l0 : List (S60)) (a1 : Int) (a2 : Int) (r : List (S63)) (w : World) (hr0 : Kd.C k60 w A0 l0.length l0) (hc0 : l0.length ≤ c0) (h : spec_l17Tables.f k l0 a1 a2 = some r) :
    Calls Try.prog 18 #[.slice A0 l0.length c0, .int .i64 a1, .int .i64 a2] w fun e w' => ∃ v0_ : Value, e = .returned (v0_) ∧ Kd.S k63 63 w' w.heap.size (fun _ => True) v0_ r ∧ Below w.heap.size w w' := by
 have HR0 := Aside0.mk hr0
 have HC0 := Aside0.mk hc0
 clear hr0 hc0
 have HB := Aside0.mk (Below.refl w.heap.size w)
 have H : (spec_l17Tables.l0 k l0 a1 a2 (([] : List (S63))) 0) = some r := h
 clear h
 obtain ⟨y297, hy297⟩ : ∃ y_ : List (S63), y_ = (([] : List (S63))) := ⟨_, rfl⟩
 replace H : (spec_l17Tables.l0 k l0 a1 a2 y297 0) = some r := by first | (rw [hy297]; with_reducible exact H) | (have H2_ := (Option.bind_some _ _).symm.trans H; rw [hy297]; with_reducible exact H2_) | (have H2_ := (Option.bind_some _ _).symm.trans H; with_reducible exact H2_) | with_reducible exact H | (rw [hy297]; exact H) | exact H
 have Ny297 := Aside0.mk hy297
 clear hy297
 have H' := Aside0.mk H
 clear H
 go_enter Try.func18, Try.ntmps18
 go_wp2_with (first | ((with_reducible refine gate_dst (N := 9) rfl ?_); refine Kd.S_lit k63 _ 63 ?hg (N := 9) ?hd (xs := ([] : List (S63))) (inner := []) (ok := fun _ => True) (okp := fun _ => True) ?hr ?hp (fun _ hk => hk) trivial (Below.refl _ _) (Nat.le_refl _) (by simp) ?_; (case hd => rfl); (case hg => rfl); (case hr => first | (go_simp; done) | (go_simp; rfl)); (case hp => exact (Reps.none _ _)); intro v298 w4 ho5 hb hg_ hnew_; clear hg_ hnew_; (first | rw [← Ny297.out] at ho5 | (simp only [Int.reduceToNat] at ho5; rw [← Ny297.out] at ho5)); have HO299 := Aside0.mk (Kd.S_lower ho5 (below_size (sb))); replace HB := bs hb; clear hb ho5))
 go_loopg [7, 8] k (fun kq v7 v8 w' => ∃ (x7_1 : List (S63)) (x8_1 : Int), v8 = .int .i64 x8_1 ∧ Aside0 (spec_l17Tables.l0 kq l0 a1 a2 x7_1 x8_1 = some r) ∧ Aside0 (kq ≤ k) ∧ Aside0 (Kd.S k63 63 w' w.heap.size (fun _ => True) v7 x7_1) ∧ Aside0 (Below w.heap.size w w'))
 case atStart => exact ⟨(y297), (0), sc, H', kk0, ⟨ss HO299⟩, ⟨sb⟩⟩
 case round =>
  clear H'
  obtain ⟨x7_1, x8_1, rfl, HA, HK1, HO_7, HB⟩ := hrel
  cases gk with
  | zero => exact absurd HA.out (by simp [spec_l17Tables.l0])
  | succ k1 =>
   have H := HA.out
   clear HA
   simp only [spec_l17Tables.l0] at H
   obtain ⟨c6, H⟩ | ⟨c6, H⟩ := ie_ H
   ·have c6b0 := decide_eq_true c6
    clear c6
    obtain ⟨⟨t300, t301, t304⟩, A7, H⟩ := bnd H
    replace H : (if x7_1.length < 2513169434916 then (spec_l17Tables.l0 k1 l0 a1 a2 (x7_1 ++ [(⟨t300, t301, t304⟩ : S63)]) (wrap64 (x8_1 + 1))) else (none)) = some r := H
    obtain ⟨LMc8, H⟩ := il_ H
    obtain ⟨y307, hy307⟩ : ∃ y_ : List (S63), y_ = (x7_1 ++ [(⟨t300, t301, t304⟩ : S63)]) := ⟨_, rfl⟩
    replace H : (spec_l17Tables.l0 k1 l0 a1 a2 y307 (wrap64 (x8_1 + 1))) = some r := by first | (rw [hy307]; with_reducible exact H) | (have H2_ := (Option.bind_some _ _).symm.trans H; rw [hy307]; with_reducible exact H2_) | (have H2_ := (Option.bind_some _ _).symm.trans H; with_reducible exact H2_) | with_reducible exact H | (rw [hy307]; exact H) | exact H
    have Ny307 := Aside0.mk hy307
    clear hy307
    have H' := Aside0.mk H
    clear H
    go_wp2_with (first | ((with_reducible refine gate_callee (f := 35) rfl ?_); refine gL (some 20) Try.func35 #[.slice A0 l0.length c0, .int .i64 a1, .int .i64 a2, .int .i64 x8_1] ?_; (with_reducible refine (spec_TableOf.calls k1 _ _ l0 a1 a2 x8_1 t300 t301 t304 _ ?side1 ?side2 A7.out).mono ?_); (case side1 => exact cb HR0); (case side2 => exact HC0.out); rintro e w9 ⟨v302, v305, rfl, ho0, ho1, hb⟩; refine ⟨_, rfl, ?_⟩; replace HO_7 := Aside0.mk (Kd.S_mono (Kd.S_told (Kd.S_told (Kd.S_old (ss HO_7) hb) (Kd.R_base ho0)) (Kd.R_base ho1)) (fun _ h_ => h_.1)); have HO303 := Aside0.mk (Kd.R_lower ho0 (below_size (sb))); have HO306 := Aside0.mk (Kd.R_lower ho1 (below_size (sb))); replace HB := bs hb; (try clear hb); (try clear hb2); (try clear hk); (try clear hi); (try clear ho0); (try clear ho1); obtain ⟨Ao11, co11, eo11⟩ := Kd.R_slice HO303.out; subst eo11; obtain ⟨Ao12, co12, eo12⟩ := Kd.R_slice HO306.out; subst eo12) | ((with_reducible refine gate_builtin (b := .append) (xs := #[.tmp 15, .tmp 21]) rfl ?_); at_builtin; refine Kd.S_append k63 (w0 := w) w.heap.size rfl (.tmp 15) (.tmp 21) 44 63 (.agg #[(.int .i64 0), (.slice none 0 0), (.slice none 0 0)]) 56 rfl Try.underlying44 info63 rfl (by decide) (by omega) u7 x7_1 (⟨t300, t301, t304⟩ : S63) [.int .i64 t300, .slice Ao11 t301.length co11, .slice Ao12 t304.length co12] (fun _ => True) (fun k_ => some k_ = (.slice Ao11 t301.length co11 : Value).ownBlock ∨ some k_ = (.slice Ao12 t304.length co12 : Value).ownBlock) rfl rfl ?aP (fun k_ hk_ => hk_.elim (fun h_ => ((Kd.R_mono (ok' := fun k_ => ((fun _ => True)) k_ ∧ some k_ ≠ (u7 : Value).ownBlock) (Kd.R_apart' (HO303.out) (Kd.S_typed HO_7.out) (by decide)) (fun k_ hk => ⟨trivial, hk.2⟩))).1 k_ h_.symm) (fun h_ => ((Kd.R_mono (ok' := fun k_ => ((fun _ => True)) k_ ∧ some k_ ≠ (u7 : Value).ownBlock) (Kd.R_apart' (HO306.out) (Kd.S_typed HO_7.out) (by decide)) (fun k_ hk => ⟨trivial, hk.2⟩))).1 k_ h_.symm)) ?aF ?aO ?aB ?aS ?aL ?_; (case aP => exact k63_mkM _ _ _ (⟨t300, t301, t304⟩ : S63) (Kd.R_mono (Kd.R_tight rfl (Kd.R_mono (ok' := fun k_ => ((fun _ => True)) k_ ∧ some k_ ≠ (u7 : Value).ownBlock) (Kd.R_apart' (HO303.out) (Kd.S_typed HO_7.out) (by decide)) (fun k_ hk => ⟨trivial, hk.2⟩))) (fun _ h_ => Or.inl h_)) (Kd.R_mono (Kd.R_tight rfl (Kd.R_mono (ok' := fun k_ => ((fun _ => True)) k_ ∧ some k_ ≠ (u7 : Value).ownBlock) (Kd.R_apart' (HO306.out) (Kd.S_typed HO_7.out) (by decide)) (fun k_ hk => ⟨trivial, hk.2⟩))) (fun _ h_ => Or.inr (h_))) HO306.out.1); (case aB => exact (sb)); (case aF => exact (fun _ _ => trivial)); (case aO => exact (by (with_reducible repeat (first | apply Kd.S_alloc | apply Kd.S_drewN | apply Kd.S_drew)); exact Kd.S_mono HO_7.out (fun k_ hk => ⟨trivial, fun e_ => e_.elim (fun h_ => hk.1.2 h_) (fun h_ => hk.2 h_)⟩))); (case aS => exact (below_size (sb))); (case aL => have := LMc8.out; omega); intro v308 w10 ho hb hg hat; rw [← Ny307.out] at ho; replace HB := Aside0.mk hb; have HO309 := Aside0.mk ho; clear HO_7 HO303 HO306; clear ho hb hg hat))
    go_roundg k1
    case measure => have := HK1.out; omega
    case rel => exact ⟨(y307), (wrap64 (x8_1 + 1)), sc, H', kk1, ⟨ss HO309⟩, ⟨sb⟩⟩
   ·have c6b0 := decide_eq_false c6
    clear c6
    obtain rfl := Option.some.inj H
    go_wp2
    go_ret
    exact ⟨_, se, ss HO_7, sb⟩

end Go.Proofs.Ytcjlbgbenjmkgaa.QFnExactBuildProgram
