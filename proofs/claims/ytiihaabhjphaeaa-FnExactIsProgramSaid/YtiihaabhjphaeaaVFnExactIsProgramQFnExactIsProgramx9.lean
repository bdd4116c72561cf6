/- What the Go functions of the law FnExactIsProgram come to, as Lean functions, and that they do: by a program of the session, out of the kit's printer. Conditions: none. (squeezed). -/
import Derived.Test.YtiihaabhjphaeaaVFnExactIsProgramSq2
import Derived.Test.YtiihaabhjphaeaaVFnExactIsProgramSq
import Derived.Test.YtiihaabhjphaeaaVFnExactIsProgramQFnExactIsProgramx0
import Derived.Test.YtiihaabhjphaeaaVFnExactIsProgramQFnExactIsProgramx6
import Derived.Test.YtiihaabhjphaeaaVFnExactIsProgramQFnExactIsProgramx7
import Derived.Test.YtiihaabhjphaeaaVFnExactIsProgramQFnExactIsProgramx8
namespace Go.Proofs.Ytiihaabhjphaeaa.QFnExactIsProgram
open Go.RowKit Go.Proofs.YtiihaabhjphaeaaW.PrintWords Go.Proofs.YtiihaabhjphaeaaW.PrintLast Go.Proofs.YtiihaabhjphaeaaW.PrintMore Go.Proofs.Ytiihaabhjphaeaa.Open Go.Proofs.Ytiihaabhjphaeaa.Sq
attribute [local go_sem] max2_int min2_int max_two min_two max_three min_three max_four min_four   -- for this text's walks alone
attribute [local go_sem] isSome_set
set_option linter.unusedVariables false
set_option linter.unusedSimpArgs false

/-! ### spec_NextTo: function 176 -/
mutual
def spec_NextTo.l0 : Nat → List (S134) → Int → Int → Int → List Int → List Int → Int → Option (List Int)
  | 0, _, _, _, _, _, _, _ => none
  | k + 1, x0, x1, x2, x3, x9, x10, x11 => if x11 < (x10.length : Int) then ((spec_NeighborsIn.f k x0 x11).bind fun t342 => (spec_NextTo.l1 k x0 x1 x2 x3 x9 x10 x11 (-1) t342 0)) else (some x9)
def spec_NextTo.l1 : Nat → List (S134) → Int → Int → Int → List Int → List Int → Int → Int → List Int → Int → Option (List Int)
  | 0, _, _, _, _, _, _, _, _, _, _ => none
  | k + 1, x0, x1, x2, x3, x9, x10, x11, x12, x13, x14 => if x14 < (x13.length : Int) then (if 0 ≤ x11 then (if x11 < (x10.length : Int) then (if (rd x10 x11) > 0 then (spec_NextTo.j2 k x0 x1 x2 x3 x9 x10 x11 x12 x13 x14 (decide (x12 < 0))) else (spec_NextTo.j2 k x0 x1 x2 x3 x9 x10 x11 x12 x13 x14 false)) else (none)) else (none)) else (spec_NextTo.j2 k x0 x1 x2 x3 x9 x10 x11 x12 x13 x14 false)
def spec_NextTo.j2 : Nat → List (S134) → Int → Int → Int → List Int → List Int → Int → Int → List Int → Int → Bool → Option (List Int)
  | 0, _, _, _, _, _, _, _, _, _, _, _ => none
  | k + 1, x0, x1, x2, x3, x9, x10, x11, x12, x13, x14, x45 => if x45 = true then (if 0 ≤ x14 then (if x14 < (x13.length : Int) then ((spec_l1In.f (rd x13 x14) 0 (wrap64 (x1 - 1))).bind fun t347 => (if t347 = true then (if (rd x13 x14) < x2 then (if 0 ≤ (rd x13 x14) then (if (rd x13 x14) < (x10.length : Int) then (if 0 ≤ x11 then (if x11 < (x10.length : Int) then (if (rd x10 (rd x13 x14)) = (wrap64 ((rd x10 x11) - 1)) then (spec_NextTo.l1 k x0 x1 x2 x3 x9 x10 x11 (rd x13 x14) x13 (wrap64 (x14 + 1))) else (spec_NextTo.l1 k x0 x1 x2 x3 x9 x10 x11 x12 x13 (wrap64 (x14 + 1)))) else (none)) else (none)) else (none)) else (none)) else (if (rd x13 x14) = x3 then (if 0 ≤ (rd x13 x14) then (if (rd x13 x14) < (x10.length : Int) then (if 0 ≤ x11 then (if x11 < (x10.length : Int) then (if (rd x10 (rd x13 x14)) = (wrap64 ((rd x10 x11) - 1)) then (spec_NextTo.l1 k x0 x1 x2 x3 x9 x10 x11 (rd x13 x14) x13 (wrap64 (x14 + 1))) else (spec_NextTo.l1 k x0 x1 x2 x3 x9 x10 x11 x12 x13 (wrap64 (x14 + 1)))) else (none)) else (none)) else (none)) else (none)) else (spec_NextTo.l1 k x0 x1 x2 x3 x9 x10 x11 x12 x13 (wrap64 (x14 + 1))))) else (spec_NextTo.l1 k x0 x1 x2 x3 x9 x10 x11 x12 x13 (wrap64 (x14 + 1))))) else (none)) else (none)) else (if x9.length < 17592186044416 then (spec_NextTo.l0 k x0 x1 x2 x3 (x9 ++ [x12]) x10 (wrap64 (x11 + 1))) else (none))
end
def spec_NextTo.f (k : Nat) (l0 : List (S134)) (a1 : Int) (a2 : Int) (a3 : Int) : Option (List Int) := (spec_DistancesTo.f k l0 a1 a2 a3).bind fun t339 => (spec_NextTo.l0 k l0 a1 a2 a3 (([] : List Int)) t339 0)
theorem spec_NextTo.mono_l : ∀ k, (∀ y0 y1 y2 y3 y4 y5 y6, LeO (spec_NextTo.l0 k y0 y1 y2 y3 y4 y5 y6) (spec_NextTo.l0 (k + 1) y0 y1 y2 y3 y4 y5 y6)) ∧ (∀ y0 y1 y2 y3 y4 y5 y6 y7 y8 y9, LeO (spec_NextTo.l1 k y0 y1 y2 y3 y4 y5 y6 y7 y8 y9) (spec_NextTo.l1 (k + 1) y0 y1 y2 y3 y4 y5 y6 y7 y8 y9)) ∧ (∀ y0 y1 y2 y3 y4 y5 y6 y7 y8 y9 y10, LeO (spec_NextTo.j2 k y0 y1 y2 y3 y4 y5 y6 y7 y8 y9 y10) (spec_NextTo.j2 (k + 1) y0 y1 y2 y3 y4 y5 y6 y7 y8 y9 y10))
  | 0 => ⟨fun _ _ _ _ _ _ _ r h => by simp [spec_NextTo.l0] at h, fun _ _ _ _ _ _ _ _ _ _ r h => by simp [spec_NextTo.l1] at h, fun _ _ _ _ _ _ _ _ _ _ _ r h => by simp [spec_NextTo.j2] at h⟩
  | k + 1 => by
    obtain ⟨ih0, ih1, ih2⟩ := spec_NextTo.mono_l k
    refine ⟨?_, ?_, ?_⟩
    · intro y0 y1 y2 y3 y4 y5 y6
      unfold spec_NextTo.l0
      have m0 := @spec_DistancesTo.mono
      have m1 := @spec_NeighborsIn.mono
      exact mo
    · intro y0 y1 y2 y3 y4 y5 y6 y7 y8 y9
      unfold spec_NextTo.l1
      have m0 := @spec_DistancesTo.mono
      have m1 := @spec_NeighborsIn.mono
      exact mo
    · intro y0 y1 y2 y3 y4 y5 y6 y7 y8 y9 y10
      unfold spec_NextTo.j2
      have m0 := @spec_DistancesTo.mono
      have m1 := @spec_NeighborsIn.mono
      exact mo
theorem spec_NextTo.mono : ∀ a0 a1 a2 a3 k, LeO (spec_NextTo.f k a0 a1 a2 a3) (spec_NextTo.f (k + 1) a0 a1 a2 a3) := by
  intro a0 a1 a2 a3 k
  obtain ⟨ih0, ih1, ih2⟩ := spec_NextTo.mono_l k
  unfold spec_NextTo.f
  have m0 := @spec_DistancesTo.mono
  have m1 := @spec_NeighborsIn.mono
  exact mo
set_option maxHeartbeats 8000000 in
set_option maxRecDepth 100000 in
theorem spec_NextTo.calls (k : Nat) (A0 : Option Addr) (c0 : Nat) (l0 : List (S134)) (a1 : Int) (a2 : Int) (a3 : Int) (r : List Int) (w : World) (hr0 : Kd.C k134 w A0 l0.length l0) (hc0 : l0.length ≤ c0) (h : spec_NextTo.f k l0 a1 a2 a3 = some r) :
    Calls Try.prog 176 #[.slice A0 l0.length c0, .int .i64 a1, .int .i64 a2, .int .i64 a3] w fun e w' => ∃ v0_ : Value, e = .returned (v0_) ∧ Kd.R (Kd.int .i64) 3 w' w.heap.size (fun _ => True) v0_ r ∧ Below w.heap.size w w' := by
 have HR0 := Aside0.mk hr0
 have HC0 := Aside0.mk hc0
 clear hr0 hc0
 have HB := Aside0.mk (Below.refl w.heap.size w)
 have H : ((spec_DistancesTo.f k l0 a1 a2 a3).bind fun t339 => (spec_NextTo.l0 k l0 a1 a2 a3 (([] : List Int)) t339 0)) = some r := h
 clear h
 obtain ⟨y336, hy336⟩ : ∃ y_ : List Int, y_ = (([] : List Int)) := ⟨_, rfl⟩
 replace H : ((spec_DistancesTo.f k l0 a1 a2 a3).bind fun t339 => (spec_NextTo.l0 k l0 a1 a2 a3 y336 t339 0)) = some r := by first | (rw [hy336]; with_reducible exact H) | (have H2_ := (Option.bind_some _ _).symm.trans H; rw [hy336]; with_reducible exact H2_) | (have H2_ := (Option.bind_some _ _).symm.trans H; with_reducible exact H2_) | with_reducible exact H | (rw [hy336]; exact H) | exact H
 have Ny336 := Aside0.mk hy336
 clear hy336
 obtain ⟨t339, A5, H⟩ := bnd H
 have H' := Aside0.mk H
 clear H
 go_enter Try.func176, Try.ntmps176
 go_wp2_with (first | ((with_reducible refine gate_dst (N := 16) rfl ?_); refine Kd.R_lit (Kd.int .i64) _ 3 ?hg (N := 16) ?hd (xs := ([] : List Int)) (inner := []) (ok := fun _ => True) (okp := fun _ => True) ?hr ?hp (fun _ hk => hk) trivial (Below.refl _ _) (Nat.le_refl _) (by simp) ?_; (case hd => rfl); (case hg => rfl); (case hr => first | (go_simp; done) | (go_simp; rfl)); (case hp => exact (Reps.none _ _)); intro v337 w6 ho7 hb hg_ hnew_; clear hg_ hnew_; (first | rw [← Ny336.out] at ho7 | (simp only [Int.reduceToNat] at ho7; rw [← Ny336.out] at ho7)); have HO338 := Aside0.mk (Kd.R_lower ho7 (below_size (sb))); replace HB := bs hb; clear hb ho7) | (go_at_call 56; (with_reducible refine (spec_DistancesTo.calls k _ _ l0 a1 a2 a3 t339 _ ?side1 ?side2 A5.out).mono ?_); (case side1 => exact cb HR0); (case side2 => exact HC0.out); rintro e w8 ⟨v340, rfl, ho0, hb⟩; have HO341 := Aside0.mk (Kd.R_lower (Kd.R_new' ho0 (Kd.R_lt (sr HO338))) (below_size (sb))); replace HO338 := Aside0.mk (Kd.R_elder' (sr HO338) (Kd.R_base ho0) hb); replace HB := bs hb; (try clear hb); (try clear hb2); (try clear hk); (try clear hi); (try clear ho0)))
 repeat (go_quiet (first | ((with_reducible refine gate_dst (N := 16) rfl ?_); refine Kd.R_lit (Kd.int .i64) _ 3 ?hg (N := 16) ?hd (xs := ([] : List Int)) (inner := []) (ok := fun _ => True) (okp := fun _ => True) ?hr ?hp (fun _ hk => hk) trivial (Below.refl _ _) (Nat.le_refl _) (by simp) ?_; (case hd => rfl); (case hg => rfl); (case hr => first | (go_simp; done) | (go_simp; rfl)); (case hp => exact (Reps.none _ _)); intro v337 w6 ho7 hb hg_ hnew_; clear hg_ hnew_; (first | rw [← Ny336.out] at ho7 | (simp only [Int.reduceToNat] at ho7; rw [← Ny336.out] at ho7)); have n0_ := Aside0.mk (Kd.R_lower ho7 (below_size (sb))); have n1_ := Aside0.mk (below_step (sb) hb); clear HB; have HO338 := n0_; have HB := n1_; clear n0_ n1_; clear hb ho7) | (go_at_call 56; (with_reducible refine (spec_DistancesTo.calls k _ _ l0 a1 a2 a3 t339 _ ?side1 ?side2 A5.out).mono ?_); (case side1 => exact cb HR0); (case side2 => exact HC0.out); rintro e w8 ⟨v340, rfl, ho0, hb⟩; have n0_ := Aside0.mk (Kd.R_elder' (sr HO338) (Kd.R_base ho0) hb); have n1_ := Aside0.mk (Kd.R_lower (Kd.R_new' ho0 (Kd.R_lt (sr HO338))) (below_size (sb))); have n2_ := Aside0.mk (below_step (sb) hb); clear HO338; clear HB; have HO338 := n0_; have HO341 := n1_; have HB := n2_; clear n0_ n1_ n2_; (try clear hb); (try clear hb2); (try clear hk); (try clear hi); (try clear ho0))); try go_wp2_with (first | ((with_reducible refine gate_dst (N := 16) rfl ?_); refine Kd.R_lit (Kd.int .i64) _ 3 ?hg (N := 16) ?hd (xs := ([] : List Int)) (inner := []) (ok := fun _ => True) (okp := fun _ => True) ?hr ?hp (fun _ hk => hk) trivial (Below.refl _ _) (Nat.le_refl _) (by simp) ?_; (case hd => rfl); (case hg => rfl); (case hr => first | (go_simp; done) | (go_simp; rfl)); (case hp => exact (Reps.none _ _)); intro v337 w6 ho7 hb hg_ hnew_; clear hg_ hnew_; (first | rw [← Ny336.out] at ho7 | (simp only [Int.reduceToNat] at ho7; rw [← Ny336.out] at ho7)); have n0_ := Aside0.mk (Kd.R_lower ho7 (below_size (sb))); have n1_ := Aside0.mk (below_step (sb) hb); clear HB; have HO338 := n0_; have HB := n1_; clear n0_ n1_; clear hb ho7) | (go_at_call 56; (with_reducible refine (spec_DistancesTo.calls k _ _ l0 a1 a2 a3 t339 _ ?side1 ?side2 A5.out).mono ?_); (case side1 => exact cb HR0); (case side2 => exact HC0.out); rintro e w8 ⟨v340, rfl, ho0, hb⟩; have n0_ := Aside0.mk (Kd.R_elder' (sr HO338) (Kd.R_base ho0) hb); have n1_ := Aside0.mk (Kd.R_lower (Kd.R_new' ho0 (Kd.R_lt (sr HO338))) (below_size (sb))); have n2_ := Aside0.mk (below_step (sb) hb); clear HO338; clear HB; have HO338 := n0_; have HO341 := n1_; have HB := n2_; clear n0_ n1_ n2_; (try clear hb); (try clear hb2); (try clear hk); (try clear hi); (try clear ho0))))
 go_loopg [9, 11] k (fun kq v9 v11 w' => ∃ (x9_1 : List Int) (x11_1 : Int), v11 = .int .i64 x11_1 ∧ Aside0 (spec_NextTo.l0 kq l0 a1 a2 a3 x9_1 t339 x11_1 = some r) ∧ Aside0 (kq ≤ k) ∧ Aside0 (Kd.R (Kd.int .i64) 3 w' w.heap.size (fun k_ => some k_ ≠ (v340 : Value).ownBlock) v9 x9_1) ∧ Aside0 (Kd.R (Kd.int .i64) 3 w' w.heap.size (fun k_ => some k_ ≠ (v9 : Value).ownBlock) v340 t339) ∧ Aside0 (Below w.heap.size w w'))
 case atStart => exact ⟨(y336), (0), sc, H', kk0, ⟨by (with_reducible repeat (first | apply Kd.R_alloc | apply Kd.R_drewN | apply Kd.R_drew)); exact Kd.R_mono HO338.out (fun _ hk => hk.2)⟩, ⟨by (with_reducible repeat (first | apply Kd.R_alloc | apply Kd.R_drewN | apply Kd.R_drew)); exact Kd.R_mono HO341.out (fun _ hk => hk.2)⟩, ⟨sb⟩⟩
 case round =>
  clear H'
  obtain ⟨x9_1, x11_1, rfl, HA, HK1, HO_9, HO_10, HB⟩ := hrel
  cases gk with
  | zero => exact absurd HA.out (by simp [spec_NextTo.l0])
  | succ k1 =>
   have H := HA.out
   clear HA
   simp only [spec_NextTo.l0] at H
   obtain ⟨c9, H⟩ | ⟨c9, H⟩ := ie_ H
   ·have c9b0 := decide_eq_true c9
    clear c9
    obtain ⟨t342, A10, H⟩ := bnd H
    have H' := Aside0.mk H
    clear H
    obtain ⟨Ao11, co11, eo11⟩ := Kd.R_slice HO_10.out
    subst eo11
    go_wp2_with (first | (go_at_call 127; (with_reducible refine (spec_NeighborsIn.calls k1 _ _ l0 x11_1 t342 _ ?side1 ?side2 A10.out).mono ?_); (case side1 => exact cb HR0); (case side2 => exact HC0.out); rintro e w12 ⟨v343, rfl, ho0, hb⟩; have HO344 := Aside0.mk (Kd.R_lower (Kd.R_new' (Kd.R_new' ho0 (Kd.R_lt (sr HO_9))) (Kd.R_lt (sr HO_10))) (below_size (sb))); replace HO_9 := Aside0.mk (Kd.R_elder' (sr HO_9) (Kd.R_base ho0) hb); replace HO_10 := Aside0.mk (Kd.R_elder' (sr HO_10) (Kd.R_base ho0) hb); replace HB := bs hb; (try clear hb); (try clear hb2); (try clear hk); (try clear hi); (try clear ho0)))
    repeat (go_quiet (first | (go_at_call 127; (with_reducible refine (spec_NeighborsIn.calls k1 _ _ l0 x11_1 t342 _ ?side1 ?side2 A10.out).mono ?_); (case side1 => exact cb HR0); (case side2 => exact HC0.out); rintro e w12 ⟨v343, rfl, ho0, hb⟩; have n0_ := Aside0.mk (Kd.R_elder' (sr HO_9) (Kd.R_base ho0) hb); have n1_ := Aside0.mk (Kd.R_elder' (sr HO_10) (Kd.R_base ho0) hb); have n2_ := Aside0.mk (Kd.R_lower (Kd.R_new' (Kd.R_new' ho0 (Kd.R_lt (sr HO_9))) (Kd.R_lt (sr HO_10))) (below_size (sb))); have n3_ := Aside0.mk (below_step (sb) hb); clear HO_9; clear HO_10; clear HB; have HO_9 := n0_; have HO_10 := n1_; have HO344 := n2_; have HB := n3_; clear n0_ n1_ n2_ n3_; (try clear hb); (try clear hb2); (try clear hk); (try clear hi); (try clear ho0))); try go_wp2_with (first | (go_at_call 127; (with_reducible refine (spec_NeighborsIn.calls k1 _ _ l0 x11_1 t342 _ ?side1 ?side2 A10.out).mono ?_); (case side1 => exact cb HR0); (case side2 => exact HC0.out); rintro e w12 ⟨v343, rfl, ho0, hb⟩; have n0_ := Aside0.mk (Kd.R_elder' (sr HO_9) (Kd.R_base ho0) hb); have n1_ := Aside0.mk (Kd.R_elder' (sr HO_10) (Kd.R_base ho0) hb); have n2_ := Aside0.mk (Kd.R_lower (Kd.R_new' (Kd.R_new' ho0 (Kd.R_lt (sr HO_9))) (Kd.R_lt (sr HO_10))) (below_size (sb))); have n3_ := Aside0.mk (below_step (sb) hb); clear HO_9; clear HO_10; clear HB; have HO_9 := n0_; have HO_10 := n1_; have HO344 := n2_; have HB := n3_; clear n0_ n1_ n2_ n3_; (try clear hb); (try clear hb2); (try clear hk); (try clear hi); (try clear ho0))))
    go_loopg [12, 14] k1 (fun kq v12 v14 w' => ∃ (x12_2 : Int) (x14_2 : Int), v12 = .int .i64 x12_2 ∧ v14 = .int .i64 x14_2 ∧ Aside0 (spec_NextTo.l1 kq l0 a1 a2 a3 x9_1 t339 x11_1 x12_2 t342 x14_2 = some r) ∧ Aside0 (kq ≤ k1) ∧ Aside0 (Kd.R (Kd.int .i64) 3 w' w.heap.size (fun k_ => some k_ ≠ ((.slice Ao11 t339.length co11) : Value).ownBlock ∧ some k_ ≠ (v343 : Value).ownBlock) u9 x9_1) ∧ Aside0 (Kd.R (Kd.int .i64) 3 w' w.heap.size (fun k_ => some k_ ≠ (u9 : Value).ownBlock ∧ some k_ ≠ (v343 : Value).ownBlock) (.slice Ao11 t339.length co11) t339) ∧ Aside0 (Kd.R (Kd.int .i64) 3 w' w.heap.size (fun k_ => some k_ ≠ (u9 : Value).ownBlock ∧ some k_ ≠ ((.slice Ao11 t339.length co11) : Value).ownBlock) v343 t342) ∧ Aside0 (Below w.heap.size w w'))
    case atStart => exact ⟨((-1)), (0), sc, sc, H', kk0, ⟨sr HO_9⟩, ⟨sr HO_10⟩, ⟨by (with_reducible repeat (first | apply Kd.R_alloc | apply Kd.R_drewN | apply Kd.R_drew)); exact Kd.R_mono HO344.out (fun _ hk => ⟨hk.1.2, hk.2⟩)⟩, ⟨sb⟩⟩
    case round =>
     clear H'
     try clear c9
     try clear c9b0
     obtain ⟨x12_2, x14_2, rfl, rfl, HA, HK2, HO_9, HO_10, HO_13, HB⟩ := hrel
     cases gk with
     | zero => exact absurd HA.out (by simp [spec_NextTo.l1])
     | succ k2 =>
      have H := HA.out
      clear HA
      simp only [spec_NextTo.l1] at H
      have HC13 := Aside0.mk H
      clear H
      go_upto_region 9 with (fail)
      repeat (go_quiet (fail); go_upto_region 9 with (fail))
      go_cut [45] (fun v45 wc => ∃ (kq : Nat) (x45_12 : Bool), v45 = .bool x45_12 ∧ Aside0 (spec_NextTo.j2 kq l0 a1 a2 a3 x9_1 t339 x11_1 x12_2 t342 x14_2 x45_12 = some r) ∧ Aside0 (kq ≤ k2) ∧ Aside0 (Kd.R (Kd.int .i64) 3 wc w.heap.size (fun k_ => some k_ ≠ ((.slice Ao11 t339.length co11) : Value).ownBlock ∧ some k_ ≠ (v343 : Value).ownBlock) u9 x9_1) ∧ Aside0 (Kd.R (Kd.int .i64) 3 wc w.heap.size (fun k_ => some k_ ≠ (u9 : Value).ownBlock ∧ some k_ ≠ (v343 : Value).ownBlock) (.slice Ao11 t339.length co11) t339) ∧ Aside0 (Kd.R (Kd.int .i64) 3 wc w.heap.size (fun k_ => some k_ ≠ (u9 : Value).ownBlock ∧ some k_ ≠ ((.slice Ao11 t339.length co11) : Value).ownBlock) v343 t342) ∧ Aside0 (Below w.heap.size w wc))
      case first =>
       have H := HC13.out
       clear HC13
       obtain ⟨c14, H⟩ | ⟨c14, H⟩ := ie_ H
       ·have c14b0 := decide_eq_true c14
        clear c14
        (first | rw [c14b0] | (simp only [i64_w, i32_w]; rw [c14b0]) | rw [c14b1] | skip)
        obtain ⟨c15b0, H⟩ := id_ H
        obtain ⟨c16b0, H⟩ := id_ H
        obtain ⟨c17, H⟩ | ⟨c17, H⟩ := ie_ H
        ·have c17b0 := decide_eq_true c17
         clear c17
         have H' := Aside0.mk H
         clear H
         obtain ⟨Ao18, co18, eo18⟩ := Kd.R_slice HO_13.out
         subst eo18
         have p345 : 0 ≤ (x11_1 : Int) := sa
         have q345 : x11_1 < (t339.length : Int) := sa
         obtain ⟨ad345, e345, hx345_0⟩ := Kd.at_int (Kd.R_reads' HO_10.out).2.2 x11_1 p345 q345
         cases e345
         replace p345 := eq_true p345
         replace q345 := eq_true q345
         go_wp2
         repeat (go_quiet (fail); try go_wp2)
         go_meet
         case rel => exact ⟨_, (decide (x12_2 < 0)), sc, H', ⟨by have := HK1.out; have := HK2.out; first | omega | exact Nat.le_refl _⟩, ⟨sr HO_9⟩, ⟨sr HO_10⟩, ⟨sr HO_13⟩, ⟨sb⟩⟩
        ·have c17b0 := decide_eq_false c17
         clear c17
         have H' := Aside0.mk H
         clear H
         obtain ⟨Ao19, co19, eo19⟩ := Kd.R_slice HO_13.out
         subst eo19
         have p345 : 0 ≤ (x11_1 : Int) := sa
         have q345 : x11_1 < (t339.length : Int) := sa
         obtain ⟨ad345, e345, hx345_0⟩ := Kd.at_int (Kd.R_reads' HO_10.out).2.2 x11_1 p345 q345
         cases e345
         replace p345 := eq_true p345
         replace q345 := eq_true q345
         go_wp2
         repeat (go_quiet (fail); try go_wp2)
         go_meet
         case rel => exact ⟨_, (false), sc, H', ⟨by have := HK1.out; have := HK2.out; first | omega | exact Nat.le_refl _⟩, ⟨sr HO_9⟩, ⟨sr HO_10⟩, ⟨sr HO_13⟩, ⟨sb⟩⟩
       ·have c14b0 := decide_eq_false c14
        clear c14
        (first | rw [c14b0] | (simp only [i64_w, i32_w]; rw [c14b0]) | rw [c14b1] | skip)
        have H' := Aside0.mk H
        clear H
        obtain ⟨Ao20, co20, eo20⟩ := Kd.R_slice HO_13.out
        subst eo20
        go_wp2
        repeat (go_quiet (fail); try go_wp2)
        go_meet
        case rel => exact ⟨_, (false), sc, H', ⟨by have := HK1.out; have := HK2.out; first | omega | exact Nat.le_refl _⟩, ⟨sr HO_9⟩, ⟨sr HO_10⟩, ⟨sr HO_13⟩, ⟨sb⟩⟩
      case rest =>
       clear HC13
       try clear c9
       try clear c9b0
       try clear c14
       try clear c14b0
       try clear c15b0
       try clear c16b0
       try clear c17
       try clear c17b0
       try clear hx345_0
       try clear p345
       try clear q345
       obtain ⟨kq, x45_12, rfl, HA, HJ12, HO_9, HO_10, HO_13, HB⟩ := hcut
       cases kq with
       | zero => exact absurd HA.out (by simp [spec_NextTo.j2])
       | succ kj12 =>
        have H := HA.out
        clear HA
        simp only [spec_NextTo.j2] at H
        obtain rfl | rfl := tt x45_12
        ·replace H := ip H
         obtain ⟨c22b0, H⟩ := id_ H
         obtain ⟨c23b0, H⟩ := id_ H
         obtain ⟨t347, A24, H⟩ := bnd H
         obtain rfl | rfl := tt t347
         ·replace H := ip H
          obtain ⟨c26, H⟩ | ⟨c26, H⟩ := ie_ H
          ·have c26b0 := decide_eq_true c26
           clear c26
           obtain ⟨c27b0, H⟩ := id_ H
           obtain ⟨c28b0, H⟩ := id_ H
           obtain ⟨c29b0, H⟩ := id_ H
           obtain ⟨c30b0, H⟩ := id_ H
           obtain ⟨c31, H⟩ | ⟨c31, H⟩ := ie_ H
           ·have c31b0 : ((rd t339 (rd t342 x14_2)) == (wrap64 ((rd t339 x11_1) - 1))) = true := beq_iff_eq.mpr c31
            have c31b0_ := c31b0
            simp only [← i64_w] at c31b0_
            have c31b1 : ((rd t339 (rd t342 x14_2)) != (wrap64 ((rd t339 x11_1) - 1))) = false := bne_eq_false_iff_eq.mpr c31
            have c31b1_ := c31b1
            simp only [← i64_w] at c31b1_
            clear c31
            have H' := Aside0.mk H
            clear H
            obtain ⟨Ao32, co32, eo32⟩ := Kd.R_slice HO_13.out
            subst eo32
            have p346 : 0 ≤ (x14_2 : Int) := sa
            have q346 : x14_2 < (t342.length : Int) := sa
            obtain ⟨ad346, e346, hx346_0⟩ := Kd.at_int (Kd.R_reads' HO_13.out).2.2 x14_2 p346 q346
            cases e346
            replace p346 := eq_true p346
            replace q346 := eq_true q346
            go_wp2_with (first | (go_at_call 85; (try simp only [i64_w, i32_w]); (with_reducible refine (spec_l1In.calls (rd t342 x14_2) 0 (wrap64 (a1 - 1)) true _ A24.out).mono ?_); rintro e w' ⟨rfl, ⟨nd, rfl⟩⟩; (try first | exact ⟨rfl, _, World.drewN_drewN _ _ _⟩ | exact ⟨rfl, _, Eq.trans (World.drewN_drewN _ _ _) (congrArg (World.drewN _) (Nat.add_assoc _ _ _))⟩); have p348 : 0 ≤ ((rd t342 x14_2) : Int) := sa; have q348 : (rd t342 x14_2) < (t339.length : Int) := sa; obtain ⟨ad348, e348, hx348_0⟩ := Kd.at_int (Kd.R_reads' HO_10.out).2.2 (rd t342 x14_2) p348 q348; cases e348; replace p348 := eq_true p348; replace q348 := eq_true q348; have p349 : 0 ≤ (x11_1 : Int) := sa; have q349 : x11_1 < (t339.length : Int) := sa; obtain ⟨ad349, e349, hx349_0⟩ := Kd.at_int (Kd.R_reads' HO_10.out).2.2 x11_1 p349 q349; obtain rfl : ad348 = ad349 := (by injection e349); replace p349 := eq_true p349; replace q349 := eq_true q349))
            repeat (go_quiet (first | (go_at_call 85; (try simp only [i64_w, i32_w]); (with_reducible refine (spec_l1In.calls (rd t342 x14_2) 0 (wrap64 (a1 - 1)) true _ A24.out).mono ?_); rintro e w' ⟨rfl, ⟨nd, rfl⟩⟩; (try first | exact ⟨rfl, _, World.drewN_drewN _ _ _⟩ | exact ⟨rfl, _, Eq.trans (World.drewN_drewN _ _ _) (congrArg (World.drewN _) (Nat.add_assoc _ _ _))⟩); have p348 : 0 ≤ ((rd t342 x14_2) : Int) := sa; have q348 : (rd t342 x14_2) < (t339.length : Int) := sa; obtain ⟨ad348, e348, hx348_0⟩ := Kd.at_int (Kd.R_reads' HO_10.out).2.2 (rd t342 x14_2) p348 q348; cases e348; replace p348 := eq_true p348; replace q348 := eq_true q348; have p349 : 0 ≤ (x11_1 : Int) := sa; have q349 : x11_1 < (t339.length : Int) := sa; obtain ⟨ad349, e349, hx349_0⟩ := Kd.at_int (Kd.R_reads' HO_10.out).2.2 x11_1 p349 q349; obtain rfl : ad348 = ad349 := (by injection e349); replace p349 := eq_true p349; replace q349 := eq_true q349)); try go_wp2_with (first | (go_at_call 85; (try simp only [i64_w, i32_w]); (with_reducible refine (spec_l1In.calls (rd t342 x14_2) 0 (wrap64 (a1 - 1)) true _ A24.out).mono ?_); rintro e w' ⟨rfl, ⟨nd, rfl⟩⟩; (try first | exact ⟨rfl, _, World.drewN_drewN _ _ _⟩ | exact ⟨rfl, _, Eq.trans (World.drewN_drewN _ _ _) (congrArg (World.drewN _) (Nat.add_assoc _ _ _))⟩); have p348 : 0 ≤ ((rd t342 x14_2) : Int) := sa; have q348 : (rd t342 x14_2) < (t339.length : Int) := sa; obtain ⟨ad348, e348, hx348_0⟩ := Kd.at_int (Kd.R_reads' HO_10.out).2.2 (rd t342 x14_2) p348 q348; cases e348; replace p348 := eq_true p348; replace q348 := eq_true q348; have p349 : 0 ≤ (x11_1 : Int) := sa; have q349 : x11_1 < (t339.length : Int) := sa; obtain ⟨ad349, e349, hx349_0⟩ := Kd.at_int (Kd.R_reads' HO_10.out).2.2 x11_1 p349 q349; obtain rfl : ad348 = ad349 := (by injection e349); replace p349 := eq_true p349; replace q349 := eq_true q349)))
            go_roundg kj12
            case measure => have := HK1.out; have := HK2.out; have := HJ12.out; omega
            case rel => exact ⟨(rd t342 x14_2), (wrap64 (x14_2 + 1)), sc, sc, H', ⟨by have := HK1.out; have := HK2.out; have := HJ12.out; omega⟩, ⟨sr HO_9⟩, ⟨sr HO_10⟩, ⟨sr HO_13⟩, ⟨sb⟩⟩
           ·have c31b0 : ((rd t339 (rd t342 x14_2)) == (wrap64 ((rd t339 x11_1) - 1))) = false := beq_eq_false_iff_ne.mpr c31
            have c31b0_ := c31b0
            simp only [← i64_w] at c31b0_
            have c31b1 : ((rd t339 (rd t342 x14_2)) != (wrap64 ((rd t339 x11_1) - 1))) = true := bne_iff_ne.mpr c31
            have c31b1_ := c31b1
            simp only [← i64_w] at c31b1_
            have H' := Aside0.mk H
            clear H
            obtain ⟨Ao33, co33, eo33⟩ := Kd.R_slice HO_13.out
            subst eo33
            have p346 : 0 ≤ (x14_2 : Int) := sa
            have q346 : x14_2 < (t342.length : Int) := sa
            obtain ⟨ad346, e346, hx346_0⟩ := Kd.at_int (Kd.R_reads' HO_13.out).2.2 x14_2 p346 q346
            cases e346
            replace p346 := eq_true p346
            replace q346 := eq_true q346
            go_wp2_with (first | (go_at_call 85; (try simp only [i64_w, i32_w]); (with_reducible refine (spec_l1In.calls (rd t342 x14_2) 0 (wrap64 (a1 - 1)) true _ A24.out).mono ?_); rintro e w' ⟨rfl, ⟨nd, rfl⟩⟩; (try first | exact ⟨rfl, _, World.drewN_drewN _ _ _⟩ | exact ⟨rfl, _, Eq.trans (World.drewN_drewN _ _ _) (congrArg (World.drewN _) (Nat.add_assoc _ _ _))⟩); have p348 : 0 ≤ ((rd t342 x14_2) : Int) := sa; have q348 : (rd t342 x14_2) < (t339.length : Int) := sa; obtain ⟨ad348, e348, hx348_0⟩ := Kd.at_int (Kd.R_reads' HO_10.out).2.2 (rd t342 x14_2) p348 q348; cases e348; replace p348 := eq_true p348; replace q348 := eq_true q348; have p349 : 0 ≤ (x11_1 : Int) := sa; have q349 : x11_1 < (t339.length : Int) := sa; obtain ⟨ad349, e349, hx349_0⟩ := Kd.at_int (Kd.R_reads' HO_10.out).2.2 x11_1 p349 q349; obtain rfl : ad348 = ad349 := (by injection e349); replace p349 := eq_true p349; replace q349 := eq_true q349))
            repeat (go_quiet (first | (go_at_call 85; (try simp only [i64_w, i32_w]); (with_reducible refine (spec_l1In.calls (rd t342 x14_2) 0 (wrap64 (a1 - 1)) true _ A24.out).mono ?_); rintro e w' ⟨rfl, ⟨nd, rfl⟩⟩; (try first | exact ⟨rfl, _, World.drewN_drewN _ _ _⟩ | exact ⟨rfl, _, Eq.trans (World.drewN_drewN _ _ _) (congrArg (World.drewN _) (Nat.add_assoc _ _ _))⟩); have p348 : 0 ≤ ((rd t342 x14_2) : Int) := sa; have q348 : (rd t342 x14_2) < (t339.length : Int) := sa; obtain ⟨ad348, e348, hx348_0⟩ := Kd.at_int (Kd.R_reads' HO_10.out).2.2 (rd t342 x14_2) p348 q348; cases e348; replace p348 := eq_true p348; replace q348 := eq_true q348; have p349 : 0 ≤ (x11_1 : Int) := sa; have q349 : x11_1 < (t339.length : Int) := sa; obtain ⟨ad349, e349, hx349_0⟩ := Kd.at_int (Kd.R_reads' HO_10.out).2.2 x11_1 p349 q349; obtain rfl : ad348 = ad349 := (by injection e349); replace p349 := eq_true p349; replace q349 := eq_true q349)); try go_wp2_with (first | (go_at_call 85; (try simp only [i64_w, i32_w]); (with_reducible refine (spec_l1In.calls (rd t342 x14_2) 0 (wrap64 (a1 - 1)) true _ A24.out).mono ?_); rintro e w' ⟨rfl, ⟨nd, rfl⟩⟩; (try first | exact ⟨rfl, _, World.drewN_drewN _ _ _⟩ | exact ⟨rfl, _, Eq.trans (World.drewN_drewN _ _ _) (congrArg (World.drewN _) (Nat.add_assoc _ _ _))⟩); have p348 : 0 ≤ ((rd t342 x14_2) : Int) := sa; have q348 : (rd t342 x14_2) < (t339.length : Int) := sa; obtain ⟨ad348, e348, hx348_0⟩ := Kd.at_int (Kd.R_reads' HO_10.out).2.2 (rd t342 x14_2) p348 q348; cases e348; replace p348 := eq_true p348; replace q348 := eq_true q348; have p349 : 0 ≤ (x11_1 : Int) := sa; have q349 : x11_1 < (t339.length : Int) := sa; obtain ⟨ad349, e349, hx349_0⟩ := Kd.at_int (Kd.R_reads' HO_10.out).2.2 x11_1 p349 q349; obtain rfl : ad348 = ad349 := (by injection e349); replace p349 := eq_true p349; replace q349 := eq_true q349)))
            go_roundg kj12
            case measure => have := HK1.out; have := HK2.out; have := HJ12.out; omega
            case rel => exact ⟨(x12_2), (wrap64 (x14_2 + 1)), sc, sc, H', ⟨by have := HK1.out; have := HK2.out; have := HJ12.out; omega⟩, ⟨sr HO_9⟩, ⟨sr HO_10⟩, ⟨sr HO_13⟩, ⟨sb⟩⟩
          ·have c26b0 := decide_eq_false c26
           clear c26
           obtain ⟨c34, H⟩ | ⟨c34, H⟩ := ie_ H
           ·have c34b0 : ((rd t342 x14_2) == a3) = true := beq_iff_eq.mpr c34
            have c34b1 : ((rd t342 x14_2) != a3) = false := bne_eq_false_iff_eq.mpr c34
            clear c34
            obtain ⟨c35b0, H⟩ := id_ H
            obtain ⟨c36b0, H⟩ := id_ H
            obtain ⟨c37b0, H⟩ := id_ H
            obtain ⟨c38b0, H⟩ := id_ H
            obtain ⟨c39, H⟩ | ⟨c39, H⟩ := ie_ H
            ·have c39b0 : ((rd t339 (rd t342 x14_2)) == (wrap64 ((rd t339 x11_1) - 1))) = true := beq_iff_eq.mpr c39
             have c39b0_ := c39b0
             simp only [← i64_w] at c39b0_
             have c39b1 : ((rd t339 (rd t342 x14_2)) != (wrap64 ((rd t339 x11_1) - 1))) = false := bne_eq_false_iff_eq.mpr c39
             have c39b1_ := c39b1
             simp only [← i64_w] at c39b1_
             clear c39
             have H' := Aside0.mk H
             clear H
             obtain ⟨Ao40, co40, eo40⟩ := Kd.R_slice HO_13.out
             subst eo40
             have p346 : 0 ≤ (x14_2 : Int) := sa
             have q346 : x14_2 < (t342.length : Int) := sa
             obtain ⟨ad346, e346, hx346_0⟩ := Kd.at_int (Kd.R_reads' HO_13.out).2.2 x14_2 p346 q346
             cases e346
             replace p346 := eq_true p346
             replace q346 := eq_true q346
             go_wp2_with (first | (go_at_call 85; (try simp only [i64_w, i32_w]); (with_reducible refine (spec_l1In.calls (rd t342 x14_2) 0 (wrap64 (a1 - 1)) true _ A24.out).mono ?_); rintro e w' ⟨rfl, ⟨nd, rfl⟩⟩; (try first | exact ⟨rfl, _, World.drewN_drewN _ _ _⟩ | exact ⟨rfl, _, Eq.trans (World.drewN_drewN _ _ _) (congrArg (World.drewN _) (Nat.add_assoc _ _ _))⟩); have p350 : 0 ≤ ((rd t342 x14_2) : Int) := sa; have q350 : (rd t342 x14_2) < (t339.length : Int) := sa; obtain ⟨ad350, e350, hx350_0⟩ := Kd.at_int (Kd.R_reads' HO_10.out).2.2 (rd t342 x14_2) p350 q350; cases e350; replace p350 := eq_true p350; replace q350 := eq_true q350; have p351 : 0 ≤ (x11_1 : Int) := sa; have q351 : x11_1 < (t339.length : Int) := sa; obtain ⟨ad351, e351, hx351_0⟩ := Kd.at_int (Kd.R_reads' HO_10.out).2.2 x11_1 p351 q351; obtain rfl : ad350 = ad351 := (by injection e351); replace p351 := eq_true p351; replace q351 := eq_true q351))
             repeat (go_quiet (first | (go_at_call 85; (try simp only [i64_w, i32_w]); (with_reducible refine (spec_l1In.calls (rd t342 x14_2) 0 (wrap64 (a1 - 1)) true _ A24.out).mono ?_); rintro e w' ⟨rfl, ⟨nd, rfl⟩⟩; (try first | exact ⟨rfl, _, World.drewN_drewN _ _ _⟩ | exact ⟨rfl, _, Eq.trans (World.drewN_drewN _ _ _) (congrArg (World.drewN _) (Nat.add_assoc _ _ _))⟩); have p350 : 0 ≤ ((rd t342 x14_2) : Int) := sa; have q350 : (rd t342 x14_2) < (t339.length : Int) := sa; obtain ⟨ad350, e350, hx350_0⟩ := Kd.at_int (Kd.R_reads' HO_10.out).2.2 (rd t342 x14_2) p350 q350; cases e350; replace p350 := eq_true p350; replace q350 := eq_true q350; have p351 : 0 ≤ (x11_1 : Int) := sa; have q351 : x11_1 < (t339.length : Int) := sa; obtain ⟨ad351, e351, hx351_0⟩ := Kd.at_int (Kd.R_reads' HO_10.out).2.2 x11_1 p351 q351; obtain rfl : ad350 = ad351 := (by injection e351); replace p351 := eq_true p351; replace q351 := eq_true q351)); try go_wp2_with (first | (go_at_call 85; (try simp only [i64_w, i32_w]); (with_reducible refine (spec_l1In.calls (rd t342 x14_2) 0 (wrap64 (a1 - 1)) true _ A24.out).mono ?_); rintro e w' ⟨rfl, ⟨nd, rfl⟩⟩; (try first | exact ⟨rfl, _, World.drewN_drewN _ _ _⟩ | exact ⟨rfl, _, Eq.trans (World.drewN_drewN _ _ _) (congrArg (World.drewN _) (Nat.add_assoc _ _ _))⟩); have p350 : 0 ≤ ((rd t342 x14_2) : Int) := sa; have q350 : (rd t342 x14_2) < (t339.length : Int) := sa; obtain ⟨ad350, e350, hx350_0⟩ := Kd.at_int (Kd.R_reads' HO_10.out).2.2 (rd t342 x14_2) p350 q350; cases e350; replace p350 := eq_true p350; replace q350 := eq_true q350; have p351 : 0 ≤ (x11_1 : Int) := sa; have q351 : x11_1 < (t339.length : Int) := sa; obtain ⟨ad351, e351, hx351_0⟩ := Kd.at_int (Kd.R_reads' HO_10.out).2.2 x11_1 p351 q351; obtain rfl : ad350 = ad351 := (by injection e351); replace p351 := eq_true p351; replace q351 := eq_true q351)))
             go_roundg kj12
             case measure => have := HK1.out; have := HK2.out; have := HJ12.out; omega
             case rel => exact ⟨(rd t342 x14_2), (wrap64 (x14_2 + 1)), sc, sc, H', ⟨by have := HK1.out; have := HK2.out; have := HJ12.out; omega⟩, ⟨sr HO_9⟩, ⟨sr HO_10⟩, ⟨sr HO_13⟩, ⟨sb⟩⟩
            ·have c39b0 : ((rd t339 (rd t342 x14_2)) == (wrap64 ((rd t339 x11_1) - 1))) = false := beq_eq_false_iff_ne.mpr c39
             have c39b0_ := c39b0
             simp only [← i64_w] at c39b0_
             have c39b1 : ((rd t339 (rd t342 x14_2)) != (wrap64 ((rd t339 x11_1) - 1))) = true := bne_iff_ne.mpr c39
             have c39b1_ := c39b1
             simp only [← i64_w] at c39b1_
             have H' := Aside0.mk H
             clear H
             obtain ⟨Ao41, co41, eo41⟩ := Kd.R_slice HO_13.out
             subst eo41
             have p346 : 0 ≤ (x14_2 : Int) := sa
             have q346 : x14_2 < (t342.length : Int) := sa
             obtain ⟨ad346, e346, hx346_0⟩ := Kd.at_int (Kd.R_reads' HO_13.out).2.2 x14_2 p346 q346
             cases e346
             replace p346 := eq_true p346
             replace q346 := eq_true q346
             go_wp2_with (first | (go_at_call 85; (try simp only [i64_w, i32_w]); (with_reducible refine (spec_l1In.calls (rd t342 x14_2) 0 (wrap64 (a1 - 1)) true _ A24.out).mono ?_); rintro e w' ⟨rfl, ⟨nd, rfl⟩⟩; (try first | exact ⟨rfl, _, World.drewN_drewN _ _ _⟩ | exact ⟨rfl, _, Eq.trans (World.drewN_drewN _ _ _) (congrArg (World.drewN _) (Nat.add_assoc _ _ _))⟩); have p350 : 0 ≤ ((rd t342 x14_2) : Int) := sa; have q350 : (rd t342 x14_2) < (t339.length : Int) := sa; obtain ⟨ad350, e350, hx350_0⟩ := Kd.at_int (Kd.R_reads' HO_10.out).2.2 (rd t342 x14_2) p350 q350; cases e350; replace p350 := eq_true p350; replace q350 := eq_true q350; have p351 : 0 ≤ (x11_1 : Int) := sa; have q351 : x11_1 < (t339.length : Int) := sa; obtain ⟨ad351, e351, hx351_0⟩ := Kd.at_int (Kd.R_reads' HO_10.out).2.2 x11_1 p351 q351; obtain rfl : ad350 = ad351 := (by injection e351); replace p351 := eq_true p351; replace q351 := eq_true q351))
             repeat (go_quiet (first | (go_at_call 85; (try simp only [i64_w, i32_w]); (with_reducible refine (spec_l1In.calls (rd t342 x14_2) 0 (wrap64 (a1 - 1)) true _ A24.out).mono ?_); rintro e w' ⟨rfl, ⟨nd, rfl⟩⟩; (try first | exact ⟨rfl, _, World.drewN_drewN _ _ _⟩ | exact ⟨rfl, _, Eq.trans (World.drewN_drewN _ _ _) (congrArg (World.drewN _) (Nat.add_assoc _ _ _))⟩); have p350 : 0 ≤ ((rd t342 x14_2) : Int) := sa; have q350 : (rd t342 x14_2) < (t339.length : Int) := sa; obtain ⟨ad350, e350, hx350_0⟩ := Kd.at_int (Kd.R_reads' HO_10.out).2.2 (rd t342 x14_2) p350 q350; cases e350; replace p350 := eq_true p350; replace q350 := eq_true q350; have p351 : 0 ≤ (x11_1 : Int) := sa; have q351 : x11_1 < (t339.length : Int) := sa; obtain ⟨ad351, e351, hx351_0⟩ := Kd.at_int (Kd.R_reads' HO_10.out).2.2 x11_1 p351 q351; obtain rfl : ad350 = ad351 := (by injection e351); replace p351 := eq_true p351; replace q351 := eq_true q351)); try go_wp2_with (first | (go_at_call 85; (try simp only [i64_w, i32_w]); (with_reducible refine (spec_l1In.calls (rd t342 x14_2) 0 (wrap64 (a1 - 1)) true _ A24.out).mono ?_); rintro e w' ⟨rfl, ⟨nd, rfl⟩⟩; (try first | exact ⟨rfl, _, World.drewN_drewN _ _ _⟩ | exact ⟨rfl, _, Eq.trans (World.drewN_drewN _ _ _) (congrArg (World.drewN _) (Nat.add_assoc _ _ _))⟩); have p350 : 0 ≤ ((rd t342 x14_2) : Int) := sa; have q350 : (rd t342 x14_2) < (t339.length : Int) := sa; obtain ⟨ad350, e350, hx350_0⟩ := Kd.at_int (Kd.R_reads' HO_10.out).2.2 (rd t342 x14_2) p350 q350; cases e350; replace p350 := eq_true p350; replace q350 := eq_true q350; have p351 : 0 ≤ (x11_1 : Int) := sa; have q351 : x11_1 < (t339.length : Int) := sa; obtain ⟨ad351, e351, hx351_0⟩ := Kd.at_int (Kd.R_reads' HO_10.out).2.2 x11_1 p351 q351; obtain rfl : ad350 = ad351 := (by injection e351); replace p351 := eq_true p351; replace q351 := eq_true q351)))
             go_roundg kj12
             case measure => have := HK1.out; have := HK2.out; have := HJ12.out; omega
             case rel => exact ⟨(x12_2), (wrap64 (x14_2 + 1)), sc, sc, H', ⟨by have := HK1.out; have := HK2.out; have := HJ12.out; omega⟩, ⟨sr HO_9⟩, ⟨sr HO_10⟩, ⟨sr HO_13⟩, ⟨sb⟩⟩
           ·have c34b0 : ((rd t342 x14_2) == a3) = false := beq_eq_false_iff_ne.mpr c34
            have c34b1 : ((rd t342 x14_2) != a3) = true := bne_iff_ne.mpr c34
            have H' := Aside0.mk H
            clear H
            obtain ⟨Ao42, co42, eo42⟩ := Kd.R_slice HO_13.out
            subst eo42
            have p346 : 0 ≤ (x14_2 : Int) := sa
            have q346 : x14_2 < (t342.length : Int) := sa
            obtain ⟨ad346, e346, hx346_0⟩ := Kd.at_int (Kd.R_reads' HO_13.out).2.2 x14_2 p346 q346
            cases e346
            replace p346 := eq_true p346
            replace q346 := eq_true q346
            go_wp2_with (first | (go_at_call 85; (try simp only [i64_w, i32_w]); (with_reducible refine (spec_l1In.calls (rd t342 x14_2) 0 (wrap64 (a1 - 1)) true _ A24.out).mono ?_); rintro e w' ⟨rfl, ⟨nd, rfl⟩⟩; (try first | exact ⟨rfl, _, World.drewN_drewN _ _ _⟩ | exact ⟨rfl, _, Eq.trans (World.drewN_drewN _ _ _) (congrArg (World.drewN _) (Nat.add_assoc _ _ _))⟩)))
            repeat (go_quiet (first | (go_at_call 85; (try simp only [i64_w, i32_w]); (with_reducible refine (spec_l1In.calls (rd t342 x14_2) 0 (wrap64 (a1 - 1)) true _ A24.out).mono ?_); rintro e w' ⟨rfl, ⟨nd, rfl⟩⟩; (try first | exact ⟨rfl, _, World.drewN_drewN _ _ _⟩ | exact ⟨rfl, _, Eq.trans (World.drewN_drewN _ _ _) (congrArg (World.drewN _) (Nat.add_assoc _ _ _))⟩))); try go_wp2_with (first | (go_at_call 85; (try simp only [i64_w, i32_w]); (with_reducible refine (spec_l1In.calls (rd t342 x14_2) 0 (wrap64 (a1 - 1)) true _ A24.out).mono ?_); rintro e w' ⟨rfl, ⟨nd, rfl⟩⟩; (try first | exact ⟨rfl, _, World.drewN_drewN _ _ _⟩ | exact ⟨rfl, _, Eq.trans (World.drewN_drewN _ _ _) (congrArg (World.drewN _) (Nat.add_assoc _ _ _))⟩))))
            go_roundg kj12
            case measure => have := HK1.out; have := HK2.out; have := HJ12.out; omega
            case rel => exact ⟨(x12_2), (wrap64 (x14_2 + 1)), sc, sc, H', ⟨by have := HK1.out; have := HK2.out; have := HJ12.out; omega⟩, ⟨sr HO_9⟩, ⟨sr HO_10⟩, ⟨sr HO_13⟩, ⟨sb⟩⟩
         ·replace H := im H
          have H' := Aside0.mk H
          clear H
          obtain ⟨Ao43, co43, eo43⟩ := Kd.R_slice HO_13.out
          subst eo43
          have p346 : 0 ≤ (x14_2 : Int) := sa
          have q346 : x14_2 < (t342.length : Int) := sa
          obtain ⟨ad346, e346, hx346_0⟩ := Kd.at_int (Kd.R_reads' HO_13.out).2.2 x14_2 p346 q346
          cases e346
          replace p346 := eq_true p346
          replace q346 := eq_true q346
          go_wp2_with (first | (go_at_call 85; (try simp only [i64_w, i32_w]); (with_reducible refine (spec_l1In.calls (rd t342 x14_2) 0 (wrap64 (a1 - 1)) false _ A24.out).mono ?_); rintro e w' ⟨rfl, ⟨nd, rfl⟩⟩; (try first | exact ⟨rfl, _, World.drewN_drewN _ _ _⟩ | exact ⟨rfl, _, Eq.trans (World.drewN_drewN _ _ _) (congrArg (World.drewN _) (Nat.add_assoc _ _ _))⟩)))
          repeat (go_quiet (first | (go_at_call 85; (try simp only [i64_w, i32_w]); (with_reducible refine (spec_l1In.calls (rd t342 x14_2) 0 (wrap64 (a1 - 1)) false _ A24.out).mono ?_); rintro e w' ⟨rfl, ⟨nd, rfl⟩⟩; (try first | exact ⟨rfl, _, World.drewN_drewN _ _ _⟩ | exact ⟨rfl, _, Eq.trans (World.drewN_drewN _ _ _) (congrArg (World.drewN _) (Nat.add_assoc _ _ _))⟩))); try go_wp2_with (first | (go_at_call 85; (try simp only [i64_w, i32_w]); (with_reducible refine (spec_l1In.calls (rd t342 x14_2) 0 (wrap64 (a1 - 1)) false _ A24.out).mono ?_); rintro e w' ⟨rfl, ⟨nd, rfl⟩⟩; (try first | exact ⟨rfl, _, World.drewN_drewN _ _ _⟩ | exact ⟨rfl, _, Eq.trans (World.drewN_drewN _ _ _) (congrArg (World.drewN _) (Nat.add_assoc _ _ _))⟩))))
          go_roundg kj12
          case measure => have := HK1.out; have := HK2.out; have := HJ12.out; omega
          case rel => exact ⟨(x12_2), (wrap64 (x14_2 + 1)), sc, sc, H', ⟨by have := HK1.out; have := HK2.out; have := HJ12.out; omega⟩, ⟨sr HO_9⟩, ⟨sr HO_10⟩, ⟨sr HO_13⟩, ⟨sb⟩⟩
        ·replace H := im H
         obtain ⟨LMc44, H⟩ := il_ H
         obtain ⟨y352, hy352⟩ : ∃ y_ : List Int, y_ = (x9_1 ++ [x12_2]) := ⟨_, rfl⟩
         replace H : (spec_NextTo.l0 kj12 l0 a1 a2 a3 y352 t339 (wrap64 (x11_1 + 1))) = some r := by first | (rw [hy352]; with_reducible exact H) | (have H2_ := (Option.bind_some _ _).symm.trans H; rw [hy352]; with_reducible exact H2_) | (have H2_ := (Option.bind_some _ _).symm.trans H; with_reducible exact H2_) | with_reducible exact H | (rw [hy352]; exact H) | exact H
         have Ny352 := Aside0.mk hy352
         clear hy352
         have H' := Aside0.mk H
         clear H
         go_wp2_with (first | ((with_reducible refine gate_builtin (b := .append) (xs := #[.tmp 79, .tmp 81]) rfl ?_); at_builtin; refine Kd.R_append (Kd.int .i64) (w0 := w) w.heap.size rfl (.tmp 79) (.tmp 81) 28 3 (.int .i64 0) 8 rfl Try.underlying28 info3 rfl (by decide) (by omega) u9 x9_1 x12_2 [.int .i64 x12_2] (fun k_ => some k_ ≠ (.slice Ao11 t339.length co11 : Value).ownBlock ∧ some k_ ≠ (v343 : Value).ownBlock) (fun _ => False) rfl rfl ?aP (fun _ hk => hk.elim) ?aF ?aO ?aB ?aS ?aL ?_; (case aP => exact rfl); (case aB => exact (sb)); (case aF => exact (fun k_ hk => ⟨Kd.fresh' (Kd.R_lt (sr HO_10)) k_ hk, Kd.fresh' (Kd.R_lt (sr HO_13)) k_ hk⟩)); (case aO => exact (sr HO_9)); (case aS => exact (below_size (sb))); (case aL => have := LMc44.out; omega); intro v353 w45 ho hb hg hat; rw [← Ny352.out] at ho; replace HO_10 := Aside0.mk (Kd.R_after (ok := (fun k_ => some k_ ≠ (v343 : Value).ownBlock)) (by (with_reducible repeat (first | apply Kd.R_alloc | apply Kd.R_drewN | apply Kd.R_drew)); exact Kd.R_mono HO_10.out (fun _ hk => ⟨hk.2, hk.1⟩)) hg hat); replace HO_13 := Aside0.mk (Kd.R_after (ok := (fun k_ => some k_ ≠ (.slice Ao11 t339.length co11 : Value).ownBlock)) (by (with_reducible repeat (first | apply Kd.R_alloc | apply Kd.R_drewN | apply Kd.R_drew)); exact Kd.R_mono HO_13.out (fun _ hk => ⟨hk.2, hk.1⟩)) hg hat); replace HB := Aside0.mk hb; have HO354 := Aside0.mk ho; clear HO_9; clear ho hb hg hat))
         repeat (go_quiet (first | ((with_reducible refine gate_builtin (b := .append) (xs := #[.tmp 79, .tmp 81]) rfl ?_); at_builtin; refine Kd.R_append (Kd.int .i64) (w0 := w) w.heap.size rfl (.tmp 79) (.tmp 81) 28 3 (.int .i64 0) 8 rfl Try.underlying28 info3 rfl (by decide) (by omega) u9 x9_1 x12_2 [.int .i64 x12_2] (fun k_ => some k_ ≠ (.slice Ao11 t339.length co11 : Value).ownBlock ∧ some k_ ≠ (v343 : Value).ownBlock) (fun _ => False) rfl rfl ?aP (fun _ hk => hk.elim) ?aF ?aO ?aB ?aS ?aL ?_; (case aP => exact rfl); (case aB => exact (sb)); (case aF => exact (fun k_ hk => ⟨Kd.fresh' (Kd.R_lt (sr HO_10)) k_ hk, Kd.fresh' (Kd.R_lt (sr HO_13)) k_ hk⟩)); (case aO => exact (sr HO_9)); (case aS => exact (below_size (sb))); (case aL => have := LMc44.out; omega); intro v353 w45 ho hb hg hat; rw [← Ny352.out] at ho; have n0_ := Aside0.mk (Kd.R_after (ok := (fun k_ => some k_ ≠ (v343 : Value).ownBlock)) (by (with_reducible repeat (first | apply Kd.R_alloc | apply Kd.R_drewN | apply Kd.R_drew)); exact Kd.R_mono HO_10.out (fun _ hk => ⟨hk.2, hk.1⟩)) hg hat); have n1_ := Aside0.mk (Kd.R_after (ok := (fun k_ => some k_ ≠ (.slice Ao11 t339.length co11 : Value).ownBlock)) (by (with_reducible repeat (first | apply Kd.R_alloc | apply Kd.R_drewN | apply Kd.R_drew)); exact Kd.R_mono HO_13.out (fun _ hk => ⟨hk.2, hk.1⟩)) hg hat); have n2_ := Aside0.mk (hb); have n3_ := Aside0.mk (ho); clear HO_10; clear HO_13; clear HB; clear HO_9; have HO_10 := n0_; have HO_13 := n1_; have HB := n2_; have HO354 := n3_; clear n0_ n1_ n2_ n3_; clear ho hb hg hat)); try go_wp2_with (first | ((with_reducible refine gate_builtin (b := .append) (xs := #[.tmp 79, .tmp 81]) rfl ?_); at_builtin; refine Kd.R_append (Kd.int .i64) (w0 := w) w.heap.size rfl (.tmp 79) (.tmp 81) 28 3 (.int .i64 0) 8 rfl Try.underlying28 info3 rfl (by decide) (by omega) u9 x9_1 x12_2 [.int .i64 x12_2] (fun k_ => some k_ ≠ (.slice Ao11 t339.length co11 : Value).ownBlock ∧ some k_ ≠ (v343 : Value).ownBlock) (fun _ => False) rfl rfl ?aP (fun _ hk => hk.elim) ?aF ?aO ?aB ?aS ?aL ?_; (case aP => exact rfl); (case aB => exact (sb)); (case aF => exact (fun k_ hk => ⟨Kd.fresh' (Kd.R_lt (sr HO_10)) k_ hk, Kd.fresh' (Kd.R_lt (sr HO_13)) k_ hk⟩)); (case aO => exact (sr HO_9)); (case aS => exact (below_size (sb))); (case aL => have := LMc44.out; omega); intro v353 w45 ho hb hg hat; rw [← Ny352.out] at ho; have n0_ := Aside0.mk (Kd.R_after (ok := (fun k_ => some k_ ≠ (v343 : Value).ownBlock)) (by (with_reducible repeat (first | apply Kd.R_alloc | apply Kd.R_drewN | apply Kd.R_drew)); exact Kd.R_mono HO_10.out (fun _ hk => ⟨hk.2, hk.1⟩)) hg hat); have n1_ := Aside0.mk (Kd.R_after (ok := (fun k_ => some k_ ≠ (.slice Ao11 t339.length co11 : Value).ownBlock)) (by (with_reducible repeat (first | apply Kd.R_alloc | apply Kd.R_drewN | apply Kd.R_drew)); exact Kd.R_mono HO_13.out (fun _ hk => ⟨hk.2, hk.1⟩)) hg hat); have n2_ := Aside0.mk (hb); have n3_ := Aside0.mk (ho); clear HO_10; clear HO_13; clear HB; clear HO_9; have HO_10 := n0_; have HO_13 := n1_; have HB := n2_; have HO354 := n3_; clear n0_ n1_ n2_ n3_; clear ho hb hg hat)))
         go_roundg kj12
         case measure => have := HK1.out; have := HK2.out; have := HJ12.out; omega
         case rel => exact ⟨(y352), (wrap64 (x11_1 + 1)), sc, H', ⟨by have := HK1.out; have := HK2.out; have := HJ12.out; omega⟩, ⟨by (with_reducible repeat (first | apply Kd.R_alloc | apply Kd.R_drewN | apply Kd.R_drew)); exact Kd.R_mono HO354.out (fun _ hk => hk.1)⟩, ⟨by (with_reducible repeat (first | apply Kd.R_alloc | apply Kd.R_drewN | apply Kd.R_drew)); exact Kd.R_mono HO_10.out (fun _ hk => hk.2)⟩, ⟨sb⟩⟩
   ·have c9b0 := decide_eq_false c9
    clear c9
    obtain rfl := Option.some.inj H
    obtain ⟨Ao46, co46, eo46⟩ := Kd.R_slice HO_10.out
    subst eo46
    go_wp2
    repeat (go_quiet (fail); try go_wp2)
    go_ret
    exact ⟨_, se, by (with_reducible repeat (first | apply Kd.R_alloc | apply Kd.R_drewN | apply Kd.R_drew)); exact Kd.R_mono HO_9.out (fun _ hk => trivial), sb⟩

/-! ### spec_TableOf: function 149 -/
def spec_TableOf.f (k : Nat) (l0 : List (S134)) (a1 : Int) (a2 : Int) (a3 : Int) : Option (Int × List Int × List Int) := (spec_DistancesTo.f k l0 a1 a2 a3).bind fun t356 => ((spec_NextTo.f k l0 a1 a2 a3).bind fun t359 => (some (a3, t356, t359)))
theorem spec_TableOf.mono : ∀ a0 a1 a2 a3 k, LeO (spec_TableOf.f k a0 a1 a2 a3) (spec_TableOf.f (k + 1) a0 a1 a2 a3) := by
  intro a0 a1 a2 a3 k
  unfold spec_TableOf.f
  have m0 := @spec_DistancesTo.mono
  have m1 := @spec_NextTo.mono
  exact mo
set_option maxHeartbeats 8000000 in
set_option maxRecDepth 100000 in
theorem spec_TableOf.calls (k : Nat) (A0 : Option Addr) (c0 : Nat) (l0 : List (S134)) (a1 : Int) (a2 : Int) (a3 : Int) (r1 : Int) (r2 : List Int) (r3 : List Int) (w : World) (hr0 : Kd.C k134 w A0 l0.length l0) (hc0 : l0.length ≤ c0) (h : spec_TableOf.f k l0 a1 a2 a3 = some (r1, r2, r3)) :
    Calls Try.prog 149 #[.slice A0 l0.length c0, .int .i64 a1, .int .i64 a2, .int .i64 a3] w fun e w' => ∃ v1_ v2_ : Value, e = .returned (.agg #[.int .i64 r1, v1_, v2_]) ∧ Kd.R (Kd.int .i64) 3 w' w.heap.size (fun k_ => some k_ ≠ (v2_ : Value).ownBlock) v1_ r2 ∧ Kd.R (Kd.int .i64) 3 w' w.heap.size (fun k_ => some k_ ≠ (v1_ : Value).ownBlock) v2_ r3 ∧ Below w.heap.size w w' := by
 have hu55 := Try.underlying55
 have HR0 := Aside0.mk hr0
 have HC0 := Aside0.mk hc0
 clear hr0 hc0
 have HB := Aside0.mk (Below.refl w.heap.size w)
 have H : ((spec_DistancesTo.f k l0 a1 a2 a3).bind fun t356 => ((spec_NextTo.f k l0 a1 a2 a3).bind fun t359 => (some (a3, t356, t359)))) = some (r1, r2, r3) := h
 clear h
 obtain ⟨t356, A5, H⟩ := bnd H
 obtain ⟨t359, A6, H⟩ := bnd H
 simp only [Option.some.injEq, Prod.mk.injEq] at H
 obtain ⟨rfl, rfl, rfl⟩ := H
 go_enter Try.func149, Try.ntmps149
 go_wp2_with (first | ((with_reducible refine gate_dst (N := 8) rfl ?_); refine bx 8 #[.int .i64 0, .slice none 0 0, .slice none 0 0] 55 ?_; intro gb355 hg w7 hbox hb; have GW355 := bz w hg; have GE355 := bz w hg; replace HB := bs hb; have BK355 := Aside0.mk hbox; clear hb hbox hg) | ((with_reducible refine gate_callee (f := 56) rfl ?_); refine gL (some 14) Try.func56 #[.slice A0 l0.length c0, .int .i64 a1, .int .i64 a2, .int .i64 a3] ?_; (with_reducible refine (spec_DistancesTo.calls k _ _ l0 a1 a2 a3 t356 _ ?side1 ?side2 A5.out).mono ?_); (case side1 => exact cb HR0); (case side2 => exact HC0.out); rintro e w8 ⟨v357, rfl, ho0, hb⟩; refine ⟨_, rfl, ?_⟩; have HO358 := Aside0.mk (Kd.R_lower ho0 (below_size (sbw))); replace BK355 := bb BK355 hb; replace HB := bsw hb; (try clear hb); (try clear hb2); (try clear hk); (try clear hi); (try clear ho0)) | ((with_reducible refine gate_callee (f := 176) rfl ?_); refine gL (some 19) Try.func176 #[.slice A0 l0.length c0, .int .i64 a1, .int .i64 a2, .int .i64 a3] ?_; (with_reducible refine (spec_NextTo.calls k _ _ l0 a1 a2 a3 t359 _ ?side1 ?side2 A6.out).mono ?_); (case side1 => exact cb HR0); (case side2 => exact HC0.out); rintro e w9 ⟨v360, rfl, ho0, hb⟩; refine ⟨_, rfl, ?_⟩; have HO361 := Aside0.mk (Kd.R_lower (Kd.R_new' ho0 (Kd.R_lt (sr HO358))) (below_size (sbw))); replace HO358 := Aside0.mk (Kd.R_elder' (sr HO358) (Kd.R_base ho0) hb); replace BK355 := bb BK355 hb; replace HB := bsw hb; (try clear hb); (try clear hb2); (try clear hk); (try clear hi); (try clear ho0); obtain ⟨Ao10, co10, eo10⟩ := Kd.R_slice HO361.out; subst eo10; obtain ⟨Ao11, co11, eo11⟩ := Kd.R_slice HO358.out; subst eo11; obtain ⟨hcz12_0, hcz12_1, hcz12_2, hfz12_0, hfz12_1, hfz12_2⟩ := cc3 BK355))
 refine bodyPost_ret (results_cell_row rfl _ _ gb355 55 #[.int .i64 a3, .slice Ao11 t356.length co11, .slice Ao10 t359.length co10] (0, 0) _ rfl (sp BK355) Try.underlying55 rfl (by kernel_rfl)) rfl ?_
 exact ⟨_, _, se, by (with_reducible repeat (first | apply Kd.R_alloc | apply Kd.R_drewN | apply Kd.R_drew)); exact Kd.R_mono (h3 HO358 BK355) (fun _ hk => hk.1.2), by (with_reducible repeat (first | apply Kd.R_alloc | apply Kd.R_drewN | apply Kd.R_drew)); exact Kd.R_mono (h3 HO361 BK355) (fun _ hk => hk.1.2), sbw⟩

end Go.Proofs.Ytiihaabhjphaeaa.QFnExactIsProgram
