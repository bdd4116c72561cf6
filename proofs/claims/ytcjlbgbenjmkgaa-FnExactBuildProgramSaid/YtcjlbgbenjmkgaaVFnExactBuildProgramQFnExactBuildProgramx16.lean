/- What the Go functions of the law FnExactBuildProgram come to, as Lean functions, and that they do: by a program of the session, out of the kit's printer. Conditions: none. (squeezed). -/
import Derived.Test.YtcjlbgbenjmkgaaVFnExactBuildProgramSq2
import Derived.Test.YtcjlbgbenjmkgaaVFnExactBuildProgramSq
import Derived.Test.YtcjlbgbenjmkgaaVFnExactBuildProgramQFnExactBuildProgramx0
import Derived.Test.YtcjlbgbenjmkgaaVFnExactBuildProgramQFnExactBuildProgramx14
import Derived.Test.YtcjlbgbenjmkgaaVFnExactBuildProgramQFnExactBuildProgramx15
namespace Go.Proofs.Ytcjlbgbenjmkgaa.QFnExactBuildProgram
open Go.RowKit Go.Proofs.YtcjlbgbenjmkgaaW.PrintWords Go.Proofs.YtcjlbgbenjmkgaaW.PrintLast Go.Proofs.YtcjlbgbenjmkgaaW.PrintMore Go.Proofs.Ytcjlbgbenjmkgaa.Open Go.Proofs.Ytcjlbgbenjmkgaa.Sq
attribute [local go_sem] max2_int min2_int max_two min_two max_three min_three max_four min_four   -- for this text's walks alone
attribute [local go_sem] isSome_set
set_option linter.unusedVariables false
set_option linter.unusedSimpArgs false

/-! ### impl_NextTo: function 60 -/
mutual
def impl_NextTo.l0 : Nat → List (S60) → Int → Int → Int → List Int → List Int → List Int → Int → Int → Option (List Int)
  | 0, _, _, _, _, _, _, _, _, _ => none
  | k + 1, x0, x1, x2, x3, x9, x10, x22, x23, x24 => if x24 < x23 then (if 0 ≤ x24 then (if x24 < (x22.length : Int) then ((impl_NeighborsIn.f k x0 x24).bind fun t470 => (impl_NextTo.l1 k x0 x1 x2 x3 x9 x10 (rd x22 x24) (-1) x22 x23 x24 t470 (t470.length : Int) 0)) else (none)) else (none)) else (some x9)
def impl_NextTo.l1 : Nat → List (S60) → Int → Int → Int → List Int → List Int → Int → Int → List Int → Int → Int → List Int → Int → Int → Option (List Int)
  | 0, _, _, _, _, _, _, _, _, _, _, _, _, _, _ => none
  | k + 1, x0, x1, x2, x3, x9, x10, x12, x13, x22, x23, x24, x31, x32, x33 => if x33 < x32 then (if 0 ≤ x33 then (if x33 < (x31.length : Int) then (if x13 < 0 then (if x12 > 0 then ((impl_isIndex.f (rd x31 x33) x1).bind fun t474 => (if t474 = true then (if (rd x31 x33) < x2 then (if 0 ≤ (rd x31 x33) then (if (rd x31 x33) < (x10.length : Int) then (if (rd x10 (rd x31 x33)) = (wrap64 (x12 - 1)) then (impl_NextTo.l1 k x0 x1 x2 x3 x9 x10 x12 (rd x31 x33) x22 x23 x24 x31 x32 (wrap64 (x33 + 1))) else (impl_NextTo.l1 k x0 x1 x2 x3 x9 x10 x12 x13 x22 x23 x24 x31 x32 (wrap64 (x33 + 1)))) else (none)) else (none)) else (if (rd x31 x33) = x3 then (if 0 ≤ (rd x31 x33) then (if (rd x31 x33) < (x10.length : Int) then (if (rd x10 (rd x31 x33)) = (wrap64 (x12 - 1)) then (impl_NextTo.l1 k x0 x1 x2 x3 x9 x10 x12 (rd x31 x33) x22 x23 x24 x31 x32 (wrap64 (x33 + 1))) else (impl_NextTo.l1 k x0 x1 x2 x3 x9 x10 x12 x13 x22 x23 x24 x31 x32 (wrap64 (x33 + 1)))) else (none)) else (none)) else (impl_NextTo.l1 k x0 x1 x2 x3 x9 x10 x12 x13 x22 x23 x24 x31 x32 (wrap64 (x33 + 1))))) else (impl_NextTo.l1 k x0 x1 x2 x3 x9 x10 x12 x13 x22 x23 x24 x31 x32 (wrap64 (x33 + 1))))) else (impl_NextTo.l1 k x0 x1 x2 x3 x9 x10 x12 x13 x22 x23 x24 x31 x32 (wrap64 (x33 + 1)))) else (impl_NextTo.l1 k x0 x1 x2 x3 x9 x10 x12 x13 x22 x23 x24 x31 x32 (wrap64 (x33 + 1)))) else (none)) else (none)) else (if x9.length < 17592186044416 then (impl_NextTo.l0 k x0 x1 x2 x3 (x9 ++ [x13]) x10 x22 x23 (wrap64 (x24 + 1))) else (none))
end
def impl_NextTo.f (k : Nat) (l0 : List (S60)) (a1 : Int) (a2 : Int) (a3 : Int) : Option (List Int) := (impl_DistancesTo.f k l0 a1 a2 a3).bind fun t466 => (impl_NextTo.l0 k l0 a1 a2 a3 (([] : List Int)) t466 t466 (t466.length : Int) 0)
theorem impl_NextTo.mono_l : ∀ k, (∀ y0 y1 y2 y3 y4 y5 y6 y7 y8, LeO (impl_NextTo.l0 k y0 y1 y2 y3 y4 y5 y6 y7 y8) (impl_NextTo.l0 (k + 1) y0 y1 y2 y3 y4 y5 y6 y7 y8)) ∧ (∀ y0 y1 y2 y3 y4 y5 y6 y7 y8 y9 y10 y11 y12 y13, LeO (impl_NextTo.l1 k y0 y1 y2 y3 y4 y5 y6 y7 y8 y9 y10 y11 y12 y13) (impl_NextTo.l1 (k + 1) y0 y1 y2 y3 y4 y5 y6 y7 y8 y9 y10 y11 y12 y13))
  | 0 => ⟨fun _ _ _ _ _ _ _ _ _ r h => by simp [impl_NextTo.l0] at h, fun _ _ _ _ _ _ _ _ _ _ _ _ _ _ r h => by simp [impl_NextTo.l1] at h⟩
  | k + 1 => by
    obtain ⟨ih0, ih1⟩ := impl_NextTo.mono_l k
    refine ⟨?_, ?_⟩
    · intro y0 y1 y2 y3 y4 y5 y6 y7 y8
      unfold impl_NextTo.l0
      have m0 := @impl_DistancesTo.mono
      have m1 := @impl_NeighborsIn.mono
      exact mo
    · intro y0 y1 y2 y3 y4 y5 y6 y7 y8 y9 y10 y11 y12 y13
      unfold impl_NextTo.l1
      have m0 := @impl_DistancesTo.mono
      have m1 := @impl_NeighborsIn.mono
      exact mo
theorem impl_NextTo.mono : ∀ a0 a1 a2 a3 k, LeO (impl_NextTo.f k a0 a1 a2 a3) (impl_NextTo.f (k + 1) a0 a1 a2 a3) := by
  intro a0 a1 a2 a3 k
  obtain ⟨ih0, ih1⟩ := impl_NextTo.mono_l k
  unfold impl_NextTo.f
  have m0 := @impl_DistancesTo.mono
  have m1 := @impl_NeighborsIn.mono
  exact mo
set_option maxHeartbeats 8000000 in
set_option maxRecDepth 100000 in
theorem impl_NextTo.calls (k : Nat) (A0 : Option Addr) (c0 : Nat) (l0 : List (S60)) (a1 : Int) (a2 : Int) (a3 : Int) (r : List Int) (w : World) (hr0 : Kd.C k60 w A0 l0.length l0) (hc0 : l0.length ≤ c0) (h : impl_NextTo.f k l0 a1 a2 a3 = some r) :
    Calls Try.prog 60 #[.slice A0 l0.length c0, .int .i64 a1, .int .i64 a2, .int .i64 a3] w fun e w' => ∃ v0_ : Value, e = .returned (v0_) ∧ Kd.R (Kd.int .i64) 3 w' w.heap.size (fun _ => True) v0_ r ∧ Below w.heap.size w w' := by
 have HR0 := Aside0.mk hr0
 have HC0 := Aside0.mk hc0
 clear hr0 hc0
 have HB := Aside0.mk (Below.refl w.heap.size w)
 have H : ((impl_DistancesTo.f k l0 a1 a2 a3).bind fun t466 => (impl_NextTo.l0 k l0 a1 a2 a3 (([] : List Int)) t466 t466 (t466.length : Int) 0)) = some r := h
 clear h
 obtain ⟨y463, hy463⟩ : ∃ y_ : List Int, y_ = (([] : List Int)) := ⟨_, rfl⟩
 replace H : ((impl_DistancesTo.f k l0 a1 a2 a3).bind fun t466 => (impl_NextTo.l0 k l0 a1 a2 a3 y463 t466 t466 (t466.length : Int) 0)) = some r := by first | (rw [hy463]; with_reducible exact H) | (have H2_ := (Option.bind_some _ _).symm.trans H; rw [hy463]; with_reducible exact H2_) | (have H2_ := (Option.bind_some _ _).symm.trans H; with_reducible exact H2_) | with_reducible exact H | (rw [hy463]; exact H) | exact H
 have Ny463 := Aside0.mk hy463
 clear hy463
 obtain ⟨t466, A5, H⟩ := bnd H
 have H' := Aside0.mk H
 clear H
 go_enter Try.func60, Try.ntmps60
 go_wp2_with (first | ((with_reducible refine gate_dst (N := 16) rfl ?_); refine Kd.R_lit (Kd.int .i64) _ 3 ?hg (N := 16) ?hd (xs := ([] : List Int)) (inner := []) (ok := fun _ => True) (okp := fun _ => True) ?hr ?hp (fun _ hk => hk) trivial (Below.refl _ _) (Nat.le_refl _) (by simp) ?_; (case hd => rfl); (case hg => rfl); (case hr => first | (go_simp; done) | (go_simp; rfl)); (case hp => exact (Reps.none _ _)); intro v464 w6 ho7 hb hg_ hnew_; clear hg_ hnew_; (first | rw [← Ny463.out] at ho7 | (simp only [Int.reduceToNat] at ho7; rw [← Ny463.out] at ho7)); have HO465 := Aside0.mk (Kd.R_lower ho7 (below_size (sb))); replace HB := bs hb; clear hb ho7) | ((with_reducible refine gate_callee (f := 59) rfl ?_); refine gL (some 21) Try.func59 #[.slice A0 l0.length c0, .int .i64 a1, .int .i64 a2, .int .i64 a3] ?_; (with_reducible refine (impl_DistancesTo.calls k _ _ l0 a1 a2 a3 t466 _ ?side1 ?side2 A5.out).mono ?_); (case side1 => exact cb HR0); (case side2 => exact HC0.out); rintro e w8 ⟨v467, rfl, ho0, hb⟩; refine ⟨_, rfl, ?_⟩; have HO468 := Aside0.mk (Kd.R_lower (Kd.R_new' ho0 (Kd.R_lt (sr HO465))) (below_size (sb))); replace HO465 := Aside0.mk (Kd.R_elder' (sr HO465) (Kd.R_base ho0) hb); replace HB := bs hb; (try clear hb); (try clear hb2); (try clear hk); (try clear hi); (try clear ho0); obtain ⟨Ao9, co9, eo9⟩ := Kd.R_slice HO468.out; subst eo9))
 go_loopg [9, 24] k (fun kq v9 v24 w' => ∃ (x9_1 : List Int) (x24_1 : Int), v24 = .int .i64 x24_1 ∧ Aside0 (impl_NextTo.l0 kq l0 a1 a2 a3 x9_1 t466 t466 (t466.length : Int) x24_1 = some r) ∧ Aside0 (kq ≤ k) ∧ Aside0 (Kd.R (Kd.int .i64) 3 w' w.heap.size (fun k_ => some k_ ≠ ((.slice Ao9 t466.length co9) : Value).ownBlock ∧ some k_ ≠ ((.slice Ao9 t466.length co9) : Value).ownBlock) v9 x9_1) ∧ Aside0 (Kd.R (Kd.int .i64) 3 w' w.heap.size (fun k_ => some k_ ≠ (v9 : Value).ownBlock) (.slice Ao9 t466.length co9) t466) ∧ Aside0 (Kd.R (Kd.int .i64) 3 w' w.heap.size (fun k_ => some k_ ≠ (v9 : Value).ownBlock) (.slice Ao9 t466.length co9) t466) ∧ Aside0 (Below w.heap.size w w'))
 case atStart => exact ⟨(y463), (0), sc, H', kk0, ⟨by (with_reducible repeat (first | apply Kd.R_alloc | apply Kd.R_drewN | apply Kd.R_drew)); exact Kd.R_mono HO465.out (fun _ hk => ⟨hk.2, hk.2⟩)⟩, ⟨by (with_reducible repeat (first | apply Kd.R_alloc | apply Kd.R_drewN | apply Kd.R_drew)); exact Kd.R_mono HO468.out (fun _ hk => hk.2)⟩, ⟨by (with_reducible repeat (first | apply Kd.R_alloc | apply Kd.R_drewN | apply Kd.R_drew)); exact Kd.R_mono HO468.out (fun _ hk => hk.2)⟩, ⟨sb⟩⟩
 case round =>
  clear H'
  obtain ⟨x9_1, x24_1, rfl, HA, HK1, HO_9, HO_10, HO_22, HB⟩ := hrel
  cases gk with
  | zero => exact absurd HA.out (by simp [impl_NextTo.l0])
  | succ k1 =>
   have H := HA.out
   clear HA
   simp only [impl_NextTo.l0] at H
   obtain ⟨c10, H⟩ | ⟨c10, H⟩ := ie_ H
   ·have c10b0 := decide_eq_true c10
    clear c10
    obtain ⟨c11b0, H⟩ := id_ H
    obtain ⟨c12b0, H⟩ := id_ H
    obtain ⟨t470, A13, H⟩ := bnd H
    have H' := Aside0.mk H
    clear H
    have p469 : 0 ≤ (x24_1 : Int) := sa
    have q469 : x24_1 < (t466.length : Int) := sa
    obtain ⟨ad469, e469, hx469_0⟩ := Kd.at_int (Kd.R_reads' HO_22.out).2.2 x24_1 p469 q469
    cases e469
    replace p469 := eq_true p469
    replace q469 := eq_true q469
    go_wp2_with (first | ((with_reducible refine gate_callee (f := 70) rfl ?_); refine gL (some 31) Try.func70 #[.slice A0 l0.length c0, .int .i64 x24_1] ?_; (with_reducible refine (impl_NeighborsIn.calls k1 _ _ l0 x24_1 t470 _ ?side1 ?side2 A13.out).mono ?_); (case side1 => exact cb HR0); (case side2 => exact HC0.out); rintro e w14 ⟨v471, rfl, ho0, hb⟩; refine ⟨_, rfl, ?_⟩; have HO472 := Aside0.mk (Kd.R_lower (Kd.R_new' (Kd.R_new' (Kd.R_new' ho0 (Kd.R_lt (sr HO_9))) (Kd.R_lt (sr HO_10))) (Kd.R_lt (sr HO_22))) (below_size (sb))); replace HO_9 := Aside0.mk (Kd.R_elder' (sr HO_9) (Kd.R_base ho0) hb); replace HO_10 := Aside0.mk (Kd.R_elder' (sr HO_10) (Kd.R_base ho0) hb); replace HO_22 := Aside0.mk (Kd.R_elder' (sr HO_22) (Kd.R_base ho0) hb); replace HB := bs hb; (try clear hb); (try clear hb2); (try clear hk); (try clear hi); (try clear ho0); obtain ⟨Ao15, co15, eo15⟩ := Kd.R_slice HO472.out; subst eo15))
    go_loopg [13, 33] k1 (fun kq v13 v33 w' => ∃ (x13_2 : Int) (x33_2 : Int), v13 = .int .i64 x13_2 ∧ v33 = .int .i64 x33_2 ∧ Aside0 (impl_NextTo.l1 kq l0 a1 a2 a3 x9_1 t466 (rd t466 x24_1) x13_2 t466 (t466.length : Int) x24_1 t470 (t470.length : Int) x33_2 = some r) ∧ Aside0 (kq ≤ k1) ∧ Aside0 (Kd.R (Kd.int .i64) 3 w' w.heap.size (fun k_ => some k_ ≠ ((.slice (some ad469) t466.length co9) : Value).ownBlock ∧ some k_ ≠ ((.slice (some ad469) t466.length co9) : Value).ownBlock ∧ some k_ ≠ ((.slice Ao15 t470.length co15) : Value).ownBlock) u9 x9_1) ∧ Aside0 (Kd.R (Kd.int .i64) 3 w' w.heap.size (fun k_ => some k_ ≠ (u9 : Value).ownBlock ∧ some k_ ≠ ((.slice Ao15 t470.length co15) : Value).ownBlock) (.slice (some ad469) t466.length co9) t466) ∧ Aside0 (Kd.R (Kd.int .i64) 3 w' w.heap.size (fun k_ => some k_ ≠ (u9 : Value).ownBlock ∧ some k_ ≠ ((.slice Ao15 t470.length co15) : Value).ownBlock) (.slice (some ad469) t466.length co9) t466) ∧ Aside0 (Kd.R (Kd.int .i64) 3 w' w.heap.size (fun k_ => some k_ ≠ (u9 : Value).ownBlock ∧ some k_ ≠ ((.slice (some ad469) t466.length co9) : Value).ownBlock ∧ some k_ ≠ ((.slice (some ad469) t466.length co9) : Value).ownBlock) (.slice Ao15 t470.length co15) t470) ∧ Aside0 (Below w.heap.size w w'))
    case atStart => exact ⟨((-1)), (0), sc, sc, H', kk0, ⟨by (with_reducible repeat (first | apply Kd.R_alloc | apply Kd.R_drewN | apply Kd.R_drew)); exact Kd.R_mono HO_9.out (fun _ hk => ⟨hk.1.1, ⟨hk.1.2, hk.2⟩⟩)⟩, ⟨sr HO_10⟩, ⟨sr HO_22⟩, ⟨by (with_reducible repeat (first | apply Kd.R_alloc | apply Kd.R_drewN | apply Kd.R_drew)); exact Kd.R_mono HO472.out (fun _ hk => ⟨hk.1.1.2, ⟨hk.1.2, hk.2⟩⟩)⟩, ⟨sb⟩⟩
    case round =>
     clear H'
     try clear c10
     try clear c10b0
     try clear c11b0
     try clear c12b0
     try clear hx469_0
     try clear p469
     try clear q469
     obtain ⟨x13_2, x33_2, rfl, rfl, HA, HK2, HO_9, HO_10, HO_22, HO_31, HB⟩ := hrel
     cases gk with
     | zero => exact absurd HA.out (by simp [impl_NextTo.l1])
     | succ k2 =>
      have H := HA.out
      clear HA
      simp only [impl_NextTo.l1] at H
      obtain ⟨c16, H⟩ | ⟨c16, H⟩ := ie_ H
      ·have c16b0 := decide_eq_true c16
       clear c16
       obtain ⟨c17b0, H⟩ := id_ H
       obtain ⟨c18b0, H⟩ := id_ H
       obtain ⟨c19, H⟩ | ⟨c19, H⟩ := ie_ H
       ·have c19b0 := decide_eq_true c19
        clear c19
        obtain ⟨c20, H⟩ | ⟨c20, H⟩ := ie_ H
        ·have c20b0 := decide_eq_true c20
         clear c20
         obtain ⟨t474, A21, H⟩ := bnd H
         obtain rfl | rfl := tt t474
         ·replace H := ip H
          obtain ⟨c23, H⟩ | ⟨c23, H⟩ := ie_ H
          ·have c23b0 := decide_eq_true c23
           clear c23
           obtain ⟨c24b0, H⟩ := id_ H
           obtain ⟨c25b0, H⟩ := id_ H
           obtain ⟨c26, H⟩ | ⟨c26, H⟩ := ie_ H
           ·have c26b0 : ((rd t466 (rd t470 x33_2)) == (wrap64 ((rd t466 x24_1) - 1))) = true := beq_iff_eq.mpr c26
            have c26b1 : ((rd t466 (rd t470 x33_2)) != (wrap64 ((rd t466 x24_1) - 1))) = false := bne_eq_false_iff_eq.mpr c26
            clear c26
            have H' := Aside0.mk H
            clear H
            have p473 : 0 ≤ (x33_2 : Int) := sa
            have q473 : x33_2 < (t470.length : Int) := sa
            obtain ⟨ad473, e473, hx473_0⟩ := Kd.at_int (Kd.R_reads' HO_31.out).2.2 x33_2 p473 q473
            cases e473
            replace p473 := eq_true p473
            replace q473 := eq_true q473
            go_wp2_with (first | (go_at_call 69; (with_reducible refine (impl_isIndex.calls (rd t470 x33_2) a1 true _ A21.out).mono ?_); rintro e w' ⟨rfl, ⟨nd, rfl⟩⟩; have p475 : 0 ≤ ((rd t470 x33_2) : Int) := sa; have q475 : (rd t470 x33_2) < (t466.length : Int) := sa; obtain ⟨ad475, e475, hx475_0⟩ := Kd.at_int (Kd.R_reads' HO_10.out).2.2 (rd t470 x33_2) p475 q475; obtain rfl : ad469 = ad475 := (by injection e475); replace p475 := eq_true p475; replace q475 := eq_true q475))
            go_roundg k2
            case measure => have := HK1.out; have := HK2.out; omega
            case rel => exact ⟨(rd t470 x33_2), (wrap64 (x33_2 + 1)), sc, sc, H', kk2, ⟨sr HO_9⟩, ⟨sr HO_10⟩, ⟨sr HO_22⟩, ⟨sr HO_31⟩, ⟨sb⟩⟩
           ·have c26b0 : ((rd t466 (rd t470 x33_2)) == (wrap64 ((rd t466 x24_1) - 1))) = false := beq_eq_false_iff_ne.mpr c26
            have c26b1 : ((rd t466 (rd t470 x33_2)) != (wrap64 ((rd t466 x24_1) - 1))) = true := bne_iff_ne.mpr c26
            have H' := Aside0.mk H
            clear H
            have p473 : 0 ≤ (x33_2 : Int) := sa
            have q473 : x33_2 < (t470.length : Int) := sa
            obtain ⟨ad473, e473, hx473_0⟩ := Kd.at_int (Kd.R_reads' HO_31.out).2.2 x33_2 p473 q473
            cases e473
            replace p473 := eq_true p473
            replace q473 := eq_true q473
            go_wp2_with (first | (go_at_call 69; (with_reducible refine (impl_isIndex.calls (rd t470 x33_2) a1 true _ A21.out).mono ?_); rintro e w' ⟨rfl, ⟨nd, rfl⟩⟩; have p475 : 0 ≤ ((rd t470 x33_2) : Int) := sa; have q475 : (rd t470 x33_2) < (t466.length : Int) := sa; obtain ⟨ad475, e475, hx475_0⟩ := Kd.at_int (Kd.R_reads' HO_10.out).2.2 (rd t470 x33_2) p475 q475; obtain rfl : ad469 = ad475 := (by injection e475); replace p475 := eq_true p475; replace q475 := eq_true q475))
            go_roundg k2
            case measure => have := HK1.out; have := HK2.out; omega
            case rel => exact ⟨(x13_2), (wrap64 (x33_2 + 1)), sc, sc, H', kk2, ⟨sr HO_9⟩, ⟨sr HO_10⟩, ⟨sr HO_22⟩, ⟨sr HO_31⟩, ⟨sb⟩⟩
          ·have c23b0 := decide_eq_false c23
           clear c23
           obtain ⟨c27, H⟩ | ⟨c27, H⟩ := ie_ H
           ·have c27b0 : ((rd t470 x33_2) == a3) = true := beq_iff_eq.mpr c27
            have c27b1 : ((rd t470 x33_2) != a3) = false := bne_eq_false_iff_eq.mpr c27
            clear c27
            obtain ⟨c28b0, H⟩ := id_ H
            obtain ⟨c29b0, H⟩ := id_ H
            obtain ⟨c30, H⟩ | ⟨c30, H⟩ := ie_ H
            ·have c30b0 : ((rd t466 (rd t470 x33_2)) == (wrap64 ((rd t466 x24_1) - 1))) = true := beq_iff_eq.mpr c30
             have c30b1 : ((rd t466 (rd t470 x33_2)) != (wrap64 ((rd t466 x24_1) - 1))) = false := bne_eq_false_iff_eq.mpr c30
             clear c30
             have H' := Aside0.mk H
             clear H
             have p473 : 0 ≤ (x33_2 : Int) := sa
             have q473 : x33_2 < (t470.length : Int) := sa
             obtain ⟨ad473, e473, hx473_0⟩ := Kd.at_int (Kd.R_reads' HO_31.out).2.2 x33_2 p473 q473
             cases e473
             replace p473 := eq_true p473
             replace q473 := eq_true q473
             go_wp2_with (first | (go_at_call 69; (with_reducible refine (impl_isIndex.calls (rd t470 x33_2) a1 true _ A21.out).mono ?_); rintro e w' ⟨rfl, ⟨nd, rfl⟩⟩; have p476 : 0 ≤ ((rd t470 x33_2) : Int) := sa; have q476 : (rd t470 x33_2) < (t466.length : Int) := sa; obtain ⟨ad476, e476, hx476_0⟩ := Kd.at_int (Kd.R_reads' HO_10.out).2.2 (rd t470 x33_2) p476 q476; obtain rfl : ad469 = ad476 := (by injection e476); replace p476 := eq_true p476; replace q476 := eq_true q476))
             go_roundg k2
             case measure => have := HK1.out; have := HK2.out; omega
             case rel => exact ⟨(rd t470 x33_2), (wrap64 (x33_2 + 1)), sc, sc, H', kk2, ⟨sr HO_9⟩, ⟨sr HO_10⟩, ⟨sr HO_22⟩, ⟨sr HO_31⟩, ⟨sb⟩⟩
            ·have c30b0 : ((rd t466 (rd t470 x33_2)) == (wrap64 ((rd t466 x24_1) - 1))) = false := beq_eq_false_iff_ne.mpr c30
             have c30b1 : ((rd t466 (rd t470 x33_2)) != (wrap64 ((rd t466 x24_1) - 1))) = true := bne_iff_ne.mpr c30
             have H' := Aside0.mk H
             clear H
             have p473 : 0 ≤ (x33_2 : Int) := sa
             have q473 : x33_2 < (t470.length : Int) := sa
             obtain ⟨ad473, e473, hx473_0⟩ := Kd.at_int (Kd.R_reads' HO_31.out).2.2 x33_2 p473 q473
             cases e473
             replace p473 := eq_true p473
             replace q473 := eq_true q473
             go_wp2_with (first | (go_at_call 69; (with_reducible refine (impl_isIndex.calls (rd t470 x33_2) a1 true _ A21.out).mono ?_); rintro e w' ⟨rfl, ⟨nd, rfl⟩⟩; have p476 : 0 ≤ ((rd t470 x33_2) : Int) := sa; have q476 : (rd t470 x33_2) < (t466.length : Int) := sa; obtain ⟨ad476, e476, hx476_0⟩ := Kd.at_int (Kd.R_reads' HO_10.out).2.2 (rd t470 x33_2) p476 q476; obtain rfl : ad469 = ad476 := (by injection e476); replace p476 := eq_true p476; replace q476 := eq_true q476))
             go_roundg k2
             case measure => have := HK1.out; have := HK2.out; omega
             case rel => exact ⟨(x13_2), (wrap64 (x33_2 + 1)), sc, sc, H', kk2, ⟨sr HO_9⟩, ⟨sr HO_10⟩, ⟨sr HO_22⟩, ⟨sr HO_31⟩, ⟨sb⟩⟩
           ·have c27b0 : ((rd t470 x33_2) == a3) = false := beq_eq_false_iff_ne.mpr c27
            have c27b1 : ((rd t470 x33_2) != a3) = true := bne_iff_ne.mpr c27
            have H' := Aside0.mk H
            clear H
            have p473 : 0 ≤ (x33_2 : Int) := sa
            have q473 : x33_2 < (t470.length : Int) := sa
            obtain ⟨ad473, e473, hx473_0⟩ := Kd.at_int (Kd.R_reads' HO_31.out).2.2 x33_2 p473 q473
            cases e473
            replace p473 := eq_true p473
            replace q473 := eq_true q473
            go_wp2_with (first | (go_at_call 69; (with_reducible refine (impl_isIndex.calls (rd t470 x33_2) a1 true _ A21.out).mono ?_); rintro e w' ⟨rfl, ⟨nd, rfl⟩⟩))
            go_roundg k2
            case measure => have := HK1.out; have := HK2.out; omega
            case rel => exact ⟨(x13_2), (wrap64 (x33_2 + 1)), sc, sc, H', kk2, ⟨sr HO_9⟩, ⟨sr HO_10⟩, ⟨sr HO_22⟩, ⟨sr HO_31⟩, ⟨sb⟩⟩
         ·replace H := im H
          have H' := Aside0.mk H
          clear H
          have p473 : 0 ≤ (x33_2 : Int) := sa
          have q473 : x33_2 < (t470.length : Int) := sa
          obtain ⟨ad473, e473, hx473_0⟩ := Kd.at_int (Kd.R_reads' HO_31.out).2.2 x33_2 p473 q473
          cases e473
          replace p473 := eq_true p473
          replace q473 := eq_true q473
          go_wp2_with (first | (go_at_call 69; (with_reducible refine (impl_isIndex.calls (rd t470 x33_2) a1 false _ A21.out).mono ?_); rintro e w' ⟨rfl, ⟨nd, rfl⟩⟩))
          go_roundg k2
          case measure => have := HK1.out; have := HK2.out; omega
          case rel => exact ⟨(x13_2), (wrap64 (x33_2 + 1)), sc, sc, H', kk2, ⟨sr HO_9⟩, ⟨sr HO_10⟩, ⟨sr HO_22⟩, ⟨sr HO_31⟩, ⟨sb⟩⟩
        ·have c20b0 := decide_eq_false c20
         clear c20
         have H' := Aside0.mk H
         clear H
         have p473 : 0 ≤ (x33_2 : Int) := sa
         have q473 : x33_2 < (t470.length : Int) := sa
         obtain ⟨ad473, e473, hx473_0⟩ := Kd.at_int (Kd.R_reads' HO_31.out).2.2 x33_2 p473 q473
         cases e473
         replace p473 := eq_true p473
         replace q473 := eq_true q473
         go_wp2
         go_roundg k2
         case measure => have := HK1.out; have := HK2.out; omega
         case rel => exact ⟨(x13_2), (wrap64 (x33_2 + 1)), sc, sc, H', kk2, ⟨sr HO_9⟩, ⟨sr HO_10⟩, ⟨sr HO_22⟩, ⟨sr HO_31⟩, ⟨sb⟩⟩
       ·have c19b0 := decide_eq_false c19
        clear c19
        have H' := Aside0.mk H
        clear H
        have p473 : 0 ≤ (x33_2 : Int) := sa
        have q473 : x33_2 < (t470.length : Int) := sa
        obtain ⟨ad473, e473, hx473_0⟩ := Kd.at_int (Kd.R_reads' HO_31.out).2.2 x33_2 p473 q473
        cases e473
        replace p473 := eq_true p473
        replace q473 := eq_true q473
        go_wp2
        go_roundg k2
        case measure => have := HK1.out; have := HK2.out; omega
        case rel => exact ⟨(x13_2), (wrap64 (x33_2 + 1)), sc, sc, H', kk2, ⟨sr HO_9⟩, ⟨sr HO_10⟩, ⟨sr HO_22⟩, ⟨sr HO_31⟩, ⟨sb⟩⟩
      ·have c16b0 := decide_eq_false c16
       clear c16
       obtain ⟨LMc31, H⟩ := il_ H
       obtain ⟨y477, hy477⟩ : ∃ y_ : List Int, y_ = (x9_1 ++ [x13_2]) := ⟨_, rfl⟩
       replace H : (impl_NextTo.l0 k2 l0 a1 a2 a3 y477 t466 t466 (t466.length : Int) (wrap64 (x24_1 + 1))) = some r := by first | (rw [hy477]; with_reducible exact H) | (have H2_ := (Option.bind_some _ _).symm.trans H; rw [hy477]; with_reducible exact H2_) | (have H2_ := (Option.bind_some _ _).symm.trans H; with_reducible exact H2_) | with_reducible exact H | (rw [hy477]; exact H) | exact H
       have Ny477 := Aside0.mk hy477
       clear hy477
       have H' := Aside0.mk H
       clear H
       go_wp2_with (first | ((with_reducible refine gate_builtin (b := .append) (xs := #[.tmp 69, .tmp 71]) rfl ?_); at_builtin; refine Kd.R_append (Kd.int .i64) (w0 := w) w.heap.size rfl (.tmp 69) (.tmp 71) 57 3 (.int .i64 0) 8 rfl Try.underlying57 info3 rfl (by decide) (by omega) u9 x9_1 x13_2 [.int .i64 x13_2] (fun k_ => some k_ ≠ (.slice (some ad469) t466.length co9 : Value).ownBlock ∧ some k_ ≠ (.slice (some ad469) t466.length co9 : Value).ownBlock ∧ some k_ ≠ (.slice Ao15 t470.length co15 : Value).ownBlock) (fun _ => False) rfl rfl ?aP (fun _ hk => hk.elim) ?aF ?aO ?aB ?aS ?aL ?_; (case aP => exact rfl); (case aB => exact (sb)); (case aF => exact (fun k_ hk => ⟨Kd.fresh' (Kd.R_lt (sr HO_10)) k_ hk, Kd.fresh' (Kd.R_lt (sr HO_22)) k_ hk, Kd.fresh' (Kd.R_lt (sr HO_31)) k_ hk⟩)); (case aO => exact (sr HO_9)); (case aS => exact (below_size (sb))); (case aL => have := LMc31.out; omega); intro v478 w32 ho hb hg hat; rw [← Ny477.out] at ho; replace HO_10 := Aside0.mk (Kd.R_after (ok := (fun k_ => some k_ ≠ (.slice Ao15 t470.length co15 : Value).ownBlock)) (by (with_reducible repeat (first | apply Kd.R_alloc | apply Kd.R_drewN | apply Kd.R_drew)); exact Kd.R_mono HO_10.out (fun _ hk => ⟨hk.2, hk.1⟩)) hg hat); replace HO_22 := Aside0.mk (Kd.R_after (ok := (fun k_ => some k_ ≠ (.slice Ao15 t470.length co15 : Value).ownBlock)) (by (with_reducible repeat (first | apply Kd.R_alloc | apply Kd.R_drewN | apply Kd.R_drew)); exact Kd.R_mono HO_22.out (fun _ hk => ⟨hk.2, hk.1⟩)) hg hat); replace HO_31 := Aside0.mk (Kd.R_after (ok := (fun k_ => some k_ ≠ (.slice (some ad469) t466.length co9 : Value).ownBlock ∧ some k_ ≠ (.slice (some ad469) t466.length co9 : Value).ownBlock)) (by (with_reducible repeat (first | apply Kd.R_alloc | apply Kd.R_drewN | apply Kd.R_drew)); exact Kd.R_mono HO_31.out (fun _ hk => ⟨⟨hk.2.1, hk.2.2⟩, hk.1⟩)) hg hat); replace HB := Aside0.mk hb; have HO479 := Aside0.mk ho; clear HO_9; clear ho hb hg hat))
       go_roundg k2
       case measure => have := HK1.out; have := HK2.out; omega
       case rel => exact ⟨(y477), (wrap64 (x24_1 + 1)), sc, H', kk2, ⟨by (with_reducible repeat (first | apply Kd.R_alloc | apply Kd.R_drewN | apply Kd.R_drew)); exact Kd.R_mono HO479.out (fun _ hk => ⟨hk.1, hk.2.1⟩)⟩, ⟨by (with_reducible repeat (first | apply Kd.R_alloc | apply Kd.R_drewN | apply Kd.R_drew)); exact Kd.R_mono HO_10.out (fun _ hk => hk.2)⟩, ⟨by (with_reducible repeat (first | apply Kd.R_alloc | apply Kd.R_drewN | apply Kd.R_drew)); exact Kd.R_mono HO_22.out (fun _ hk => hk.2)⟩, ⟨sb⟩⟩
   ·have c10b0 := decide_eq_false c10
    clear c10
    obtain rfl := Option.some.inj H
    go_wp2
    go_ret
    exact ⟨_, se, by (with_reducible repeat (first | apply Kd.R_alloc | apply Kd.R_drewN | apply Kd.R_drew)); exact Kd.R_mono HO_9.out (fun _ hk => trivial), sb⟩

/-! ### impl_TableOf: function 45 -/
def impl_TableOf.f (k : Nat) (l0 : List (S60)) (a1 : Int) (a2 : Int) (a3 : Int) : Option (Int × List Int × List Int) := (impl_DistancesTo.f k l0 a1 a2 a3).bind fun t481 => ((impl_NextTo.f k l0 a1 a2 a3).bind fun t484 => (some (a3, t481, t484)))
theorem impl_TableOf.mono : ∀ a0 a1 a2 a3 k, LeO (impl_TableOf.f k a0 a1 a2 a3) (impl_TableOf.f (k + 1) a0 a1 a2 a3) := by
  intro a0 a1 a2 a3 k
  unfold impl_TableOf.f
  have m0 := @impl_DistancesTo.mono
  have m1 := @impl_NextTo.mono
  exact mo
set_option maxHeartbeats 8000000 in
set_option maxRecDepth 100000 in
theorem impl_TableOf.calls (k : Nat) (A0 : Option Addr) (c0 : Nat) (l0 : List (S60)) (a1 : Int) (a2 : Int) (a3 : Int) (r1 : Int) (r2 : List Int) (r3 : List Int) (w : World) (hr0 : Kd.C k60 w A0 l0.length l0) (hc0 : l0.length ≤ c0) (h : impl_TableOf.f k l0 a1 a2 a3 = some (r1, r2, r3)) :
    Calls Try.prog 45 #[.slice A0 l0.length c0, .int .i64 a1, .int .i64 a2, .int .i64 a3] w fun e w' => ∃ v1_ v2_ : Value, e = .returned (.agg #[.int .i64 r1, v1_, v2_]) ∧ Kd.R (Kd.int .i64) 3 w' w.heap.size (fun k_ => some k_ ≠ (v2_ : Value).ownBlock) v1_ r2 ∧ Kd.R (Kd.int .i64) 3 w' w.heap.size (fun k_ => some k_ ≠ (v1_ : Value).ownBlock) v2_ r3 ∧ Below w.heap.size w w' := by
 have hu63 := Try.underlying63
 have HR0 := Aside0.mk hr0
 have HC0 := Aside0.mk hc0
 clear hr0 hc0
 have HB := Aside0.mk (Below.refl w.heap.size w)
 have H : ((impl_DistancesTo.f k l0 a1 a2 a3).bind fun t481 => ((impl_NextTo.f k l0 a1 a2 a3).bind fun t484 => (some (a3, t481, t484)))) = some (r1, r2, r3) := h
 clear h
 obtain ⟨t481, A5, H⟩ := bnd H
 obtain ⟨t484, A6, H⟩ := bnd H
 simp only [Option.some.injEq, Prod.mk.injEq] at H
 obtain ⟨rfl, rfl, rfl⟩ := H
 go_enter Try.func45, Try.ntmps45
 go_wp2_with (first | ((with_reducible refine gate_dst (N := 8) rfl ?_); refine bx 8 #[.int .i64 0, .slice none 0 0, .slice none 0 0] 63 ?_; intro gb480 hg w7 hbox hb; have GW480 := bz w hg; have GE480 := bz w hg; replace HB := bs hb; have BK480 := Aside0.mk hbox; clear hb hbox hg) | ((with_reducible refine gate_callee (f := 59) rfl ?_); refine gL (some 14) Try.func59 #[.slice A0 l0.length c0, .int .i64 a1, .int .i64 a2, .int .i64 a3] ?_; (with_reducible refine (impl_DistancesTo.calls k _ _ l0 a1 a2 a3 t481 _ ?side1 ?side2 A5.out).mono ?_); (case side1 => exact cb HR0); (case side2 => exact HC0.out); rintro e w8 ⟨v482, rfl, ho0, hb⟩; refine ⟨_, rfl, ?_⟩; have HO483 := Aside0.mk (Kd.R_lower ho0 (below_size (sbw))); replace BK480 := bb BK480 hb; replace HB := bsw hb; (try clear hb); (try clear hb2); (try clear hk); (try clear hi); (try clear ho0)) | ((with_reducible refine gate_callee (f := 60) rfl ?_); refine gL (some 19) Try.func60 #[.slice A0 l0.length c0, .int .i64 a1, .int .i64 a2, .int .i64 a3] ?_; (with_reducible refine (impl_NextTo.calls k _ _ l0 a1 a2 a3 t484 _ ?side1 ?side2 A6.out).mono ?_); (case side1 => exact cb HR0); (case side2 => exact HC0.out); rintro e w9 ⟨v485, rfl, ho0, hb⟩; refine ⟨_, rfl, ?_⟩; have HO486 := Aside0.mk (Kd.R_lower (Kd.R_new' ho0 (Kd.R_lt (sr HO483))) (below_size (sbw))); replace HO483 := Aside0.mk (Kd.R_elder' (sr HO483) (Kd.R_base ho0) hb); replace BK480 := bb BK480 hb; replace HB := bsw hb; (try clear hb); (try clear hb2); (try clear hk); (try clear hi); (try clear ho0); obtain ⟨Ao10, co10, eo10⟩ := Kd.R_slice HO486.out; subst eo10; obtain ⟨Ao11, co11, eo11⟩ := Kd.R_slice HO483.out; subst eo11; obtain ⟨hcz12_0, hcz12_1, hcz12_2, hfz12_0, hfz12_1, hfz12_2⟩ := cc3 BK480))
 refine bodyPost_ret (results_cell_row rfl _ _ gb480 63 #[.int .i64 a3, .slice Ao11 t481.length co11, .slice Ao10 t484.length co10] (0, 0) _ rfl (sp BK480) Try.underlying63 rfl (by kernel_rfl)) rfl ?_
 exact ⟨_, _, se, by (with_reducible repeat (first | apply Kd.R_alloc | apply Kd.R_drewN | apply Kd.R_drew)); exact Kd.R_mono (h3 HO483 BK480) (fun _ hk => hk.1.2), by (with_reducible repeat (first | apply Kd.R_alloc | apply Kd.R_drewN | apply Kd.R_drew)); exact Kd.R_mono (h3 HO486 BK480) (fun _ hk => hk.1.2), sbw⟩

/-! ### impl_tablesOf: function 25 -/
def impl_tablesOf.l0 : Nat → List (S60) → Int → Int → List (S63) → Int → Int → Option ((List (S63)))
  | 0, _, _, _, _, _, _ => none
  | k + 1, x0, x1, x2, x7, x10, x11 => if x11 < x10 then ((impl_TableOf.f k x0 x1 x2 x11).bind fun bt490 => (if x7.length < 2513169434916 then (impl_tablesOf.l0 k x0 x1 x2 (x7 ++ [(⟨bt490.1, bt490.2.1, bt490.2.2⟩ : S63)]) x10 (wrap64 (x11 + 1))) else (none))) else (some x7)
def impl_tablesOf.f (k : Nat) (l0 : List (S60)) (a1 : Int) (a2 : Int) : Option ((List (S63))) := impl_tablesOf.l0 k l0 a1 a2 (([] : List (S63))) a1 0
theorem impl_tablesOf.mono_l : ∀ k, (∀ y0 y1 y2 y3 y4 y5, LeO (impl_tablesOf.l0 k y0 y1 y2 y3 y4 y5) (impl_tablesOf.l0 (k + 1) y0 y1 y2 y3 y4 y5))
  | 0 => fun _ _ _ _ _ _ r h => by simp [impl_tablesOf.l0] at h
  | k + 1 => by
    have ih0 := impl_tablesOf.mono_l k
    · intro y0 y1 y2 y3 y4 y5
      unfold impl_tablesOf.l0
      have m0 := @impl_TableOf.mono
      exact mo
theorem impl_tablesOf.mono : ∀ a0 a1 a2 k, LeO (impl_tablesOf.f k a0 a1 a2) (impl_tablesOf.f (k + 1) a0 a1 a2) := by
  intro a0 a1 a2 k
  have ih0 := impl_tablesOf.mono_l k
  unfold impl_tablesOf.f
  have m0 := @impl_TableOf.mono
  exact mo
set_option maxHeartbeats 8000000 in
set_option maxRecDepth 100000 in
theorem impl_tablesOf.calls (k : Nat) (A0 : Option Addr) (c0 : Nat) (l0 : List (S60)) (a1 : Int) (a2 : Int) (r : List (S63)) (w : World) (hr0 : Kd.C k60 w A0 l0.length l0) (hc0 : l0.length ≤ c0) (h : impl_tablesOf.f k l0 a1 a2 = some r) :
    Calls Try.prog 25 #[.slice A0 l0.length c0, .int .i64 a1, .int .i64 a2] w fun e w' => ∃ v0_ : Value, e = .returned (v0_) ∧ Kd.S k63 63 w' w.heap.size (fun _ => True) v0_ r ∧ Below w.heap.size w w' := by
 have HR0 := Aside0.mk hr0
 have HC0 := Aside0.mk hc0
 clear hr0 hc0
 have HB := Aside0.mk (Below.refl w.heap.size w)
 have H : (impl_tablesOf.l0 k l0 a1 a2 (([] : List (S63))) a1 0) = some r := h
 clear h
 obtain ⟨y487, hy487⟩ : ∃ y_ : List (S63), y_ = (([] : List (S63))) := ⟨_, rfl⟩
 replace H : (impl_tablesOf.l0 k l0 a1 a2 y487 a1 0) = some r := by first | (rw [hy487]; with_reducible exact H) | (have H2_ := (Option.bind_some _ _).symm.trans H; rw [hy487]; with_reducible exact H2_) | (have H2_ := (Option.bind_some _ _).symm.trans H; with_reducible exact H2_) | with_reducible exact H | (rw [hy487]; exact H) | exact H
 have Ny487 := Aside0.mk hy487
 clear hy487
 have H' := Aside0.mk H
 clear H
 go_enter Try.func25, Try.ntmps25
 go_wp2_with (first | ((with_reducible refine gate_dst (N := 9) rfl ?_); refine Kd.S_lit k63 _ 63 ?hg (N := 9) ?hd (xs := ([] : List (S63))) (inner := []) (ok := fun _ => True) (okp := fun _ => True) ?hr ?hp (fun _ hk => hk) trivial (Below.refl _ _) (Nat.le_refl _) (by simp) ?_; (case hd => rfl); (case hg => rfl); (case hr => first | (go_simp; done) | (go_simp; rfl)); (case hp => exact (Reps.none _ _)); intro v488 w4 ho5 hb hg_ hnew_; clear hg_ hnew_; (first | rw [← Ny487.out] at ho5 | (simp only [Int.reduceToNat] at ho5; rw [← Ny487.out] at ho5)); have HO489 := Aside0.mk (Kd.S_lower ho5 (below_size (sb))); replace HB := bs hb; clear hb ho5))
 go_loopg [7, 11] k (fun kq v7 v11 w' => ∃ (x7_1 : List (S63)) (x11_1 : Int), v11 = .int .i64 x11_1 ∧ Aside0 (impl_tablesOf.l0 kq l0 a1 a2 x7_1 a1 x11_1 = some r) ∧ Aside0 (kq ≤ k) ∧ Aside0 (Kd.S k63 63 w' w.heap.size (fun _ => True) v7 x7_1) ∧ Aside0 (Below w.heap.size w w'))
 case atStart => exact ⟨(y487), (0), sc, H', kk0, ⟨ss HO489⟩, ⟨sb⟩⟩
 case round =>
  clear H'
  obtain ⟨x7_1, x11_1, rfl, HA, HK1, HO_7, HB⟩ := hrel
  cases gk with
  | zero => exact absurd HA.out (by simp [impl_tablesOf.l0])
  | succ k1 =>
   have H := HA.out
   clear HA
   simp only [impl_tablesOf.l0] at H
   obtain ⟨c6, H⟩ | ⟨c6, H⟩ := ie_ H
   ·have c6b0 := decide_eq_true c6
    clear c6
    obtain ⟨⟨t490, t491, t494⟩, A7, H⟩ := bnd H
    replace H : (if x7_1.length < 2513169434916 then (impl_tablesOf.l0 k1 l0 a1 a2 (x7_1 ++ [(⟨t490, t491, t494⟩ : S63)]) a1 (wrap64 (x11_1 + 1))) else (none)) = some r := H
    obtain ⟨LMc8, H⟩ := il_ H
    obtain ⟨y497, hy497⟩ : ∃ y_ : List (S63), y_ = (x7_1 ++ [(⟨t490, t491, t494⟩ : S63)]) := ⟨_, rfl⟩
    replace H : (impl_tablesOf.l0 k1 l0 a1 a2 y497 a1 (wrap64 (x11_1 + 1))) = some r := by first | (rw [hy497]; with_reducible exact H) | (have H2_ := (Option.bind_some _ _).symm.trans H; rw [hy497]; with_reducible exact H2_) | (have H2_ := (Option.bind_some _ _).symm.trans H; with_reducible exact H2_) | with_reducible exact H | (rw [hy497]; exact H) | exact H
    have Ny497 := Aside0.mk hy497
    clear hy497
    have H' := Aside0.mk H
    clear H
    go_wp2_with (first | ((with_reducible refine gate_callee (f := 45) rfl ?_); refine gL (some 19) Try.func45 #[.slice A0 l0.length c0, .int .i64 a1, .int .i64 a2, .int .i64 x11_1] ?_; (with_reducible refine (impl_TableOf.calls k1 _ _ l0 a1 a2 x11_1 t490 t491 t494 _ ?side1 ?side2 A7.out).mono ?_); (case side1 => exact cb HR0); (case side2 => exact HC0.out); rintro e w9 ⟨v492, v495, rfl, ho0, ho1, hb⟩; refine ⟨_, rfl, ?_⟩; replace HO_7 := Aside0.mk (Kd.S_mono (Kd.S_told (Kd.S_told (Kd.S_old (ss HO_7) hb) (Kd.R_base ho0)) (Kd.R_base ho1)) (fun _ h_ => h_.1)); have HO493 := Aside0.mk (Kd.R_lower ho0 (below_size (sb))); have HO496 := Aside0.mk (Kd.R_lower ho1 (below_size (sb))); replace HB := bs hb; (try clear hb); (try clear hb2); (try clear hk); (try clear hi); (try clear ho0); (try clear ho1); obtain ⟨Ao11, co11, eo11⟩ := Kd.R_slice HO493.out; subst eo11; obtain ⟨Ao12, co12, eo12⟩ := Kd.R_slice HO496.out; subst eo12) | ((with_reducible refine gate_builtin (b := .append) (xs := #[.tmp 14, .tmp 20]) rfl ?_); at_builtin; refine Kd.S_append k63 (w0 := w) w.heap.size rfl (.tmp 14) (.tmp 20) 44 63 (.agg #[(.int .i64 0), (.slice none 0 0), (.slice none 0 0)]) 56 rfl Try.underlying44 info63 rfl (by decide) (by omega) u7 x7_1 (⟨t490, t491, t494⟩ : S63) [.int .i64 t490, .slice Ao11 t491.length co11, .slice Ao12 t494.length co12] (fun _ => True) (fun k_ => some k_ = (.slice Ao11 t491.length co11 : Value).ownBlock ∨ some k_ = (.slice Ao12 t494.length co12 : Value).ownBlock) rfl rfl ?aP (fun k_ hk_ => hk_.elim (fun h_ => ((Kd.R_mono (ok' := fun k_ => ((fun _ => True)) k_ ∧ some k_ ≠ (u7 : Value).ownBlock) (Kd.R_apart' (HO493.out) (Kd.S_typed HO_7.out) (by decide)) (fun k_ hk => ⟨trivial, hk.2⟩))).1 k_ h_.symm) (fun h_ => ((Kd.R_mono (ok' := fun k_ => ((fun _ => True)) k_ ∧ some k_ ≠ (u7 : Value).ownBlock) (Kd.R_apart' (HO496.out) (Kd.S_typed HO_7.out) (by decide)) (fun k_ hk => ⟨trivial, hk.2⟩))).1 k_ h_.symm)) ?aF ?aO ?aB ?aS ?aL ?_; (case aP => exact k63_mkM _ _ _ (⟨t490, t491, t494⟩ : S63) (Kd.R_mono (Kd.R_tight rfl (Kd.R_mono (ok' := fun k_ => ((fun _ => True)) k_ ∧ some k_ ≠ (u7 : Value).ownBlock) (Kd.R_apart' (HO493.out) (Kd.S_typed HO_7.out) (by decide)) (fun k_ hk => ⟨trivial, hk.2⟩))) (fun _ h_ => Or.inl h_)) (Kd.R_mono (Kd.R_tight rfl (Kd.R_mono (ok' := fun k_ => ((fun _ => True)) k_ ∧ some k_ ≠ (u7 : Value).ownBlock) (Kd.R_apart' (HO496.out) (Kd.S_typed HO_7.out) (by decide)) (fun k_ hk => ⟨trivial, hk.2⟩))) (fun _ h_ => Or.inr (h_))) HO496.out.1); (case aB => exact (sb)); (case aF => exact (fun _ _ => trivial)); (case aO => exact (by (with_reducible repeat (first | apply Kd.S_alloc | apply Kd.S_drewN | apply Kd.S_drew)); exact Kd.S_mono HO_7.out (fun k_ hk => ⟨trivial, fun e_ => e_.elim (fun h_ => hk.1.2 h_) (fun h_ => hk.2 h_)⟩))); (case aS => exact (below_size (sb))); (case aL => have := LMc8.out; omega); intro v498 w10 ho hb hg hat; rw [← Ny497.out] at ho; replace HB := Aside0.mk hb; have HO499 := Aside0.mk ho; clear HO_7 HO493 HO496; clear ho hb hg hat))
    go_roundg k1
    case measure => have := HK1.out; omega
    case rel => exact ⟨(y497), (wrap64 (x11_1 + 1)), sc, H', kk1, ⟨ss HO499⟩, ⟨sb⟩⟩
   ·have c6b0 := decide_eq_false c6
    clear c6
    obtain rfl := Option.some.inj H
    go_wp2
    go_ret
    exact ⟨_, se, ss HO_7, sb⟩

end Go.Proofs.Ytcjlbgbenjmkgaa.QFnExactBuildProgram
