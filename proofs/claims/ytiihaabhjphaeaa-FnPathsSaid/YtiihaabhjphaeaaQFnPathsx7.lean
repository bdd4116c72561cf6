/- What the Go functions of the law FnPaths come to, as Lean functions, and that they do: by a program of the session, out of the kit's printer. Conditions: none. (squeezed). -/
import Derived.Test.YtiihaabhjphaeaaSq
import Derived.Test.YtiihaabhjphaeaaQFnPathsx0
import Derived.Test.YtiihaabhjphaeaaQFnPathsx1
import Derived.Test.YtiihaabhjphaeaaQFnPathsx3
import Derived.Test.YtiihaabhjphaeaaQFnPathsx4
namespace Go.Proofs.Ytiihaabhjphaeaa.QFnPaths
open Go.RowKit Go.Proofs.YtiihaabhjphaeaaW.PrintWords Go.Proofs.YtiihaabhjphaeaaW.PrintLast Go.Proofs.YtiihaabhjphaeaaW.PrintMore Go.Proofs.Ytiihaabhjphaeaa.Open Go.Proofs.Ytiihaabhjphaeaa.Sq
attribute [local go_sem] max2_int min2_int max_two min_two max_three min_three max_four min_four   -- for this text's walks alone
attribute [local go_sem] isSome_set
set_option linter.unusedVariables false
set_option linter.unusedSimpArgs false

/-! ### impl_NextTo: function 57 -/
mutual
def impl_NextTo.l0 : Nat → List (S134) → Int → Int → Int → List Int → List Int → List Int → Int → Int → Option (List Int)
  | 0, _, _, _, _, _, _, _, _, _ => none
  | k + 1, x0, x1, x2, x3, x9, x10, x22, x23, x24 => if x24 < x23 then (if 0 ≤ x24 then (if x24 < (x22.length : Int) then ((impl_NeighborsIn.f k x0 x24).bind fun t344 => (impl_NextTo.l1 k x0 x1 x2 x3 x9 x10 (rd x22 x24) (-1) x22 x23 x24 t344 (t344.length : Int) 0)) else (none)) else (none)) else (some x9)
def impl_NextTo.l1 : Nat → List (S134) → Int → Int → Int → List Int → List Int → Int → Int → List Int → Int → Int → List Int → Int → Int → Option (List Int)
  | 0, _, _, _, _, _, _, _, _, _, _, _, _, _, _ => none
  | k + 1, x0, x1, x2, x3, x9, x10, x12, x13, x22, x23, x24, x31, x32, x33 => if x33 < x32 then (if 0 ≤ x33 then (if x33 < (x31.length : Int) then (if x13 < 0 then (if x12 > 0 then ((impl_isIndex.f (rd x31 x33) x1).bind fun t348 => (if t348 = true then (if (rd x31 x33) < x2 then (if 0 ≤ (rd x31 x33) then (if (rd x31 x33) < (x10.length : Int) then (if (rd x10 (rd x31 x33)) = (wrap64 (x12 - 1)) then (impl_NextTo.l1 k x0 x1 x2 x3 x9 x10 x12 (rd x31 x33) x22 x23 x24 x31 x32 (wrap64 (x33 + 1))) else (impl_NextTo.l1 k x0 x1 x2 x3 x9 x10 x12 x13 x22 x23 x24 x31 x32 (wrap64 (x33 + 1)))) else (none)) else (none)) else (if (rd x31 x33) = x3 then (if 0 ≤ (rd x31 x33) then (if (rd x31 x33) < (x10.length : Int) then (if (rd x10 (rd x31 x33)) = (wrap64 (x12 - 1)) then (impl_NextTo.l1 k x0 x1 x2 x3 x9 x10 x12 (rd x31 x33) x22 x23 x24 x31 x32 (wrap64 (x33 + 1))) else (impl_NextTo.l1 k x0 x1 x2 x3 x9 x10 x12 x13 x22 x23 x24 x31 x32 (wrap64 (x33 + 1)))) else (none)) else (none)) else (impl_NextTo.l1 k x0 x1 x2 x3 x9 x10 x12 x13 x22 x23 x24 x31 x32 (wrap64 (x33 + 1))))) else (impl_NextTo.l1 k x0 x1 x2 x3 x9 x10 x12 x13 x22 x23 x24 x31 x32 (wrap64 (x33 + 1))))) else (impl_NextTo.l1 k x0 x1 x2 x3 x9 x10 x12 x13 x22 x23 x24 x31 x32 (wrap64 (x33 + 1)))) else (impl_NextTo.l1 k x0 x1 x2 x3 x9 x10 x12 x13 x22 x23 x24 x31 x32 (wrap64 (x33 + 1)))) else (none)) else (none)) else (if x9.length < 17592186044416 then (impl_NextTo.l0 k x0 x1 x2 x3 (x9 ++ [x13]) x10 x22 x23 (wrap64 (x24 + 1))) else (none))
end
def impl_NextTo.f (k : Nat) (l0 : List (S134)) (a1 : Int) (a2 : Int) (a3 : Int) : Option (List Int) := (impl_DistancesTo.f k l0 a1 a2 a3).bind fun t340 => (impl_NextTo.l0 k l0 a1 a2 a3 (([] : List Int)) t340 t340 (t340.length : Int) 0)
theorem impl_NextTo.mono_l : ∀ k, (∀ y0 y1 y2 y3 y4 y5 y6 y7 y8, LeO (impl_NextTo.l0 k y0 y1 y2 y3 y4 y5 y6 y7 y8) (impl_NextTo.l0 (k + 1) y0 y1 y2 y3 y4 y5 y6 y7 y8)) ∧ (∀ y0 y1 y2 y3 y4 y5 y6 y7 y8 y9 y10 y11 y12 y13, LeO (impl_NextTo.l1 k y0 y1 y2 y3 y4 y5 y6 y7 y8 y9 y10 y11 y12 y13) (impl_NextTo.l1 (k + 1) y0 y1 y2 y3 y4 y5 y6 y7 y8 y9 y10 y11 y12 y13))
  | 0 => ⟨fun _ _ _ _ _ _ _ _ _ r h => by simp [impl_NextTo.l0] at h, fun _ _ _ _ _ _ _ _ _ _ _ _ _ _ r h => by simp [impl_NextTo.l1] at h⟩
  | k + 1 => by
    obtain ⟨ih0, ih1⟩ := impl_NextTo.mono_l k
    refine ⟨?_, ?_⟩
    · intro y0 y1 y2 y3 y4 y5 y6 y7 y8
      unfold impl_NextTo.l0
      have m0 := @impl_DistancesTo.mono
      have m1 := @impl_NeighborsIn.mono
      exact mo
    · intro y0 y1 y2 y3 y4 y5 y6 y7 y8 y9 y10 y11 y12 y13
      unfold impl_NextTo.l1
      have m0 := @impl_DistancesTo.mono
      have m1 := @impl_NeighborsIn.mono
      exact mo
theorem impl_NextTo.mono : ∀ a0 a1 a2 a3 k, LeO (impl_NextTo.f k a0 a1 a2 a3) (impl_NextTo.f (k + 1) a0 a1 a2 a3) := by
  intro a0 a1 a2 a3 k
  obtain ⟨ih0, ih1⟩ := impl_NextTo.mono_l k
  unfold impl_NextTo.f
  have m0 := @impl_DistancesTo.mono
  have m1 := @impl_NeighborsIn.mono
  exact mo
set_option maxHeartbeats 8000000 in
set_option maxRecDepth 100000 in
theorem impl_NextTo.calls (k : Nat) (A0 : Option Addr) (c0 : Nat) (l0 : List (S134)) (a1 : Int) (a2 : Int) (a3 : Int) (r : List Int) (w : World) (hr0 : Kd.C k134 w A0 l0.length l0) (hc0 : l0.length ≤ c0) (h : impl_NextTo.f k l0 a1 a2 a3 = some r) :
    Calls Try.prog 57 #[.slice A0 l0.length c0, .int .i64 a1, .int .i64 a2, .int .i64 a3] w fun e w' => ∃ v0_ : Value, e = .returned (v0_) ∧ Kd.R (Kd.int .i64) 3 w' w.heap.size (fun _ => True) v0_ r ∧ Below w.heap.size w w' := by
 have HR0 := Aside0.mk hr0
 have HC0 := Aside0.mk hc0
 clear hr0 hc0
 have HB := Aside0.mk (Below.refl w.heap.size w)
 have H : ((impl_DistancesTo.f k l0 a1 a2 a3).bind fun t340 => (impl_NextTo.l0 k l0 a1 a2 a3 (([] : List Int)) t340 t340 (t340.length : Int) 0)) = some r := h
 clear h
 obtain ⟨y337, hy337⟩ : ∃ y_ : List Int, y_ = (([] : List Int)) := ⟨_, rfl⟩
 replace H : ((impl_DistancesTo.f k l0 a1 a2 a3).bind fun t340 => (impl_NextTo.l0 k l0 a1 a2 a3 y337 t340 t340 (t340.length : Int) 0)) = some r := by first | (rw [hy337]; with_reducible exact H) | (have H2_ := (Option.bind_some _ _).symm.trans H; rw [hy337]; with_reducible exact H2_) | (have H2_ := (Option.bind_some _ _).symm.trans H; with_reducible exact H2_) | with_reducible exact H | (rw [hy337]; exact H) | exact H
 have Ny337 := Aside0.mk hy337
 clear hy337
 obtain ⟨t340, A5, H⟩ := bnd H
 have H' := Aside0.mk H
 clear H
 go_enter Try.func57, Try.ntmps57
 go_wp2_with (first | ((with_reducible refine gate_dst (N := 16) rfl ?_); refine Kd.R_lit (Kd.int .i64) _ 3 ?hg (N := 16) ?hd (xs := ([] : List Int)) (inner := []) (ok := fun _ => True) (okp := fun _ => True) ?hr ?hp (fun _ hk => hk) trivial (Below.refl _ _) (Nat.le_refl _) (by simp) ?_; (case hd => rfl); (case hg => rfl); (case hr => first | (go_simp; done) | (go_simp; rfl)); (case hp => exact (Reps.none _ _)); intro v338 w6 ho7 hb hg_ hnew_; clear hg_ hnew_; (first | rw [← Ny337.out] at ho7 | (simp only [Int.reduceToNat] at ho7; rw [← Ny337.out] at ho7)); have HO339 := Aside0.mk (Kd.R_lower ho7 (below_size (sb))); replace HB := bs hb; clear hb ho7) | ((with_reducible refine gate_callee (f := 55) rfl ?_); refine gL (some 21) Try.func55 #[.slice A0 l0.length c0, .int .i64 a1, .int .i64 a2, .int .i64 a3] ?_; (with_reducible refine (impl_DistancesTo.calls k _ _ l0 a1 a2 a3 t340 _ ?side1 ?side2 A5.out).mono ?_); (case side1 => exact cb HR0); (case side2 => exact HC0.out); rintro e w8 ⟨v341, rfl, ho0, hb⟩; refine ⟨_, rfl, ?_⟩; have HO342 := Aside0.mk (Kd.R_lower (Kd.R_new' ho0 (Kd.R_lt (sr HO339))) (below_size (sb))); replace HO339 := Aside0.mk (Kd.R_elder' (sr HO339) (Kd.R_base ho0) hb); replace HB := bs hb; (try clear hb); (try clear hb2); (try clear hk); (try clear hi); (try clear ho0); obtain ⟨Ao9, co9, eo9⟩ := Kd.R_slice HO342.out; subst eo9))
 go_loopg [9, 24] k (fun kq v9 v24 w' => ∃ (x9_1 : List Int) (x24_1 : Int), v24 = .int .i64 x24_1 ∧ Aside0 (impl_NextTo.l0 kq l0 a1 a2 a3 x9_1 t340 t340 (t340.length : Int) x24_1 = some r) ∧ Aside0 (kq ≤ k) ∧ Aside0 (Kd.R (Kd.int .i64) 3 w' w.heap.size (fun k_ => some k_ ≠ ((.slice Ao9 t340.length co9) : Value).ownBlock ∧ some k_ ≠ ((.slice Ao9 t340.length co9) : Value).ownBlock) v9 x9_1) ∧ Aside0 (Kd.R (Kd.int .i64) 3 w' w.heap.size (fun k_ => some k_ ≠ (v9 : Value).ownBlock) (.slice Ao9 t340.length co9) t340) ∧ Aside0 (Kd.R (Kd.int .i64) 3 w' w.heap.size (fun k_ => some k_ ≠ (v9 : Value).ownBlock) (.slice Ao9 t340.length co9) t340) ∧ Aside0 (Below w.heap.size w w'))
 case atStart => exact ⟨(y337), (0), sc, H', kk0, ⟨by (with_reducible repeat (first | apply Kd.R_alloc | apply Kd.R_drewN | apply Kd.R_drew)); exact Kd.R_mono HO339.out (fun _ hk => ⟨hk.2, hk.2⟩)⟩, ⟨by (with_reducible repeat (first | apply Kd.R_alloc | apply Kd.R_drewN | apply Kd.R_drew)); exact Kd.R_mono HO342.out (fun _ hk => hk.2)⟩, ⟨by (with_reducible repeat (first | apply Kd.R_alloc | apply Kd.R_drewN | apply Kd.R_drew)); exact Kd.R_mono HO342.out (fun _ hk => hk.2)⟩, ⟨sb⟩⟩
 case round =>
  clear H'
  obtain ⟨x9_1, x24_1, rfl, HA, HK1, HO_9, HO_10, HO_22, HB⟩ := hrel
  cases gk with
  | zero => exact absurd HA.out (by simp [impl_NextTo.l0])
  | succ k1 =>
   have H := HA.out
   clear HA
   simp only [impl_NextTo.l0] at H
   obtain ⟨c10, H⟩ | ⟨c10, H⟩ := ie_ H
   ·have c10b0 := decide_eq_true c10
    clear c10
    obtain ⟨c11b0, H⟩ := id_ H
    obtain ⟨c12b0, H⟩ := id_ H
    obtain ⟨t344, A13, H⟩ := bnd H
    have H' := Aside0.mk H
    clear H
    have p343 : 0 ≤ (x24_1 : Int) := sa
    have q343 : x24_1 < (t340.length : Int) := sa
    obtain ⟨ad343, e343, hx343_0⟩ := Kd.at_int (Kd.R_reads' HO_22.out).2.2 x24_1 p343 q343
    cases e343
    replace p343 := eq_true p343
    replace q343 := eq_true q343
    go_wp2_with (first | ((with_reducible refine gate_callee (f := 60) rfl ?_); refine gL (some 31) Try.func60 #[.slice A0 l0.length c0, .int .i64 x24_1] ?_; (with_reducible refine (impl_NeighborsIn.calls k1 _ _ l0 x24_1 t344 _ ?side1 ?side2 A13.out).mono ?_); (case side1 => exact cb HR0); (case side2 => exact HC0.out); rintro e w14 ⟨v345, rfl, ho0, hb⟩; refine ⟨_, rfl, ?_⟩; have HO346 := Aside0.mk (Kd.R_lower (Kd.R_new' (Kd.R_new' (Kd.R_new' ho0 (Kd.R_lt (sr HO_9))) (Kd.R_lt (sr HO_10))) (Kd.R_lt (sr HO_22))) (below_size (sb))); replace HO_9 := Aside0.mk (Kd.R_elder' (sr HO_9) (Kd.R_base ho0) hb); replace HO_10 := Aside0.mk (Kd.R_elder' (sr HO_10) (Kd.R_base ho0) hb); replace HO_22 := Aside0.mk (Kd.R_elder' (sr HO_22) (Kd.R_base ho0) hb); replace HB := bs hb; (try clear hb); (try clear hb2); (try clear hk); (try clear hi); (try clear ho0); obtain ⟨Ao15, co15, eo15⟩ := Kd.R_slice HO346.out; subst eo15))
    go_loopg [13, 33] k1 (fun kq v13 v33 w' => ∃ (x13_2 : Int) (x33_2 : Int), v13 = .int .i64 x13_2 ∧ v33 = .int .i64 x33_2 ∧ Aside0 (impl_NextTo.l1 kq l0 a1 a2 a3 x9_1 t340 (rd t340 x24_1) x13_2 t340 (t340.length : Int) x24_1 t344 (t344.length : Int) x33_2 = some r) ∧ Aside0 (kq ≤ k1) ∧ Aside0 (Kd.R (Kd.int .i64) 3 w' w.heap.size (fun k_ => some k_ ≠ ((.slice (some ad343) t340.length co9) : Value).ownBlock ∧ some k_ ≠ ((.slice (some ad343) t340.length co9) : Value).ownBlock ∧ some k_ ≠ ((.slice Ao15 t344.length co15) : Value).ownBlock) u9 x9_1) ∧ Aside0 (Kd.R (Kd.int .i64) 3 w' w.heap.size (fun k_ => some k_ ≠ (u9 : Value).ownBlock ∧ some k_ ≠ ((.slice Ao15 t344.length co15) : Value).ownBlock) (.slice (some ad343) t340.length co9) t340) ∧ Aside0 (Kd.R (Kd.int .i64) 3 w' w.heap.size (fun k_ => some k_ ≠ (u9 : Value).ownBlock ∧ some k_ ≠ ((.slice Ao15 t344.length co15) : Value).ownBlock) (.slice (some ad343) t340.length co9) t340) ∧ Aside0 (Kd.R (Kd.int .i64) 3 w' w.heap.size (fun k_ => some k_ ≠ (u9 : Value).ownBlock ∧ some k_ ≠ ((.slice (some ad343) t340.length co9) : Value).ownBlock ∧ some k_ ≠ ((.slice (some ad343) t340.length co9) : Value).ownBlock) (.slice Ao15 t344.length co15) t344) ∧ Aside0 (Below w.heap.size w w'))
    case atStart => exact ⟨((-1)), (0), sc, sc, H', kk0, ⟨by (with_reducible repeat (first | apply Kd.R_alloc | apply Kd.R_drewN | apply Kd.R_drew)); exact Kd.R_mono HO_9.out (fun _ hk => ⟨hk.1.1, ⟨hk.1.2, hk.2⟩⟩)⟩, ⟨sr HO_10⟩, ⟨sr HO_22⟩, ⟨by (with_reducible repeat (first | apply Kd.R_alloc | apply Kd.R_drewN | apply Kd.R_drew)); exact Kd.R_mono HO346.out (fun _ hk => ⟨hk.1.1.2, ⟨hk.1.2, hk.2⟩⟩)⟩, ⟨sb⟩⟩
    case round =>
     clear H'
     try clear c10
     try clear c10b0
     try clear c11b0
     try clear c12b0
     try clear hx343_0
     try clear p343
     try clear q343
     obtain ⟨x13_2, x33_2, rfl, rfl, HA, HK2, HO_9, HO_10, HO_22, HO_31, HB⟩ := hrel
     cases gk with
     | zero => exact absurd HA.out (by simp [impl_NextTo.l1])
     | succ k2 =>
      have H := HA.out
      clear HA
      simp only [impl_NextTo.l1] at H
      obtain ⟨c16, H⟩ | ⟨c16, H⟩ := ie_ H
      ·have c16b0 := decide_eq_true c16
       clear c16
       obtain ⟨c17b0, H⟩ := id_ H
       obtain ⟨c18b0, H⟩ := id_ H
       obtain ⟨c19, H⟩ | ⟨c19, H⟩ := ie_ H
       ·have c19b0 := decide_eq_true c19
        clear c19
        obtain ⟨c20, H⟩ | ⟨c20, H⟩ := ie_ H
        ·have c20b0 := decide_eq_true c20
         clear c20
         obtain ⟨t348, A21, H⟩ := bnd H
         obtain rfl | rfl := tt t348
         ·replace H := ip H
          obtain ⟨c23, H⟩ | ⟨c23, H⟩ := ie_ H
          ·have c23b0 := decide_eq_true c23
           clear c23
           obtain ⟨c24b0, H⟩ := id_ H
           obtain ⟨c25b0, H⟩ := id_ H
           obtain ⟨c26, H⟩ | ⟨c26, H⟩ := ie_ H
           ·have c26b0 : ((rd t340 (rd t344 x33_2)) == (wrap64 ((rd t340 x24_1) - 1))) = true := beq_iff_eq.mpr c26
            have c26b1 : ((rd t340 (rd t344 x33_2)) != (wrap64 ((rd t340 x24_1) - 1))) = false := bne_eq_false_iff_eq.mpr c26
            clear c26
            have H' := Aside0.mk H
            clear H
            have p347 : 0 ≤ (x33_2 : Int) := sa
            have q347 : x33_2 < (t344.length : Int) := sa
            obtain ⟨ad347, e347, hx347_0⟩ := Kd.at_int (Kd.R_reads' HO_31.out).2.2 x33_2 p347 q347
            cases e347
            replace p347 := eq_true p347
            replace q347 := eq_true q347
            go_wp2_with (first | (go_at_call 77; (with_reducible refine (impl_isIndex.calls (rd t344 x33_2) a1 true _ A21.out).mono ?_); rintro e w' ⟨rfl, ⟨nd, rfl⟩⟩; have p349 : 0 ≤ ((rd t344 x33_2) : Int) := sa; have q349 : (rd t344 x33_2) < (t340.length : Int) := sa; obtain ⟨ad349, e349, hx349_0⟩ := Kd.at_int (Kd.R_reads' HO_10.out).2.2 (rd t344 x33_2) p349 q349; obtain rfl : ad343 = ad349 := (by injection e349); replace p349 := eq_true p349; replace q349 := eq_true q349))
            go_roundg k2
            case measure => have := HK1.out; have := HK2.out; omega
            case rel => exact ⟨(rd t344 x33_2), (wrap64 (x33_2 + 1)), sc, sc, H', kk2, ⟨sr HO_9⟩, ⟨sr HO_10⟩, ⟨sr HO_22⟩, ⟨sr HO_31⟩, ⟨sb⟩⟩
           ·have c26b0 : ((rd t340 (rd t344 x33_2)) == (wrap64 ((rd t340 x24_1) - 1))) = false := beq_eq_false_iff_ne.mpr c26
            have c26b1 : ((rd t340 (rd t344 x33_2)) != (wrap64 ((rd t340 x24_1) - 1))) = true := bne_iff_ne.mpr c26
            have H' := Aside0.mk H
            clear H
            have p347 : 0 ≤ (x33_2 : Int) := sa
            have q347 : x33_2 < (t344.length : Int) := sa
            obtain ⟨ad347, e347, hx347_0⟩ := Kd.at_int (Kd.R_reads' HO_31.out).2.2 x33_2 p347 q347
            cases e347
            replace p347 := eq_true p347
            replace q347 := eq_true q347
            go_wp2_with (first | (go_at_call 77; (with_reducible refine (impl_isIndex.calls (rd t344 x33_2) a1 true _ A21.out).mono ?_); rintro e w' ⟨rfl, ⟨nd, rfl⟩⟩; have p349 : 0 ≤ ((rd t344 x33_2) : Int) := sa; have q349 : (rd t344 x33_2) < (t340.length : Int) := sa; obtain ⟨ad349, e349, hx349_0⟩ := Kd.at_int (Kd.R_reads' HO_10.out).2.2 (rd t344 x33_2) p349 q349; obtain rfl : ad343 = ad349 := (by injection e349); replace p349 := eq_true p349; replace q349 := eq_true q349))
            go_roundg k2
            case measure => have := HK1.out; have := HK2.out; omega
            case rel => exact ⟨(x13_2), (wrap64 (x33_2 + 1)), sc, sc, H', kk2, ⟨sr HO_9⟩, ⟨sr HO_10⟩, ⟨sr HO_22⟩, ⟨sr HO_31⟩, ⟨sb⟩⟩
          ·have c23b0 := decide_eq_false c23
           clear c23
           obtain ⟨c27, H⟩ | ⟨c27, H⟩ := ie_ H
           ·have c27b0 : ((rd t344 x33_2) == a3) = true := beq_iff_eq.mpr c27
            have c27b1 : ((rd t344 x33_2) != a3) = false := bne_eq_false_iff_eq.mpr c27
            clear c27
            obtain ⟨c28b0, H⟩ := id_ H
            obtain ⟨c29b0, H⟩ := id_ H
            obtain ⟨c30, H⟩ | ⟨c30, H⟩ := ie_ H
            ·have c30b0 : ((rd t340 (rd t344 x33_2)) == (wrap64 ((rd t340 x24_1) - 1))) = true := beq_iff_eq.mpr c30
             have c30b1 : ((rd t340 (rd t344 x33_2)) != (wrap64 ((rd t340 x24_1) - 1))) = false := bne_eq_false_iff_eq.mpr c30
             clear c30
             have H' := Aside0.mk H
             clear H
             have p347 : 0 ≤ (x33_2 : Int) := sa
             have q347 : x33_2 < (t344.length : Int) := sa
             obtain ⟨ad347, e347, hx347_0⟩ := Kd.at_int (Kd.R_reads' HO_31.out).2.2 x33_2 p347 q347
             cases e347
             replace p347 := eq_true p347
             replace q347 := eq_true q347
             go_wp2_with (first | (go_at_call 77; (with_reducible refine (impl_isIndex.calls (rd t344 x33_2) a1 true _ A21.out).mono ?_); rintro e w' ⟨rfl, ⟨nd, rfl⟩⟩; have p350 : 0 ≤ ((rd t344 x33_2) : Int) := sa; have q350 : (rd t344 x33_2) < (t340.length : Int) := sa; obtain ⟨ad350, e350, hx350_0⟩ := Kd.at_int (Kd.R_reads' HO_10.out).2.2 (rd t344 x33_2) p350 q350; obtain rfl : ad343 = ad350 := (by injection e350); replace p350 := eq_true p350; replace q350 := eq_true q350))
             go_roundg k2
             case measure => have := HK1.out; have := HK2.out; omega
             case rel => exact ⟨(rd t344 x33_2), (wrap64 (x33_2 + 1)), sc, sc, H', kk2, ⟨sr HO_9⟩, ⟨sr HO_10⟩, ⟨sr HO_22⟩, ⟨sr HO_31⟩, ⟨sb⟩⟩
            ·have c30b0 : ((rd t340 (rd t344 x33_2)) == (wrap64 ((rd t340 x24_1) - 1))) = false := beq_eq_false_iff_ne.mpr c30
             have c30b1 : ((rd t340 (rd t344 x33_2)) != (wrap64 ((rd t340 x24_1) - 1))) = true := bne_iff_ne.mpr c30
             have H' := Aside0.mk H
             clear H
             have p347 : 0 ≤ (x33_2 : Int) := sa
             have q347 : x33_2 < (t344.length : Int) := sa
             obtain ⟨ad347, e347, hx347_0⟩ := Kd.at_int (Kd.R_reads' HO_31.out).2.2 x33_2 p347 q347
             cases e347
             replace p347 := eq_true p347
             replace q347 := eq_true q347
             go_wp2_with (first | (go_at_call 77; (with_reducible refine (impl_isIndex.calls (rd t344 x33_2) a1 true _ A21.out).mono ?_); rintro e w' ⟨rfl, ⟨nd, rfl⟩⟩; have p350 : 0 ≤ ((rd t344 x33_2) : Int) := sa; have q350 : (rd t344 x33_2) < (t340.length : Int) := sa; obtain ⟨ad350, e350, hx350_0⟩ := Kd.at_int (Kd.R_reads' HO_10.out).2.2 (rd t344 x33_2) p350 q350; obtain rfl : ad343 = ad350 := (by injection e350); replace p350 := eq_true p350; replace q350 := eq_true q350))
             go_roundg k2
             case measure => have := HK1.out; have := HK2.out; omega
             case rel => exact ⟨(x13_2), (wrap64 (x33_2 + 1)), sc, sc, H', kk2, ⟨sr HO_9⟩, ⟨sr HO_10⟩, ⟨sr HO_22⟩, ⟨sr HO_31⟩, ⟨sb⟩⟩
           ·have c27b0 : ((rd t344 x33_2) == a3) = false := beq_eq_false_iff_ne.mpr c27
            have c27b1 : ((rd t344 x33_2) != a3) = true := bne_iff_ne.mpr c27
            have H' := Aside0.mk H
            clear H
            have p347 : 0 ≤ (x33_2 : Int) := sa
            have q347 : x33_2 < (t344.length : Int) := sa
            obtain ⟨ad347, e347, hx347_0⟩ := Kd.at_int (Kd.R_reads' HO_31.out).2.2 x33_2 p347 q347
            cases e347
            replace p347 := eq_true p347
            replace q347 := eq_true q347
            go_wp2_with (first | (go_at_call 77; (with_reducible refine (impl_isIndex.calls (rd t344 x33_2) a1 true _ A21.out).mono ?_); rintro e w' ⟨rfl, ⟨nd, rfl⟩⟩))
            go_roundg k2
            case measure => have := HK1.out; have := HK2.out; omega
            case rel => exact ⟨(x13_2), (wrap64 (x33_2 + 1)), sc, sc, H', kk2, ⟨sr HO_9⟩, ⟨sr HO_10⟩, ⟨sr HO_22⟩, ⟨sr HO_31⟩, ⟨sb⟩⟩
         ·replace H := im H
          have H' := Aside0.mk H
          clear H
          have p347 : 0 ≤ (x33_2 : Int) := sa
          have q347 : x33_2 < (t344.length : Int) := sa
          obtain ⟨ad347, e347, hx347_0⟩ := Kd.at_int (Kd.R_reads' HO_31.out).2.2 x33_2 p347 q347
          cases e347
          replace p347 := eq_true p347
          replace q347 := eq_true q347
          go_wp2_with (first | (go_at_call 77; (with_reducible refine (impl_isIndex.calls (rd t344 x33_2) a1 false _ A21.out).mono ?_); rintro e w' ⟨rfl, ⟨nd, rfl⟩⟩))
          go_roundg k2
          case measure => have := HK1.out; have := HK2.out; omega
          case rel => exact ⟨(x13_2), (wrap64 (x33_2 + 1)), sc, sc, H', kk2, ⟨sr HO_9⟩, ⟨sr HO_10⟩, ⟨sr HO_22⟩, ⟨sr HO_31⟩, ⟨sb⟩⟩
        ·have c20b0 := decide_eq_false c20
         clear c20
         have H' := Aside0.mk H
         clear H
         have p347 : 0 ≤ (x33_2 : Int) := sa
         have q347 : x33_2 < (t344.length : Int) := sa
         obtain ⟨ad347, e347, hx347_0⟩ := Kd.at_int (Kd.R_reads' HO_31.out).2.2 x33_2 p347 q347
         cases e347
         replace p347 := eq_true p347
         replace q347 := eq_true q347
         go_wp2
         go_roundg k2
         case measure => have := HK1.out; have := HK2.out; omega
         case rel => exact ⟨(x13_2), (wrap64 (x33_2 + 1)), sc, sc, H', kk2, ⟨sr HO_9⟩, ⟨sr HO_10⟩, ⟨sr HO_22⟩, ⟨sr HO_31⟩, ⟨sb⟩⟩
       ·have c19b0 := decide_eq_false c19
        clear c19
        have H' := Aside0.mk H
        clear H
        have p347 : 0 ≤ (x33_2 : Int) := sa
        have q347 : x33_2 < (t344.length : Int) := sa
        obtain ⟨ad347, e347, hx347_0⟩ := Kd.at_int (Kd.R_reads' HO_31.out).2.2 x33_2 p347 q347
        cases e347
        replace p347 := eq_true p347
        replace q347 := eq_true q347
        go_wp2
        go_roundg k2
        case measure => have := HK1.out; have := HK2.out; omega
        case rel => exact ⟨(x13_2), (wrap64 (x33_2 + 1)), sc, sc, H', kk2, ⟨sr HO_9⟩, ⟨sr HO_10⟩, ⟨sr HO_22⟩, ⟨sr HO_31⟩, ⟨sb⟩⟩
      ·have c16b0 := decide_eq_false c16
       clear c16
       obtain ⟨LMc31, H⟩ := il_ H
       obtain ⟨y351, hy351⟩ : ∃ y_ : List Int, y_ = (x9_1 ++ [x13_2]) := ⟨_, rfl⟩
       replace H : (impl_NextTo.l0 k2 l0 a1 a2 a3 y351 t340 t340 (t340.length : Int) (wrap64 (x24_1 + 1))) = some r := by first | (rw [hy351]; with_reducible exact H) | (have H2_ := (Option.bind_some _ _).symm.trans H; rw [hy351]; with_reducible exact H2_) | (have H2_ := (Option.bind_some _ _).symm.trans H; with_reducible exact H2_) | with_reducible exact H | (rw [hy351]; exact H) | exact H
       have Ny351 := Aside0.mk hy351
       clear hy351
       have H' := Aside0.mk H
       clear H
       go_wp2_with (first | ((with_reducible refine gate_builtin (b := .append) (xs := #[.tmp 69, .tmp 71]) rfl ?_); at_builtin; refine Kd.R_append (Kd.int .i64) (w0 := w) w.heap.size rfl (.tmp 69) (.tmp 71) 28 3 (.int .i64 0) 8 rfl Try.underlying28 info3 rfl (by decide) (by omega) u9 x9_1 x13_2 [.int .i64 x13_2] (fun k_ => some k_ ≠ (.slice (some ad343) t340.length co9 : Value).ownBlock ∧ some k_ ≠ (.slice (some ad343) t340.length co9 : Value).ownBlock ∧ some k_ ≠ (.slice Ao15 t344.length co15 : Value).ownBlock) (fun _ => False) rfl rfl ?aP (fun _ hk => hk.elim) ?aF ?aO ?aB ?aS ?aL ?_; (case aP => exact rfl); (case aB => exact (sb)); (case aF => exact (fun k_ hk => ⟨Kd.fresh' (Kd.R_lt (sr HO_10)) k_ hk, Kd.fresh' (Kd.R_lt (sr HO_22)) k_ hk, Kd.fresh' (Kd.R_lt (sr HO_31)) k_ hk⟩)); (case aO => exact (sr HO_9)); (case aS => exact (below_size (sb))); (case aL => have := LMc31.out; omega); intro v352 w32 ho hb hg hat; rw [← Ny351.out] at ho; replace HO_10 := Aside0.mk (Kd.R_after (ok := (fun k_ => some k_ ≠ (.slice Ao15 t344.length co15 : Value).ownBlock)) (by (with_reducible repeat (first | apply Kd.R_alloc | apply Kd.R_drewN | apply Kd.R_drew)); exact Kd.R_mono HO_10.out (fun _ hk => ⟨hk.2, hk.1⟩)) hg hat); replace HO_22 := Aside0.mk (Kd.R_after (ok := (fun k_ => some k_ ≠ (.slice Ao15 t344.length co15 : Value).ownBlock)) (by (with_reducible repeat (first | apply Kd.R_alloc | apply Kd.R_drewN | apply Kd.R_drew)); exact Kd.R_mono HO_22.out (fun _ hk => ⟨hk.2, hk.1⟩)) hg hat); replace HO_31 := Aside0.mk (Kd.R_after (ok := (fun k_ => some k_ ≠ (.slice (some ad343) t340.length co9 : Value).ownBlock ∧ some k_ ≠ (.slice (some ad343) t340.length co9 : Value).ownBlock)) (by (with_reducible repeat (first | apply Kd.R_alloc | apply Kd.R_drewN | apply Kd.R_drew)); exact Kd.R_mono HO_31.out (fun _ hk => ⟨⟨hk.2.1, hk.2.2⟩, hk.1⟩)) hg hat); replace HB := Aside0.mk hb; have HO353 := Aside0.mk ho; clear HO_9; clear ho hb hg hat))
       go_roundg k2
       case measure => have := HK1.out; have := HK2.out; omega
       case rel => exact ⟨(y351), (wrap64 (x24_1 + 1)), sc, H', kk2, ⟨by (with_reducible repeat (first | apply Kd.R_alloc | apply Kd.R_drewN | apply Kd.R_drew)); exact Kd.R_mono HO353.out (fun _ hk => ⟨hk.1, hk.2.1⟩)⟩, ⟨by (with_reducible repeat (first | apply Kd.R_alloc | apply Kd.R_drewN | apply Kd.R_drew)); exact Kd.R_mono HO_10.out (fun _ hk => hk.2)⟩, ⟨by (with_reducible repeat (first | apply Kd.R_alloc | apply Kd.R_drewN | apply Kd.R_drew)); exact Kd.R_mono HO_22.out (fun _ hk => hk.2)⟩, ⟨sb⟩⟩
   ·have c10b0 := decide_eq_false c10
    clear c10
    obtain rfl := Option.some.inj H
    go_wp2
    go_ret
    exact ⟨_, se, by (with_reducible repeat (first | apply Kd.R_alloc | apply Kd.R_drewN | apply Kd.R_drew)); exact Kd.R_mono HO_9.out (fun _ hk => trivial), sb⟩

/-! ### impl_CountReaching: function 58 -/
def impl_CountReaching.l0 : Nat → Int → List Int → Int → Int → Option (Int)
  | 0, _, _, _, _ => none
  | k + 1, x3, x6, x7, x8 => if x8 < x7 then (if 0 ≤ x8 then (if x8 < (x6.length : Int) then (if (rd x6 x8) ≥ 0 then (impl_CountReaching.l0 k (wrap64 (x3 + 1)) x6 x7 (wrap64 (x8 + 1))) else (impl_CountReaching.l0 k x3 x6 x7 (wrap64 (x8 + 1)))) else (none)) else (none)) else (some x3)
def impl_CountReaching.f (k : Nat) (l0 : List Int) : Option (Int) := impl_CountReaching.l0 k 0 l0 (l0.length : Int) 0
theorem impl_CountReaching.mono_l : ∀ k, (∀ y0 y1 y2 y3, LeO (impl_CountReaching.l0 k y0 y1 y2 y3) (impl_CountReaching.l0 (k + 1) y0 y1 y2 y3))
  | 0 => fun _ _ _ _ r h => by simp [impl_CountReaching.l0] at h
  | k + 1 => by
    have ih0 := impl_CountReaching.mono_l k
    · intro y0 y1 y2 y3
      unfold impl_CountReaching.l0
      exact mo
theorem impl_CountReaching.mono : ∀ a0 k, LeO (impl_CountReaching.f k a0) (impl_CountReaching.f (k + 1) a0) := by
  intro a0 k
  have ih0 := impl_CountReaching.mono_l k
  unfold impl_CountReaching.f
  exact mo
set_option maxHeartbeats 8000000 in
set_option maxRecDepth 100000 in
theorem impl_CountReaching.calls (k : Nat) (A0 : Option Addr) (c0 : Nat) (l0 : List Int) (r : Int) (w : World) (hr0 : Kd.C (Kd.int .i64) w A0 l0.length l0) (hc0 : l0.length ≤ c0) (h : impl_CountReaching.f k l0 = some r) :
    Calls Try.prog 58 #[.slice A0 l0.length c0] w fun e w' => e = .returned (.int .i64 r) ∧ Drawn0 w w' := by
 have HR0 := Aside0.mk hr0
 have HC0 := Aside0.mk hc0
 clear hr0 hc0
 have H : (impl_CountReaching.l0 k 0 l0 (l0.length : Int) 0) = some r := h
 clear h
 have H' := Aside0.mk H
 clear H
 go_enter Try.func58, Try.ntmps58
 go_wp2
 go_loopg [3, 8] k (fun kq v3 v8 w' => ∃ (x3_1 : Int) (x8_1 : Int), v3 = .int .i64 x3_1 ∧ v8 = .int .i64 x8_1 ∧ Aside0 (impl_CountReaching.l0 kq x3_1 l0 (l0.length : Int) x8_1 = some r) ∧ Aside0 (kq ≤ k) ∧ Drawn0 w w')
 case atStart => exact ⟨(0), (0), sc, sc, H', kk0, sd⟩
 case round =>
  clear H'
  obtain ⟨x3_1, x8_1, rfl, rfl, HA, HK1, ⟨m1, rfl⟩⟩ := hrel
  cases gk with
  | zero => exact absurd HA.out (by simp [impl_CountReaching.l0])
  | succ k1 =>
   have H := HA.out
   clear HA
   simp only [impl_CountReaching.l0] at H
   obtain ⟨c2, H⟩ | ⟨c2, H⟩ := ie_ H
   ·have c2b0 := decide_eq_true c2
    clear c2
    obtain ⟨c3b0, H⟩ := id_ H
    obtain ⟨c4b0, H⟩ := id_ H
    obtain ⟨c5, H⟩ | ⟨c5, H⟩ := ie_ H
    ·have c5b0 := decide_eq_true c5
     clear c5
     have H' := Aside0.mk H
     clear H
     have p354 : 0 ≤ (x8_1 : Int) := sa
     have q354 : x8_1 < (l0.length : Int) := sa
     obtain ⟨ad354, e354, hx354_0⟩ := Kd.at_int HR0.out x8_1 p354 q354
     cases e354
     replace p354 := eq_true p354
     replace q354 := eq_true q354
     go_wp2
     go_roundg k1
     case measure => have := HK1.out; omega
     case rel => exact ⟨(wrap64 (x3_1 + 1)), (wrap64 (x8_1 + 1)), sc, sc, H', kk1, sd⟩
    ·have c5b0 := decide_eq_false c5
     clear c5
     have H' := Aside0.mk H
     clear H
     have p354 : 0 ≤ (x8_1 : Int) := sa
     have q354 : x8_1 < (l0.length : Int) := sa
     obtain ⟨ad354, e354, hx354_0⟩ := Kd.at_int HR0.out x8_1 p354 q354
     cases e354
     replace p354 := eq_true p354
     replace q354 := eq_true q354
     go_wp2
     go_roundg k1
     case measure => have := HK1.out; omega
     case rel => exact ⟨(x3_1), (wrap64 (x8_1 + 1)), sc, sc, H', kk1, sd⟩
   ·have c2b0 := decide_eq_false c2
    clear c2
    obtain rfl := Option.some.inj H
    go_wp2
    go_ret
    exact ⟨sc, sd⟩

/-! ### impl_PathTo: function 59 -/
mutual
def impl_PathTo.l0 : Nat → List Int → Int → Int → List Int → Option (List Int)
  | 0, _, _, _, _ => none
  | k + 1, x0, x1, x2, x7 => if (x7.length : Int) ≤ (x0.length : Int) then ((impl_isIndex.f x1 (x0.length : Int)).bind fun t358 => (impl_PathTo.j1 k x0 x1 x2 x7 t358)) else (impl_PathTo.j1 k x0 x1 x2 x7 false)
def impl_PathTo.j1 : Nat → List Int → Int → Int → List Int → Bool → Option (List Int)
  | 0, _, _, _, _, _ => none
  | k + 1, x0, x1, x2, x7, x19 => if x19 = true then (if x7.length < 17592186044416 then ((some (x7 ++ [x1] : List Int)).bind fun y359 => (if x1 = x2 then (some y359) else (if 0 ≤ x1 then (if x1 < (x0.length : Int) then (impl_PathTo.l0 k x0 (rd x0 x1) x2 y359) else (none)) else (none)))) else (none)) else (some (([] : List Int)))
end
def impl_PathTo.f (k : Nat) (l0 : List Int) (a1 : Int) (a2 : Int) : Option (List Int) := impl_PathTo.l0 k l0 a1 a2 (([] : List Int))
theorem impl_PathTo.mono_l : ∀ k, (∀ y0 y1 y2 y3, LeO (impl_PathTo.l0 k y0 y1 y2 y3) (impl_PathTo.l0 (k + 1) y0 y1 y2 y3)) ∧ (∀ y0 y1 y2 y3 y4, LeO (impl_PathTo.j1 k y0 y1 y2 y3 y4) (impl_PathTo.j1 (k + 1) y0 y1 y2 y3 y4))
  | 0 => ⟨fun _ _ _ _ r h => by simp [impl_PathTo.l0] at h, fun _ _ _ _ _ r h => by simp [impl_PathTo.j1] at h⟩
  | k + 1 => by
    obtain ⟨ih0, ih1⟩ := impl_PathTo.mono_l k
    refine ⟨?_, ?_⟩
    · intro y0 y1 y2 y3
      unfold impl_PathTo.l0
      exact mo
    · intro y0 y1 y2 y3 y4
      unfold impl_PathTo.j1
      exact mo
theorem impl_PathTo.mono : ∀ a0 a1 a2 k, LeO (impl_PathTo.f k a0 a1 a2) (impl_PathTo.f (k + 1) a0 a1 a2) := by
  intro a0 a1 a2 k
  obtain ⟨ih0, ih1⟩ := impl_PathTo.mono_l k
  unfold impl_PathTo.f
  exact mo
set_option maxHeartbeats 8000000 in
set_option maxRecDepth 100000 in
theorem impl_PathTo.calls (k : Nat) (A0 : Option Addr) (c0 : Nat) (l0 : List Int) (a1 : Int) (a2 : Int) (r : List Int) (w : World) (hr0 : Kd.C (Kd.int .i64) w A0 l0.length l0) (hc0 : l0.length ≤ c0) (h : impl_PathTo.f k l0 a1 a2 = some r) :
    Calls Try.prog 59 #[.slice A0 l0.length c0, .int .i64 a1, .int .i64 a2] w fun e w' => ∃ v0_ : Value, e = .returned (v0_) ∧ Kd.R (Kd.int .i64) 3 w' w.heap.size (fun _ => True) v0_ r ∧ Below w.heap.size w w' := by
 have HR0 := Aside0.mk hr0
 have HC0 := Aside0.mk hc0
 clear hr0 hc0
 have HB := Aside0.mk (Below.refl w.heap.size w)
 have H : (impl_PathTo.l0 k l0 a1 a2 (([] : List Int))) = some r := h
 clear h
 obtain ⟨y355, hy355⟩ : ∃ y_ : List Int, y_ = (([] : List Int)) := ⟨_, rfl⟩
 replace H : (impl_PathTo.l0 k l0 a1 a2 y355) = some r := by first | (rw [hy355]; with_reducible exact H) | (have H2_ := (Option.bind_some _ _).symm.trans H; rw [hy355]; with_reducible exact H2_) | (have H2_ := (Option.bind_some _ _).symm.trans H; with_reducible exact H2_) | with_reducible exact H | (rw [hy355]; exact H) | exact H
 have Ny355 := Aside0.mk hy355
 clear hy355
 have H' := Aside0.mk H
 clear H
 go_enter Try.func59, Try.ntmps59
 go_wp2_with (first | ((with_reducible refine gate_dst (N := 8) rfl ?_); (try (refine gate_guard (by rfl) ?_; dsimp only)); refine Kd.R_lit (Kd.int .i64) _ 3 ?hg (N := 8) ?hd (xs := ([] : List Int)) (inner := []) (ok := fun _ => True) (okp := fun _ => True) ?hr ?hp (fun _ hk => hk) trivial (Below.refl _ _) (Nat.le_refl _) (by simp) ?_; (case hd => rfl); (case hg => rfl); (case hr => first | (go_simp; done) | (go_simp; rfl)); (case hp => exact (Reps.none _ _)); intro v356 w4 ho5 hb hg_ hnew_; clear hg_ hnew_; (first | rw [← Ny355.out] at ho5 | (simp only [Int.reduceToNat] at ho5; rw [← Ny355.out] at ho5)); have HO357 := Aside0.mk (Kd.R_lower ho5 (below_size (sb))); replace HB := bs hb; clear hb ho5))
 go_loopg [1, 7] k (fun kq v1 v7 w' => ∃ (x1_1 : Int) (x7_1 : List Int), v1 = .int .i64 x1_1 ∧ Aside0 (impl_PathTo.l0 kq l0 x1_1 a2 x7_1 = some r) ∧ Aside0 (kq ≤ k) ∧ Aside0 (Kd.R (Kd.int .i64) 3 w' w.heap.size (fun _ => True) v7 x7_1) ∧ Aside0 (Below w.heap.size w w'))
 case atStart => exact ⟨(a1), (y355), sc, H', kk0, ⟨sr HO357⟩, ⟨sb⟩⟩
 case round =>
  clear H'
  obtain ⟨x1_1, x7_1, rfl, HA, HK1, HO_7, HB⟩ := hrel
  cases gk with
  | zero => exact absurd HA.out (by simp [impl_PathTo.l0])
  | succ k1 =>
   have H := HA.out
   clear HA
   simp only [impl_PathTo.l0] at H
   have HC6 := Aside0.mk H
   clear H
   go_upto_region 2 with (fail)
   go_cut [19] (fun v19 wc => ∃ (kq : Nat) (x19_5 : Bool), v19 = .bool x19_5 ∧ Aside0 (impl_PathTo.j1 kq l0 x1_1 a2 x7_1 x19_5 = some r) ∧ Aside0 (kq ≤ k1) ∧ Aside0 (Kd.R (Kd.int .i64) 3 wc w.heap.size (fun _ => True) u7 x7_1) ∧ Aside0 (Below w.heap.size w wc))
   case first =>
    have H := HC6.out
    clear HC6
    obtain ⟨c7, H⟩ | ⟨c7, H⟩ := ie_ H
    ·have c7b0 := decide_eq_true c7
     have c7b1 : decide (x7_1.length ≤ l0.length) = true := decide_eq_true (Int.ofNat_le.mp c7)
     clear c7
     (first | rw [c7b0] | (simp only [i64_w, i32_w]; rw [c7b0]) | skip)
     obtain ⟨t358, A8, H⟩ := bnd H
     have H' := Aside0.mk H
     clear H
     obtain ⟨Ao9, co9, eo9⟩ := Kd.R_slice HO_7.out
     subst eo9
     go_wp2_with (first | (go_at_call 77; (with_reducible refine (impl_isIndex.calls x1_1 (l0.length : Int) t358 _ A8.out).mono ?_); rintro e w' ⟨rfl, ⟨nd, rfl⟩⟩))
     go_meet
     case rel => exact ⟨_, (t358), sc, H', ⟨by have := HK1.out; first | omega | exact Nat.le_refl _⟩, ⟨sr HO_7⟩, ⟨sb⟩⟩
    ·have c7b0 := decide_eq_false c7
     have c7b1 : decide (x7_1.length ≤ l0.length) = false := decide_eq_false (fun h => c7 (Int.ofNat_le.mpr h))
     clear c7
     (first | rw [c7b0] | (simp only [i64_w, i32_w]; rw [c7b0]) | skip)
     have H' := Aside0.mk H
     clear H
     obtain ⟨Ao10, co10, eo10⟩ := Kd.R_slice HO_7.out
     subst eo10
     go_wp2
     go_meet
     case rel => exact ⟨_, (false), sc, H', ⟨by have := HK1.out; first | omega | exact Nat.le_refl _⟩, ⟨sr HO_7⟩, ⟨sb⟩⟩
   case rest =>
    clear HC6
    try clear c7
    try clear c7b0
    try clear c7b1
    obtain ⟨kq, x19_5, rfl, HA, HJ5, HO_7, HB⟩ := hcut
    cases kq with
    | zero => exact absurd HA.out (by simp [impl_PathTo.j1])
    | succ kj5 =>
     have H := HA.out
     clear HA
     simp only [impl_PathTo.j1] at H
     obtain rfl | rfl := tt x19_5
     ·replace H := ip H
      obtain ⟨LMc12, H⟩ := il_ H
      obtain ⟨y359, hy359⟩ : ∃ y_ : List Int, y_ = (x7_1 ++ [x1_1]) := ⟨_, rfl⟩
      replace H : (if x1_1 = a2 then (some y359) else (if 0 ≤ x1_1 then (if x1_1 < (l0.length : Int) then (impl_PathTo.l0 kj5 l0 (rd l0 x1_1) a2 y359) else (none)) else (none))) = some r := by first | (rw [hy359]; with_reducible exact H) | (have H2_ := (Option.bind_some _ _).symm.trans H; rw [hy359]; with_reducible exact H2_) | (have H2_ := (Option.bind_some _ _).symm.trans H; with_reducible exact H2_) | with_reducible exact H | (rw [hy359]; exact H) | exact H
      have Ny359 := Aside0.mk hy359
      clear hy359
      obtain ⟨c13, H⟩ | ⟨c13, H⟩ := ie_ H
      ·have c13b0 : (x1_1 == a2) = true := beq_iff_eq.mpr c13
       have c13b1 : (x1_1 != a2) = false := bne_eq_false_iff_eq.mpr c13
       clear c13
       obtain rfl := Option.some.inj H
       go_wp2_with (first | ((with_reducible refine gate_builtin (b := .append) (xs := #[.tmp 20, .tmp 22]) rfl ?_); (try (refine gate_guard (by rfl) ?_; dsimp only)); at_builtin; refine Kd.R_append (Kd.int .i64) (w0 := w) w.heap.size rfl (.tmp 20) (.tmp 22) 28 3 (.int .i64 0) 8 rfl Try.underlying28 info3 rfl (by decide) (by omega) u7 x7_1 x1_1 [.int .i64 x1_1] (fun _ => True) (fun _ => False) rfl rfl ?aP (fun _ hk => hk.elim) ?aF ?aO ?aB ?aS ?aL ?_; (case aP => exact rfl); (case aB => exact (sb)); (case aF => exact (fun _ _ => trivial)); (case aO => exact (sr HO_7)); (case aS => exact (below_size (sb))); (case aL => have := LMc12.out; omega); intro v360 w14 ho hb hg hat; rw [← Ny359.out] at ho; replace HB := Aside0.mk hb; have HO361 := Aside0.mk ho; clear HO_7; clear ho hb hg hat))
       go_ret
       exact ⟨_, se, sr HO361, sb⟩
      ·have c13b0 : (x1_1 == a2) = false := beq_eq_false_iff_ne.mpr c13
       have c13b1 : (x1_1 != a2) = true := bne_iff_ne.mpr c13
       obtain ⟨c15b0, H⟩ := id_ H
       obtain ⟨c16b0, H⟩ := id_ H
       have H' := Aside0.mk H
       clear H
       go_wp2_with (first | ((with_reducible refine gate_builtin (b := .append) (xs := #[.tmp 20, .tmp 22]) rfl ?_); (try (refine gate_guard (by rfl) ?_; dsimp only)); at_builtin; refine Kd.R_append (Kd.int .i64) (w0 := w) w.heap.size rfl (.tmp 20) (.tmp 22) 28 3 (.int .i64 0) 8 rfl Try.underlying28 info3 rfl (by decide) (by omega) u7 x7_1 x1_1 [.int .i64 x1_1] (fun _ => True) (fun _ => False) rfl rfl ?aP (fun _ hk => hk.elim) ?aF ?aO ?aB ?aS ?aL ?_; (case aP => exact rfl); (case aB => exact (sb)); (case aF => exact (fun _ _ => trivial)); (case aO => exact (sr HO_7)); (case aS => exact (below_size (sb))); (case aL => have := LMc12.out; omega); intro v360 w17 ho hb hg hat; rw [← Ny359.out] at ho; replace HB := Aside0.mk hb; have HO361 := Aside0.mk ho; clear HO_7; clear ho hb hg hat; obtain ⟨p362, q362, ad362, e362, _, hx362_0⟩ := at_i HR0 HB x1_1; cases e362))
       go_roundg kj5
       case measure => have := HK1.out; have := HJ5.out; omega
       case rel => exact ⟨(rd l0 x1_1), (y359), sc, H', ⟨by have := HK1.out; have := HJ5.out; omega⟩, ⟨sr HO361⟩, ⟨sb⟩⟩
     ·replace H := im H
      obtain ⟨y363, hy363⟩ : ∃ y_ : List Int, y_ = (([] : List Int)) := ⟨_, rfl⟩
      replace H : (some y363) = some r := by first | (rw [hy363]; with_reducible exact H) | (have H2_ := (Option.bind_some _ _).symm.trans H; rw [hy363]; with_reducible exact H2_) | (have H2_ := (Option.bind_some _ _).symm.trans H; with_reducible exact H2_) | with_reducible exact H | (rw [hy363]; exact H) | exact H
      have Ny363 := Aside0.mk hy363
      clear hy363
      obtain rfl := Option.some.inj H
      go_wp2_with (first | ((with_reducible refine gate_dst (N := 32) rfl ?_); (try (refine gate_guard (by rfl) ?_; dsimp only)); refine Kd.R_lit (Kd.int .i64) _ 3 ?hg (N := 32) ?hd (xs := ([] : List Int)) (inner := []) (ok := fun _ => True) (okp := fun _ => True) ?hr ?hp (fun _ hk => hk) trivial (Below.refl _ _) (Nat.le_refl _) (by simp) ?_; (case hd => rfl); (case hg => rfl); (case hr => first | (go_simp; done) | (go_simp; rfl)); (case hp => exact (Reps.none _ _)); intro v364 w18 ho19 hb hg_ hnew_; clear hg_ hnew_; (first | rw [← Ny363.out] at ho19 | (simp only [Int.reduceToNat] at ho19; rw [← Ny363.out] at ho19)); have HO365 := Aside0.mk (Kd.R_lower (Kd.R_new' ho19 (Kd.R_lt (sr HO_7))) (below_size (sb))); replace HO_7 := Aside0.mk (Kd.R_elder' (sr HO_7) (Kd.R_base ho19) hb); replace HB := bs hb; clear hb ho19))
      go_ret
      exact ⟨_, se, by (with_reducible repeat (first | apply Kd.R_alloc | apply Kd.R_drewN | apply Kd.R_drew)); exact Kd.R_mono HO365.out (fun _ hk => trivial), sb⟩

end Go.Proofs.Ytiihaabhjphaeaa.QFnPaths
