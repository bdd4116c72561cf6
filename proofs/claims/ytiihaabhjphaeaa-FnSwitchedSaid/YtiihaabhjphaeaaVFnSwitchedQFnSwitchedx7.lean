/- Printed by a program of the session. Conditions: none. (squeezed). -/
import Derived.Test.YtiihaabhjphaeaaVFnSwitchedQFnSwitchedx6
namespace Go.Proofs.Ytiihaabhjphaeaa.QFnSwitched
set_option maxHeartbeats 8000000
set_option maxRecDepth 100000
open Go.RowKit Go.Proofs.YtiihaabhjphaeaaW.PrintWords Go.Proofs.YtiihaabhjphaeaaW.PrintLast Go.Proofs.YtiihaabhjphaeaaW.PrintMore Go.Proofs.Ytiihaabhjphaeaa.Open Go.Proofs.Ytiihaabhjphaeaa.Sq
attribute [local go_sem] max2_int min2_int max_two min_two max_three min_three max_four min_four   -- for this text's walks alone
attribute [local go_sem] isSome_set
set_option linter.unusedVariables false
set_option linter.unusedSimpArgs false

mutual
def impl_NextTo.l0 : Nat → List (S134) → Int → Int → Int → List Int → List Int → List Int → Int → Int → Option (List Int)
  | 0, _, _, _, _, _, _, _, _, _ => none
  | k + 1, x0, x1, x2, x3, x9, x10, x22, x23, x24 => if x24 < x23 then (if 0 ≤ x24 then (if x24 < (x22.length : Int) then ((impl_NeighborsIn.f k x0 x24).bind fun t260 => (impl_NextTo.l1 k x0 x1 x2 x3 x9 x10 (rd x22 x24) (-1) x22 x23 x24 t260 (t260.length : Int) 0)) else (none)) else (none)) else (some x9)
def impl_NextTo.l1 : Nat → List (S134) → Int → Int → Int → List Int → List Int → Int → Int → List Int → Int → Int → List Int → Int → Int → Option (List Int)
  | 0, _, _, _, _, _, _, _, _, _, _, _, _, _, _ => none
  | k + 1, x0, x1, x2, x3, x9, x10, x12, x13, x22, x23, x24, x31, x32, x33 => if x33 < x32 then (if 0 ≤ x33 then (if x33 < (x31.length : Int) then (if x13 < 0 then (if x12 > 0 then ((impl_isIndex.f (rd x31 x33) x1).bind fun t264 => (if t264 = true then (if (rd x31 x33) < x2 then (if 0 ≤ (rd x31 x33) then (if (rd x31 x33) < (x10.length : Int) then (if (rd x10 (rd x31 x33)) = (wrap64 (x12 - 1)) then (impl_NextTo.l1 k x0 x1 x2 x3 x9 x10 x12 (rd x31 x33) x22 x23 x24 x31 x32 (wrap64 (x33 + 1))) else (impl_NextTo.l1 k x0 x1 x2 x3 x9 x10 x12 x13 x22 x23 x24 x31 x32 (wrap64 (x33 + 1)))) else (none)) else (none)) else (if (rd x31 x33) = x3 then (if 0 ≤ (rd x31 x33) then (if (rd x31 x33) < (x10.length : Int) then (if (rd x10 (rd x31 x33)) = (wrap64 (x12 - 1)) then (impl_NextTo.l1 k x0 x1 x2 x3 x9 x10 x12 (rd x31 x33) x22 x23 x24 x31 x32 (wrap64 (x33 + 1))) else (impl_NextTo.l1 k x0 x1 x2 x3 x9 x10 x12 x13 x22 x23 x24 x31 x32 (wrap64 (x33 + 1)))) else (none)) else (none)) else (impl_NextTo.l1 k x0 x1 x2 x3 x9 x10 x12 x13 x22 x23 x24 x31 x32 (wrap64 (x33 + 1))))) else (impl_NextTo.l1 k x0 x1 x2 x3 x9 x10 x12 x13 x22 x23 x24 x31 x32 (wrap64 (x33 + 1))))) else (impl_NextTo.l1 k x0 x1 x2 x3 x9 x10 x12 x13 x22 x23 x24 x31 x32 (wrap64 (x33 + 1)))) else (impl_NextTo.l1 k x0 x1 x2 x3 x9 x10 x12 x13 x22 x23 x24 x31 x32 (wrap64 (x33 + 1)))) else (none)) else (none)) else (if x9.length < 17592186044416 then (impl_NextTo.l0 k x0 x1 x2 x3 (x9 ++ [x13]) x10 x22 x23 (wrap64 (x24 + 1))) else (none))
end
def impl_NextTo.f (k : Nat) (l0 : List (S134)) (a1 : Int) (a2 : Int) (a3 : Int) : Option (List Int) := (impl_DistancesTo.f k l0 a1 a2 a3).bind fun t256 => (impl_NextTo.l0 k l0 a1 a2 a3 (([] : List Int)) t256 t256 (t256.length : Int) 0)
theorem impl_NextTo.mono_l : ∀ k, (∀ y0 y1 y2 y3 y4 y5 y6 y7 y8, LeO (impl_NextTo.l0 k y0 y1 y2 y3 y4 y5 y6 y7 y8) (impl_NextTo.l0 (k + 1) y0 y1 y2 y3 y4 y5 y6 y7 y8)) ∧ (∀ y0 y1 y2 y3 y4 y5 y6 y7 y8 y9 y10 y11 y12 y13, LeO (impl_NextTo.l1 k y0 y1 y2 y3 y4 y5 y6 y7 y8 y9 y10 y11 y12 y13) (impl_NextTo.l1 (k + 1) y0 y1 y2 y3 y4 y5 y6 y7 y8 y9 y10 y11 y12 y13))
  | 0 => ⟨fun _ _ _ _ _ _ _ _ _ r h => by simp [impl_NextTo.l0] at h, fun _ _ _ _ _ _ _ _ _ _ _ _ _ _ r h => by simp [impl_NextTo.l1] at h⟩
  | k + 1 => by
    obtain ⟨ih0, ih1⟩ := impl_NextTo.mono_l k
    refine ⟨?_, ?_⟩
    · intro y0 y1 y2 y3 y4 y5 y6 y7 y8
      unfold impl_NextTo.l0
      have m0 := @impl_DistancesTo.mono
      have m1 := @impl_NeighborsIn.mono
      exact mo
    · intro y0 y1 y2 y3 y4 y5 y6 y7 y8 y9 y10 y11 y12 y13
      unfold impl_NextTo.l1
      have m0 := @impl_DistancesTo.mono
      have m1 := @impl_NeighborsIn.mono
      exact mo
theorem impl_NextTo.mono : ∀ a0 a1 a2 a3 k, LeO (impl_NextTo.f k a0 a1 a2 a3) (impl_NextTo.f (k + 1) a0 a1 a2 a3) := by
  intro a0 a1 a2 a3 k
  obtain ⟨ih0, ih1⟩ := impl_NextTo.mono_l k
  unfold impl_NextTo.f
  have m0 := @impl_DistancesTo.mono
  have m1 := @impl_NeighborsIn.mono
  exact mo
theorem e7_0 {P : Prop} (h : P := by
 go_wp2_with (first | (have _ := c23b0; go_at_call 77; (with_reducible refine (impl_isIndex.calls (rd t260 x33_2) a1 true _ A21.out).mono ?_); rintro e w' ⟨rfl, ⟨nd, rfl⟩⟩; have p265 : 0 ≤ ((rd t260 x33_2) : Int) := sa; have q265 : (rd t260 x33_2) < (t256.length : Int) := sa; obtain ⟨ad265, e265, hx265_0⟩ := Kd.at_int (Kd.R_reads' HO_10.out).2.2 (rd t260 x33_2) p265 q265; obtain rfl : ad259 = ad265 := (by injection e265); replace p265 := eq_true p265; replace q265 := eq_true q265) | (go_at_call 77; (with_reducible refine (impl_isIndex.calls (rd t260 x33_2) a1 false _ A21.out).mono ?_); rintro e w' ⟨rfl, ⟨nd, rfl⟩⟩))
 go_roundg k2
 case measure => have := HK1.out; have := HK2.out; omega
 case rel => exact ⟨(rd t260 x33_2), (wrap64 (x33_2 + 1)), sc, sc, H', kk2, ⟨sr HO_9⟩, ⟨sr HO_10⟩, ⟨sr HO_22⟩, ⟨sr HO_31⟩, ⟨sb⟩⟩) : P := h
theorem impl_NextTo.calls (k : Nat) (A0 : Option Addr) (c0 : Nat) (l0 : List (S134)) (a1 : Int) (a2 : Int) (a3 : Int) (r : List Int) (w : World) (hr0 : Kd.C k134 w A0 l0.length l0) (hc0 : l0.length ≤ c0) (h : impl_NextTo.f k l0 a1 a2 a3 = some r) :
    Calls Try.prog 57 #[.slice A0 l0.length c0, .int .i64 a1, .int .i64 a2, .int .i64 a3] w fun e w' => ∃ v0_ : Value, e = .returned (v0_) ∧ Kd.R (Kd.int .i64) 3 w' w.heap.size (fun _ => True) v0_ r ∧ Below w.heap.size w w' := by
 have HR0 := am hr0
 have HC0 := am hc0
 clear hr0 hc0
 have HB := am (Below.refl w.heap.size w)
 have H := h; unfold impl_NextTo.f at H
 clear h
 obtain ⟨y253, hy253⟩ : ∃ y_ : List Int, y_ = (([] : List Int)) := ⟨_, rfl⟩
 replace H : ((impl_DistancesTo.f k l0 a1 a2 a3).bind fun t256 => (impl_NextTo.l0 k l0 a1 a2 a3 y253 t256 t256 (t256.length : Int) 0)) = some r := ry hy253 H
 have Ny253 := am hy253
 clear hy253
 obtain ⟨t256, A5, H⟩ := bnd H
 have H' := am H
 clear H
 go_enter Try.func57, Try.ntmps57
 go_wp2_with (first | ((with_reducible refine gd 16 rfl ?_); refine Kd.R_lit (Kd.int .i64) _ 3 ?hg (N := 16) ?hd (xs := ([] : List Int)) (inner := []) (ok := fun _ => True) (okp := fun _ => True) ?hr ?hp (fun _ hk => hk) trivial (Below.refl _ _) (Nat.le_refl _) (by simp) ?_; (case hd => rfl); (case hg => rfl); (case hr => first | (go_simp; done) | (go_simp; rfl)); (case hp => exact (Reps.none _ _)); intro v254 w6 ho7 hb hg_ hnew_; clear hg_ hnew_; (first | rw [← Ny253.out] at ho7 | (simp only [Int.reduceToNat] at ho7; rw [← Ny253.out] at ho7)); have HO255 := am (Kd.R_lower ho7 (below_size (sb))); replace HB := bs hb; clear hb ho7) | ((with_reducible refine gc 55 rfl ?_); refine gL (some 21) Try.func55 #[.slice A0 l0.length c0, .int .i64 a1, .int .i64 a2, .int .i64 a3] ?_; (with_reducible refine (impl_DistancesTo.calls k _ _ l0 a1 a2 a3 t256 _ ?side1 ?side2 A5.out).mono ?_); (case side1 => exact cb HR0); (case side2 => exact HC0.out); rintro e w8 ⟨v257, rfl, ho0, hb⟩; refine ⟨_, rfl, ?_⟩; have HO258 := am (Kd.R_lower (Kd.R_new' ho0 (Kd.R_lt (sr HO255))) (below_size (sb))); replace HO255 := am (Kd.R_elder' (sr HO255) (Kd.R_base ho0) hb); replace HB := bs hb; (try clear hb); (try clear hk); (try clear ho0); obtain ⟨Ao9, co9, eo9⟩ := Kd.R_slice HO258.out; subst eo9))
 go_loopg [9, 24] k (fun kq v9 v24 w' => ∃ (x9_1 : List Int) (x24_1 : Int), v24 = .int .i64 x24_1 ∧ Aside0 (impl_NextTo.l0 kq l0 a1 a2 a3 x9_1 t256 t256 (t256.length : Int) x24_1 = some r) ∧ Aside0 (kq ≤ k) ∧ Aside0 (Kd.R (Kd.int .i64) 3 w' w.heap.size (fun k_ => some k_ ≠ ((.slice Ao9 t256.length co9) : Value).ownBlock ∧ some k_ ≠ ((.slice Ao9 t256.length co9) : Value).ownBlock) v9 x9_1) ∧ Aside0 (Kd.R (Kd.int .i64) 3 w' w.heap.size (fun k_ => some k_ ≠ (v9 : Value).ownBlock) (.slice Ao9 t256.length co9) t256) ∧ Aside0 (Kd.R (Kd.int .i64) 3 w' w.heap.size (fun k_ => some k_ ≠ (v9 : Value).ownBlock) (.slice Ao9 t256.length co9) t256) ∧ Aside0 (Below w.heap.size w w'))
 case atStart => exact ⟨(y253), (0), sc, H', kk0, ⟨by exact rm HO255 (fun _ hk => ⟨hk.2, hk.2⟩)⟩, ⟨by exact rm HO258 (fun _ hk => hk.2)⟩, ⟨by exact rm HO258 (fun _ hk => hk.2)⟩, ⟨sb⟩⟩
 case round =>
  clear H'
  obtain ⟨x9_1, x24_1, rfl, HA, HK1, HO_9, HO_10, HO_22, HB⟩ := hrel
  cases gk with
  | zero => exact absurd HA.out (by simp [impl_NextTo.l0])
  | succ k1 =>
   have H := HA.out
   clear HA
   simp only [impl_NextTo.l0] at H
   obtain ⟨-, c10b0, H⟩ | ⟨-, c10b0, H⟩ := ic_ H
   ·obtain ⟨c11b0, H⟩ := id_ H
    obtain ⟨c12b0, H⟩ := id_ H
    obtain ⟨t260, A13, H⟩ := bnd H
    have H' := am H
    clear H
    have p259 : 0 ≤ (x24_1 : Int) := sa
    have q259 : x24_1 < (t256.length : Int) := sa
    obtain ⟨ad259, e259, hx259_0⟩ := Kd.at_int (Kd.R_reads' HO_22.out).2.2 x24_1 p259 q259
    cases e259
    replace p259 := eq_true p259
    replace q259 := eq_true q259
    go_wp2_with (first | ((with_reducible refine gc 60 rfl ?_); refine gL (some 31) Try.func60 #[.slice A0 l0.length c0, .int .i64 x24_1] ?_; (with_reducible refine (impl_NeighborsIn.calls k1 _ _ l0 x24_1 t260 _ ?side1 ?side2 A13.out).mono ?_); (case side1 => exact cb HR0); (case side2 => exact HC0.out); rintro e w14 ⟨v261, rfl, ho0, hb⟩; refine ⟨_, rfl, ?_⟩; have HO262 := am (Kd.R_lower (Kd.R_new' (Kd.R_new' (Kd.R_new' ho0 (Kd.R_lt (sr HO_9))) (Kd.R_lt (sr HO_10))) (Kd.R_lt (sr HO_22))) (below_size (sb))); replace HO_9 := am (Kd.R_elder' (sr HO_9) (Kd.R_base ho0) hb); replace HO_10 := am (Kd.R_elder' (sr HO_10) (Kd.R_base ho0) hb); replace HO_22 := am (Kd.R_elder' (sr HO_22) (Kd.R_base ho0) hb); replace HB := bs hb; (try clear hb); (try clear ho0); obtain ⟨Ao15, co15, eo15⟩ := Kd.R_slice HO262.out; subst eo15))
    go_loopg [13, 33] k1 (fun kq v13 v33 w' => ∃ (x13_2 : Int) (x33_2 : Int), v13 = .int .i64 x13_2 ∧ v33 = .int .i64 x33_2 ∧ Aside0 (impl_NextTo.l1 kq l0 a1 a2 a3 x9_1 t256 (rd t256 x24_1) x13_2 t256 (t256.length : Int) x24_1 t260 (t260.length : Int) x33_2 = some r) ∧ Aside0 (kq ≤ k1) ∧ Aside0 (Kd.R (Kd.int .i64) 3 w' w.heap.size (fun k_ => some k_ ≠ ((.slice (some ad259) t256.length co9) : Value).ownBlock ∧ some k_ ≠ ((.slice (some ad259) t256.length co9) : Value).ownBlock ∧ some k_ ≠ ((.slice Ao15 t260.length co15) : Value).ownBlock) u9 x9_1) ∧ Aside0 (Kd.R (Kd.int .i64) 3 w' w.heap.size (fun k_ => some k_ ≠ (u9 : Value).ownBlock ∧ some k_ ≠ ((.slice Ao15 t260.length co15) : Value).ownBlock) (.slice (some ad259) t256.length co9) t256) ∧ Aside0 (Kd.R (Kd.int .i64) 3 w' w.heap.size (fun k_ => some k_ ≠ (u9 : Value).ownBlock ∧ some k_ ≠ ((.slice Ao15 t260.length co15) : Value).ownBlock) (.slice (some ad259) t256.length co9) t256) ∧ Aside0 (Kd.R (Kd.int .i64) 3 w' w.heap.size (fun k_ => some k_ ≠ (u9 : Value).ownBlock ∧ some k_ ≠ ((.slice (some ad259) t256.length co9) : Value).ownBlock ∧ some k_ ≠ ((.slice (some ad259) t256.length co9) : Value).ownBlock) (.slice Ao15 t260.length co15) t260) ∧ Aside0 (Below w.heap.size w w'))
    case atStart => exact ⟨((-1)), (0), sc, sc, H', kk0, ⟨by exact rm HO_9 (fun _ hk => ⟨hk.1.1, ⟨hk.1.2, hk.2⟩⟩)⟩, ⟨sr HO_10⟩, ⟨sr HO_22⟩, ⟨by exact rm HO262 (fun _ hk => ⟨hk.1.1.2, ⟨hk.1.2, hk.2⟩⟩)⟩, ⟨sb⟩⟩
    case round =>
     clear H'
     try clear c10
     try clear c10b0
     try clear c11b0
     try clear c12b0
     try clear hx259_0
     try clear p259
     try clear q259
     obtain ⟨x13_2, x33_2, rfl, rfl, HA, HK2, HO_9, HO_10, HO_22, HO_31, HB⟩ := hrel
     cases gk with
     | zero => exact absurd HA.out (by simp [impl_NextTo.l1])
     | succ k2 =>
      have H := HA.out
      clear HA
      simp only [impl_NextTo.l1] at H
      obtain ⟨-, c16b0, H⟩ | ⟨-, c16b0, H⟩ := ic_ H
      ·obtain ⟨c17b0, H⟩ := id_ H
       obtain ⟨c18b0, H⟩ := id_ H
       obtain ⟨-, c19b0, H⟩ | ⟨-, c19b0, H⟩ := ic_ H
       ·obtain ⟨-, c20b0, H⟩ | ⟨-, c20b0, H⟩ := ic_ H
        ·obtain ⟨t264, A21, H⟩ := bnd H
         obtain rfl | rfl := tt t264
         ·replace H := ip H
          obtain ⟨-, c23b0, H⟩ | ⟨-, c23b0, H⟩ := ic_ H
          ·obtain ⟨c24b0, H⟩ := id_ H
           obtain ⟨c25b0, H⟩ := id_ H
           obtain ⟨-, c26b0, c26b1, H⟩ | ⟨c26, c26b0, c26b1, H⟩ := ib_ H
           ·have H' := am H
            clear H
            have p263 : 0 ≤ (x33_2 : Int) := sa
            have q263 : x33_2 < (t260.length : Int) := sa
            obtain ⟨ad263, e263, hx263_0⟩ := Kd.at_int (Kd.R_reads' HO_31.out).2.2 x33_2 p263 q263
            cases e263
            replace p263 := eq_true p263
            replace q263 := eq_true q263
            exact e7_0
           ·have H' := am H
            clear H
            have p263 : 0 ≤ (x33_2 : Int) := sa
            have q263 : x33_2 < (t260.length : Int) := sa
            obtain ⟨ad263, e263, hx263_0⟩ := Kd.at_int (Kd.R_reads' HO_31.out).2.2 x33_2 p263 q263
            cases e263
            replace p263 := eq_true p263
            replace q263 := eq_true q263
            go_wp2_with (first | (go_at_call 77; (with_reducible refine (impl_isIndex.calls (rd t260 x33_2) a1 true _ A21.out).mono ?_); rintro e w' ⟨rfl, ⟨nd, rfl⟩⟩; have p265 : 0 ≤ ((rd t260 x33_2) : Int) := sa; have q265 : (rd t260 x33_2) < (t256.length : Int) := sa; obtain ⟨ad265, e265, hx265_0⟩ := Kd.at_int (Kd.R_reads' HO_10.out).2.2 (rd t260 x33_2) p265 q265; obtain rfl : ad259 = ad265 := (by injection e265); replace p265 := eq_true p265; replace q265 := eq_true q265))
            go_roundg k2
            case measure => have := HK1.out; have := HK2.out; omega
            case rel => exact ⟨(x13_2), (wrap64 (x33_2 + 1)), sc, sc, H', kk2, ⟨sr HO_9⟩, ⟨sr HO_10⟩, ⟨sr HO_22⟩, ⟨sr HO_31⟩, ⟨sb⟩⟩
          ·obtain ⟨-, c27b0, c27b1, H⟩ | ⟨c27, c27b0, c27b1, H⟩ := ib_ H
           ·obtain ⟨c28b0, H⟩ := id_ H
            obtain ⟨c29b0, H⟩ := id_ H
            obtain ⟨-, c30b0, c30b1, H⟩ | ⟨c30, c30b0, c30b1, H⟩ := ib_ H
            ·have H' := am H
             clear H
             have p263 : 0 ≤ (x33_2 : Int) := sa
             have q263 : x33_2 < (t260.length : Int) := sa
             obtain ⟨ad263, e263, hx263_0⟩ := Kd.at_int (Kd.R_reads' HO_31.out).2.2 x33_2 p263 q263
             cases e263
             replace p263 := eq_true p263
             replace q263 := eq_true q263
             exact e7_0
            ·have H' := am H
             clear H
             have p263 : 0 ≤ (x33_2 : Int) := sa
             have q263 : x33_2 < (t260.length : Int) := sa
             obtain ⟨ad263, e263, hx263_0⟩ := Kd.at_int (Kd.R_reads' HO_31.out).2.2 x33_2 p263 q263
             cases e263
             replace p263 := eq_true p263
             replace q263 := eq_true q263
             go_wp2_with (first | (go_at_call 77; (with_reducible refine (impl_isIndex.calls (rd t260 x33_2) a1 true _ A21.out).mono ?_); rintro e w' ⟨rfl, ⟨nd, rfl⟩⟩; have p266 : 0 ≤ ((rd t260 x33_2) : Int) := sa; have q266 : (rd t260 x33_2) < (t256.length : Int) := sa; obtain ⟨ad266, e266, hx266_0⟩ := Kd.at_int (Kd.R_reads' HO_10.out).2.2 (rd t260 x33_2) p266 q266; obtain rfl : ad259 = ad266 := (by injection e266); replace p266 := eq_true p266; replace q266 := eq_true q266))
             go_roundg k2
             case measure => have := HK1.out; have := HK2.out; omega
             case rel => exact ⟨(x13_2), (wrap64 (x33_2 + 1)), sc, sc, H', kk2, ⟨sr HO_9⟩, ⟨sr HO_10⟩, ⟨sr HO_22⟩, ⟨sr HO_31⟩, ⟨sb⟩⟩
           ·have H' := am H
            clear H
            have p263 : 0 ≤ (x33_2 : Int) := sa
            have q263 : x33_2 < (t260.length : Int) := sa
            obtain ⟨ad263, e263, hx263_0⟩ := Kd.at_int (Kd.R_reads' HO_31.out).2.2 x33_2 p263 q263
            cases e263
            replace p263 := eq_true p263
            replace q263 := eq_true q263
            go_wp2_with (first | (go_at_call 77; (with_reducible refine (impl_isIndex.calls (rd t260 x33_2) a1 true _ A21.out).mono ?_); rintro e w' ⟨rfl, ⟨nd, rfl⟩⟩))
            go_roundg k2
            case measure => have := HK1.out; have := HK2.out; omega
            case rel => exact ⟨(x13_2), (wrap64 (x33_2 + 1)), sc, sc, H', kk2, ⟨sr HO_9⟩, ⟨sr HO_10⟩, ⟨sr HO_22⟩, ⟨sr HO_31⟩, ⟨sb⟩⟩
         ·replace H := im H
          have H' := am H
          clear H
          have p263 : 0 ≤ (x33_2 : Int) := sa
          have q263 : x33_2 < (t260.length : Int) := sa
          obtain ⟨ad263, e263, hx263_0⟩ := Kd.at_int (Kd.R_reads' HO_31.out).2.2 x33_2 p263 q263
          cases e263
          replace p263 := eq_true p263
          replace q263 := eq_true q263
          go_wp2_with (first | (go_at_call 77; (with_reducible refine (impl_isIndex.calls (rd t260 x33_2) a1 false _ A21.out).mono ?_); rintro e w' ⟨rfl, ⟨nd, rfl⟩⟩))
          go_roundg k2
          case measure => have := HK1.out; have := HK2.out; omega
          case rel => exact ⟨(x13_2), (wrap64 (x33_2 + 1)), sc, sc, H', kk2, ⟨sr HO_9⟩, ⟨sr HO_10⟩, ⟨sr HO_22⟩, ⟨sr HO_31⟩, ⟨sb⟩⟩
        ·have H' := am H
         clear H
         have p263 : 0 ≤ (x33_2 : Int) := sa
         have q263 : x33_2 < (t260.length : Int) := sa
         obtain ⟨ad263, e263, hx263_0⟩ := Kd.at_int (Kd.R_reads' HO_31.out).2.2 x33_2 p263 q263
         cases e263
         replace p263 := eq_true p263
         replace q263 := eq_true q263
         go_wp2
         go_roundg k2
         case measure => have := HK1.out; have := HK2.out; omega
         case rel => exact ⟨(x13_2), (wrap64 (x33_2 + 1)), sc, sc, H', kk2, ⟨sr HO_9⟩, ⟨sr HO_10⟩, ⟨sr HO_22⟩, ⟨sr HO_31⟩, ⟨sb⟩⟩
       ·have H' := am H
        clear H
        have p263 : 0 ≤ (x33_2 : Int) := sa
        have q263 : x33_2 < (t260.length : Int) := sa
        obtain ⟨ad263, e263, hx263_0⟩ := Kd.at_int (Kd.R_reads' HO_31.out).2.2 x33_2 p263 q263
        cases e263
        replace p263 := eq_true p263
        replace q263 := eq_true q263
        go_wp2
        go_roundg k2
        case measure => have := HK1.out; have := HK2.out; omega
        case rel => exact ⟨(x13_2), (wrap64 (x33_2 + 1)), sc, sc, H', kk2, ⟨sr HO_9⟩, ⟨sr HO_10⟩, ⟨sr HO_22⟩, ⟨sr HO_31⟩, ⟨sb⟩⟩
      ·obtain ⟨LMc31, H⟩ := il_ H
       obtain ⟨y267, hy267⟩ : ∃ y_ : List Int, y_ = (x9_1 ++ [x13_2]) := ⟨_, rfl⟩
       replace H : (impl_NextTo.l0 k2 l0 a1 a2 a3 y267 t256 t256 (t256.length : Int) (wrap64 (x24_1 + 1))) = some r := ry hy267 H
       have Ny267 := am hy267
       clear hy267
       have H' := am H
       clear H
       go_wp2_with (first | ((with_reducible refine gate_builtin (b := .append) (xs := #[.tmp 69, .tmp 71]) rfl ?_); at_builtin; refine Kd.R_append (Kd.int .i64) (w0 := w) w.heap.size rfl (.tmp 69) (.tmp 71) 28 3 (.int .i64 0) 8 rfl Try.underlying28 info3 rfl (by decide) (by omega) u9 x9_1 x13_2 [.int .i64 x13_2] (fun k_ => some k_ ≠ (.slice (some ad259) t256.length co9 : Value).ownBlock ∧ some k_ ≠ (.slice (some ad259) t256.length co9 : Value).ownBlock ∧ some k_ ≠ (.slice Ao15 t260.length co15 : Value).ownBlock) (fun _ => False) rfl rfl ?aP (fun _ hk => hk.elim) ?aF ?aO ?aB ?aS ?aL ?_; (case aP => exact rfl); (case aB => exact (sb)); (case aF => exact (fun k_ hk => ⟨Kd.fresh' (Kd.R_lt (sr HO_10)) k_ hk, Kd.fresh' (Kd.R_lt (sr HO_22)) k_ hk, Kd.fresh' (Kd.R_lt (sr HO_31)) k_ hk⟩)); (case aO => exact (sr HO_9)); (case aS => exact (below_size (sb))); (case aL => have := LMc31.out; omega); intro v268 w32 ho hb hg hat; rw [← Ny267.out] at ho; replace HO_10 := am (Kd.R_after (ok := (fun k_ => some k_ ≠ (.slice Ao15 t260.length co15 : Value).ownBlock)) (by exact rm HO_10 (fun _ hk => ⟨hk.2, hk.1⟩)) hg hat); replace HO_22 := am (Kd.R_after (ok := (fun k_ => some k_ ≠ (.slice Ao15 t260.length co15 : Value).ownBlock)) (by exact rm HO_22 (fun _ hk => ⟨hk.2, hk.1⟩)) hg hat); replace HO_31 := am (Kd.R_after (ok := (fun k_ => some k_ ≠ (.slice (some ad259) t256.length co9 : Value).ownBlock ∧ some k_ ≠ (.slice (some ad259) t256.length co9 : Value).ownBlock)) (by exact rm HO_31 (fun _ hk => ⟨⟨hk.2.1, hk.2.2⟩, hk.1⟩)) hg hat); replace HB := am hb; have HO269 := am ho; clear HO_9; clear ho hb hg hat))
       go_roundg k2
       case measure => have := HK1.out; have := HK2.out; omega
       case rel => exact ⟨(y267), (wrap64 (x24_1 + 1)), sc, H', kk2, ⟨by exact rm HO269 (fun _ hk => ⟨hk.1, hk.2.1⟩)⟩, ⟨by exact rm HO_10 (fun _ hk => hk.2)⟩, ⟨by exact rm HO_22 (fun _ hk => hk.2)⟩, ⟨sb⟩⟩
   ·obtain rfl := Option.some.inj H
    go_wp2
    go_ret
    exact ⟨_, se, by exact rm HO_9 (fun _ hk => trivial), sb⟩

def impl_TableOf.f (k : Nat) (l0 : List (S134)) (a1 : Int) (a2 : Int) (a3 : Int) : Option (Int × List Int × List Int) := (impl_DistancesTo.f k l0 a1 a2 a3).bind fun t271 => ((impl_NextTo.f k l0 a1 a2 a3).bind fun t274 => (some (a3, t271, t274)))
theorem impl_TableOf.mono : ∀ a0 a1 a2 a3 k, LeO (impl_TableOf.f k a0 a1 a2 a3) (impl_TableOf.f (k + 1) a0 a1 a2 a3) := by
  intro a0 a1 a2 a3 k
  unfold impl_TableOf.f
  have m0 := @impl_DistancesTo.mono
  have m1 := @impl_NextTo.mono
  exact mo
theorem impl_TableOf.calls (k : Nat) (A0 : Option Addr) (c0 : Nat) (l0 : List (S134)) (a1 : Int) (a2 : Int) (a3 : Int) (r1 : Int) (r2 : List Int) (r3 : List Int) (w : World) (hr0 : Kd.C k134 w A0 l0.length l0) (hc0 : l0.length ≤ c0) (h : impl_TableOf.f k l0 a1 a2 a3 = some (r1, r2, r3)) :
    Calls Try.prog 62 #[.slice A0 l0.length c0, .int .i64 a1, .int .i64 a2, .int .i64 a3] w fun e w' => ∃ v1_ v2_ : Value, e = .returned (.agg #[.int .i64 r1, v1_, v2_]) ∧ Kd.R (Kd.int .i64) 3 w' w.heap.size (fun k_ => some k_ ≠ (v2_ : Value).ownBlock) v1_ r2 ∧ Kd.R (Kd.int .i64) 3 w' w.heap.size (fun k_ => some k_ ≠ (v1_ : Value).ownBlock) v2_ r3 ∧ Below w.heap.size w w' := by
 have hu55 := Try.underlying55
 have HR0 := am hr0
 have HC0 := am hc0
 clear hr0 hc0
 have HB := am (Below.refl w.heap.size w)
 have H := h; unfold impl_TableOf.f at H
 clear h
 obtain ⟨t271, A5, H⟩ := bnd H
 obtain ⟨t274, A6, H⟩ := bnd H
 simp only [Option.some.injEq, Prod.mk.injEq] at H
 obtain ⟨rfl, rfl, rfl⟩ := H
 go_enter Try.func62, Try.ntmps62
 go_wp2_with (first | ((with_reducible refine gd 8 rfl ?_); refine bx 8 #[.int .i64 0, .slice none 0 0, .slice none 0 0] 55 ?_; intro gb270 hg w7 hbox hb; have GW270 := bz w hg; have GE270 := bz w hg; replace HB := bs hb; have BK270 := am hbox; clear hb hbox hg) | ((with_reducible refine gc 55 rfl ?_); refine gL (some 14) Try.func55 #[.slice A0 l0.length c0, .int .i64 a1, .int .i64 a2, .int .i64 a3] ?_; (with_reducible refine (impl_DistancesTo.calls k _ _ l0 a1 a2 a3 t271 _ ?side1 ?side2 A5.out).mono ?_); (case side1 => exact cb HR0); (case side2 => exact HC0.out); rintro e w8 ⟨v272, rfl, ho0, hb⟩; refine ⟨_, rfl, ?_⟩; have HO273 := am (Kd.R_lower ho0 (below_size (sbw))); replace BK270 := bb BK270 hb; replace HB := bsw hb; (try clear hb); (try clear ho0)) | ((with_reducible refine gc 57 rfl ?_); refine gL (some 19) Try.func57 #[.slice A0 l0.length c0, .int .i64 a1, .int .i64 a2, .int .i64 a3] ?_; (with_reducible refine (impl_NextTo.calls k _ _ l0 a1 a2 a3 t274 _ ?side1 ?side2 A6.out).mono ?_); (case side1 => exact cb HR0); (case side2 => exact HC0.out); rintro e w9 ⟨v275, rfl, ho0, hb⟩; refine ⟨_, rfl, ?_⟩; have HO276 := am (Kd.R_lower (Kd.R_new' ho0 (Kd.R_lt (sr HO273))) (below_size (sbw))); replace HO273 := am (Kd.R_elder' (sr HO273) (Kd.R_base ho0) hb); replace BK270 := bb BK270 hb; replace HB := bsw hb; (try clear hb); (try clear ho0); obtain ⟨Ao10, co10, eo10⟩ := Kd.R_slice HO276.out; subst eo10; obtain ⟨Ao11, co11, eo11⟩ := Kd.R_slice HO273.out; subst eo11; obtain ⟨hcz12_0, hcz12_1, hcz12_2, hfz12_0, hfz12_1, hfz12_2⟩ := cc3 BK270))
 refine bodyPost_ret (results_cell_row rfl _ _ gb270 55 #[.int .i64 a3, .slice Ao11 t271.length co11, .slice Ao10 t274.length co10] (0, 0) _ rfl (sp BK270) Try.underlying55 rfl (by kernel_rfl)) rfl ?_
 exact ⟨_, _, se, by (with_reducible repeat (first | apply Kd.R_alloc | apply Kd.R_drewN | apply Kd.R_drew)); exact Kd.R_mono (h3 HO273 BK270) (fun _ hk => hk.1.2), by (with_reducible repeat (first | apply Kd.R_alloc | apply Kd.R_drewN | apply Kd.R_drew)); exact Kd.R_mono (h3 HO276 BK270) (fun _ hk => hk.1.2), sbw⟩

def impl_tablesOf.l0 : Nat → List (S134) → Int → Int → List (S55) → Int → Int → Option ((List (S55)))
  | 0, _, _, _, _, _, _ => none
  | k + 1, x0, x1, x2, x7, x10, x11 => if x11 < x10 then ((impl_TableOf.f k x0 x1 x2 x11).bind fun bt280 => (if x7.length < 2513169434916 then (impl_tablesOf.l0 k x0 x1 x2 (x7 ++ [(⟨bt280.1, bt280.2.1, bt280.2.2⟩ : S55)]) x10 (wrap64 (x11 + 1))) else (none))) else (some x7)
def impl_tablesOf.f (k : Nat) (l0 : List (S134)) (a1 : Int) (a2 : Int) : Option ((List (S55))) := impl_tablesOf.l0 k l0 a1 a2 (([] : List (S55))) a1 0
theorem impl_tablesOf.mono_l : ∀ k, (∀ y0 y1 y2 y3 y4 y5, LeO (impl_tablesOf.l0 k y0 y1 y2 y3 y4 y5) (impl_tablesOf.l0 (k + 1) y0 y1 y2 y3 y4 y5))
  | 0 => fun _ _ _ _ _ _ r h => by simp [impl_tablesOf.l0] at h
  | k + 1 => by
    have ih0 := impl_tablesOf.mono_l k
    · intro y0 y1 y2 y3 y4 y5
      unfold impl_tablesOf.l0
      have m0 := @impl_TableOf.mono
      exact mo
theorem impl_tablesOf.mono : ∀ a0 a1 a2 k, LeO (impl_tablesOf.f k a0 a1 a2) (impl_tablesOf.f (k + 1) a0 a1 a2) := by
  intro a0 a1 a2 k
  have ih0 := impl_tablesOf.mono_l k
  unfold impl_tablesOf.f
  have m0 := @impl_TableOf.mono
  exact mo
theorem impl_tablesOf.calls (k : Nat) (A0 : Option Addr) (c0 : Nat) (l0 : List (S134)) (a1 : Int) (a2 : Int) (r : List (S55)) (w : World) (hr0 : Kd.C k134 w A0 l0.length l0) (hc0 : l0.length ≤ c0) (h : impl_tablesOf.f k l0 a1 a2 = some r) :
    Calls Try.prog 97 #[.slice A0 l0.length c0, .int .i64 a1, .int .i64 a2] w fun e w' => ∃ v0_ : Value, e = .returned (v0_) ∧ Kd.S k55 55 w' w.heap.size (fun _ => True) v0_ r ∧ Below w.heap.size w w' := by
 have HR0 := am hr0
 have HC0 := am hc0
 clear hr0 hc0
 have HB := am (Below.refl w.heap.size w)
 have H := h; unfold impl_tablesOf.f at H
 clear h
 obtain ⟨y277, hy277⟩ : ∃ y_ : List (S55), y_ = (([] : List (S55))) := ⟨_, rfl⟩
 replace H : (impl_tablesOf.l0 k l0 a1 a2 y277 a1 0) = some r := ry hy277 H
 have Ny277 := am hy277
 clear hy277
 have H' := am H
 clear H
 go_enter Try.func97, Try.ntmps97
 go_wp2_with (first | ((with_reducible refine gd 9 rfl ?_); refine Kd.S_lit k55 _ 55 ?hg (N := 9) ?hd (xs := ([] : List (S55))) (inner := []) (ok := fun _ => True) (okp := fun _ => True) ?hr ?hp (fun _ hk => hk) trivial (Below.refl _ _) (Nat.le_refl _) (by simp) ?_; (case hd => rfl); (case hg => rfl); (case hr => first | (go_simp; done) | (go_simp; rfl)); (case hp => exact (Reps.none _ _)); intro v278 w4 ho5 hb hg_ hnew_; clear hg_ hnew_; (first | rw [← Ny277.out] at ho5 | (simp only [Int.reduceToNat] at ho5; rw [← Ny277.out] at ho5)); have HO279 := am (Kd.S_lower ho5 (below_size (sb))); replace HB := bs hb; clear hb ho5))
 go_loopg [7, 11] k (fun kq v7 v11 w' => ∃ (x7_1 : List (S55)) (x11_1 : Int), v11 = .int .i64 x11_1 ∧ Aside0 (impl_tablesOf.l0 kq l0 a1 a2 x7_1 a1 x11_1 = some r) ∧ Aside0 (kq ≤ k) ∧ Aside0 (Kd.S k55 55 w' w.heap.size (fun _ => True) v7 x7_1) ∧ Aside0 (Below w.heap.size w w'))
 case atStart => exact ⟨(y277), (0), sc, H', kk0, ⟨ss HO279⟩, ⟨sb⟩⟩
 case round =>
  clear H'
  obtain ⟨x7_1, x11_1, rfl, HA, HK1, HO_7, HB⟩ := hrel
  cases gk with
  | zero => exact absurd HA.out (by simp [impl_tablesOf.l0])
  | succ k1 =>
   have H := HA.out
   clear HA
   simp only [impl_tablesOf.l0] at H
   obtain ⟨-, c6b0, H⟩ | ⟨-, c6b0, H⟩ := ic_ H
   ·obtain ⟨⟨t280, t281, t284⟩, A7, H⟩ := bnd H
    try dsimp only at H
    obtain ⟨LMc8, H⟩ := il_ H
    obtain ⟨y287, hy287⟩ : ∃ y_ : List (S55), y_ = (x7_1 ++ [(⟨t280, t281, t284⟩ : S55)]) := ⟨_, rfl⟩
    replace H : (impl_tablesOf.l0 k1 l0 a1 a2 y287 a1 (wrap64 (x11_1 + 1))) = some r := ry hy287 H
    have Ny287 := am hy287
    clear hy287
    have H' := am H
    clear H
    go_wp2_with (first | ((with_reducible refine gc 62 rfl ?_); refine gL (some 19) Try.func62 #[.slice A0 l0.length c0, .int .i64 a1, .int .i64 a2, .int .i64 x11_1] ?_; (with_reducible refine (impl_TableOf.calls k1 _ _ l0 a1 a2 x11_1 t280 t281 t284 _ ?side1 ?side2 A7.out).mono ?_); (case side1 => exact cb HR0); (case side2 => exact HC0.out); rintro e w9 ⟨v282, v285, rfl, ho0, ho1, hb⟩; refine ⟨_, rfl, ?_⟩; replace HO_7 := am (Kd.S_mono (Kd.S_told (Kd.S_told (Kd.S_old (ss HO_7) hb) (Kd.R_base ho0)) (Kd.R_base ho1)) (fun _ h_ => h_.1)); have HO283 := am (Kd.R_lower ho0 (below_size (sb))); have HO286 := am (Kd.R_lower ho1 (below_size (sb))); replace HB := bs hb; (try clear hb); (try clear hk); (try clear ho0); (try clear ho1); obtain ⟨Ao11, co11, eo11⟩ := Kd.R_slice HO283.out; subst eo11; obtain ⟨Ao12, co12, eo12⟩ := Kd.R_slice HO286.out; subst eo12) | ((with_reducible refine gate_builtin (b := .append) (xs := #[.tmp 14, .tmp 20]) rfl ?_); at_builtin; refine Kd.S_append k55 (w0 := w) w.heap.size rfl (.tmp 14) (.tmp 20) 103 55 (.agg #[(.int .i64 0), (.slice none 0 0), (.slice none 0 0)]) 56 rfl Try.underlying103 info55 rfl (by decide) (by omega) u7 x7_1 (⟨t280, t281, t284⟩ : S55) [.int .i64 t280, .slice Ao11 t281.length co11, .slice Ao12 t284.length co12] (fun _ => True) (fun k_ => some k_ = (.slice Ao11 t281.length co11 : Value).ownBlock ∨ some k_ = (.slice Ao12 t284.length co12 : Value).ownBlock) rfl rfl ?aP (fun k_ hk_ => hk_.elim (fun h_ => ((Kd.R_mono (ok' := fun k_ => ((fun _ => True)) k_ ∧ some k_ ≠ (u7 : Value).ownBlock) (Kd.R_apart' (HO283.out) (Kd.S_typed HO_7.out) (by decide)) (fun k_ hk => ⟨trivial, hk.2⟩))).1 k_ h_.symm) (fun h_ => ((Kd.R_mono (ok' := fun k_ => ((fun _ => True)) k_ ∧ some k_ ≠ (u7 : Value).ownBlock) (Kd.R_apart' (HO286.out) (Kd.S_typed HO_7.out) (by decide)) (fun k_ hk => ⟨trivial, hk.2⟩))).1 k_ h_.symm)) ?aF ?aO ?aB ?aS ?aL ?_; (case aP => exact k55_mkM _ _ _ (⟨t280, t281, t284⟩ : S55) (Kd.R_mono (Kd.R_tight rfl (Kd.R_mono (ok' := fun k_ => ((fun _ => True)) k_ ∧ some k_ ≠ (u7 : Value).ownBlock) (Kd.R_apart' (HO283.out) (Kd.S_typed HO_7.out) (by decide)) (fun k_ hk => ⟨trivial, hk.2⟩))) (fun _ h_ => Or.inl h_)) (Kd.R_mono (Kd.R_tight rfl (Kd.R_mono (ok' := fun k_ => ((fun _ => True)) k_ ∧ some k_ ≠ (u7 : Value).ownBlock) (Kd.R_apart' (HO286.out) (Kd.S_typed HO_7.out) (by decide)) (fun k_ hk => ⟨trivial, hk.2⟩))) (fun _ h_ => Or.inr (h_)))); (case aB => exact (sb)); (case aF => exact (fun _ _ => trivial)); (case aO => exact (by (with_reducible repeat (first | apply Kd.S_alloc | apply Kd.S_drewN | apply Kd.S_drew)); exact Kd.S_mono HO_7.out (fun k_ hk => ⟨trivial, fun e_ => e_.elim (fun h_ => hk.1.2 h_) (fun h_ => hk.2 h_)⟩))); (case aS => exact (below_size (sb))); (case aL => have := LMc8.out; omega); intro v288 w10 ho hb hg hat; rw [← Ny287.out] at ho; replace HB := am hb; have HO289 := am ho; clear HO_7 HO283 HO286; clear ho hb hg hat))
    go_roundg k1
    case measure => have := HK1.out; omega
    case rel => exact ⟨(y287), (wrap64 (x11_1 + 1)), sc, H', kk1, ⟨ss HO289⟩, ⟨sb⟩⟩
   ·obtain rfl := Option.some.inj H
    go_wp2
    go_ret
    exact ⟨_, se, ss HO_7, sb⟩

end Go.Proofs.Ytiihaabhjphaeaa.QFnSwitched
