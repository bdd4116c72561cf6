/- What the Go functions of the law FnTables come to, as Lean functions, and that they do: by a program of the session, out of the kit's printer. Conditions: none. (squeezed). -/
import Derived.Test.YtiihaabhjphaeaaVFnTablesSq
import Derived.Test.YtiihaabhjphaeaaVFnTablesQFnTablesx0
import Derived.Test.YtiihaabhjphaeaaVFnTablesQFnTablesx1
import Derived.Test.YtiihaabhjphaeaaVFnTablesQFnTablesx4
import Derived.Test.YtiihaabhjphaeaaVFnTablesQFnTablesx5
namespace Go.Proofs.Ytiihaabhjphaeaa.QFnTables
open Go.RowKit Go.Proofs.YtiihaabhjphaeaaW.PrintWords Go.Proofs.YtiihaabhjphaeaaW.PrintLast Go.Proofs.YtiihaabhjphaeaaW.PrintMore Go.Proofs.Ytiihaabhjphaeaa.Open Go.Proofs.Ytiihaabhjphaeaa.Sq
attribute [local go_sem] max2_int min2_int max_two min_two max_three min_three max_four min_four   -- for this text's walks alone
attribute [local go_sem] isSome_set
set_option linter.unusedVariables false
set_option linter.unusedSimpArgs false

/-! ### impl_NextTo: function 57 -/
mutual
def impl_NextTo.l0 : Nat → List (S134) → Int → Int → Int → List Int → List Int → List Int → Int → Int → Option (List Int)
  | 0, _, _, _, _, _, _, _, _, _ => none
  | k + 1, x0, x1, x2, x3, x9, x10, x22, x23, x24 => if x24 < x23 then (if 0 ≤ x24 then (if x24 < (x22.length : Int) then ((impl_NeighborsIn.f k x0 x24).bind fun t244 => (impl_NextTo.l1 k x0 x1 x2 x3 x9 x10 (rd x22 x24) (-1) x22 x23 x24 t244 (t244.length : Int) 0)) else (none)) else (none)) else (some x9)
def impl_NextTo.l1 : Nat → List (S134) → Int → Int → Int → List Int → List Int → Int → Int → List Int → Int → Int → List Int → Int → Int → Option (List Int)
  | 0, _, _, _, _, _, _, _, _, _, _, _, _, _, _ => none
  | k + 1, x0, x1, x2, x3, x9, x10, x12, x13, x22, x23, x24, x31, x32, x33 => if x33 < x32 then (if 0 ≤ x33 then (if x33 < (x31.length : Int) then (if x13 < 0 then (if x12 > 0 then ((impl_isIndex.f (rd x31 x33) x1).bind fun t248 => (if t248 = true then (if (rd x31 x33) < x2 then (if 0 ≤ (rd x31 x33) then (if (rd x31 x33) < (x10.length : Int) then (if (rd x10 (rd x31 x33)) = (wrap64 (x12 - 1)) then (impl_NextTo.l1 k x0 x1 x2 x3 x9 x10 x12 (rd x31 x33) x22 x23 x24 x31 x32 (wrap64 (x33 + 1))) else (impl_NextTo.l1 k x0 x1 x2 x3 x9 x10 x12 x13 x22 x23 x24 x31 x32 (wrap64 (x33 + 1)))) else (none)) else (none)) else (if (rd x31 x33) = x3 then (if 0 ≤ (rd x31 x33) then (if (rd x31 x33) < (x10.length : Int) then (if (rd x10 (rd x31 x33)) = (wrap64 (x12 - 1)) then (impl_NextTo.l1 k x0 x1 x2 x3 x9 x10 x12 (rd x31 x33) x22 x23 x24 x31 x32 (wrap64 (x33 + 1))) else (impl_NextTo.l1 k x0 x1 x2 x3 x9 x10 x12 x13 x22 x23 x24 x31 x32 (wrap64 (x33 + 1)))) else (none)) else (none)) else (impl_NextTo.l1 k x0 x1 x2 x3 x9 x10 x12 x13 x22 x23 x24 x31 x32 (wrap64 (x33 + 1))))) else (impl_NextTo.l1 k x0 x1 x2 x3 x9 x10 x12 x13 x22 x23 x24 x31 x32 (wrap64 (x33 + 1))))) else (impl_NextTo.l1 k x0 x1 x2 x3 x9 x10 x12 x13 x22 x23 x24 x31 x32 (wrap64 (x33 + 1)))) else (impl_NextTo.l1 k x0 x1 x2 x3 x9 x10 x12 x13 x22 x23 x24 x31 x32 (wrap64 (x33 + 1)))) else (none)) else (none)) else (if x9.length < 17592186044416 then (impl_NextTo.l0 k x0 x1 x2 x3 (x9 ++ [x13]) x10 x22 x23 (wrap64 (x24 + 1))) else (none))
end
def impl_NextTo.f (k : Nat) (l0 : List (S134)) (a1 : Int) (a2 : Int) (a3 : Int) : Option (List Int) := (impl_DistancesTo.f k l0 a1 a2 a3).bind fun t240 => (impl_NextTo.l0 k l0 a1 a2 a3 (([] : List Int)) t240 t240 (t240.length : Int) 0)
theorem impl_NextTo.mono_l : ∀ k, (∀ y0 y1 y2 y3 y4 y5 y6 y7 y8, LeO (impl_NextTo.l0 k y0 y1 y2 y3 y4 y5 y6 y7 y8) (impl_NextTo.l0 (k + 1) y0 y1 y2 y3 y4 y5 y6 y7 y8)) ∧ (∀ y0 y1 y2 y3 y4 y5 y6 y7 y8 y9 y10 y11 y12 y13, LeO (impl_NextTo.l1 k y0 y1 y2 y3 y4 y5 y6 y7 y8 y9 y10 y11 y12 y13) (impl_NextTo.l1 (k + 1) y0 y1 y2 y3 y4 y5 y6 y7 y8 y9 y10 y11 y12 y13))
  | 0 => ⟨fun _ _ _ _ _ _ _ _ _ r h => by simp [impl_NextTo.l0] at h, fun _ _ _ _ _ _ _ _ _ _ _ _ _ _ r h => by simp [impl_NextTo.l1] at h⟩
  | k + 1 => by
    obtain ⟨ih0, ih1⟩ := impl_NextTo.mono_l k
    refine ⟨?_, ?_⟩
    · intro y0 y1 y2 y3 y4 y5 y6 y7 y8
      unfold impl_NextTo.l0
      have m0 := @impl_DistancesTo.mono
      have m1 := @impl_NeighborsIn.mono
      exact mo
    · intro y0 y1 y2 y3 y4 y5 y6 y7 y8 y9 y10 y11 y12 y13
      unfold impl_NextTo.l1
      have m0 := @impl_DistancesTo.mono
      have m1 := @impl_NeighborsIn.mono
      exact mo
theorem impl_NextTo.mono : ∀ a0 a1 a2 a3 k, LeO (impl_NextTo.f k a0 a1 a2 a3) (impl_NextTo.f (k + 1) a0 a1 a2 a3) := by
  intro a0 a1 a2 a3 k
  obtain ⟨ih0, ih1⟩ := impl_NextTo.mono_l k
  unfold impl_NextTo.f
  have m0 := @impl_DistancesTo.mono
  have m1 := @impl_NeighborsIn.mono
  exact mo
set_option maxHeartbeats 8000000 in
set_option maxRecDepth 100000 in
theorem impl_NextTo.calls (k : Nat) (A0 : Option Addr) (c0 : Nat) (l0 : List (S134)) (a1 : Int) (a2 : Int) (a3 : Int) (r : List Int) (w : World) (hr0 : Kd.C k134 w A0 l0.length l0) (hc0 : l0.length ≤ c0) (h : impl_NextTo.f k l0 a1 a2 a3 = some r) :
    Calls Try.prog 57 #[.slice A0 l0.length c0, .int .i64 a1, .int .i64 a2, .int .i64 a3] w fun e w' => ∃ v0_ : Value, e = .returned (v0_) ∧ Kd.R (Kd.int .i64) 3 w' w.heap.size (fun _ => True) v0_ r ∧ Below w.heap.size w w' := by
 have HR0 := Aside0.mk hr0
 have HC0 := Aside0.mk hc0
 clear hr0 hc0
 have HB := Aside0.mk (Below.refl w.heap.size w)
 have H : ((impl_DistancesTo.f k l0 a1 a2 a3).bind fun t240 => (impl_NextTo.l0 k l0 a1 a2 a3 (([] : List Int)) t240 t240 (t240.length : Int) 0)) = some r := h
 clear h
 obtain ⟨y237, hy237⟩ : ∃ y_ : List Int, y_ = (([] : List Int)) := ⟨_, rfl⟩
 replace H : ((impl_DistancesTo.f k l0 a1 a2 a3).bind fun t240 => (impl_NextTo.l0 k l0 a1 a2 a3 y237 t240 t240 (t240.length : Int) 0)) = some r := by first | (rw [hy237]; with_reducible exact H) | (have H2_ := (Option.bind_some _ _).symm.trans H; rw [hy237]; with_reducible exact H2_) | (have H2_ := (Option.bind_some _ _).symm.trans H; with_reducible exact H2_) | with_reducible exact H | (rw [hy237]; exact H) | exact H
 have Ny237 := Aside0.mk hy237
 clear hy237
 obtain ⟨t240, A5, H⟩ := bnd H
 have H' := Aside0.mk H
 clear H
 go_enter Try.func57, Try.ntmps57
 go_wp2_with (first | ((with_reducible refine gate_dst (N := 16) rfl ?_); refine Kd.R_lit (Kd.int .i64) _ 3 ?hg (N := 16) ?hd (xs := ([] : List Int)) (inner := []) (ok := fun _ => True) (okp := fun _ => True) ?hr ?hp (fun _ hk => hk) trivial (Below.refl _ _) (Nat.le_refl _) (by simp) ?_; (case hd => rfl); (case hg => rfl); (case hr => first | (go_simp; done) | (go_simp; rfl)); (case hp => exact (Reps.none _ _)); intro v238 w6 ho7 hb hg_ hnew_; clear hg_ hnew_; (first | rw [← Ny237.out] at ho7 | (simp only [Int.reduceToNat] at ho7; rw [← Ny237.out] at ho7)); have HO239 := Aside0.mk (Kd.R_lower ho7 (below_size (sb))); replace HB := bs hb; clear hb ho7) | ((with_reducible refine gate_callee (f := 55) rfl ?_); refine gL (some 21) Try.func55 #[.slice A0 l0.length c0, .int .i64 a1, .int .i64 a2, .int .i64 a3] ?_; (with_reducible refine (impl_DistancesTo.calls k _ _ l0 a1 a2 a3 t240 _ ?side1 ?side2 A5.out).mono ?_); (case side1 => exact cb HR0); (case side2 => exact HC0.out); rintro e w8 ⟨v241, rfl, ho0, hb⟩; refine ⟨_, rfl, ?_⟩; have HO242 := Aside0.mk (Kd.R_lower (Kd.R_new' ho0 (Kd.R_lt (sr HO239))) (below_size (sb))); replace HO239 := Aside0.mk (Kd.R_elder' (sr HO239) (Kd.R_base ho0) hb); replace HB := bs hb; (try clear hb); (try clear hb2); (try clear hk); (try clear hi); (try clear ho0); obtain ⟨Ao9, co9, eo9⟩ := Kd.R_slice HO242.out; subst eo9))
 go_loopg [9, 24] k (fun kq v9 v24 w' => ∃ (x9_1 : List Int) (x24_1 : Int), v24 = .int .i64 x24_1 ∧ Aside0 (impl_NextTo.l0 kq l0 a1 a2 a3 x9_1 t240 t240 (t240.length : Int) x24_1 = some r) ∧ Aside0 (kq ≤ k) ∧ Aside0 (Kd.R (Kd.int .i64) 3 w' w.heap.size (fun k_ => some k_ ≠ ((.slice Ao9 t240.length co9) : Value).ownBlock ∧ some k_ ≠ ((.slice Ao9 t240.length co9) : Value).ownBlock) v9 x9_1) ∧ Aside0 (Kd.R (Kd.int .i64) 3 w' w.heap.size (fun k_ => some k_ ≠ (v9 : Value).ownBlock) (.slice Ao9 t240.length co9) t240) ∧ Aside0 (Kd.R (Kd.int .i64) 3 w' w.heap.size (fun k_ => some k_ ≠ (v9 : Value).ownBlock) (.slice Ao9 t240.length co9) t240) ∧ Aside0 (Below w.heap.size w w'))
 case atStart => exact ⟨(y237), (0), sc, H', kk0, ⟨by (with_reducible repeat (first | apply Kd.R_alloc | apply Kd.R_drewN | apply Kd.R_drew)); exact Kd.R_mono HO239.out (fun _ hk => ⟨hk.2, hk.2⟩)⟩, ⟨by (with_reducible repeat (first | apply Kd.R_alloc | apply Kd.R_drewN | apply Kd.R_drew)); exact Kd.R_mono HO242.out (fun _ hk => hk.2)⟩, ⟨by (with_reducible repeat (first | apply Kd.R_alloc | apply Kd.R_drewN | apply Kd.R_drew)); exact Kd.R_mono HO242.out (fun _ hk => hk.2)⟩, ⟨sb⟩⟩
 case round =>
  clear H'
  obtain ⟨x9_1, x24_1, rfl, HA, HK1, HO_9, HO_10, HO_22, HB⟩ := hrel
  cases gk with
  | zero => exact absurd HA.out (by simp [impl_NextTo.l0])
  | succ k1 =>
   have H := HA.out
   clear HA
   simp only [impl_NextTo.l0] at H
   obtain ⟨c10, H⟩ | ⟨c10, H⟩ := ie_ H
   ·have c10b0 := decide_eq_true c10
    clear c10
    obtain ⟨c11b0, H⟩ := id_ H
    obtain ⟨c12b0, H⟩ := id_ H
    obtain ⟨t244, A13, H⟩ := bnd H
    have H' := Aside0.mk H
    clear H
    have p243 : 0 ≤ (x24_1 : Int) := sa
    have q243 : x24_1 < (t240.length : Int) := sa
    obtain ⟨ad243, e243, hx243_0⟩ := Kd.at_int (Kd.R_reads' HO_22.out).2.2 x24_1 p243 q243
    cases e243
    replace p243 := eq_true p243
    replace q243 := eq_true q243
    go_wp2_with (first | ((with_reducible refine gate_callee (f := 60) rfl ?_); refine gL (some 31) Try.func60 #[.slice A0 l0.length c0, .int .i64 x24_1] ?_; (with_reducible refine (impl_NeighborsIn.calls k1 _ _ l0 x24_1 t244 _ ?side1 ?side2 A13.out).mono ?_); (case side1 => exact cb HR0); (case side2 => exact HC0.out); rintro e w14 ⟨v245, rfl, ho0, hb⟩; refine ⟨_, rfl, ?_⟩; have HO246 := Aside0.mk (Kd.R_lower (Kd.R_new' (Kd.R_new' (Kd.R_new' ho0 (Kd.R_lt (sr HO_9))) (Kd.R_lt (sr HO_10))) (Kd.R_lt (sr HO_22))) (below_size (sb))); replace HO_9 := Aside0.mk (Kd.R_elder' (sr HO_9) (Kd.R_base ho0) hb); replace HO_10 := Aside0.mk (Kd.R_elder' (sr HO_10) (Kd.R_base ho0) hb); replace HO_22 := Aside0.mk (Kd.R_elder' (sr HO_22) (Kd.R_base ho0) hb); replace HB := bs hb; (try clear hb); (try clear hb2); (try clear hk); (try clear hi); (try clear ho0); obtain ⟨Ao15, co15, eo15⟩ := Kd.R_slice HO246.out; subst eo15))
    go_loopg [13, 33] k1 (fun kq v13 v33 w' => ∃ (x13_2 : Int) (x33_2 : Int), v13 = .int .i64 x13_2 ∧ v33 = .int .i64 x33_2 ∧ Aside0 (impl_NextTo.l1 kq l0 a1 a2 a3 x9_1 t240 (rd t240 x24_1) x13_2 t240 (t240.length : Int) x24_1 t244 (t244.length : Int) x33_2 = some r) ∧ Aside0 (kq ≤ k1) ∧ Aside0 (Kd.R (Kd.int .i64) 3 w' w.heap.size (fun k_ => some k_ ≠ ((.slice (some ad243) t240.length co9) : Value).ownBlock ∧ some k_ ≠ ((.slice (some ad243) t240.length co9) : Value).ownBlock ∧ some k_ ≠ ((.slice Ao15 t244.length co15) : Value).ownBlock) u9 x9_1) ∧ Aside0 (Kd.R (Kd.int .i64) 3 w' w.heap.size (fun k_ => some k_ ≠ (u9 : Value).ownBlock ∧ some k_ ≠ ((.slice Ao15 t244.length co15) : Value).ownBlock) (.slice (some ad243) t240.length co9) t240) ∧ Aside0 (Kd.R (Kd.int .i64) 3 w' w.heap.size (fun k_ => some k_ ≠ (u9 : Value).ownBlock ∧ some k_ ≠ ((.slice Ao15 t244.length co15) : Value).ownBlock) (.slice (some ad243) t240.length co9) t240) ∧ Aside0 (Kd.R (Kd.int .i64) 3 w' w.heap.size (fun k_ => some k_ ≠ (u9 : Value).ownBlock ∧ some k_ ≠ ((.slice (some ad243) t240.length co9) : Value).ownBlock ∧ some k_ ≠ ((.slice (some ad243) t240.length co9) : Value).ownBlock) (.slice Ao15 t244.length co15) t244) ∧ Aside0 (Below w.heap.size w w'))
    case atStart => exact ⟨((-1)), (0), sc, sc, H', kk0, ⟨by (with_reducible repeat (first | apply Kd.R_alloc | apply Kd.R_drewN | apply Kd.R_drew)); exact Kd.R_mono HO_9.out (fun _ hk => ⟨hk.1.1, ⟨hk.1.2, hk.2⟩⟩)⟩, ⟨sr HO_10⟩, ⟨sr HO_22⟩, ⟨by (with_reducible repeat (first | apply Kd.R_alloc | apply Kd.R_drewN | apply Kd.R_drew)); exact Kd.R_mono HO246.out (fun _ hk => ⟨hk.1.1.2, ⟨hk.1.2, hk.2⟩⟩)⟩, ⟨sb⟩⟩
    case round =>
     clear H'
     try clear c10
     try clear c10b0
     try clear c11b0
     try clear c12b0
     try clear hx243_0
     try clear p243
     try clear q243
     obtain ⟨x13_2, x33_2, rfl, rfl, HA, HK2, HO_9, HO_10, HO_22, HO_31, HB⟩ := hrel
     cases gk with
     | zero => exact absurd HA.out (by simp [impl_NextTo.l1])
     | succ k2 =>
      have H := HA.out
      clear HA
      simp only [impl_NextTo.l1] at H
      obtain ⟨c16, H⟩ | ⟨c16, H⟩ := ie_ H
      ·have c16b0 := decide_eq_true c16
       clear c16
       obtain ⟨c17b0, H⟩ := id_ H
       obtain ⟨c18b0, H⟩ := id_ H
       obtain ⟨c19, H⟩ | ⟨c19, H⟩ := ie_ H
       ·have c19b0 := decide_eq_true c19
        clear c19
        obtain ⟨c20, H⟩ | ⟨c20, H⟩ := ie_ H
        ·have c20b0 := decide_eq_true c20
         clear c20
         obtain ⟨t248, A21, H⟩ := bnd H
         obtain rfl | rfl := tt t248
         ·replace H := ip H
          obtain ⟨c23, H⟩ | ⟨c23, H⟩ := ie_ H
          ·have c23b0 := decide_eq_true c23
           clear c23
           obtain ⟨c24b0, H⟩ := id_ H
           obtain ⟨c25b0, H⟩ := id_ H
           obtain ⟨c26, H⟩ | ⟨c26, H⟩ := ie_ H
           ·have c26b0 : ((rd t240 (rd t244 x33_2)) == (wrap64 ((rd t240 x24_1) - 1))) = true := beq_iff_eq.mpr c26
            have c26b1 : ((rd t240 (rd t244 x33_2)) != (wrap64 ((rd t240 x24_1) - 1))) = false := bne_eq_false_iff_eq.mpr c26
            clear c26
            have H' := Aside0.mk H
            clear H
            have p247 : 0 ≤ (x33_2 : Int) := sa
            have q247 : x33_2 < (t244.length : Int) := sa
            obtain ⟨ad247, e247, hx247_0⟩ := Kd.at_int (Kd.R_reads' HO_31.out).2.2 x33_2 p247 q247
            cases e247
            replace p247 := eq_true p247
            replace q247 := eq_true q247
            go_wp2_with (first | (go_at_call 77; (with_reducible refine (impl_isIndex.calls (rd t244 x33_2) a1 true _ A21.out).mono ?_); rintro e w' ⟨rfl, ⟨nd, rfl⟩⟩; have p249 : 0 ≤ ((rd t244 x33_2) : Int) := sa; have q249 : (rd t244 x33_2) < (t240.length : Int) := sa; obtain ⟨ad249, e249, hx249_0⟩ := Kd.at_int (Kd.R_reads' HO_10.out).2.2 (rd t244 x33_2) p249 q249; obtain rfl : ad243 = ad249 := (by injection e249); replace p249 := eq_true p249; replace q249 := eq_true q249))
            go_roundg k2
            case measure => have := HK1.out; have := HK2.out; omega
            case rel => exact ⟨(rd t244 x33_2), (wrap64 (x33_2 + 1)), sc, sc, H', kk2, ⟨sr HO_9⟩, ⟨sr HO_10⟩, ⟨sr HO_22⟩, ⟨sr HO_31⟩, ⟨sb⟩⟩
           ·have c26b0 : ((rd t240 (rd t244 x33_2)) == (wrap64 ((rd t240 x24_1) - 1))) = false := beq_eq_false_iff_ne.mpr c26
            have c26b1 : ((rd t240 (rd t244 x33_2)) != (wrap64 ((rd t240 x24_1) - 1))) = true := bne_iff_ne.mpr c26
            have H' := Aside0.mk H
            clear H
            have p247 : 0 ≤ (x33_2 : Int) := sa
            have q247 : x33_2 < (t244.length : Int) := sa
            obtain ⟨ad247, e247, hx247_0⟩ := Kd.at_int (Kd.R_reads' HO_31.out).2.2 x33_2 p247 q247
            cases e247
            replace p247 := eq_true p247
            replace q247 := eq_true q247
            go_wp2_with (first | (go_at_call 77; (with_reducible refine (impl_isIndex.calls (rd t244 x33_2) a1 true _ A21.out).mono ?_); rintro e w' ⟨rfl, ⟨nd, rfl⟩⟩; have p249 : 0 ≤ ((rd t244 x33_2) : Int) := sa; have q249 : (rd t244 x33_2) < (t240.length : Int) := sa; obtain ⟨ad249, e249, hx249_0⟩ := Kd.at_int (Kd.R_reads' HO_10.out).2.2 (rd t244 x33_2) p249 q249; obtain rfl : ad243 = ad249 := (by injection e249); replace p249 := eq_true p249; replace q249 := eq_true q249))
            go_roundg k2
            case measure => have := HK1.out; have := HK2.out; omega
            case rel => exact ⟨(x13_2), (wrap64 (x33_2 + 1)), sc, sc, H', kk2, ⟨sr HO_9⟩, ⟨sr HO_10⟩, ⟨sr HO_22⟩, ⟨sr HO_31⟩, ⟨sb⟩⟩
          ·have c23b0 := decide_eq_false c23
           clear c23
           obtain ⟨c27, H⟩ | ⟨c27, H⟩ := ie_ H
           ·have c27b0 : ((rd t244 x33_2) == a3) = true := beq_iff_eq.mpr c27
            have c27b1 : ((rd t244 x33_2) != a3) = false := bne_eq_false_iff_eq.mpr c27
            clear c27
            obtain ⟨c28b0, H⟩ := id_ H
            obtain ⟨c29b0, H⟩ := id_ H
            obtain ⟨c30, H⟩ | ⟨c30, H⟩ := ie_ H
            ·have c30b0 : ((rd t240 (rd t244 x33_2)) == (wrap64 ((rd t240 x24_1) - 1))) = true := beq_iff_eq.mpr c30
             have c30b1 : ((rd t240 (rd t244 x33_2)) != (wrap64 ((rd t240 x24_1) - 1))) = false := bne_eq_false_iff_eq.mpr c30
             clear c30
             have H' := Aside0.mk H
             clear H
             have p247 : 0 ≤ (x33_2 : Int) := sa
             have q247 : x33_2 < (t244.length : Int) := sa
             obtain ⟨ad247, e247, hx247_0⟩ := Kd.at_int (Kd.R_reads' HO_31.out).2.2 x33_2 p247 q247
             cases e247
             replace p247 := eq_true p247
             replace q247 := eq_true q247
             go_wp2_with (first | (go_at_call 77; (with_reducible refine (impl_isIndex.calls (rd t244 x33_2) a1 true _ A21.out).mono ?_); rintro e w' ⟨rfl, ⟨nd, rfl⟩⟩; have p250 : 0 ≤ ((rd t244 x33_2) : Int) := sa; have q250 : (rd t244 x33_2) < (t240.length : Int) := sa; obtain ⟨ad250, e250, hx250_0⟩ := Kd.at_int (Kd.R_reads' HO_10.out).2.2 (rd t244 x33_2) p250 q250; obtain rfl : ad243 = ad250 := (by injection e250); replace p250 := eq_true p250; replace q250 := eq_true q250))
             go_roundg k2
             case measure => have := HK1.out; have := HK2.out; omega
             case rel => exact ⟨(rd t244 x33_2), (wrap64 (x33_2 + 1)), sc, sc, H', kk2, ⟨sr HO_9⟩, ⟨sr HO_10⟩, ⟨sr HO_22⟩, ⟨sr HO_31⟩, ⟨sb⟩⟩
            ·have c30b0 : ((rd t240 (rd t244 x33_2)) == (wrap64 ((rd t240 x24_1) - 1))) = false := beq_eq_false_iff_ne.mpr c30
             have c30b1 : ((rd t240 (rd t244 x33_2)) != (wrap64 ((rd t240 x24_1) - 1))) = true := bne_iff_ne.mpr c30
             have H' := Aside0.mk H
             clear H
             have p247 : 0 ≤ (x33_2 : Int) := sa
             have q247 : x33_2 < (t244.length : Int) := sa
             obtain ⟨ad247, e247, hx247_0⟩ := Kd.at_int (Kd.R_reads' HO_31.out).2.2 x33_2 p247 q247
             cases e247
             replace p247 := eq_true p247
             replace q247 := eq_true q247
             go_wp2_with (first | (go_at_call 77; (with_reducible refine (impl_isIndex.calls (rd t244 x33_2) a1 true _ A21.out).mono ?_); rintro e w' ⟨rfl, ⟨nd, rfl⟩⟩; have p250 : 0 ≤ ((rd t244 x33_2) : Int) := sa; have q250 : (rd t244 x33_2) < (t240.length : Int) := sa; obtain ⟨ad250, e250, hx250_0⟩ := Kd.at_int (Kd.R_reads' HO_10.out).2.2 (rd t244 x33_2) p250 q250; obtain rfl : ad243 = ad250 := (by injection e250); replace p250 := eq_true p250; replace q250 := eq_true q250))
             go_roundg k2
             case measure => have := HK1.out; have := HK2.out; omega
             case rel => exact ⟨(x13_2), (wrap64 (x33_2 + 1)), sc, sc, H', kk2, ⟨sr HO_9⟩, ⟨sr HO_10⟩, ⟨sr HO_22⟩, ⟨sr HO_31⟩, ⟨sb⟩⟩
           ·have c27b0 : ((rd t244 x33_2) == a3) = false := beq_eq_false_iff_ne.mpr c27
            have c27b1 : ((rd t244 x33_2) != a3) = true := bne_iff_ne.mpr c27
            have H' := Aside0.mk H
            clear H
            have p247 : 0 ≤ (x33_2 : Int) := sa
            have q247 : x33_2 < (t244.length : Int) := sa
            obtain ⟨ad247, e247, hx247_0⟩ := Kd.at_int (Kd.R_reads' HO_31.out).2.2 x33_2 p247 q247
            cases e247
            replace p247 := eq_true p247
            replace q247 := eq_true q247
            go_wp2_with (first | (go_at_call 77; (with_reducible refine (impl_isIndex.calls (rd t244 x33_2) a1 true _ A21.out).mono ?_); rintro e w' ⟨rfl, ⟨nd, rfl⟩⟩))
            go_roundg k2
            case measure => have := HK1.out; have := HK2.out; omega
            case rel => exact ⟨(x13_2), (wrap64 (x33_2 + 1)), sc, sc, H', kk2, ⟨sr HO_9⟩, ⟨sr HO_10⟩, ⟨sr HO_22⟩, ⟨sr HO_31⟩, ⟨sb⟩⟩
         ·replace H := im H
          have H' := Aside0.mk H
          clear H
          have p247 : 0 ≤ (x33_2 : Int) := sa
          have q247 : x33_2 < (t244.length : Int) := sa
          obtain ⟨ad247, e247, hx247_0⟩ := Kd.at_int (Kd.R_reads' HO_31.out).2.2 x33_2 p247 q247
          cases e247
          replace p247 := eq_true p247
          replace q247 := eq_true q247
          go_wp2_with (first | (go_at_call 77; (with_reducible refine (impl_isIndex.calls (rd t244 x33_2) a1 false _ A21.out).mono ?_); rintro e w' ⟨rfl, ⟨nd, rfl⟩⟩))
          go_roundg k2
          case measure => have := HK1.out; have := HK2.out; omega
          case rel => exact ⟨(x13_2), (wrap64 (x33_2 + 1)), sc, sc, H', kk2, ⟨sr HO_9⟩, ⟨sr HO_10⟩, ⟨sr HO_22⟩, ⟨sr HO_31⟩, ⟨sb⟩⟩
        ·have c20b0 := decide_eq_false c20
         clear c20
         have H' := Aside0.mk H
         clear H
         have p247 : 0 ≤ (x33_2 : Int) := sa
         have q247 : x33_2 < (t244.length : Int) := sa
         obtain ⟨ad247, e247, hx247_0⟩ := Kd.at_int (Kd.R_reads' HO_31.out).2.2 x33_2 p247 q247
         cases e247
         replace p247 := eq_true p247
         replace q247 := eq_true q247
         go_wp2
         go_roundg k2
         case measure => have := HK1.out; have := HK2.out; omega
         case rel => exact ⟨(x13_2), (wrap64 (x33_2 + 1)), sc, sc, H', kk2, ⟨sr HO_9⟩, ⟨sr HO_10⟩, ⟨sr HO_22⟩, ⟨sr HO_31⟩, ⟨sb⟩⟩
       ·have c19b0 := decide_eq_false c19
        clear c19
        have H' := Aside0.mk H
        clear H
        have p247 : 0 ≤ (x33_2 : Int) := sa
        have q247 : x33_2 < (t244.length : Int) := sa
        obtain ⟨ad247, e247, hx247_0⟩ := Kd.at_int (Kd.R_reads' HO_31.out).2.2 x33_2 p247 q247
        cases e247
        replace p247 := eq_true p247
        replace q247 := eq_true q247
        go_wp2
        go_roundg k2
        case measure => have := HK1.out; have := HK2.out; omega
        case rel => exact ⟨(x13_2), (wrap64 (x33_2 + 1)), sc, sc, H', kk2, ⟨sr HO_9⟩, ⟨sr HO_10⟩, ⟨sr HO_22⟩, ⟨sr HO_31⟩, ⟨sb⟩⟩
      ·have c16b0 := decide_eq_false c16
       clear c16
       obtain ⟨LMc31, H⟩ := il_ H
       obtain ⟨y251, hy251⟩ : ∃ y_ : List Int, y_ = (x9_1 ++ [x13_2]) := ⟨_, rfl⟩
       replace H : (impl_NextTo.l0 k2 l0 a1 a2 a3 y251 t240 t240 (t240.length : Int) (wrap64 (x24_1 + 1))) = some r := by first | (rw [hy251]; with_reducible exact H) | (have H2_ := (Option.bind_some _ _).symm.trans H; rw [hy251]; with_reducible exact H2_) | (have H2_ := (Option.bind_some _ _).symm.trans H; with_reducible exact H2_) | with_reducible exact H | (rw [hy251]; exact H) | exact H
       have Ny251 := Aside0.mk hy251
       clear hy251
       have H' := Aside0.mk H
       clear H
       go_wp2_with (first | ((with_reducible refine gate_builtin (b := .append) (xs := #[.tmp 69, .tmp 71]) rfl ?_); at_builtin; refine Kd.R_append (Kd.int .i64) (w0 := w) w.heap.size rfl (.tmp 69) (.tmp 71) 28 3 (.int .i64 0) 8 rfl Try.underlying28 info3 rfl (by decide) (by omega) u9 x9_1 x13_2 [.int .i64 x13_2] (fun k_ => some k_ ≠ (.slice (some ad243) t240.length co9 : Value).ownBlock ∧ some k_ ≠ (.slice (some ad243) t240.length co9 : Value).ownBlock ∧ some k_ ≠ (.slice Ao15 t244.length co15 : Value).ownBlock) (fun _ => False) rfl rfl ?aP (fun _ hk => hk.elim) ?aF ?aO ?aB ?aS ?aL ?_; (case aP => exact rfl); (case aB => exact (sb)); (case aF => exact (fun k_ hk => ⟨Kd.fresh' (Kd.R_lt (sr HO_10)) k_ hk, Kd.fresh' (Kd.R_lt (sr HO_22)) k_ hk, Kd.fresh' (Kd.R_lt (sr HO_31)) k_ hk⟩)); (case aO => exact (sr HO_9)); (case aS => exact (below_size (sb))); (case aL => have := LMc31.out; omega); intro v252 w32 ho hb hg hat; rw [← Ny251.out] at ho; replace HO_10 := Aside0.mk (Kd.R_after (ok := (fun k_ => some k_ ≠ (.slice Ao15 t244.length co15 : Value).ownBlock)) (by (with_reducible repeat (first | apply Kd.R_alloc | apply Kd.R_drewN | apply Kd.R_drew)); exact Kd.R_mono HO_10.out (fun _ hk => ⟨hk.2, hk.1⟩)) hg hat); replace HO_22 := Aside0.mk (Kd.R_after (ok := (fun k_ => some k_ ≠ (.slice Ao15 t244.length co15 : Value).ownBlock)) (by (with_reducible repeat (first | apply Kd.R_alloc | apply Kd.R_drewN | apply Kd.R_drew)); exact Kd.R_mono HO_22.out (fun _ hk => ⟨hk.2, hk.1⟩)) hg hat); replace HO_31 := Aside0.mk (Kd.R_after (ok := (fun k_ => some k_ ≠ (.slice (some ad243) t240.length co9 : Value).ownBlock ∧ some k_ ≠ (.slice (some ad243) t240.length co9 : Value).ownBlock)) (by (with_reducible repeat (first | apply Kd.R_alloc | apply Kd.R_drewN | apply Kd.R_drew)); exact Kd.R_mono HO_31.out (fun _ hk => ⟨⟨hk.2.1, hk.2.2⟩, hk.1⟩)) hg hat); replace HB := Aside0.mk hb; have HO253 := Aside0.mk ho; clear HO_9; clear ho hb hg hat))
       go_roundg k2
       case measure => have := HK1.out; have := HK2.out; omega
       case rel => exact ⟨(y251), (wrap64 (x24_1 + 1)), sc, H', kk2, ⟨by (with_reducible repeat (first | apply Kd.R_alloc | apply Kd.R_drewN | apply Kd.R_drew)); exact Kd.R_mono HO253.out (fun _ hk => ⟨hk.1, hk.2.1⟩)⟩, ⟨by (with_reducible repeat (first | apply Kd.R_alloc | apply Kd.R_drewN | apply Kd.R_drew)); exact Kd.R_mono HO_10.out (fun _ hk => hk.2)⟩, ⟨by (with_reducible repeat (first | apply Kd.R_alloc | apply Kd.R_drewN | apply Kd.R_drew)); exact Kd.R_mono HO_22.out (fun _ hk => hk.2)⟩, ⟨sb⟩⟩
   ·have c10b0 := decide_eq_false c10
    clear c10
    obtain rfl := Option.some.inj H
    go_wp2
    go_ret
    exact ⟨_, se, by (with_reducible repeat (first | apply Kd.R_alloc | apply Kd.R_drewN | apply Kd.R_drew)); exact Kd.R_mono HO_9.out (fun _ hk => trivial), sb⟩

/-! ### impl_TableOf: function 62 -/
def impl_TableOf.f (k : Nat) (l0 : List (S134)) (a1 : Int) (a2 : Int) (a3 : Int) : Option (Int × List Int × List Int) := (impl_DistancesTo.f k l0 a1 a2 a3).bind fun t255 => ((impl_NextTo.f k l0 a1 a2 a3).bind fun t258 => (some (a3, t255, t258)))
theorem impl_TableOf.mono : ∀ a0 a1 a2 a3 k, LeO (impl_TableOf.f k a0 a1 a2 a3) (impl_TableOf.f (k + 1) a0 a1 a2 a3) := by
  intro a0 a1 a2 a3 k
  unfold impl_TableOf.f
  have m0 := @impl_DistancesTo.mono
  have m1 := @impl_NextTo.mono
  exact mo
set_option maxHeartbeats 8000000 in
set_option maxRecDepth 100000 in
theorem impl_TableOf.calls (k : Nat) (A0 : Option Addr) (c0 : Nat) (l0 : List (S134)) (a1 : Int) (a2 : Int) (a3 : Int) (r1 : Int) (r2 : List Int) (r3 : List Int) (w : World) (hr0 : Kd.C k134 w A0 l0.length l0) (hc0 : l0.length ≤ c0) (h : impl_TableOf.f k l0 a1 a2 a3 = some (r1, r2, r3)) :
    Calls Try.prog 62 #[.slice A0 l0.length c0, .int .i64 a1, .int .i64 a2, .int .i64 a3] w fun e w' => ∃ v1_ v2_ : Value, e = .returned (.agg #[.int .i64 r1, v1_, v2_]) ∧ Kd.R (Kd.int .i64) 3 w' w.heap.size (fun k_ => some k_ ≠ (v2_ : Value).ownBlock) v1_ r2 ∧ Kd.R (Kd.int .i64) 3 w' w.heap.size (fun k_ => some k_ ≠ (v1_ : Value).ownBlock) v2_ r3 ∧ Below w.heap.size w w' := by
 have hu55 := Try.underlying55
 have HR0 := Aside0.mk hr0
 have HC0 := Aside0.mk hc0
 clear hr0 hc0
 have HB := Aside0.mk (Below.refl w.heap.size w)
 have H : ((impl_DistancesTo.f k l0 a1 a2 a3).bind fun t255 => ((impl_NextTo.f k l0 a1 a2 a3).bind fun t258 => (some (a3, t255, t258)))) = some (r1, r2, r3) := h
 clear h
 obtain ⟨t255, A5, H⟩ := bnd H
 obtain ⟨t258, A6, H⟩ := bnd H
 simp only [Option.some.injEq, Prod.mk.injEq] at H
 obtain ⟨rfl, rfl, rfl⟩ := H
 go_enter Try.func62, Try.ntmps62
 go_wp2_with (first | ((with_reducible refine gate_dst (N := 8) rfl ?_); refine bx 8 #[.int .i64 0, .slice none 0 0, .slice none 0 0] 55 ?_; intro gb254 hg w7 hbox hb; have GW254 := bz w hg; have GE254 := bz w hg; replace HB := bs hb; have BK254 := Aside0.mk hbox; clear hb hbox hg) | ((with_reducible refine gate_callee (f := 55) rfl ?_); refine gL (some 14) Try.func55 #[.slice A0 l0.length c0, .int .i64 a1, .int .i64 a2, .int .i64 a3] ?_; (with_reducible refine (impl_DistancesTo.calls k _ _ l0 a1 a2 a3 t255 _ ?side1 ?side2 A5.out).mono ?_); (case side1 => exact cb HR0); (case side2 => exact HC0.out); rintro e w8 ⟨v256, rfl, ho0, hb⟩; refine ⟨_, rfl, ?_⟩; have HO257 := Aside0.mk (Kd.R_lower ho0 (below_size (sbw))); replace BK254 := bb BK254 hb; replace HB := bsw hb; (try clear hb); (try clear hb2); (try clear hk); (try clear hi); (try clear ho0)) | ((with_reducible refine gate_callee (f := 57) rfl ?_); refine gL (some 19) Try.func57 #[.slice A0 l0.length c0, .int .i64 a1, .int .i64 a2, .int .i64 a3] ?_; (with_reducible refine (impl_NextTo.calls k _ _ l0 a1 a2 a3 t258 _ ?side1 ?side2 A6.out).mono ?_); (case side1 => exact cb HR0); (case side2 => exact HC0.out); rintro e w9 ⟨v259, rfl, ho0, hb⟩; refine ⟨_, rfl, ?_⟩; have HO260 := Aside0.mk (Kd.R_lower (Kd.R_new' ho0 (Kd.R_lt (sr HO257))) (below_size (sbw))); replace HO257 := Aside0.mk (Kd.R_elder' (sr HO257) (Kd.R_base ho0) hb); replace BK254 := bb BK254 hb; replace HB := bsw hb; (try clear hb); (try clear hb2); (try clear hk); (try clear hi); (try clear ho0); obtain ⟨Ao10, co10, eo10⟩ := Kd.R_slice HO260.out; subst eo10; obtain ⟨Ao11, co11, eo11⟩ := Kd.R_slice HO257.out; subst eo11; obtain ⟨hcz12_0, hcz12_1, hcz12_2, hfz12_0, hfz12_1, hfz12_2⟩ := cc3 BK254))
 refine bodyPost_ret (results_cell_row rfl _ _ gb254 55 #[.int .i64 a3, .slice Ao11 t255.length co11, .slice Ao10 t258.length co10] (0, 0) _ rfl (sp BK254) Try.underlying55 rfl (by kernel_rfl)) rfl ?_
 exact ⟨_, _, se, by (with_reducible repeat (first | apply Kd.R_alloc | apply Kd.R_drewN | apply Kd.R_drew)); exact Kd.R_mono (Kd.R_far (p := ⟨gb254, 2, none⟩) (Kd.R_far (p := ⟨gb254, 1, none⟩) (Kd.R_far (p := ⟨gb254, 0, none⟩) (Kd.R_types HO257.out BK254.out (by decide)) (fun _ hk => hk.2) (.int .i64 a3)) (fun _ hk => hk.2) (.slice Ao11 t255.length co11)) (fun _ hk => hk.2) (.slice Ao10 t258.length co10)) (fun _ hk => hk.1.2), by (with_reducible repeat (first | apply Kd.R_alloc | apply Kd.R_drewN | apply Kd.R_drew)); exact Kd.R_mono (Kd.R_far (p := ⟨gb254, 2, none⟩) (Kd.R_far (p := ⟨gb254, 1, none⟩) (Kd.R_far (p := ⟨gb254, 0, none⟩) (Kd.R_types HO260.out BK254.out (by decide)) (fun _ hk => hk.2) (.int .i64 a3)) (fun _ hk => hk.2) (.slice Ao11 t255.length co11)) (fun _ hk => hk.2) (.slice Ao10 t258.length co10)) (fun _ hk => hk.1.2), sbw⟩

/-! ### spec_l1In: function 85 -/
def spec_l1In.f (a0 : Int) (a1 : Int) (a2 : Int) : Option (Bool) := if a0 ≥ a1 then (some (decide (a0 ≤ a2))) else (some false)
set_option maxHeartbeats 8000000 in
set_option maxRecDepth 100000 in
theorem spec_l1In.calls (a0 : Int) (a1 : Int) (a2 : Int) (r : Bool) (w : World) (h : spec_l1In.f a0 a1 a2 = some r) :
    Calls Try.prog 85 #[.int .i64 a0, .int .i64 a1, .int .i64 a2] w fun e w' => e = .returned (.bool r) ∧ Drawn0 w w' := by
 have H : (if a0 ≥ a1 then (some (decide (a0 ≤ a2))) else (some false)) = some r := h
 clear h
 obtain ⟨c4, H⟩ | ⟨c4, H⟩ := ie_ H
 ·have c4b0 := decide_eq_true c4
  clear c4
  obtain rfl := Option.some.inj H
  go_enter Try.func85, Try.ntmps85
  go_wp2
  go_ret
  exact ⟨sc, sd⟩
 ·have c4b0 := decide_eq_false c4
  clear c4
  obtain rfl := Option.some.inj H
  go_enter Try.func85, Try.ntmps85
  go_wp2
  go_ret
  exact ⟨sc, sd⟩

/-! ### spec_l14Ok: function 126 -/
def spec_l14Ok.f (a0 : Int) (a1 : Int) : Option (Bool) := (spec_l1In.f a0 1 12).bind fun t261 => (if t261 = true then ((spec_l1In.f a1 0 (wrap64 (a0 - 1))).bind fun t262 => (some t262)) else (some false))
set_option maxHeartbeats 8000000 in
set_option maxRecDepth 100000 in
theorem spec_l14Ok.calls (a0 : Int) (a1 : Int) (r : Bool) (w : World) (h : spec_l14Ok.f a0 a1 = some r) :
    Calls Try.prog 126 #[.int .i64 a0, .int .i64 a1] w fun e w' => e = .returned (.bool r) ∧ Drawn0 w w' := by
 have H : ((spec_l1In.f a0 1 12).bind fun t261 => (if t261 = true then ((spec_l1In.f a1 0 (wrap64 (a0 - 1))).bind fun t262 => (some t262)) else (some false))) = some r := h
 clear h
 obtain ⟨t261, A3, H⟩ := bnd H
 obtain rfl | rfl := tt t261
 ·replace H := ip H
  obtain ⟨t262, A5, H⟩ := bnd H
  obtain rfl := Option.some.inj H
  go_enter Try.func126, Try.ntmps126
  go_wp2_with (first | ((with_reducible refine gate_callee (f := 85) rfl ?_); refine gL (some 6) Try.func85 #[.int .i64 a0, .int .i64 1, .int .i64 12] ?_; (with_reducible refine (spec_l1In.calls a0 1 12 true _ A3.out).mono ?_); rintro e w' ⟨rfl, ⟨nd, rfl⟩⟩; refine ⟨_, rfl, ?_⟩) | (go_at_call 85; (try simp only [i64_w, i32_w]); (with_reducible refine (spec_l1In.calls a1 0 (wrap64 (a0 - 1)) t262 _ A5.out).mono ?_); rintro e w' ⟨rfl, ⟨nd, rfl⟩⟩))
  go_ret
  exact ⟨sc, sd⟩
 ·replace H := im H
  obtain rfl := Option.some.inj H
  go_enter Try.func126, Try.ntmps126
  go_wp2_with (first | ((with_reducible refine gate_callee (f := 85) rfl ?_); refine gL (some 6) Try.func85 #[.int .i64 a0, .int .i64 1, .int .i64 12] ?_; (with_reducible refine (spec_l1In.calls a0 1 12 false _ A3.out).mono ?_); rintro e w' ⟨rfl, ⟨nd, rfl⟩⟩; refine ⟨_, rfl, ?_⟩))
  go_ret
  exact ⟨sc, sd⟩

end Go.Proofs.Ytiihaabhjphaeaa.QFnTables
