/- What the Go functions of the law FnExactNextsAt come to, as Lean functions, and that they do: by a program of the session, out of the kit's printer. Conditions: none. (squeezed). -/
import Derived.Test.YtlakjlolahjphaaVFnExactNextsAtSq
import Derived.Test.YtlakjlolahjphaaVFnExactNextsAtQFnExactNextsAtx0
import Derived.Test.YtlakjlolahjphaaVFnExactNextsAtQFnExactNextsAtx6
namespace Go.Proofs.Ytlakjlolahjphaa.QFnExactNextsAt
open Go.RowKit Go.Proofs.YtlakjlolahjphaaW.PrintWords Go.Proofs.YtlakjlolahjphaaW.PrintLast Go.Proofs.YtlakjlolahjphaaW.PrintMore Go.Proofs.Ytlakjlolahjphaa.Open Go.Proofs.Ytlakjlolahjphaa.Sq
attribute [local go_sem] max2_int min2_int max_two min_two max_three min_three max_four min_four   -- for this text's walks alone
attribute [local go_sem] isSome_set
set_option linter.unusedVariables false
set_option linter.unusedSimpArgs false

/-! ### spec_UnionHasLoop: function 128 -/
mutual
def spec_UnionHasLoop.l0 : Nat → List (List Int) → Int → Int → Option (Bool)
  | 0, _, _, _ => none
  | k + 1, x0, x3, x4 => if x4 < x3 then ((spec_l18Steps.f k x0 x3 x4).bind fun t271 => (spec_UnionHasLoop.l1 k x0 x3 x4 t271 0)) else (some false)
def spec_UnionHasLoop.l1 : Nat → List (List Int) → Int → Int → List Int → Int → Option (Bool)
  | 0, _, _, _, _, _ => none
  | k + 1, x0, x3, x4, x5, x6 => if x6 < (x5.length : Int) then (if 0 ≤ x6 then (if (rd x5 x6) = x4 then (some true) else ((spec_l18Steps.f k x0 x3 (rd x5 x6)).bind fun t276 => (spec_UnionHasLoop.l2 k x0 x3 x4 x5 x6 t276 0))) else (none)) else (spec_UnionHasLoop.l0 k x0 x3 (wrap64 (x4 + 1)))
def spec_UnionHasLoop.l2 : Nat → List (List Int) → Int → Int → List Int → Int → List Int → Int → Option (Bool)
  | 0, _, _, _, _, _, _, _ => none
  | k + 1, x0, x3, x4, x5, x6, x7, x8 => if x8 < (x7.length : Int) then (if 0 ≤ x8 then ((spec_l15Has.f k x5 (rd x7 x8)).bind fun t280 => (if t280 = true then (spec_UnionHasLoop.l2 k x0 x3 x4 x5 x6 x7 (wrap64 (x8 + 1))) else (if x5.length < 17592186044416 then (spec_UnionHasLoop.l2 k x0 x3 x4 (x5 ++ [rd x7 x8]) x6 x7 (wrap64 (x8 + 1))) else (none)))) else (none)) else (spec_UnionHasLoop.l1 k x0 x3 x4 x5 (wrap64 (x6 + 1)))
end
def spec_UnionHasLoop.f (k : Nat) (l0 : List (List Int)) : Option (Bool) := (spec_l18Size.f k l0).bind fun t270 => (spec_UnionHasLoop.l0 k l0 t270 0)
theorem spec_UnionHasLoop.mono_l : ∀ k, (∀ y0 y1 y2, LeO (spec_UnionHasLoop.l0 k y0 y1 y2) (spec_UnionHasLoop.l0 (k + 1) y0 y1 y2)) ∧ (∀ y0 y1 y2 y3 y4, LeO (spec_UnionHasLoop.l1 k y0 y1 y2 y3 y4) (spec_UnionHasLoop.l1 (k + 1) y0 y1 y2 y3 y4)) ∧ (∀ y0 y1 y2 y3 y4 y5 y6, LeO (spec_UnionHasLoop.l2 k y0 y1 y2 y3 y4 y5 y6) (spec_UnionHasLoop.l2 (k + 1) y0 y1 y2 y3 y4 y5 y6))
  | 0 => ⟨fun _ _ _ r h => by simp [spec_UnionHasLoop.l0] at h, fun _ _ _ _ _ r h => by simp [spec_UnionHasLoop.l1] at h, fun _ _ _ _ _ _ _ r h => by simp [spec_UnionHasLoop.l2] at h⟩
  | k + 1 => by
    obtain ⟨ih0, ih1, ih2⟩ := spec_UnionHasLoop.mono_l k
    refine ⟨?_, ?_, ?_⟩
    · intro y0 y1 y2
      unfold spec_UnionHasLoop.l0
      have m0 := @spec_l15Has.mono
      have m1 := @spec_l18Size.mono
      have m2 := @spec_l18Steps.mono
      exact mo
    · intro y0 y1 y2 y3 y4
      unfold spec_UnionHasLoop.l1
      have m0 := @spec_l15Has.mono
      have m1 := @spec_l18Size.mono
      have m2 := @spec_l18Steps.mono
      exact mo
    · intro y0 y1 y2 y3 y4 y5 y6
      unfold spec_UnionHasLoop.l2
      have m0 := @spec_l15Has.mono
      have m1 := @spec_l18Size.mono
      have m2 := @spec_l18Steps.mono
      exact mo
theorem spec_UnionHasLoop.mono : ∀ a0 k, LeO (spec_UnionHasLoop.f k a0) (spec_UnionHasLoop.f (k + 1) a0) := by
  intro a0 k
  obtain ⟨ih0, ih1, ih2⟩ := spec_UnionHasLoop.mono_l k
  unfold spec_UnionHasLoop.f
  have m0 := @spec_l15Has.mono
  have m1 := @spec_l18Size.mono
  have m2 := @spec_l18Steps.mono
  exact mo
set_option maxHeartbeats 8000000 in
set_option maxRecDepth 100000 in
theorem spec_UnionHasLoop.calls (k : Nat) (A0 : Option Addr) (c0 : Nat) (l0 : List (List Int)) (r : Bool) (w : World) (hr0 : Kd.C (Kd.slice 3 (Kd.int .i64)) w A0 l0.length l0) (hc0 : l0.length ≤ c0) (h : spec_UnionHasLoop.f k l0 = some r) :
    Calls Try.prog 128 #[.slice A0 l0.length c0] w fun e w' => e = .returned (.bool r) ∧ Below w.heap.size w w' := by
 have HR0 := Aside0.mk hr0
 have HC0 := Aside0.mk hc0
 clear hr0 hc0
 have HB := Aside0.mk (Below.refl w.heap.size w)
 have H : ((spec_l18Size.f k l0).bind fun t270 => (spec_UnionHasLoop.l0 k l0 t270 0)) = some r := h
 clear h
 obtain ⟨t270, A2, H⟩ := bnd H
 have H' := Aside0.mk H
 clear H
 go_enter Try.func128, Try.ntmps128
 go_wp2_with (first | ((with_reducible refine gate_callee (f := 166) rfl ?_); refine gL (some 10) Try.func166 #[.slice A0 l0.length c0] ?_; (with_reducible refine (spec_l18Size.calls k _ _ l0 t270 _ ?side1 ?side2 A2.out).mono ?_); (case side1 => repeat (first | exact HR0.out | (with_reducible refine Kd.C_alloc ?_ _) | (with_reducible refine Kd.C_drewN ?_ _) | (with_reducible refine Kd.C_drew ?_))); (case side2 => exact HC0.out); rintro e w' ⟨rfl, ⟨nd, rfl⟩⟩; refine ⟨_, rfl, ?_⟩))
 go_loopg [4] k (fun kq v4 w' => ∃ (x4_1 : Int), v4 = .int .i64 x4_1 ∧ Aside0 (spec_UnionHasLoop.l0 kq l0 t270 x4_1 = some r) ∧ Aside0 (kq ≤ k) ∧ Aside0 (Below w.heap.size w w'))
 case atStart => exact ⟨(0), sc, H', kk0, ⟨sb⟩⟩
 case round =>
  clear H'
  obtain ⟨x4_1, rfl, HA, HK1, HB⟩ := hrel
  cases gk with
  | zero => exact absurd HA.out (by simp [spec_UnionHasLoop.l0])
  | succ k1 =>
   have H := HA.out
   clear HA
   simp only [spec_UnionHasLoop.l0] at H
   obtain ⟨c3, H⟩ | ⟨c3, H⟩ := ie_ H
   ·have c3b0 := decide_eq_true c3
    clear c3
    obtain ⟨t271, A4, H⟩ := bnd H
    have H' := Aside0.mk H
    clear H
    go_wp2_with (first | ((with_reducible refine gate_callee (f := 167) rfl ?_); refine gL (some 19) Try.func167 #[.slice A0 l0.length c0, .int .i64 t270, .int .i64 x4_1] ?_; (with_reducible refine (spec_l18Steps.calls k1 _ _ l0 t270 x4_1 t271 _ ?side1 ?side2 A4.out).mono ?_); (case side1 => exact cb HR0); (case side2 => exact HC0.out); rintro e w5 ⟨v272, rfl, ho0, hb⟩; refine ⟨_, rfl, ?_⟩; have HO273 := Aside0.mk (Kd.R_lower ho0 (below_size (sb))); replace HB := bs hb; (try clear hb); (try clear hb2); (try clear hk); (try clear hi); (try clear ho0)))
    go_loopg [5, 6] k1 (fun kq v5 v6 w' => ∃ (x5_2 : List Int) (x6_2 : Int), v6 = .int .i64 x6_2 ∧ Aside0 (spec_UnionHasLoop.l1 kq l0 t270 x4_1 x5_2 x6_2 = some r) ∧ Aside0 (kq ≤ k1) ∧ Aside0 (Kd.R (Kd.int .i64) 3 w' w.heap.size (fun _ => True) v5 x5_2) ∧ Aside0 (Below w.heap.size w w'))
    case atStart => exact ⟨(t271), (0), sc, H', kk0, ⟨sr HO273⟩, ⟨sb⟩⟩
    case round =>
     clear H'
     try clear c3
     try clear c3b0
     obtain ⟨x5_2, x6_2, rfl, HA, HK2, HO_5, HB⟩ := hrel
     cases gk with
     | zero => exact absurd HA.out (by simp [spec_UnionHasLoop.l1])
     | succ k2 =>
      have H := HA.out
      clear HA
      simp only [spec_UnionHasLoop.l1] at H
      obtain ⟨c6, H⟩ | ⟨c6, H⟩ := ie_ H
      ·have c6b0 := decide_eq_true c6
       clear c6
       obtain ⟨c7b0, H⟩ := id_ H
       obtain ⟨c8, H⟩ | ⟨c8, H⟩ := ie_ H
       ·have c8b0 : ((rd x5_2 x6_2) == x4_1) = true := beq_iff_eq.mpr c8
        have c8b1 : ((rd x5_2 x6_2) != x4_1) = false := bne_eq_false_iff_eq.mpr c8
        clear c8
        obtain rfl := Option.some.inj H
        obtain ⟨Ao9, co9, eo9⟩ := Kd.R_slice HO_5.out
        subst eo9
        have p274 : 0 ≤ (x6_2 : Int) := sa
        have q274 : x6_2 < (x5_2.length : Int) := sa
        obtain ⟨ad274, e274, hx274_0⟩ := Kd.at_int (Kd.R_reads' HO_5.out).2.2 x6_2 p274 q274
        cases e274
        replace p274 := eq_true p274
        replace q274 := eq_true q274
        go_wp2
        go_ret
        exact ⟨se, sb⟩
       ·have c8b0 : ((rd x5_2 x6_2) == x4_1) = false := beq_eq_false_iff_ne.mpr c8
        have c8b1 : ((rd x5_2 x6_2) != x4_1) = true := bne_iff_ne.mpr c8
        obtain ⟨t276, A10, H⟩ := bnd H
        have H' := Aside0.mk H
        clear H
        obtain ⟨Ao11, co11, eo11⟩ := Kd.R_slice HO_5.out
        subst eo11
        have p274 : 0 ≤ (x6_2 : Int) := sa
        have q274 : x6_2 < (x5_2.length : Int) := sa
        obtain ⟨ad274, e274, hx274_0⟩ := Kd.at_int (Kd.R_reads' HO_5.out).2.2 x6_2 p274 q274
        cases e274
        replace p274 := eq_true p274
        replace q274 := eq_true q274
        have p275 : 0 ≤ (x6_2 : Int) := sa
        have q275 : x6_2 < (x5_2.length : Int) := sa
        obtain ⟨ad275, e275, hx275_0⟩ := Kd.at_int (Kd.R_reads' HO_5.out).2.2 x6_2 p275 q275
        obtain rfl : ad274 = ad275 := (by injection e275)
        replace p275 := eq_true p275
        replace q275 := eq_true q275
        go_wp2_with (first | ((with_reducible refine gate_callee (f := 167) rfl ?_); refine gL (some 38) Try.func167 #[.slice A0 l0.length c0, .int .i64 t270, .int .i64 (rd x5_2 x6_2)] ?_; (with_reducible refine (spec_l18Steps.calls k2 _ _ l0 t270 (rd x5_2 x6_2) t276 _ ?side1 ?side2 A10.out).mono ?_); (case side1 => exact cb HR0); (case side2 => exact HC0.out); rintro e w12 ⟨v277, rfl, ho0, hb⟩; refine ⟨_, rfl, ?_⟩; have HO278 := Aside0.mk (Kd.R_lower (Kd.R_new' ho0 (Kd.R_lt (sr HO_5))) (below_size (sb))); replace HO_5 := Aside0.mk (Kd.R_elder' (sr HO_5) (Kd.R_base ho0) hb); replace HB := bs hb; (try clear hb); (try clear hb2); (try clear hk); (try clear hi); (try clear ho0)))
        go_loopg [5, 8] k2 (fun kq v5 v8 w' => ∃ (x5_3 : List Int) (x8_3 : Int), v8 = .int .i64 x8_3 ∧ Aside0 (spec_UnionHasLoop.l2 kq l0 t270 x4_1 x5_3 x6_2 t276 x8_3 = some r) ∧ Aside0 (kq ≤ k2) ∧ Aside0 (Kd.R (Kd.int .i64) 3 w' w.heap.size (fun k_ => some k_ ≠ (v277 : Value).ownBlock) v5 x5_3) ∧ Aside0 (Kd.R (Kd.int .i64) 3 w' w.heap.size (fun k_ => some k_ ≠ (v5 : Value).ownBlock) v277 t276) ∧ Aside0 (Below w.heap.size w w'))
        case atStart => exact ⟨(x5_2), (0), sc, H', kk0, ⟨by (with_reducible repeat (first | apply Kd.R_alloc | apply Kd.R_drewN | apply Kd.R_drew)); exact Kd.R_mono HO_5.out (fun _ hk => hk.2)⟩, ⟨by (with_reducible repeat (first | apply Kd.R_alloc | apply Kd.R_drewN | apply Kd.R_drew)); exact Kd.R_mono HO278.out (fun _ hk => hk.2)⟩, ⟨sb⟩⟩
        case round =>
         clear H'
         try clear c3
         try clear c3b0
         try clear c6
         try clear c6b0
         try clear c7b0
         try clear c8
         try clear c8b0
         try clear c8b1
         try clear hx274_0
         try clear hx275_0
         try clear p274
         try clear p275
         try clear q274
         try clear q275
         obtain ⟨x5_3, x8_3, rfl, HA, HK3, HO_5, HO_7, HB⟩ := hrel
         cases gk with
         | zero => exact absurd HA.out (by simp [spec_UnionHasLoop.l2])
         | succ k3 =>
          have H := HA.out
          clear HA
          simp only [spec_UnionHasLoop.l2] at H
          obtain ⟨c13, H⟩ | ⟨c13, H⟩ := ie_ H
          ·have c13b0 := decide_eq_true c13
           clear c13
           obtain ⟨c14b0, H⟩ := id_ H
           obtain ⟨t280, A15, H⟩ := bnd H
           obtain rfl | rfl := tt t280
           ·replace H := ip H
            have H' := Aside0.mk H
            clear H
            obtain ⟨Ao17, co17, eo17⟩ := Kd.R_slice HO_7.out
            subst eo17
            have p279 : 0 ≤ (x8_3 : Int) := sa
            have q279 : x8_3 < (t276.length : Int) := sa
            obtain ⟨ad279, e279, hx279_0⟩ := Kd.at_int (Kd.R_reads' HO_7.out).2.2 x8_3 p279 q279
            cases e279
            replace p279 := eq_true p279
            replace q279 := eq_true q279
            obtain ⟨Ao18, co18, eo18⟩ := Kd.R_slice HO_5.out
            subst eo18
            go_wp2_with (first | ((with_reducible refine gate_callee (f := 102) rfl ?_); refine gL (some 50) Try.func102 #[.slice Ao18 x5_3.length co18, .int .i64 (rd t276 x8_3)] ?_; (with_reducible refine (spec_l15Has.calls k3 _ _ x5_3 (rd t276 x8_3) true _ ?side1 ?side2 A15.out).mono ?_); (case side1 => repeat (first | exact (Kd.R_reads' HO_5.out).2.2 | (with_reducible refine Kd.C_alloc ?_ _) | (with_reducible refine Kd.C_drewN ?_ _) | (with_reducible refine Kd.C_drew ?_))); (case side2 => exact (Kd.R_reads' HO_5.out).2.1); rintro e w' ⟨rfl, ⟨nd, rfl⟩⟩; refine ⟨_, rfl, ?_⟩))
            go_roundg k3
            case measure => have := HK1.out; have := HK2.out; have := HK3.out; omega
            case rel => exact ⟨(x5_3), (wrap64 (x8_3 + 1)), sc, H', kk3, ⟨sr HO_5⟩, ⟨sr HO_7⟩, ⟨sb⟩⟩
           ·replace H := im H
            obtain ⟨LMc19, H⟩ := il_ H
            obtain ⟨y282, hy282⟩ : ∃ y_ : List Int, y_ = (x5_3 ++ [rd t276 x8_3]) := ⟨_, rfl⟩
            replace H : (spec_UnionHasLoop.l2 k3 l0 t270 x4_1 y282 x6_2 t276 (wrap64 (x8_3 + 1))) = some r := by first | (rw [hy282]; with_reducible exact H) | (have H2_ := (Option.bind_some _ _).symm.trans H; rw [hy282]; with_reducible exact H2_) | (have H2_ := (Option.bind_some _ _).symm.trans H; with_reducible exact H2_) | with_reducible exact H | (rw [hy282]; exact H) | exact H
            have Ny282 := Aside0.mk hy282
            clear hy282
            have H' := Aside0.mk H
            clear H
            obtain ⟨Ao20, co20, eo20⟩ := Kd.R_slice HO_7.out
            subst eo20
            have p279 : 0 ≤ (x8_3 : Int) := sa
            have q279 : x8_3 < (t276.length : Int) := sa
            obtain ⟨ad279, e279, hx279_0⟩ := Kd.at_int (Kd.R_reads' HO_7.out).2.2 x8_3 p279 q279
            cases e279
            replace p279 := eq_true p279
            replace q279 := eq_true q279
            obtain ⟨Ao21, co21, eo21⟩ := Kd.R_slice HO_5.out
            subst eo21
            go_wp2_with (first | ((with_reducible refine gate_callee (f := 102) rfl ?_); refine gL (some 50) Try.func102 #[.slice Ao21 x5_3.length co21, .int .i64 (rd t276 x8_3)] ?_; (with_reducible refine (spec_l15Has.calls k3 _ _ x5_3 (rd t276 x8_3) false _ ?side1 ?side2 A15.out).mono ?_); (case side1 => repeat (first | exact (Kd.R_reads' HO_5.out).2.2 | (with_reducible refine Kd.C_alloc ?_ _) | (with_reducible refine Kd.C_drewN ?_ _) | (with_reducible refine Kd.C_drew ?_))); (case side2 => exact (Kd.R_reads' HO_5.out).2.1); rintro e w' ⟨rfl, ⟨nd, rfl⟩⟩; refine ⟨_, rfl, ?_⟩; have p281 : 0 ≤ (x8_3 : Int) := sa; have q281 : x8_3 < (t276.length : Int) := sa; obtain ⟨ad281, e281, hx281_0⟩ := Kd.at_int (Kd.R_reads' HO_7.out).2.2 x8_3 p281 q281; obtain rfl : ad279 = ad281 := (by injection e281); replace p281 := eq_true p281; replace q281 := eq_true q281) | ((with_reducible refine gate_builtin (b := .append) (xs := #[.tmp 52, .tmp 57]) rfl ?_); at_builtin; refine Kd.R_append (Kd.int .i64) (w0 := w) w.heap.size rfl (.tmp 52) (.tmp 57) 40 3 (.int .i64 0) 8 rfl Try.underlying40 info3 rfl (by decide) (by omega) (.slice Ao21 x5_3.length co21) x5_3 (rd t276 x8_3) [.int .i64 (rd t276 x8_3)] (fun k_ => some k_ ≠ (.slice (some ad279) t276.length co20 : Value).ownBlock) (fun _ => False) rfl rfl ?aP (fun _ hk => hk.elim) ?aF ?aO ?aB ?aS ?aL ?_; (case aP => exact rfl); (case aB => exact (sb)); (case aF => exact (fun k_ hk => Kd.fresh' (Kd.R_lt (sr HO_7)) k_ hk)); (case aO => exact (sr HO_5)); (case aS => exact (below_size (sb))); (case aL => have := LMc19.out; omega); intro v283 w22 ho hb hg hat; rw [← Ny282.out] at ho; replace HO_7 := Aside0.mk (Kd.R_after (ok := (fun _ => True)) (by (with_reducible repeat (first | apply Kd.R_alloc | apply Kd.R_drewN | apply Kd.R_drew)); exact Kd.R_mono HO_7.out (fun _ hk => ⟨trivial, hk⟩)) hg hat); replace HB := Aside0.mk hb; have HO284 := Aside0.mk ho; clear HO_5; clear ho hb hg hat))
            go_roundg k3
            case measure => have := HK1.out; have := HK2.out; have := HK3.out; omega
            case rel => exact ⟨(y282), (wrap64 (x8_3 + 1)), sc, H', kk3, ⟨sr HO284⟩, ⟨by (with_reducible repeat (first | apply Kd.R_alloc | apply Kd.R_drewN | apply Kd.R_drew)); exact Kd.R_mono HO_7.out (fun _ hk => hk.2)⟩, ⟨sb⟩⟩
          ·have c13b0 := decide_eq_false c13
           clear c13
           have H' := Aside0.mk H
           clear H
           obtain ⟨Ao23, co23, eo23⟩ := Kd.R_slice HO_7.out
           subst eo23
           go_wp2
           go_roundg k3
           case measure => have := HK1.out; have := HK2.out; have := HK3.out; omega
           case rel => exact ⟨(x5_3), (wrap64 (x6_2 + 1)), sc, H', kk3, ⟨by (with_reducible repeat (first | apply Kd.R_alloc | apply Kd.R_drewN | apply Kd.R_drew)); exact Kd.R_mono HO_5.out (fun _ hk => trivial)⟩, ⟨sb⟩⟩
      ·have c6b0 := decide_eq_false c6
       clear c6
       have H' := Aside0.mk H
       clear H
       obtain ⟨Ao24, co24, eo24⟩ := Kd.R_slice HO_5.out
       subst eo24
       go_wp2
       go_roundg k2
       case measure => have := HK1.out; have := HK2.out; omega
       case rel => exact ⟨(wrap64 (x4_1 + 1)), sc, H', kk2, ⟨sb⟩⟩
   ·have c3b0 := decide_eq_false c3
    clear c3
    obtain rfl := Option.some.inj H
    go_wp2
    go_ret
    exact ⟨se, sb⟩

end Go.Proofs.Ytlakjlolahjphaa.QFnExactNextsAt
