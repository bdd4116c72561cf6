/- What the Go functions of the law FnBatteries come to, as Lean functions, and that they do: by a program of the session, out of the kit's printer. Conditions: none. (squeezed). -/
import Derived.Test.YtaciciobhfoglaaSq
import Derived.Test.YtaciciobhfoglaaQFnBatteriesx0
import Derived.Test.YtaciciobhfoglaaQFnBatteriesx2
import Derived.Test.YtaciciobhfoglaaQFnBatteriesx3
namespace Go.Proofs.Ytaciciobhfoglaa.QFnBatteries
open Go.RowKit Go.Proofs.YtaciciobhfoglaaW.PrintWords Go.Proofs.YtaciciobhfoglaaW.PrintLast Go.Proofs.YtaciciobhfoglaaW.PrintMore Go.Proofs.Ytaciciobhfoglaa.Open Go.Proofs.Ytaciciobhfoglaa.Sq
attribute [local go_sem] max2_int min2_int max_two min_two max_three min_three max_four min_four   -- for this text's walks alone
attribute [local go_sem] isSome_set
set_option linter.unusedVariables false
set_option linter.unusedSimpArgs false

/-! ### impl_needs: function 72 -/
mutual
def impl_needs.j0 : Nat → List (S100) → Int → Int → Bool → Int → Int → Int → Int → Int → Int → Option (List Int)
  | 0, _, _, _, _, _, _, _, _, _, _ => none
  | k + 1, x1, x2, x3, x35, x140000, x140001, x140002, x140003, x140004, x140005 => if x35 = true then (some (([0] : List Int))) else ((impl_ticks.f k x1).bind fun t145 => (if 0 ≤ (wrap64 ((wrap64 (x3 - x2)) + 1)) then (if (wrap64 ((wrap64 (x3 - x2)) + 1) : Int).toNat ≤ 35184372088832 then (impl_needs.l0 k x2 t145 (List.replicate (wrap64 ((wrap64 (x3 - x2)) + 1) : Int).toNat 0) (wrap64 (x3 - 1)) x140000 x140001 x140002 x140003 x140004 x140005) else (none)) else (none)))
def impl_needs.l0 : Nat → Int → List Bool → List Int → Int → Int → Int → Int → Int → Int → Int → Option (List Int)
  | 0, _, _, _, _, _, _, _, _, _, _ => none
  | k + 1, x2, x9, x10, x11, x140000, x140001, x140002, x140003, x140004, x140005 => if x11 ≥ x2 then (if 0 ≤ (wrap64 ((wrap64 (x11 - x2)) + 1)) then (if (wrap64 ((wrap64 (x11 - x2)) + 1)) < (x10.length : Int) then (if 0 ≤ x11 then (if x11 < (x9.length : Int) then (if rdOf false x9 x11 = true then (if 0 ≤ (wrap64 (x11 - x2)) then (if (wrap64 (x11 - x2)) < (x10.length : Int) then (impl_needs.l0 k x2 x9 (x10.set ((wrap64 (x11 - x2)) : Int).toNat (mx 0 (wrap64 ((wrap64 ((rd x10 (wrap64 ((wrap64 (x11 - x2)) + 1))) + x140003)) - x140005)))) (wrap64 (x11 - 1)) x140000 x140001 x140002 x140003 x140004 x140005) else (none)) else (none)) else (if 0 ≤ (wrap64 (x11 - x2)) then (if (wrap64 (x11 - x2)) < (x10.length : Int) then (impl_needs.l0 k x2 x9 (x10.set ((wrap64 (x11 - x2)) : Int).toNat (mx 0 (wrap64 ((rd x10 (wrap64 ((wrap64 (x11 - x2)) + 1))) + x140003)))) (wrap64 (x11 - 1)) x140000 x140001 x140002 x140003 x140004 x140005) else (none)) else (none))) else (none)) else (none)) else (none)) else (none)) else (some x10)
end
def impl_needs.f (k : Nat) (a0_0 : Int) (a0_1 : Int) (a0_2 : Int) (a0_3 : Int) (a0_4 : Int) (a0_5 : Int) (l1 : List (S100)) (a2 : Int) (a3 : Int) : Option (List Int) := (impl_InRange.f a0_3 0 100).bind fun t140 => (if t140 = true then ((impl_InRange.f a0_5 0 100).bind fun t141 => (if t141 = true then (if a2 < 0 then (impl_needs.j0 k l1 a2 a3 true a0_0 a0_1 a0_2 a0_3 a0_4 a0_5) else (if a3 > 1000 then (impl_needs.j0 k l1 a2 a3 true a0_0 a0_1 a0_2 a0_3 a0_4 a0_5) else (impl_needs.j0 k l1 a2 a3 (decide (a2 ≥ a3)) a0_0 a0_1 a0_2 a0_3 a0_4 a0_5))) else (impl_needs.j0 k l1 a2 a3 true a0_0 a0_1 a0_2 a0_3 a0_4 a0_5))) else (impl_needs.j0 k l1 a2 a3 true a0_0 a0_1 a0_2 a0_3 a0_4 a0_5))
theorem impl_needs.mono_l : ∀ k, (∀ y0 y1 y2 y3 y4 y5 y6 y7 y8 y9, LeO (impl_needs.j0 k y0 y1 y2 y3 y4 y5 y6 y7 y8 y9) (impl_needs.j0 (k + 1) y0 y1 y2 y3 y4 y5 y6 y7 y8 y9)) ∧ (∀ y0 y1 y2 y3 y4 y5 y6 y7 y8 y9, LeO (impl_needs.l0 k y0 y1 y2 y3 y4 y5 y6 y7 y8 y9) (impl_needs.l0 (k + 1) y0 y1 y2 y3 y4 y5 y6 y7 y8 y9))
  | 0 => ⟨fun _ _ _ _ _ _ _ _ _ _ r h => by simp [impl_needs.j0] at h, fun _ _ _ _ _ _ _ _ _ _ r h => by simp [impl_needs.l0] at h⟩
  | k + 1 => by
    obtain ⟨ih0, ih1⟩ := impl_needs.mono_l k
    refine ⟨?_, ?_⟩
    · intro y0 y1 y2 y3 y4 y5 y6 y7 y8 y9
      unfold impl_needs.j0
      have m0 := @impl_ticks.mono
      exact mo
    · intro y0 y1 y2 y3 y4 y5 y6 y7 y8 y9
      unfold impl_needs.l0
      have m0 := @impl_ticks.mono
      exact mo
theorem impl_needs.mono : ∀ a0 a1 a2 a3 a4 a5 a6 a7 a8 k, LeO (impl_needs.f k a0 a1 a2 a3 a4 a5 a6 a7 a8) (impl_needs.f (k + 1) a0 a1 a2 a3 a4 a5 a6 a7 a8) := by
  intro a0 a1 a2 a3 a4 a5 a6 a7 a8 k
  obtain ⟨ih0, ih1⟩ := impl_needs.mono_l k
  unfold impl_needs.f
  have m0 := @impl_ticks.mono
  exact mo
def impl_needs.T3 : Bool × List (List Nat × List Nat) := (true, [([], []), ([0], [0]), ([], []), ([], []), ([2, 3], [2, 3]), ([4], [4]), ([5, 5], [5]), ([1, 1, 0, 1], [1]), ([6, 7, 0, 1, 2, 3, 4, 5, 6, 7], [6])])
def impl_needs.B3 : List Nat := [0, 1, 0, 0, 12, 28, 60, 3, 255]
theorem impl_needs.tab3 : rtab .any (opsOf Try.f72 3) = impl_needs.T3 := by kernel_rfl
theorem impl_needs.bits3 : waitsOk impl_needs.T3.2 impl_needs.B3 = true := by kernel_rfl
def impl_needs.T7 : Bool × List (List Nat × List Nat) := (true, [([], []), ([], []), ([], []), ([1, 2], [1, 2]), ([3], [3]), ([0, 4], [0, 4]), ([5], [5]), ([], []), ([7], [7]), ([6, 8], [6, 8]), ([9, 0, 1, 2, 3, 4, 5, 6, 7, 8, 9], [9])])
def impl_needs.B7 : List Nat := [0, 0, 0, 6, 14, 31, 63, 0, 128, 511, 1023]
theorem impl_needs.tab7 : rtab .any (opsOf Try.f72 7) = impl_needs.T7 := by kernel_rfl
theorem impl_needs.bits7 : waitsOk impl_needs.T7.2 impl_needs.B7 = true := by kernel_rfl
set_option maxHeartbeats 8000000 in
set_option maxRecDepth 100000 in
theorem impl_needs.calls (k : Nat) (a0_0 : Int) (a0_1 : Int) (a0_2 : Int) (a0_3 : Int) (a0_4 : Int) (a0_5 : Int) (A1 : Option Addr) (c1 : Nat) (l1 : List (S100)) (a2 : Int) (a3 : Int) (r : List Int) (w : World) (hr1 : Kd.C k100 w A1 l1.length l1) (hc1 : l1.length ≤ c1) (h : impl_needs.f k a0_0 a0_1 a0_2 a0_3 a0_4 a0_5 l1 a2 a3 = some r) :
    Calls Try.prog 72 #[.agg #[.int .i64 a0_0, .int .i64 a0_1, .int .i64 a0_2, .int .i64 a0_3, .int .i64 a0_4, .int .i64 a0_5], .slice A1 l1.length c1, .int .i64 a2, .int .i64 a3] w fun e w' => ∃ v0_ : Value, e = .returned (v0_) ∧ Kd.R (Kd.int .i64) 3 w' w.heap.size (fun _ => True) v0_ r ∧ Below w.heap.size w w' := by
 have hu27 := Try.underlying27
 have HR1 := Aside0.mk hr1
 have HC1 := Aside0.mk hc1
 clear hr1 hc1
 have HB := Aside0.mk (Below.refl w.heap.size w)
 have H : ((impl_InRange.f a0_3 0 100).bind fun t140 => (if t140 = true then ((impl_InRange.f a0_5 0 100).bind fun t141 => (if t141 = true then (if a2 < 0 then (impl_needs.j0 k l1 a2 a3 true a0_0 a0_1 a0_2 a0_3 a0_4 a0_5) else (if a3 > 1000 then (impl_needs.j0 k l1 a2 a3 true a0_0 a0_1 a0_2 a0_3 a0_4 a0_5) else (impl_needs.j0 k l1 a2 a3 (decide (a2 ≥ a3)) a0_0 a0_1 a0_2 a0_3 a0_4 a0_5))) else (impl_needs.j0 k l1 a2 a3 true a0_0 a0_1 a0_2 a0_3 a0_4 a0_5))) else (impl_needs.j0 k l1 a2 a3 true a0_0 a0_1 a0_2 a0_3 a0_4 a0_5))) = some r := h
 clear h
 have HC5 := Aside0.mk H
 clear H
 go_enter Try.func72, Try.ntmps72
 go_upto_region 1 with (first | ((with_reducible refine gate_dst (N := 4) rfl ?_); refine bx 4 #[.int .i64 a0_0, .int .i64 a0_1, .int .i64 a0_2, .int .i64 a0_3, .int .i64 a0_4, .int .i64 a0_5] 27 ?_; intro gb139 hg w6 hbox hb; have GW139 := bz w hg; have GE139 := bz w hg; replace HB := bs hb; have BK139 := Aside0.mk hbox; clear hb hbox hg))
 (try simp only [Act.put, List.setIfInBounds_toArray, List.set_cons_zero, List.set_cons_succ])
 go_cut [35] (fun v35 wc => ∃ (kq : Nat) (x35_4 : Bool), v35 = .bool x35_4 ∧ Aside0 (impl_needs.j0 kq l1 a2 a3 x35_4 a0_0 a0_1 a0_2 a0_3 a0_4 a0_5 = some r) ∧ Aside0 (kq ≤ k) ∧ Aside0 (wc.heap[gb139]? = some (.cells #[.int .i64 a0_0, .int .i64 a0_1, .int .i64 a0_2, .int .i64 a0_3, .int .i64 a0_4, .int .i64 a0_5] 27 (0, 0))) ∧ Aside0 (Below w.heap.size w wc))
 case first =>
  have H := HC5.out
  clear HC5
  obtain ⟨t140, A7, H⟩ := bnd H
  obtain rfl | rfl := tt t140
  ·replace H := ip H
   obtain ⟨t141, A9, H⟩ := bnd H
   obtain rfl | rfl := tt t141
   ·replace H := ip H
    obtain ⟨c11, H⟩ | ⟨c11, H⟩ := ie_ H
    ·have c11b0 := decide_eq_true c11
     clear c11
     (first | rw [c11b0] | (simp only [i64_w, i32_w]; rw [c11b0]) | skip)
     have H' := Aside0.mk H
     clear H
     obtain ⟨hcz12_0, hcz12_1, hcz12_2, hcz12_3, hcz12_4, hcz12_5, hfz12_0, hfz12_1, hfz12_2, hfz12_3, hfz12_4, hfz12_5⟩ := cc6 BK139
     go_wp2_with (first | ((with_reducible refine gate_callee (f := 96) rfl ?_); refine gL (some 15) Try.func96 #[.int .i64 a0_3, .int .i64 0, .int .i64 100] ?_; (with_reducible refine (impl_InRange.calls a0_3 0 100 true _ A7.out).mono ?_); rintro e w' ⟨rfl, ⟨nd, rfl⟩⟩; refine ⟨_, rfl, ?_⟩) | (go_at_call 96; (with_reducible refine (impl_InRange.calls a0_5 0 100 true _ A9.out).mono ?_); rintro e w' ⟨rfl, ⟨nd, rfl⟩⟩))
     go_meet
     case rel => exact ⟨_, (true), sc, H', ⟨by first | omega | exact Nat.le_refl _⟩, ⟨sk BK139⟩, ⟨sbw⟩⟩
    ·have c11b0 := decide_eq_false c11
     clear c11
     (first | rw [c11b0] | (simp only [i64_w, i32_w]; rw [c11b0]) | skip)
     obtain ⟨c13, H⟩ | ⟨c13, H⟩ := ie_ H
     ·have c13b0 := decide_eq_true c13
      clear c13
      have H' := Aside0.mk H
      clear H
      obtain ⟨hcz14_0, hcz14_1, hcz14_2, hcz14_3, hcz14_4, hcz14_5, hfz14_0, hfz14_1, hfz14_2, hfz14_3, hfz14_4, hfz14_5⟩ := cc6 BK139
      go_wp2_with (first | ((with_reducible refine gate_callee (f := 96) rfl ?_); refine gL (some 15) Try.func96 #[.int .i64 a0_3, .int .i64 0, .int .i64 100] ?_; (with_reducible refine (impl_InRange.calls a0_3 0 100 true _ A7.out).mono ?_); rintro e w' ⟨rfl, ⟨nd, rfl⟩⟩; refine ⟨_, rfl, ?_⟩) | (go_at_call 96; (with_reducible refine (impl_InRange.calls a0_5 0 100 true _ A9.out).mono ?_); rintro e w' ⟨rfl, ⟨nd, rfl⟩⟩))
      go_meet
      case rel => exact ⟨_, (true), sc, H', ⟨by first | omega | exact Nat.le_refl _⟩, ⟨sk BK139⟩, ⟨sbw⟩⟩
     ·have c13b0 := decide_eq_false c13
      clear c13
      have H' := Aside0.mk H
      clear H
      obtain ⟨hcz15_0, hcz15_1, hcz15_2, hcz15_3, hcz15_4, hcz15_5, hfz15_0, hfz15_1, hfz15_2, hfz15_3, hfz15_4, hfz15_5⟩ := cc6 BK139
      go_wp2_with (first | ((with_reducible refine gate_callee (f := 96) rfl ?_); refine gL (some 15) Try.func96 #[.int .i64 a0_3, .int .i64 0, .int .i64 100] ?_; (with_reducible refine (impl_InRange.calls a0_3 0 100 true _ A7.out).mono ?_); rintro e w' ⟨rfl, ⟨nd, rfl⟩⟩; refine ⟨_, rfl, ?_⟩) | (go_at_call 96; (with_reducible refine (impl_InRange.calls a0_5 0 100 true _ A9.out).mono ?_); rintro e w' ⟨rfl, ⟨nd, rfl⟩⟩))
      go_meet
      case rel => exact ⟨_, (decide (a2 ≥ a3)), sc, H', ⟨by first | omega | exact Nat.le_refl _⟩, ⟨sk BK139⟩, ⟨sbw⟩⟩
   ·replace H := im H
    have H' := Aside0.mk H
    clear H
    obtain ⟨hcz16_0, hcz16_1, hcz16_2, hcz16_3, hcz16_4, hcz16_5, hfz16_0, hfz16_1, hfz16_2, hfz16_3, hfz16_4, hfz16_5⟩ := cc6 BK139
    go_wp2_with (first | ((with_reducible refine gate_callee (f := 96) rfl ?_); refine gL (some 15) Try.func96 #[.int .i64 a0_3, .int .i64 0, .int .i64 100] ?_; (with_reducible refine (impl_InRange.calls a0_3 0 100 true _ A7.out).mono ?_); rintro e w' ⟨rfl, ⟨nd, rfl⟩⟩; refine ⟨_, rfl, ?_⟩) | (go_at_call 96; (with_reducible refine (impl_InRange.calls a0_5 0 100 false _ A9.out).mono ?_); rintro e w' ⟨rfl, ⟨nd, rfl⟩⟩))
    go_meet
    case rel => exact ⟨_, (true), sc, H', ⟨by first | omega | exact Nat.le_refl _⟩, ⟨sk BK139⟩, ⟨sbw⟩⟩
  ·replace H := im H
   have H' := Aside0.mk H
   clear H
   obtain ⟨hcz17_0, hcz17_1, hcz17_2, hcz17_3, hcz17_4, hcz17_5, hfz17_0, hfz17_1, hfz17_2, hfz17_3, hfz17_4, hfz17_5⟩ := cc6 BK139
   go_wp2_with (first | ((with_reducible refine gate_callee (f := 96) rfl ?_); refine gL (some 15) Try.func96 #[.int .i64 a0_3, .int .i64 0, .int .i64 100] ?_; (with_reducible refine (impl_InRange.calls a0_3 0 100 false _ A7.out).mono ?_); rintro e w' ⟨rfl, ⟨nd, rfl⟩⟩; refine ⟨_, rfl, ?_⟩))
   go_meet
   case rel => exact ⟨_, (true), sc, H', ⟨by first | omega | exact Nat.le_refl _⟩, ⟨sk BK139⟩, ⟨sbw⟩⟩
 case rest =>
  clear HC5
  try clear c1
  try clear c11
  try clear c11b0
  try clear c13
  try clear c13b0
  try clear hcz12_0
  try clear hcz12_1
  try clear hcz12_2
  try clear hcz12_3
  try clear hcz12_4
  try clear hcz12_5
  try clear hcz14_0
  try clear hcz14_1
  try clear hcz14_2
  try clear hcz14_3
  try clear hcz14_4
  try clear hcz14_5
  try clear hcz15_0
  try clear hcz15_1
  try clear hcz15_2
  try clear hcz15_3
  try clear hcz15_4
  try clear hcz15_5
  try clear hcz16_0
  try clear hcz16_1
  try clear hcz16_2
  try clear hcz16_3
  try clear hcz16_4
  try clear hcz16_5
  try clear hcz17_0
  try clear hcz17_1
  try clear hcz17_2
  try clear hcz17_3
  try clear hcz17_4
  try clear hcz17_5
  try clear hfz12_0
  try clear hfz12_1
  try clear hfz12_2
  try clear hfz12_3
  try clear hfz12_4
  try clear hfz12_5
  try clear hfz14_0
  try clear hfz14_1
  try clear hfz14_2
  try clear hfz14_3
  try clear hfz14_4
  try clear hfz14_5
  try clear hfz15_0
  try clear hfz15_1
  try clear hfz15_2
  try clear hfz15_3
  try clear hfz15_4
  try clear hfz15_5
  try clear hfz16_0
  try clear hfz16_1
  try clear hfz16_2
  try clear hfz16_3
  try clear hfz16_4
  try clear hfz16_5
  try clear hfz17_0
  try clear hfz17_1
  try clear hfz17_2
  try clear hfz17_3
  try clear hfz17_4
  try clear hfz17_5
  obtain ⟨kq, x35_4, rfl, HA, HJ4, BK139, HB⟩ := hcut
  cases kq with
  | zero => exact absurd HA.out (by simp [impl_needs.j0])
  | succ kj4 =>
   have H := HA.out
   clear HA
   simp only [impl_needs.j0] at H
   obtain rfl | rfl := tt x35_4
   ·replace H := ip H
    obtain ⟨y142, hy142⟩ : ∃ y_ : List Int, y_ = (([0] : List Int)) := ⟨_, rfl⟩
    replace H : (some y142) = some r := by first | (rw [hy142]; with_reducible exact H) | (have H2_ := (Option.bind_some _ _).symm.trans H; rw [hy142]; with_reducible exact H2_) | (have H2_ := (Option.bind_some _ _).symm.trans H; with_reducible exact H2_) | with_reducible exact H | (rw [hy142]; exact H) | exact H
    have Ny142 := Aside0.mk hy142
    clear hy142
    obtain rfl := Option.some.inj H
    go_wp2_with (first | ((with_reducible refine gate_dst (N := 36) rfl ?_); refine Kd.R_lit (Kd.int .i64) _ 3 ?hg (N := 36) ?hd (xs := ([0] : List Int)) (inner := [.int .i64 0]) (ok := fun _ => True) (okp := fun _ => True) ?hr ?hp (fun _ hk => hk) trivial (Below.refl _ _) (Nat.le_refl _) (by simp) ?_; (case hd => rfl); (case hg => rfl); (case hr => first | (go_simp; done) | (go_simp; rfl)); (case hp => exact (Reps.one (show Kd.M (Kd.int .i64) _ _ _ 0 [.int .i64 0] from rfl) (Reps.none _ _))); intro v143 w19 ho20 hb hg_ hnew_; clear hg_ hnew_; (first | rw [← Ny142.out] at ho20 | (simp only [Int.reduceToNat] at ho20; rw [← Ny142.out] at ho20)); have HO144 := Aside0.mk (Kd.R_lower ho20 (below_size (sbw))); replace BK139 := bb BK139 hb; replace HB := bsw hb; clear hb ho20))
    go_ret
    exact ⟨_, se, sr HO144, sbw⟩
   ·replace H := im H
    obtain ⟨t145, A21, H⟩ := bnd H
    obtain ⟨ji22, hji22⟩ : ∃ j_ : Int, (wrap64 ((wrap64 (a3 - a2)) + 1)) = j_ := ⟨_, rfl⟩
    replace H : (if 0 ≤ (ji22) then (if (ji22 : Int).toNat ≤ 35184372088832 then (impl_needs.l0 kj4 a2 t145 (List.replicate (ji22 : Int).toNat 0) (wrap64 (a3 - 1)) a0_0 a0_1 a0_2 a0_3 a0_4 a0_5) else (none)) else (none)) = some r := by first | (rw [hji22] at H; exact H) | (simp only [hji22] at H ⊢; exact H)
    (try rw [hji22] at A21)
    have hji22w : (IntKind.i64.wrap ((wrap64 (a3 - a2)) + 1)) = ji22 := (i64_w _).trans hji22
    obtain ⟨c23, H⟩ := ia_ H
    have c23b0 := eq_true c23
    have c23b1 := decide_eq_true c23
    clear c23
    obtain ⟨c24, H⟩ := ia_ H
    have c24b0 := eq_true c24
    have c24b1 := decide_eq_true c24
    clear c24
    obtain ⟨y148, hy148⟩ : ∃ y_ : List Int, y_ = (List.replicate (ji22 : Int).toNat 0) := ⟨_, rfl⟩
    replace H : (impl_needs.l0 kj4 a2 t145 y148 (wrap64 (a3 - 1)) a0_0 a0_1 a0_2 a0_3 a0_4 a0_5) = some r := by first | (rw [hy148]; with_reducible exact H) | (have H2_ := (Option.bind_some _ _).symm.trans H; rw [hy148]; with_reducible exact H2_) | (have H2_ := (Option.bind_some _ _).symm.trans H; with_reducible exact H2_) | with_reducible exact H | (rw [hy148]; exact H) | exact H
    have Ny148 := Aside0.mk hy148
    clear hy148
    have H' := Aside0.mk H
    clear H
    try go_wp2
    replace BK139 := Aside0.mk (blk_drew BK139.out)
    replace HB := Aside0.mk (below_drew1 HB.out)
    refine start_ (n := 9) (S := fun w' => True) (ds := []) #[false, false, false, false, false, false, false, false, false] (by kernel_rfl) rfl rfl trivial (fun hHeld => ?_); refine with_tabW impl_needs.tab3 impl_needs.bits3 (fun HT_ HW_ => ?_)
    generalize wc.drew = w25 at BK139 HB hHeld ⊢
    refine put 0 37 #[true, false, false, false, false, false, false, false, false] HT_ ?_
    refine put 2 39 #[true, false, true, false, false, false, false, false, false] HT_ ?_
    refine put 3 40 #[true, false, true, true, false, false, false, false, false] HT_ ?_
    refine put 4 41 #[true, false, true, true, true, false, false, false, false] HT_ ?_
    refine put 5 42 #[true, false, true, true, true, true, false, false, false] HT_ ?_
    refine join_ (σ := Value × Value) 1 #[true, true, true, true, true, true, true, true, false] (fun s_ => [(38, s_.1), (43, s_.2), (9, s_.1)]) (fun s_ w' => (Kd.R Kd.bool 4 w' w.heap.size (fun _ => True) s_.1 t145) ∧ (Kd.R (Kd.int .i64) 3 w' w.heap.size (fun _ => True) s_.2 y148) ∧ (w'.heap[gb139]? = some (.cells #[.int .i64 a0_0, .int .i64 a0_1, .int .i64 a0_2, .int .i64 a0_3, .int .i64 a0_4, .int .i64 a0_5] 27 (0, 0))) ∧ (Below w.heap.size w w')) ?_ ?_
    rotate_left
    ·intro hCont
     refine two_ (i := 1) (j := 6) (Ni := some 38) (Nj := some 43) #[true, true, true, true, true, true, false, false, false] #[true, false, true, true, true, true, true, false, false] rfl rfl rfl rfl (two_of HT_.out (by kernel_rfl)) (by decide) (by decide) (fun K hK => ?_) (fun K hK => ?_)
     ·skip
      refine goes_ Try.func112 (by kernel_rfl) rfl #[.slice A1 l1.length c1] (by rfl) rfl rfl sl ?_
      with_reducible refine (impl_ticks.calls kj4 _ _ l1 t145 _ ?side1 ?side2 A21.out).mono ?_
      (case side1 => exact cb HR1)
      (case side2 => exact HC1.out)
      rintro e w26 ⟨v146, rfl, ho0, hb⟩
      refine ⟨_, rfl, ?_⟩
      have HO147 := Aside0.mk (Kd.R_lower ho0 (below_size (sbw)))
      replace BK139 := bb BK139 hb
      replace HB := bsw hb
      (try clear hb)
      (try clear hb2)
      (try clear hk)
      (try clear hi)
      (try clear ho0)
      refine hK.out _ _ trivial (fun hHeld => ?_)
      clear hK K
      refine norm_ (a' := ?_) ?_ ?_
      rotate_left
      ·show Act.put _ (some 38) _ = _
       simp only [Act.put, List.setIfInBounds_toArray, List.set_cons_zero, List.set_cons_succ, i64_w, i32_w]
       rfl
      refine put 7 9 #[true, true, true, true, true, true, false, true, false] HT_ ?_
      refine one_ (i := 6) (N := some 43) #[true, true, true, true, true, true, true, true, false] rfl rfl (one_of HT_.out (by kernel_rfl)) (by decide) (fun K hK => ?_)
      refine Kd.R_make_step (Kd.int .i64) _ 3 (by rfl) (N := 43) rfl 37 _ _ rfl ji22 rfl rfl Try.underlying37 (.int .i64 0) 8 info3 rfl (by decide) (by omega) 0 (ok := fun _ => True) (okp := fun _ => True) rfl (fun _ hk => hk) trivial (sa) (Nat.le_trans (Nat.mul_le_mul_right _ (sa : ji22.toNat ≤ 35184372088832)) (by omega)) (Below.refl _ _) (Nat.le_refl _) ?_
      intro v149 w27 ho28 hb hg_ hnew_
      clear hg_ hnew_
      (first | rw [← Ny148.out] at ho28 | (simp only [Int.reduceToNat] at ho28; rw [← Ny148.out] at ho28))
      replace HO147 := Aside0.mk (Kd.R_below (sr HO147) hb)
      have HO150 := Aside0.mk (Kd.R_lower ho28 (below_size (sbw)))
      replace BK139 := bb BK139 hb
      replace HB := bsw hb
      clear hb ho28
      refine hK.out _ _ trivial (fun hHeld => ?_)
      clear hK K
      refine norm_ (a' := ?_) ?_ ?_
      rotate_left
      ·show Act.put _ (some 43) _ = _
       simp only [Act.put, List.setIfInBounds_toArray, List.set_cons_zero, List.set_cons_succ, i64_w, i32_w]
       rfl
      exact norm_ (by simp only [putAll, Act.put, List.setIfInBounds_toArray, List.set_cons_zero, List.set_cons_succ]) (hCont (v146, v149) _ ⟨(sr HO147), (sr HO150), (sk BK139), (sbw)⟩)
     ·skip
      refine Kd.R_make_step (Kd.int .i64) _ 3 (by rfl) (N := 43) rfl 37 _ _ rfl ji22 rfl rfl Try.underlying37 (.int .i64 0) 8 info3 rfl (by decide) (by omega) 0 (ok := fun _ => True) (okp := fun _ => True) rfl (fun _ hk => hk) trivial (sa) (Nat.le_trans (Nat.mul_le_mul_right _ (sa : ji22.toNat ≤ 35184372088832)) (by omega)) (Below.refl _ _) (Nat.le_refl _) ?_
      intro v149 w26 ho27 hb hg_ hnew_
      clear hg_ hnew_
      (first | rw [← Ny148.out] at ho27 | (simp only [Int.reduceToNat] at ho27; rw [← Ny148.out] at ho27))
      have HO150 := Aside0.mk (Kd.R_lower ho27 (below_size (sbw)))
      replace BK139 := bb BK139 hb
      replace HB := bsw hb
      clear hb ho27
      refine hK.out _ _ trivial (fun hHeld => ?_)
      clear hK K
      refine norm_ (a' := ?_) ?_ ?_
      rotate_left
      ·show Act.put _ (some 43) _ = _
       simp only [Act.put, List.setIfInBounds_toArray, List.set_cons_zero, List.set_cons_succ, i64_w, i32_w]
       rfl
      refine one_ (i := 1) (N := some 38) #[true, true, true, true, true, true, true, false, false] rfl rfl (one_of HT_.out (by kernel_rfl)) (by decide) (fun K hK => ?_)
      refine goes_ Try.func112 (by kernel_rfl) rfl #[.slice A1 l1.length c1] (by rfl) rfl rfl sl ?_
      with_reducible refine (impl_ticks.calls kj4 _ _ l1 t145 _ ?side1 ?side2 A21.out).mono ?_
      (case side1 => exact cb HR1)
      (case side2 => exact HC1.out)
      rintro e w28 ⟨v146, rfl, ho0, hb⟩
      refine ⟨_, rfl, ?_⟩
      replace HO150 := Aside0.mk (Kd.R_below (sr HO150) hb)
      have HO147 := Aside0.mk (Kd.R_lower ho0 (below_size (sbw)))
      replace BK139 := bb BK139 hb
      replace HB := bsw hb
      (try clear hb)
      (try clear hb2)
      (try clear hk)
      (try clear hi)
      (try clear ho0)
      refine hK.out _ _ trivial (fun hHeld => ?_)
      clear hK K
      refine norm_ (a' := ?_) ?_ ?_
      rotate_left
      ·show Act.put _ (some 38) _ = _
       simp only [Act.put, List.setIfInBounds_toArray, List.set_cons_zero, List.set_cons_succ, i64_w, i32_w]
       rfl
      refine put 7 9 #[true, true, true, true, true, true, true, true, false] HT_ ?_
      exact norm_ (by simp only [putAll, Act.put, List.setIfInBounds_toArray, List.set_cons_zero, List.set_cons_succ]) (hCont (v146, v149) _ ⟨(sr HO147), (sr HO150), (sk BK139), (sbw)⟩)
    rintro ⟨v146, v149⟩ w29 ⟨h0_, h1_, h2_, h3_⟩
    have HO147 : Aside0 (Kd.R Kd.bool 4 w29 w.heap.size (fun _ => True) v146 t145) := ⟨h0_⟩
    have HO150 : Aside0 (Kd.R (Kd.int .i64) 3 w29 w.heap.size (fun _ => True) v149 y148) := ⟨h1_⟩
    replace BK139 : Aside0 (w29.heap[gb139]? = some (.cells #[.int .i64 a0_0, .int .i64 a0_1, .int .i64 a0_2, .int .i64 a0_3, .int .i64 a0_4, .int .i64 a0_5] 27 (0, 0))) := ⟨h2_⟩
    replace HB : Aside0 (Below w.heap.size w w29) := ⟨h3_⟩
    clear h0_ h1_ h2_ h3_
    have hHeld := trivial
    refine norm_ (a' := ?_) ?_ ?_
    rotate_left
    ·simp only [putAll, Act.put, List.setIfInBounds_toArray, List.set_cons_zero, List.set_cons_succ]
     rfl
    refine put 8 10 #[true, true, true, true, true, true, true, true, true] HT_ ?_
    refine done_ (done_of HT_.out (by kernel_rfl)) ?_
    try go_wp2
    go_loopg [11] kj4 (fun kq v11 w' => ∃ (x10_2 : List Int) (x11_2 : Int), v11 = .int .i64 x11_2 ∧ Aside0 (impl_needs.l0 kq a2 t145 x10_2 x11_2 a0_0 a0_1 a0_2 a0_3 a0_4 a0_5 = some r) ∧ Aside0 (kq ≤ kj4) ∧ Aside0 (Kd.R Kd.bool 4 w' w.heap.size (fun _ => True) v146 t145) ∧ Aside0 (Kd.R (Kd.int .i64) 3 w' w.heap.size (fun _ => True) v149 x10_2) ∧ Aside0 (w'.heap[gb139]? = some (.cells #[.int .i64 a0_0, .int .i64 a0_1, .int .i64 a0_2, .int .i64 a0_3, .int .i64 a0_4, .int .i64 a0_5] 27 (0, 0))) ∧ Aside0 (Below w.heap.size w w'))
    case atStart => exact ⟨(y148), (wrap64 (a3 - 1)), sc, H', kk0, ⟨sr HO147⟩, ⟨sr HO150⟩, ⟨sk BK139⟩, ⟨sbw⟩⟩
    case round =>
     clear H'
     try clear c1
     try clear c11
     try clear c11b0
     try clear c13
     try clear c13b0
     try clear c23
     try clear c23b0
     try clear c23b1
     try clear c24
     try clear c24b0
     try clear c24b1
     try clear hcz12_0
     try clear hcz12_1
     try clear hcz12_2
     try clear hcz12_3
     try clear hcz12_4
     try clear hcz12_5
     try clear hcz14_0
     try clear hcz14_1
     try clear hcz14_2
     try clear hcz14_3
     try clear hcz14_4
     try clear hcz14_5
     try clear hcz15_0
     try clear hcz15_1
     try clear hcz15_2
     try clear hcz15_3
     try clear hcz15_4
     try clear hcz15_5
     try clear hcz16_0
     try clear hcz16_1
     try clear hcz16_2
     try clear hcz16_3
     try clear hcz16_4
     try clear hcz16_5
     try clear hcz17_0
     try clear hcz17_1
     try clear hcz17_2
     try clear hcz17_3
     try clear hcz17_4
     try clear hcz17_5
     try clear hfz12_0
     try clear hfz12_1
     try clear hfz12_2
     try clear hfz12_3
     try clear hfz12_4
     try clear hfz12_5
     try clear hfz14_0
     try clear hfz14_1
     try clear hfz14_2
     try clear hfz14_3
     try clear hfz14_4
     try clear hfz14_5
     try clear hfz15_0
     try clear hfz15_1
     try clear hfz15_2
     try clear hfz15_3
     try clear hfz15_4
     try clear hfz15_5
     try clear hfz16_0
     try clear hfz16_1
     try clear hfz16_2
     try clear hfz16_3
     try clear hfz16_4
     try clear hfz16_5
     try clear hfz17_0
     try clear hfz17_1
     try clear hfz17_2
     try clear hfz17_3
     try clear hfz17_4
     try clear hfz17_5
     obtain ⟨x10_2, x11_2, rfl, HA, HK2, HO_9, HO_10, BK139, HB⟩ := hrel
     cases gk with
     | zero => exact absurd HA.out (by simp [impl_needs.l0])
     | succ k2 =>
      have H := HA.out
      clear HA
      simp only [impl_needs.l0] at H
      obtain ⟨c30, H⟩ | ⟨c30, H⟩ := ie_ H
      ·have c30b0 := decide_eq_true c30
       clear c30
       obtain ⟨ji31, hji31⟩ : ∃ j_ : Int, (wrap64 ((wrap64 (x11_2 - a2)) + 1)) = j_ := ⟨_, rfl⟩
       replace H : (if 0 ≤ (ji31) then (if (ji31) < (x10_2.length : Int) then (if 0 ≤ x11_2 then (if x11_2 < (t145.length : Int) then (if rdOf false t145 x11_2 = true then (if 0 ≤ (wrap64 (x11_2 - a2)) then (if (wrap64 (x11_2 - a2)) < (x10_2.length : Int) then (impl_needs.l0 k2 a2 t145 (x10_2.set ((wrap64 (x11_2 - a2)) : Int).toNat (mx 0 (wrap64 ((wrap64 ((rd x10_2 (ji31)) + a0_3)) - a0_5)))) (wrap64 (x11_2 - 1)) a0_0 a0_1 a0_2 a0_3 a0_4 a0_5) else (none)) else (none)) else (if 0 ≤ (wrap64 (x11_2 - a2)) then (if (wrap64 (x11_2 - a2)) < (x10_2.length : Int) then (impl_needs.l0 k2 a2 t145 (x10_2.set ((wrap64 (x11_2 - a2)) : Int).toNat (mx 0 (wrap64 ((rd x10_2 (ji31)) + a0_3)))) (wrap64 (x11_2 - 1)) a0_0 a0_1 a0_2 a0_3 a0_4 a0_5) else (none)) else (none))) else (none)) else (none)) else (none)) else (none)) = some r := by first | (rw [hji31] at H; exact H) | (simp only [hji31] at H ⊢; exact H)
       have hji31w : (IntKind.i64.wrap ((wrap64 (x11_2 - a2)) + 1)) = ji31 := (i64_w _).trans hji31
       obtain ⟨c32b0, H⟩ := id_ H
       obtain ⟨c33b0, H⟩ := id_ H
       obtain ⟨c34b0, H⟩ := id_ H
       obtain ⟨c35b0, H⟩ := id_ H
       obtain ⟨bq36, hbq36⟩ : ∃ b_ : Bool, b_ = (rdOf false t145 x11_2) := ⟨_, rfl⟩
       replace H : (if bq36 = true then (if 0 ≤ (wrap64 (x11_2 - a2)) then (if (wrap64 (x11_2 - a2)) < (x10_2.length : Int) then (impl_needs.l0 k2 a2 t145 (x10_2.set ((wrap64 (x11_2 - a2)) : Int).toNat (mx 0 (wrap64 ((wrap64 ((rd x10_2 (ji31)) + a0_3)) - a0_5)))) (wrap64 (x11_2 - 1)) a0_0 a0_1 a0_2 a0_3 a0_4 a0_5) else (none)) else (none)) else (if 0 ≤ (wrap64 (x11_2 - a2)) then (if (wrap64 (x11_2 - a2)) < (x10_2.length : Int) then (impl_needs.l0 k2 a2 t145 (x10_2.set ((wrap64 (x11_2 - a2)) : Int).toNat (mx 0 (wrap64 ((rd x10_2 (ji31)) + a0_3)))) (wrap64 (x11_2 - 1)) a0_0 a0_1 a0_2 a0_3 a0_4 a0_5) else (none)) else (none))) = some r := by rw [← hbq36] at H; exact H
       have Nbq36 := Aside0.mk hbq36
       clear hbq36
       obtain rfl | rfl := tt bq36
       ·replace H := ip H
        obtain ⟨ji38, hji38⟩ : ∃ j_ : Int, (mx 0 (wrap64 ((wrap64 ((rd x10_2 (ji31)) + a0_3)) - a0_5))) = j_ := ⟨_, rfl⟩
        replace H : (if 0 ≤ (wrap64 (x11_2 - a2)) then (if (wrap64 (x11_2 - a2)) < (x10_2.length : Int) then (impl_needs.l0 k2 a2 t145 (x10_2.set ((wrap64 (x11_2 - a2)) : Int).toNat (ji38)) (wrap64 (x11_2 - 1)) a0_0 a0_1 a0_2 a0_3 a0_4 a0_5) else (none)) else (none)) = some r := by first | (rw [hji38] at H; exact H) | (simp only [hji38] at H ⊢; exact H)
        have hji38_ : (if 0 < (wrap64 ((wrap64 ((rd x10_2 (ji31)) + a0_3)) - a0_5)) then (wrap64 ((wrap64 ((rd x10_2 (ji31)) + a0_3)) - a0_5)) else 0) = ji38 := hji38
        obtain ⟨ji39, hji39⟩ : ∃ j_ : Int, (wrap64 (x11_2 - a2)) = j_ := ⟨_, rfl⟩
        (try rw [hji39] at hji31)
        (try rw [hji39] at hji31w)
        (try rw [hji39] at hji31_)
        replace H : (if 0 ≤ (ji39) then (if (ji39) < (x10_2.length : Int) then (impl_needs.l0 k2 a2 t145 (x10_2.set ((ji39) : Int).toNat (ji38)) (wrap64 (x11_2 - 1)) a0_0 a0_1 a0_2 a0_3 a0_4 a0_5) else (none)) else (none)) = some r := by first | (rw [hji39] at H; exact H) | (simp only [hji39] at H ⊢; exact H)
        have hji39w : (IntKind.i64.wrap (x11_2 - a2)) = ji39 := (i64_w _).trans hji39
        obtain ⟨c40b0, H⟩ := id_ H
        obtain ⟨c41b0, H⟩ := id_ H
        obtain ⟨y153, hy153⟩ : ∃ y_ : List Int, y_ = (x10_2.set ((ji39) : Int).toNat (ji38)) := ⟨_, rfl⟩
        replace H : (impl_needs.l0 k2 a2 t145 y153 (wrap64 (x11_2 - 1)) a0_0 a0_1 a0_2 a0_3 a0_4 a0_5) = some r := by first | (rw [hy153]; with_reducible exact H) | (have H2_ := (Option.bind_some _ _).symm.trans H; rw [hy153]; with_reducible exact H2_) | (have H2_ := (Option.bind_some _ _).symm.trans H; with_reducible exact H2_) | with_reducible exact H | (rw [hy153]; exact H) | exact H
        have Ny153 := Aside0.mk hy153
        clear hy153
        have H' := Aside0.mk H
        clear H
        try go_wp2
        replace HO_9 := Aside0.mk (Kd.R_drew HO_9.out)
        replace HO_10 := Aside0.mk (Kd.R_drew HO_10.out)
        replace BK139 := Aside0.mk (blk_drew BK139.out)
        replace HB := Aside0.mk (below_drew1 HB.out)
        obtain ⟨Ao44, co44, eo44⟩ := Kd.R_slice HO_10.out
        (first | subst eo44 | (injection eo44 with f1_ f2_ f3_; have f4_ := f1_.symm; have f5_ := f3_.symm; clear f1_ f2_ f3_; subst f4_; subst f5_))
        have p151 : 0 ≤ ((ji31) : Int) := sa
        have q151 : (ji31) < (x10_2.length : Int) := sa
        obtain ⟨ad151, e151, hx151_0⟩ := Kd.at_int (Kd.R_reads' HO_10.out).2.2 (ji31) p151 q151
        cases e151
        replace p151 := eq_true p151
        replace q151 := eq_true q151
        refine start_ (n := 11) (S := fun w' => w'.cell? ⟨gb139, 0, none⟩ = some (.int .i64 a0_0) ∧ w'.cell? ⟨gb139, 1, none⟩ = some (.int .i64 a0_1) ∧ w'.cell? ⟨gb139, 2, none⟩ = some (.int .i64 a0_2) ∧ w'.cell? ⟨gb139, 3, none⟩ = some (.int .i64 a0_3) ∧ w'.cell? ⟨gb139, 4, none⟩ = some (.int .i64 a0_4) ∧ w'.cell? ⟨gb139, 5, none⟩ = some (.int .i64 a0_5) ∧ w'.cell? (ad151.add ((ji31)).toNat) = some (.int .i64 (rd x10_2 (ji31)))) (ds := []) #[false, false, false, false, false, false, false, false, false, false, false] (by kernel_rfl) rfl rfl ⟨bc0 BK139, bc1 BK139, bc2 BK139, bc3 BK139, bc4 BK139, bc5 BK139, hx151_0⟩ (fun hHeld => ?_); refine with_tabW impl_needs.tab7 impl_needs.bits7 (fun HT_ HW_ => ?_)
        generalize wr.drew = w43 at HO_9 HO_10 BK139 HB hx151_0 hHeld ⊢
        refine put 0 51 #[true, false, false, false, false, false, false, false, false, false, false] HT_ ?_
        refine put 1 52 #[true, true, false, false, false, false, false, false, false, false, false] HT_ ?_
        refine put 2 53 #[true, true, true, false, false, false, false, false, false, false, false] HT_ ?_
        refine put 3 54 #[true, true, true, true, false, false, false, false, false, false, false] HT_ ?_
        refine put 4 55 #[true, true, true, true, true, false, false, false, false, false, false] HT_ ?_
        refine put 5 56 #[true, true, true, true, true, true, false, false, false, false, false] HT_ ?_
        refine put 7 58 #[true, true, true, true, true, true, false, true, false, false, false] HT_ ?_
        refine tat7 6 57 #[true, true, true, true, true, true, true, true, false, false, false] HT_ HW_ hHeld ?_
        refine tat7 8 59 #[true, true, true, true, true, true, true, true, true, false, false] HT_ HW_ hHeld ?_
        refine put 9 60 #[true, true, true, true, true, true, true, true, true, true, false] HT_ ?_
        refine put 10 12 #[true, true, true, true, true, true, true, true, true, true, true] HT_ ?_
        refine done_ (done_of HT_.out (by kernel_rfl)) ?_
        obtain ⟨Ao45, co45, eo45⟩ := Kd.R_slice HO_9.out
        subst eo45
        have p152 : 0 ≤ (x11_2 : Int) := sa
        have q152 : x11_2 < (t145.length : Int) := sa
        obtain ⟨ad152, e152, hx152_0⟩ := Kd.at_bool (Kd.R_reads' HO_9.out).2.2 x11_2 p152 q152
        (try rw [← Nbq36.out] at hx152_0)
        cases e152
        replace p152 := eq_true p152
        replace q152 := eq_true q152
        obtain ⟨hcz46_0, hcz46_1, hcz46_2, hcz46_3, hcz46_4, hcz46_5, hfz46_0, hfz46_1, hfz46_2, hfz46_3, hfz46_4, hfz46_5⟩ := cc6 BK139
        have p42 : 0 ≤ ((ji39) : Int) := sa
        have q42 : ((ji39) : Int) < ((x10_2.length : Int) : Int) := sa
        obtain ⟨go42, co42, eo42, gb42, gl42, cl42, HG42⟩ := Kd.R_form HO_10.out (by omega)
        (first | cases eo42 | (injection eo42 with ea_ en_ ec_; (first | subst ea_ | (injection ea_ with ea_; subst ea_)); subst ec_; clear en_))
        have GB42 := Aside0.mk gb42
        have GG42 := Aside0.mk HG42
        clear gb42 gl42 HG42
        (first | simp only [add_plain] at hx151_0 | skip)
        obtain ⟨hx42_0, hf42_0⟩ := Kd.R_celln 0 HO_10.out ((ji39) : Int) p42 q42
        replace p42 := eq_true p42
        replace q42 := eq_true q42
        obtain ⟨hy47_, hz47_⟩ := Kd.R_celln 0 HO_10.out ((ji39) : Int) (sa) (sa)
        have HP47 := Kd.R_putg HO_10.out ((ji39) : Int) ji38
        try go_wp2_with (first | ((with_reducible refine gate_store (t := 3) (p := 75) rfl ?_); refine store_event (t := 3) (p := 75) (v := ?vo_w48) (w1 := (w43.setCell ⟨go42, ((ji39) : Int).toNat, none⟩ (.int .i64 ji38))) ?hg ?ho ?hn ?hr ?_; (case ho => rfl); (case hg => rfl); (case hn => rfl); (case hr => first | (go_simp; done) | (go_simp; rfl)); intro w48 hw; have hg : w43.grownBy w48 (some go42) := (by rw [hw]; exact HP47.2); have hp_ : Kd.R (Kd.int .i64) 3 w48 w.heap.size (fun _ => True) (.slice (some ⟨go42, 0, none⟩) x10_2.length co44) y153 := (by rw [hw, Ny153.out]; exact HP47.1); clear HP47; replace HO_9 := Aside0.mk (Kd.R_over' (v := (.slice (some ⟨go42, 0, none⟩) x10_2.length co44)) (sr HO_9) (Kd.R_typed HO_10.out) (by decide) hg); replace BK139 := Aside0.mk (blk_grown (g := gb139) (o := .cells #[.int .i64 a0_0, .int .i64 a0_1, .int .i64 a0_2, .int .i64 a0_3, .int .i64 a0_4, .int .i64 a0_5] 27 (0, 0)) (sk BK139) hg (Kd.R_ne HO_10.out BK139.out (by decide))); replace HO_10 := Aside0.mk hp_; replace HB := Aside0.mk ((by rw [hw]; exact below_set (HB.out) GB42.out : Below w.heap.size w w48)); clear hg hw hp_))
        go_roundg k2
        case measure => have := HJ4.out; have := HK2.out; omega
        case rel => exact ⟨(y153), (wrap64 (x11_2 - 1)), sc, H', ⟨by have := HJ4.out; have := HK2.out; omega⟩, ⟨sr HO_9⟩, ⟨sr HO_10⟩, ⟨sk BK139⟩, ⟨sbw⟩⟩
       ·replace H := im H
        obtain ⟨ji49, hji49⟩ : ∃ j_ : Int, (mx 0 (wrap64 ((rd x10_2 (ji31)) + a0_3))) = j_ := ⟨_, rfl⟩
        replace H : (if 0 ≤ (wrap64 (x11_2 - a2)) then (if (wrap64 (x11_2 - a2)) < (x10_2.length : Int) then (impl_needs.l0 k2 a2 t145 (x10_2.set ((wrap64 (x11_2 - a2)) : Int).toNat (ji49)) (wrap64 (x11_2 - 1)) a0_0 a0_1 a0_2 a0_3 a0_4 a0_5) else (none)) else (none)) = some r := by first | (rw [hji49] at H; exact H) | (simp only [hji49] at H ⊢; exact H)
        have hji49_ : (if 0 < (wrap64 ((rd x10_2 (ji31)) + a0_3)) then (wrap64 ((rd x10_2 (ji31)) + a0_3)) else 0) = ji49 := hji49
        obtain ⟨ji50, hji50⟩ : ∃ j_ : Int, (wrap64 (x11_2 - a2)) = j_ := ⟨_, rfl⟩
        (try rw [hji50] at hji31)
        (try rw [hji50] at hji31w)
        (try rw [hji50] at hji31_)
        replace H : (if 0 ≤ (ji50) then (if (ji50) < (x10_2.length : Int) then (impl_needs.l0 k2 a2 t145 (x10_2.set ((ji50) : Int).toNat (ji49)) (wrap64 (x11_2 - 1)) a0_0 a0_1 a0_2 a0_3 a0_4 a0_5) else (none)) else (none)) = some r := by first | (rw [hji50] at H; exact H) | (simp only [hji50] at H ⊢; exact H)
        have hji50w : (IntKind.i64.wrap (x11_2 - a2)) = ji50 := (i64_w _).trans hji50
        obtain ⟨c51b0, H⟩ := id_ H
        obtain ⟨c52b0, H⟩ := id_ H
        obtain ⟨y154, hy154⟩ : ∃ y_ : List Int, y_ = (x10_2.set ((ji50) : Int).toNat (ji49)) := ⟨_, rfl⟩
        replace H : (impl_needs.l0 k2 a2 t145 y154 (wrap64 (x11_2 - 1)) a0_0 a0_1 a0_2 a0_3 a0_4 a0_5) = some r := by first | (rw [hy154]; with_reducible exact H) | (have H2_ := (Option.bind_some _ _).symm.trans H; rw [hy154]; with_reducible exact H2_) | (have H2_ := (Option.bind_some _ _).symm.trans H; with_reducible exact H2_) | with_reducible exact H | (rw [hy154]; exact H) | exact H
        have Ny154 := Aside0.mk hy154
        clear hy154
        have H' := Aside0.mk H
        clear H
        try go_wp2
        replace HO_9 := Aside0.mk (Kd.R_drew HO_9.out)
        replace HO_10 := Aside0.mk (Kd.R_drew HO_10.out)
        replace BK139 := Aside0.mk (blk_drew BK139.out)
        replace HB := Aside0.mk (below_drew1 HB.out)
        obtain ⟨Ao55, co55, eo55⟩ := Kd.R_slice HO_10.out
        (first | subst eo55 | (injection eo55 with f1_ f2_ f3_; have f4_ := f1_.symm; have f5_ := f3_.symm; clear f1_ f2_ f3_; subst f4_; subst f5_))
        have p151 : 0 ≤ ((ji31) : Int) := sa
        have q151 : (ji31) < (x10_2.length : Int) := sa
        obtain ⟨ad151, e151, hx151_0⟩ := Kd.at_int (Kd.R_reads' HO_10.out).2.2 (ji31) p151 q151
        cases e151
        replace p151 := eq_true p151
        replace q151 := eq_true q151
        refine start_ (n := 11) (S := fun w' => w'.cell? ⟨gb139, 0, none⟩ = some (.int .i64 a0_0) ∧ w'.cell? ⟨gb139, 1, none⟩ = some (.int .i64 a0_1) ∧ w'.cell? ⟨gb139, 2, none⟩ = some (.int .i64 a0_2) ∧ w'.cell? ⟨gb139, 3, none⟩ = some (.int .i64 a0_3) ∧ w'.cell? ⟨gb139, 4, none⟩ = some (.int .i64 a0_4) ∧ w'.cell? ⟨gb139, 5, none⟩ = some (.int .i64 a0_5) ∧ w'.cell? (ad151.add ((ji31)).toNat) = some (.int .i64 (rd x10_2 (ji31)))) (ds := []) #[false, false, false, false, false, false, false, false, false, false, false] (by kernel_rfl) rfl rfl ⟨bc0 BK139, bc1 BK139, bc2 BK139, bc3 BK139, bc4 BK139, bc5 BK139, hx151_0⟩ (fun hHeld => ?_); refine with_tabW impl_needs.tab7 impl_needs.bits7 (fun HT_ HW_ => ?_)
        generalize wr.drew = w54 at HO_9 HO_10 BK139 HB hx151_0 hHeld ⊢
        refine put 0 51 #[true, false, false, false, false, false, false, false, false, false, false] HT_ ?_
        refine put 1 52 #[true, true, false, false, false, false, false, false, false, false, false] HT_ ?_
        refine put 2 53 #[true, true, true, false, false, false, false, false, false, false, false] HT_ ?_
        refine put 3 54 #[true, true, true, true, false, false, false, false, false, false, false] HT_ ?_
        refine put 4 55 #[true, true, true, true, true, false, false, false, false, false, false] HT_ ?_
        refine put 5 56 #[true, true, true, true, true, true, false, false, false, false, false] HT_ ?_
        refine put 7 58 #[true, true, true, true, true, true, false, true, false, false, false] HT_ ?_
        refine tat7 6 57 #[true, true, true, true, true, true, true, true, false, false, false] HT_ HW_ hHeld ?_
        refine tat7 8 59 #[true, true, true, true, true, true, true, true, true, false, false] HT_ HW_ hHeld ?_
        refine put 9 60 #[true, true, true, true, true, true, true, true, true, true, false] HT_ ?_
        refine put 10 12 #[true, true, true, true, true, true, true, true, true, true, true] HT_ ?_
        refine done_ (done_of HT_.out (by kernel_rfl)) ?_
        obtain ⟨Ao56, co56, eo56⟩ := Kd.R_slice HO_9.out
        subst eo56
        have p152 : 0 ≤ (x11_2 : Int) := sa
        have q152 : x11_2 < (t145.length : Int) := sa
        obtain ⟨ad152, e152, hx152_0⟩ := Kd.at_bool (Kd.R_reads' HO_9.out).2.2 x11_2 p152 q152
        (try rw [← Nbq36.out] at hx152_0)
        cases e152
        replace p152 := eq_true p152
        replace q152 := eq_true q152
        have p53 : 0 ≤ ((ji50) : Int) := sa
        have q53 : ((ji50) : Int) < ((x10_2.length : Int) : Int) := sa
        obtain ⟨go53, co53, eo53, gb53, gl53, cl53, HG53⟩ := Kd.R_form HO_10.out (by omega)
        (first | cases eo53 | (injection eo53 with ea_ en_ ec_; (first | subst ea_ | (injection ea_ with ea_; subst ea_)); subst ec_; clear en_))
        have GB53 := Aside0.mk gb53
        have GG53 := Aside0.mk HG53
        clear gb53 gl53 HG53
        (first | simp only [add_plain] at hx151_0 | skip)
        obtain ⟨hx53_0, hf53_0⟩ := Kd.R_celln 0 HO_10.out ((ji50) : Int) p53 q53
        replace p53 := eq_true p53
        replace q53 := eq_true q53
        obtain ⟨hy57_, hz57_⟩ := Kd.R_celln 0 HO_10.out ((ji50) : Int) (sa) (sa)
        have HP57 := Kd.R_putg HO_10.out ((ji50) : Int) ji49
        try go_wp2_with (first | ((with_reducible refine gate_store (t := 3) (p := 75) rfl ?_); refine store_event (t := 3) (p := 75) (v := ?vo_w58) (w1 := (w54.setCell ⟨go53, ((ji50) : Int).toNat, none⟩ (.int .i64 ji49))) ?hg ?ho ?hn ?hr ?_; (case ho => rfl); (case hg => rfl); (case hn => rfl); (case hr => first | (go_simp; done) | (go_simp; rfl)); intro w58 hw; have hg : w54.grownBy w58 (some go53) := (by rw [hw]; exact HP57.2); have hp_ : Kd.R (Kd.int .i64) 3 w58 w.heap.size (fun _ => True) (.slice (some ⟨go53, 0, none⟩) x10_2.length co55) y154 := (by rw [hw, Ny154.out]; exact HP57.1); clear HP57; replace HO_9 := Aside0.mk (Kd.R_over' (v := (.slice (some ⟨go53, 0, none⟩) x10_2.length co55)) (sr HO_9) (Kd.R_typed HO_10.out) (by decide) hg); replace BK139 := Aside0.mk (blk_grown (g := gb139) (o := .cells #[.int .i64 a0_0, .int .i64 a0_1, .int .i64 a0_2, .int .i64 a0_3, .int .i64 a0_4, .int .i64 a0_5] 27 (0, 0)) (sk BK139) hg (Kd.R_ne HO_10.out BK139.out (by decide))); replace HO_10 := Aside0.mk hp_; replace HB := Aside0.mk ((by rw [hw]; exact below_set (HB.out) GB53.out : Below w.heap.size w w58)); clear hg hw hp_))
        go_roundg k2
        case measure => have := HJ4.out; have := HK2.out; omega
        case rel => exact ⟨(y154), (wrap64 (x11_2 - 1)), sc, H', ⟨by have := HJ4.out; have := HK2.out; omega⟩, ⟨sr HO_9⟩, ⟨sr HO_10⟩, ⟨sk BK139⟩, ⟨sbw⟩⟩
      ·have c30b0 := decide_eq_false c30
       clear c30
       obtain rfl := Option.some.inj H
       go_wp2
       go_ret
       exact ⟨_, by first | rfl | (simp [errW_none, errW_some] <;> rfl) | (simp only [← hji22]; first | rfl | (simp [errW_none, errW_some] <;> rfl)) | (simp [*, errW_none, errW_some] <;> rfl), sr HO_10, sbw⟩

end Go.Proofs.Ytaciciobhfoglaa.QFnBatteries
