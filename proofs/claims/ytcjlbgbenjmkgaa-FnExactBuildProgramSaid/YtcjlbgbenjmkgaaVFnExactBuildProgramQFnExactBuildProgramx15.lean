/- What the Go functions of the law FnExactBuildProgram come to, as Lean functions, and that they do: by a program of the session, out of the kit's printer. Conditions: none. (squeezed). -/
import Derived.Test.YtcjlbgbenjmkgaaVFnExactBuildProgramSq
import Derived.Test.YtcjlbgbenjmkgaaVFnExactBuildProgramQFnExactBuildProgramx0
import Derived.Test.YtcjlbgbenjmkgaaVFnExactBuildProgramQFnExactBuildProgramx10
import Derived.Test.YtcjlbgbenjmkgaaVFnExactBuildProgramQFnExactBuildProgramx14
namespace Go.Proofs.Ytcjlbgbenjmkgaa.QFnExactBuildProgram
open Go.RowKit Go.Proofs.YtcjlbgbenjmkgaaW.PrintWords Go.Proofs.YtcjlbgbenjmkgaaW.PrintLast Go.Proofs.YtcjlbgbenjmkgaaW.PrintMore Go.Proofs.Ytcjlbgbenjmkgaa.Open Go.Proofs.Ytcjlbgbenjmkgaa.Sq
attribute [local go_sem] max2_int min2_int max_two min_two max_three min_three max_four min_four   -- for this text's walks alone
attribute [local go_sem] isSome_set
set_option linter.unusedVariables false
set_option linter.unusedSimpArgs false

/-! ### impl_DistancesTo: function 59 -/
mutual
def impl_DistancesTo.j0 : Nat → List (S60) → Int → Int → Int → List Int → Bool → Option (List Int)
  | 0, _, _, _, _, _, _ => none
  | k + 1, x0, x1, x2, x3, x9, x23 => if x23 = true then (some x9) else (impl_DistancesTo.l0 k x0 x1 x2 x3 x9 x1 0)
def impl_DistancesTo.l0 : Nat → List (S60) → Int → Int → Int → List Int → Int → Int → Option (List Int)
  | 0, _, _, _, _, _, _, _ => none
  | k + 1, x0, x1, x2, x3, x9, x25, x26 => if x26 < x25 then (if x9.length < 17592186044416 then (impl_DistancesTo.l0 k x0 x1 x2 x3 (x9 ++ [(-1)]) x25 (wrap64 (x26 + 1))) else (none)) else (if 0 ≤ x3 then (if x3 < (x9.length : Int) then (impl_DistancesTo.l1 k x0 x1 x2 x3 (x9.set (x3 : Int).toNat 0) (([x3] : List Int))) else (none)) else (none))
def impl_DistancesTo.l1 : Nat → List (S60) → Int → Int → Int → List Int → List Int → Option (List Int)
  | 0, _, _, _, _, _, _ => none
  | k + 1, x0, x1, x2, x3, x9, x10 => if (x10.length : Int) > 0 then (if 0 < (x10.length : Int) then (if (rd x10 0) = x3 then (impl_DistancesTo.j3 k x0 x1 x2 x3 x9 x10 (rd x10 0) false) else (impl_DistancesTo.j3 k x0 x1 x2 x3 x9 x10 (rd x10 0) (decide ((rd x10 0) ≥ x2)))) else (none)) else (some x9)
def impl_DistancesTo.j3 : Nat → List (S60) → Int → Int → Int → List Int → List Int → Int → Bool → Option (List Int)
  | 0, _, _, _, _, _, _, _, _ => none
  | k + 1, x0, x1, x2, x3, x9, x10, x11, x52 => if x52 = true then (if 1 ≤ (x10.length : Int) then (impl_DistancesTo.l1 k x0 x1 x2 x3 x9 (x10.drop (1 : Int).toNat)) else (none)) else ((impl_NeighborsIn.f k x0 x11).bind fun t449 => (impl_DistancesTo.l2 k x0 x1 x2 x3 x9 x10 x11 t449 (t449.length : Int) 0))
def impl_DistancesTo.l2 : Nat → List (S60) → Int → Int → Int → List Int → List Int → Int → List Int → Int → Int → Option (List Int)
  | 0, _, _, _, _, _, _, _, _, _, _ => none
  | k + 1, x0, x1, x2, x3, x9, x10, x11, x55, x56, x57 => if x57 < x56 then (if 0 ≤ x57 then (if x57 < (x55.length : Int) then ((impl_isIndex.f (rd x55 x57) x1).bind fun t453 => (if t453 = true then (if 0 ≤ (rd x55 x57) then (if (rd x55 x57) < (x9.length : Int) then (if (rd x9 (rd x55 x57)) < 0 then (if 0 ≤ x11 then (if x11 < (x9.length : Int) then (if x10.length < 17592186044416 then (impl_DistancesTo.l2 k x0 x1 x2 x3 (x9.set ((rd x55 x57) : Int).toNat (wrap64 ((rd x9 x11) + 1))) (x10 ++ [rd x55 x57]) x11 x55 x56 (wrap64 (x57 + 1))) else (none)) else (none)) else (none)) else (impl_DistancesTo.l2 k x0 x1 x2 x3 x9 x10 x11 x55 x56 (wrap64 (x57 + 1)))) else (none)) else (none)) else (impl_DistancesTo.l2 k x0 x1 x2 x3 x9 x10 x11 x55 x56 (wrap64 (x57 + 1))))) else (none)) else (none)) else (if 1 ≤ (x10.length : Int) then (impl_DistancesTo.l1 k x0 x1 x2 x3 x9 (x10.drop (1 : Int).toNat)) else (none))
end
def impl_DistancesTo.f (k : Nat) (l0 : List (S60)) (a1 : Int) (a2 : Int) (a3 : Int) : Option (List Int) := (some (([] : List Int) : List Int)).bind fun y433 => ((impl_isNumber.f a1).bind fun t436 => (if t436 = true then ((impl_isIndex.f a3 a1).bind fun t437 => (impl_DistancesTo.j0 k l0 a1 a2 a3 y433 (!t437))) else (impl_DistancesTo.j0 k l0 a1 a2 a3 y433 true)))
theorem impl_DistancesTo.mono_l : ∀ k, (∀ y0 y1 y2 y3 y4 y5, LeO (impl_DistancesTo.j0 k y0 y1 y2 y3 y4 y5) (impl_DistancesTo.j0 (k + 1) y0 y1 y2 y3 y4 y5)) ∧ (∀ y0 y1 y2 y3 y4 y5 y6, LeO (impl_DistancesTo.l0 k y0 y1 y2 y3 y4 y5 y6) (impl_DistancesTo.l0 (k + 1) y0 y1 y2 y3 y4 y5 y6)) ∧ (∀ y0 y1 y2 y3 y4 y5, LeO (impl_DistancesTo.l1 k y0 y1 y2 y3 y4 y5) (impl_DistancesTo.l1 (k + 1) y0 y1 y2 y3 y4 y5)) ∧ (∀ y0 y1 y2 y3 y4 y5 y6 y7, LeO (impl_DistancesTo.j3 k y0 y1 y2 y3 y4 y5 y6 y7) (impl_DistancesTo.j3 (k + 1) y0 y1 y2 y3 y4 y5 y6 y7)) ∧ (∀ y0 y1 y2 y3 y4 y5 y6 y7 y8 y9, LeO (impl_DistancesTo.l2 k y0 y1 y2 y3 y4 y5 y6 y7 y8 y9) (impl_DistancesTo.l2 (k + 1) y0 y1 y2 y3 y4 y5 y6 y7 y8 y9))
  | 0 => ⟨fun _ _ _ _ _ _ r h => by simp [impl_DistancesTo.j0] at h, fun _ _ _ _ _ _ _ r h => by simp [impl_DistancesTo.l0] at h, fun _ _ _ _ _ _ r h => by simp [impl_DistancesTo.l1] at h, fun _ _ _ _ _ _ _ _ r h => by simp [impl_DistancesTo.j3] at h, fun _ _ _ _ _ _ _ _ _ _ r h => by simp [impl_DistancesTo.l2] at h⟩
  | k + 1 => by
    obtain ⟨ih0, ih1, ih2, ih3, ih4⟩ := impl_DistancesTo.mono_l k
    refine ⟨?_, ?_, ?_, ?_, ?_⟩
    · intro y0 y1 y2 y3 y4 y5
      unfold impl_DistancesTo.j0
      have m0 := @impl_NeighborsIn.mono
      exact mo
    · intro y0 y1 y2 y3 y4 y5 y6
      unfold impl_DistancesTo.l0
      have m0 := @impl_NeighborsIn.mono
      exact mo
    · intro y0 y1 y2 y3 y4 y5
      unfold impl_DistancesTo.l1
      have m0 := @impl_NeighborsIn.mono
      exact mo
    · intro y0 y1 y2 y3 y4 y5 y6 y7
      unfold impl_DistancesTo.j3
      have m0 := @impl_NeighborsIn.mono
      exact mo
    · intro y0 y1 y2 y3 y4 y5 y6 y7 y8 y9
      unfold impl_DistancesTo.l2
      have m0 := @impl_NeighborsIn.mono
      exact mo
theorem impl_DistancesTo.mono : ∀ a0 a1 a2 a3 k, LeO (impl_DistancesTo.f k a0 a1 a2 a3) (impl_DistancesTo.f (k + 1) a0 a1 a2 a3) := by
  intro a0 a1 a2 a3 k
  obtain ⟨ih0, ih1, ih2, ih3, ih4⟩ := impl_DistancesTo.mono_l k
  unfold impl_DistancesTo.f
  have m0 := @impl_NeighborsIn.mono
  exact mo
set_option maxHeartbeats 8000000 in
set_option maxRecDepth 100000 in
theorem impl_DistancesTo.calls (k : Nat) (A0 : Option Addr) (c0 : Nat) (l0 : List (S60)) (a1 : Int) (a2 : Int) (a3 : Int) (r : List Int) (w : World) (hr0 : Kd.C k60 w A0 l0.length l0) (hc0 : l0.length ≤ c0) (h : impl_DistancesTo.f k l0 a1 a2 a3 = some r) :
    Calls Try.prog 59 #[.slice A0 l0.length c0, .int .i64 a1, .int .i64 a2, .int .i64 a3] w fun e w' => ∃ v0_ : Value, e = .returned (v0_) ∧ Kd.R (Kd.int .i64) 3 w' w.heap.size (fun _ => True) v0_ r ∧ Below w.heap.size w w' := by
 have HR0 := Aside0.mk hr0
 have HC0 := Aside0.mk hc0
 clear hr0 hc0
 have HB := Aside0.mk (Below.refl w.heap.size w)
 have H : ((some (([] : List Int) : List Int)).bind fun y433 => ((impl_isNumber.f a1).bind fun t436 => (if t436 = true then ((impl_isIndex.f a3 a1).bind fun t437 => (impl_DistancesTo.j0 k l0 a1 a2 a3 y433 (!t437))) else (impl_DistancesTo.j0 k l0 a1 a2 a3 y433 true)))) = some r := h
 clear h
 obtain ⟨y433, hy433⟩ : ∃ y_ : List Int, y_ = (([] : List Int)) := ⟨_, rfl⟩
 replace H : ((impl_isNumber.f a1).bind fun t436 => (if t436 = true then ((impl_isIndex.f a3 a1).bind fun t437 => (impl_DistancesTo.j0 k l0 a1 a2 a3 y433 (!t437))) else (impl_DistancesTo.j0 k l0 a1 a2 a3 y433 true))) = some r := by first | (rw [hy433]; with_reducible exact H) | (have H2_ := (Option.bind_some _ _).symm.trans H; rw [hy433]; with_reducible exact H2_) | (have H2_ := (Option.bind_some _ _).symm.trans H; with_reducible exact H2_) | with_reducible exact H | (rw [hy433]; exact H) | exact H
 have Ny433 := Aside0.mk hy433
 clear hy433
 have HC5 := Aside0.mk H
 clear H
 go_enter Try.func59, Try.ntmps59
 go_upto_region 2 with (first | ((with_reducible refine gate_dst (N := 14) rfl ?_); refine Kd.R_lit (Kd.int .i64) _ 3 ?hg (N := 14) ?hd (xs := ([] : List Int)) (inner := []) (ok := fun _ => True) (okp := fun _ => True) ?hr ?hp (fun _ hk => hk) trivial (Below.refl _ _) (Nat.le_refl _) (by simp) ?_; (case hd => rfl); (case hg => rfl); (case hr => first | (go_simp; done) | (go_simp; rfl)); (case hp => exact (Reps.none _ _)); intro v434 w6 ho7 hb hg_ hnew_; clear hg_ hnew_; (first | rw [← Ny433.out] at ho7 | (simp only [Int.reduceToNat] at ho7; rw [← Ny433.out] at ho7)); have HO435 := Aside0.mk (Kd.R_lower ho7 (below_size (sb))); replace HB := bs hb; clear hb ho7))
 (try simp only [Act.put, List.setIfInBounds_toArray, List.set_cons_zero, List.set_cons_succ])
 go_cut [23] (fun v23 wc => ∃ (kq : Nat) (x23_4 : Bool), v23 = .bool x23_4 ∧ Aside0 (impl_DistancesTo.j0 kq l0 a1 a2 a3 y433 x23_4 = some r) ∧ Aside0 (kq ≤ k) ∧ Aside0 (Kd.R (Kd.int .i64) 3 wc w.heap.size (fun _ => True) v434 y433) ∧ Aside0 (Below w.heap.size w wc))
 case first =>
  have H := HC5.out
  clear HC5
  obtain ⟨t436, A8, H⟩ := bnd H
  obtain rfl | rfl := tt t436
  ·replace H := ip H
   obtain ⟨t437, A10, H⟩ := bnd H
   have H' := Aside0.mk H
   clear H
   go_wp2_with (first | ((with_reducible refine gate_callee (f := 36) rfl ?_); refine gL (some 16) Try.func36 #[.int .i64 a1] ?_; (with_reducible refine (impl_isNumber.calls a1 true _ A8.out).mono ?_); rintro e w' ⟨rfl, ⟨nd, rfl⟩⟩; refine ⟨_, rfl, ?_⟩) | (go_at_call 69; (with_reducible refine (impl_isIndex.calls a3 a1 t437 _ A10.out).mono ?_); rintro e w' ⟨rfl, ⟨nd, rfl⟩⟩))
   go_meet
   case rel => exact ⟨_, (!t437), sc, H', ⟨by first | omega | exact Nat.le_refl _⟩, ⟨sr HO435⟩, ⟨sb⟩⟩
  ·replace H := im H
   have H' := Aside0.mk H
   clear H
   go_wp2_with (first | ((with_reducible refine gate_callee (f := 36) rfl ?_); refine gL (some 16) Try.func36 #[.int .i64 a1] ?_; (with_reducible refine (impl_isNumber.calls a1 false _ A8.out).mono ?_); rintro e w' ⟨rfl, ⟨nd, rfl⟩⟩; refine ⟨_, rfl, ?_⟩))
   go_meet
   case rel => exact ⟨_, (true), sc, H', ⟨by first | omega | exact Nat.le_refl _⟩, ⟨sr HO435⟩, ⟨sb⟩⟩
 case rest =>
  clear HC5
  obtain ⟨kq, x23_4, rfl, HA, HJ4, HO_9, HB⟩ := hcut
  cases kq with
  | zero => exact absurd HA.out (by simp [impl_DistancesTo.j0])
  | succ kj4 =>
   have H := HA.out
   clear HA
   simp only [impl_DistancesTo.j0] at H
   obtain rfl | rfl := tt x23_4
   ·replace H := ip H
    obtain rfl := Option.some.inj H
    go_wp2
    go_ret
    exact ⟨_, se, sr HO_9, sb⟩
   ·replace H := im H
    have H' := Aside0.mk H
    clear H
    go_wp2
    go_loopg [9, 26] kj4 (fun kq v9 v26 w' => ∃ (x9_2 : List Int) (x26_2 : Int), v26 = .int .i64 x26_2 ∧ Aside0 (impl_DistancesTo.l0 kq l0 a1 a2 a3 x9_2 a1 x26_2 = some r) ∧ Aside0 (kq ≤ kj4) ∧ Aside0 (Kd.R (Kd.int .i64) 3 w' w.heap.size (fun _ => True) v9 x9_2) ∧ Aside0 (Below w.heap.size w w'))
    case atStart => exact ⟨(y433), (0), sc, H', kk0, ⟨sr HO_9⟩, ⟨sb⟩⟩
    case round =>
     clear H'
     try clear c1
     obtain ⟨x9_2, x26_2, rfl, HA, HK2, HO_9, HB⟩ := hrel
     cases gk with
     | zero => exact absurd HA.out (by simp [impl_DistancesTo.l0])
     | succ k2 =>
      have H := HA.out
      clear HA
      simp only [impl_DistancesTo.l0] at H
      obtain ⟨c12, H⟩ | ⟨c12, H⟩ := ie_ H
      ·have c12b0 := decide_eq_true c12
       clear c12
       obtain ⟨LMc13, H⟩ := il_ H
       obtain ⟨y438, hy438⟩ : ∃ y_ : List Int, y_ = (x9_2 ++ [(-1)]) := ⟨_, rfl⟩
       replace H : (impl_DistancesTo.l0 k2 l0 a1 a2 a3 y438 a1 (wrap64 (x26_2 + 1))) = some r := by first | (rw [hy438]; with_reducible exact H) | (have H2_ := (Option.bind_some _ _).symm.trans H; rw [hy438]; with_reducible exact H2_) | (have H2_ := (Option.bind_some _ _).symm.trans H; with_reducible exact H2_) | with_reducible exact H | (rw [hy438]; exact H) | exact H
       have Ny438 := Aside0.mk hy438
       clear hy438
       have H' := Aside0.mk H
       clear H
       go_wp2_with (first | ((with_reducible refine gate_builtin (b := .append) (xs := #[.tmp 28, .tmp 29]) rfl ?_); at_builtin; refine Kd.R_append (Kd.int .i64) (w0 := w) w.heap.size rfl (.tmp 28) (.tmp 29) 57 3 (.int .i64 0) 8 rfl Try.underlying57 info3 rfl (by decide) (by omega) u9 x9_2 (-1) [.int .i64 (-1)] (fun _ => True) (fun _ => False) rfl rfl ?aP (fun _ hk => hk.elim) ?aF ?aO ?aB ?aS ?aL ?_; (case aP => exact rfl); (case aB => exact (sb)); (case aF => exact (fun _ _ => trivial)); (case aO => exact (sr HO_9)); (case aS => exact (below_size (sb))); (case aL => have := LMc13.out; omega); intro v439 w14 ho hb hg hat; rw [← Ny438.out] at ho; replace HB := Aside0.mk hb; have HO440 := Aside0.mk ho; clear HO_9; clear ho hb hg hat))
       go_roundg k2
       case measure => have := HJ4.out; have := HK2.out; omega
       case rel => exact ⟨(y438), (wrap64 (x26_2 + 1)), sc, H', ⟨by have := HJ4.out; have := HK2.out; omega⟩, ⟨sr HO440⟩, ⟨sb⟩⟩
      ·have c12b0 := decide_eq_false c12
       clear c12
       obtain ⟨c15b0, H⟩ := id_ H
       obtain ⟨c16b0, H⟩ := id_ H
       obtain ⟨y441, hy441⟩ : ∃ y_ : List Int, y_ = (x9_2.set (a3 : Int).toNat 0) := ⟨_, rfl⟩
       replace H : (impl_DistancesTo.l1 k2 l0 a1 a2 a3 y441 (([a3] : List Int))) = some r := by first | (rw [hy441]; with_reducible exact H) | (have H2_ := (Option.bind_some _ _).symm.trans H; rw [hy441]; with_reducible exact H2_) | (have H2_ := (Option.bind_some _ _).symm.trans H; with_reducible exact H2_) | with_reducible exact H | (rw [hy441]; exact H) | exact H
       have Ny441 := Aside0.mk hy441
       clear hy441
       obtain ⟨y442, hy442⟩ : ∃ y_ : List Int, y_ = (([a3] : List Int)) := ⟨_, rfl⟩
       replace H : (impl_DistancesTo.l1 k2 l0 a1 a2 a3 y441 y442) = some r := by first | (rw [hy442]; with_reducible exact H) | (have H2_ := (Option.bind_some _ _).symm.trans H; rw [hy442]; with_reducible exact H2_) | (have H2_ := (Option.bind_some _ _).symm.trans H; with_reducible exact H2_) | with_reducible exact H | (rw [hy442]; exact H) | exact H
       have Ny442 := Aside0.mk hy442
       clear hy442
       have H' := Aside0.mk H
       clear H
       have p17 : 0 ≤ (a3 : Int) := sa
       have q17 : (a3 : Int) < ((x9_2.length : Int) : Int) := sa
       obtain ⟨go17, co17, eo17, gb17, gl17, cl17, HG17⟩ := Kd.R_form HO_9.out (by omega)
       (first | cases eo17 | (injection eo17 with ea_ en_ ec_; (first | subst ea_ | (injection ea_ with ea_; subst ea_)); subst ec_; clear en_))
       have GB17 := Aside0.mk gb17
       have GG17 := Aside0.mk HG17
       clear gb17 gl17 HG17
       obtain ⟨hx17_0, hf17_0⟩ := Kd.R_celln 0 HO_9.out (a3 : Int) p17 q17
       replace p17 := eq_true p17
       replace q17 := eq_true q17
       have HP18 := Kd.R_putg HO_9.out (a3 : Int) 0
       go_wp2_with (first | ((with_reducible refine gate_store (t := 3) (p := 34) rfl ?_); refine store_event (t := 3) (p := 34) (v := ?vo_w19) (w1 := (wr.setCell ⟨go17, (a3 : Int).toNat, none⟩ (.int .i64 0))) ?hg ?ho ?hn ?hr ?_; (case ho => rfl); (case hg => rfl); (case hn => rfl); (case hr => first | (go_simp; done) | (go_simp; rfl)); intro w19 hw; have hg : wr.grownBy w19 (some go17) := (by rw [hw]; exact HP18.2); have hp_ : Kd.R (Kd.int .i64) 3 w19 w.heap.size (fun _ => True) (.slice (some ⟨go17, 0, none⟩) x9_2.length co17) y441 := (by rw [hw, Ny441.out]; exact HP18.1); clear HP18; replace HO_9 := Aside0.mk hp_; replace HB := Aside0.mk ((by rw [hw]; exact below_set (HB.out) GB17.out : Below w.heap.size w w19)); clear hg hw hp_) | ((with_reducible refine gate_dst (N := 36) rfl ?_); refine Kd.R_lit (Kd.int .i64) _ 3 ?hg (N := 36) ?hd (xs := ([a3] : List Int)) (inner := [.int .i64 a3]) (ok := fun _ => True) (okp := fun _ => True) ?hr ?hp (fun _ hk => hk) trivial (Below.refl _ _) (Nat.le_refl _) (by simp) ?_; (case hd => rfl); (case hg => rfl); (case hr => first | (go_simp; done) | (go_simp; rfl)); (case hp => exact (Reps.one (show Kd.M (Kd.int .i64) _ _ _ a3 [.int .i64 a3] from rfl) (Reps.none _ _))); intro v443 w20 ho21 hb hg_ hnew_; clear hg_ hnew_; (first | rw [← Ny442.out] at ho21 | (simp only [Int.reduceToNat] at ho21; rw [← Ny442.out] at ho21)); have HO444 := Aside0.mk (Kd.R_lower (Kd.R_new' ho21 (Kd.R_lt (sr HO_9))) (below_size (sb))); replace HO_9 := Aside0.mk (Kd.R_elder' (sr HO_9) (Kd.R_base ho21) hb); replace HB := bs hb; clear hb ho21))
       go_loopg [10] k2 (fun kq v10 w' => ∃ (x9_3 : List Int) (x10_3 : List Int), Aside0 (impl_DistancesTo.l1 kq l0 a1 a2 a3 x9_3 x10_3 = some r) ∧ Aside0 (kq ≤ k2) ∧ Aside0 (Kd.R (Kd.int .i64) 3 w' w.heap.size (fun k_ => some k_ ≠ (v10 : Value).ownBlock) (.slice (some ⟨go17, 0, none⟩) x9_2.length co17) x9_3) ∧ Aside0 (Kd.Q (Kd.int .i64) 3 w' w.heap.size (fun k_ => some k_ ≠ ((.slice (some ⟨go17, 0, none⟩) x9_2.length co17) : Value).ownBlock) v10 x10_3) ∧ Aside0 (Below w.heap.size w w'))
       case atStart => exact ⟨(y441), (y442), H', kk0, ⟨by (with_reducible repeat (first | apply Kd.R_alloc | apply Kd.R_drewN | apply Kd.R_drew)); exact Kd.R_mono HO_9.out (fun _ hk => hk.2)⟩, ⟨Kd.Q_of_R (by (with_reducible repeat (first | apply Kd.R_alloc | apply Kd.R_drewN | apply Kd.R_drew)); exact Kd.R_mono HO444.out (fun _ hk => hk.2))⟩, ⟨sb⟩⟩
       case round =>
        clear H'
        try clear c1
        try clear c12
        try clear c12b0
        try clear c15b0
        try clear c16b0
        try clear p17
        try clear q17
        try clear hx17_0
        try clear p17
        try clear q17
        obtain ⟨x9_3, x10_3, HA, HK3, HO_9, HO_10, HB⟩ := hrel
        have hl9_3 := (Kd.R_reads' HO_9.out).1
        rw [hl9_3] at HO_9
        (try simp only [hl9_3])
        (try simp only [hl9_3] at HO_10)
        cases gk with
        | zero => exact absurd HA.out (by simp [impl_DistancesTo.l1])
        | succ k3 =>
         have H := HA.out
         clear HA
         simp only [impl_DistancesTo.l1] at H
         obtain ⟨c22, H⟩ | ⟨c22, H⟩ := ie_ H
         ·have c22b0 := decide_eq_true c22
          have c22b1 : decide (0 < x10_3.length) = true := decide_eq_true (by omega)
          clear c22
          obtain ⟨c23, H⟩ := ia_ H
          have c23b0 := decide_eq_true c23
          have c23b1 : decide (0 < x10_3.length) = true := decide_eq_true (by omega)
          clear c23
          have HC24 := Aside0.mk H
          clear H
          obtain ⟨Ao25, co25, eo25, _⟩ := Kd.Q_slice HO_10.out
          subst eo25
          have p445 : 0 ≤ (0 : Int) := (by omega)
          have q445 : 0 < (x10_3.length : Int) := sa
          obtain ⟨ad445, e445, hx445_0⟩ := Kd.at_int (Kd.Q_reads' HO_10.out).2.2 0 p445 q445
          cases e445
          have qi445 : (0 < x10_3.length) = True := eq_true (by omega)
          (try rw [show ((0 : Int)).toNat = 0 from rfl] at hx445_0)
          (try rw [Addr.add_zero'] at hx445_0)
          replace p445 := eq_true p445
          replace q445 := eq_true q445
          go_upto_region 13 with (fail)
          go_cut [52] (fun v52 wc => ∃ (kq : Nat) (x52_23 : Bool), v52 = .bool x52_23 ∧ Aside0 (impl_DistancesTo.j3 kq l0 a1 a2 a3 x9_3 x10_3 (rd x10_3 0) x52_23 = some r) ∧ Aside0 (kq ≤ k3) ∧ Aside0 (Kd.R (Kd.int .i64) 3 wc w.heap.size (fun k_ => some k_ ≠ ((.slice (some ad445) x10_3.length co25) : Value).ownBlock) (.slice (some ⟨go17, 0, none⟩) x9_3.length co17) x9_3) ∧ Aside0 (Kd.Q (Kd.int .i64) 3 wc w.heap.size (fun k_ => some k_ ≠ ((.slice (some ⟨go17, 0, none⟩) x9_3.length co17) : Value).ownBlock) (.slice (some ad445) x10_3.length co25) x10_3) ∧ Aside0 (Below w.heap.size w wc))
          case first =>
           have H := HC24.out
           clear HC24
           obtain ⟨c26, H⟩ | ⟨c26, H⟩ := ie_ H
           ·have c26b0 : ((rd x10_3 0) == a3) = true := beq_iff_eq.mpr c26
            have c26b1 : ((rd x10_3 0) != a3) = false := bne_eq_false_iff_eq.mpr c26
            clear c26
            (first | rw [c26b0] | (simp only [i64_w, i32_w]; rw [c26b0]) | rw [c26b1] | skip)
            have H' := Aside0.mk H
            clear H
            go_wp2
            go_meet
            case rel => exact ⟨_, (false), sc, H', ⟨by have := HJ4.out; have := HK2.out; have := HK3.out; first | omega | exact Nat.le_refl _⟩, ⟨by (try simp only [hl9_3]); (with_reducible repeat (first | apply Kd.R_alloc | apply Kd.R_drewN | apply Kd.R_drew)); exact HO_9.out⟩, ⟨by (try simp only [hl9_3]); (with_reducible repeat (first | apply Kd.Q_alloc | apply Kd.Q_drewN | apply Kd.Q_drew)); exact HO_10.out⟩, ⟨sb⟩⟩
           ·have c26b0 : ((rd x10_3 0) == a3) = false := beq_eq_false_iff_ne.mpr c26
            have c26b1 : ((rd x10_3 0) != a3) = true := bne_iff_ne.mpr c26
            (first | rw [c26b0] | (simp only [i64_w, i32_w]; rw [c26b0]) | rw [c26b1] | skip)
            have H' := Aside0.mk H
            clear H
            go_wp2
            go_meet
            case rel => exact ⟨_, (decide ((rd x10_3 0) ≥ a2)), sc, H', ⟨by have := HJ4.out; have := HK2.out; have := HK3.out; first | omega | exact Nat.le_refl _⟩, ⟨by (try simp only [hl9_3]); (with_reducible repeat (first | apply Kd.R_alloc | apply Kd.R_drewN | apply Kd.R_drew)); exact HO_9.out⟩, ⟨by (try simp only [hl9_3]); (with_reducible repeat (first | apply Kd.Q_alloc | apply Kd.Q_drewN | apply Kd.Q_drew)); exact HO_10.out⟩, ⟨sb⟩⟩
          case rest =>
           clear HC24
           try clear c1
           try clear c12
           try clear c12b0
           try clear c15b0
           try clear c16b0
           try clear p17
           try clear q17
           try clear c22
           try clear c22b0
           try clear c22b1
           try clear c23
           try clear c23b0
           try clear c23b1
           try clear c26
           try clear c26b0
           try clear c26b1
           try clear hx17_0
           try clear hx445_0
           try clear p17
           try clear p445
           try clear q17
           try clear q445
           obtain ⟨kq, x52_23, rfl, HA, HJ23, HO_9, HO_10, HB⟩ := hcut
           cases kq with
           | zero => exact absurd HA.out (by simp [impl_DistancesTo.j3])
           | succ kj23 =>
            have H := HA.out
            clear HA
            simp only [impl_DistancesTo.j3] at H
            obtain rfl | rfl := tt x52_23
            ·replace H := ip H
             obtain ⟨c28, H⟩ := ia_ H
             have c28b0 := eq_true c28
             have c28b1 := decide_eq_true c28
             clear c28
             obtain ⟨y446, hy446⟩ : ∃ y_ : List Int, y_ = (x10_3.drop (1 : Int).toNat) := ⟨_, rfl⟩
             replace H : (impl_DistancesTo.l1 kj23 l0 a1 a2 a3 x9_3 y446) = some r := by first | (rw [hy446]; with_reducible exact H) | (have H2_ := (Option.bind_some _ _).symm.trans H; rw [hy446]; with_reducible exact H2_) | (have H2_ := (Option.bind_some _ _).symm.trans H; with_reducible exact H2_) | with_reducible exact H | (rw [hy446]; exact H) | exact H
             have Ny446 := Aside0.mk hy446
             clear hy446
             have H' := Aside0.mk H
             clear H
             have q29 : (1 : Int) ≤ ((x10_3.length : Int) : Int) := sa
             obtain ⟨i029, hi029, _, hsz29, _⟩ := info_parts info3
             have hcut29 := cut_from (P := Try.prog) 57 3 .i64 Try.underlying57 hi029 1 hsz29 (some ad445) x10_3.length co25 1 (by omega) q29
             have hr29 := Kd.Q_drop (k := (1 : Int).toNat) HO_10.out (by omega)
             obtain ⟨A29, hA29⟩ : ∃ A1, A1 = (if co25 = (1 : Int).toNat then (some ad445) else ((some ad445) : Option Addr).map (·.add ((1 : Int).toNat * 1))) := ⟨_, rfl⟩
             obtain ⟨c29, hc29⟩ : ∃ c1, c1 = co25 - (1 : Int).toNat := ⟨_, rfl⟩
             have hy29 : y446.length = x10_3.length - (1 : Int).toNat := (by rw [Ny446.out, List.length_drop])
             rw [← Ny446.out] at hr29
             rw [← hy29, ← hA29, ← hc29] at hcut29
             replace hr29 : Kd.Q (Kd.int .i64) 3 wc w.heap.size (fun k_ => some k_ ≠ (.slice (some ⟨go17, 0, none⟩) x9_3.length co17 : Value).ownBlock) (.slice A29 y446.length c29) y446 := (by rw [hA29, hc29, hy29]; exact hr29)
             have HE29 : Aside0 ((Value.slice A29 y446.length c29).ownBlock = (.slice (some ad445) x10_3.length co25 : Value).ownBlock) := ⟨by rw [hA29]; split <;> (cases ((some ad445) : Option Addr) <;> rfl)⟩
             clear hy29 hi029 hsz29 HO_10 hA29 hc29
             have HO448 := Aside0.mk hr29
             clear hr29
             replace q29 := eq_true q29
             have n_ := Aside0.mk (Kd.R_mono (ok' := fun k_ => some k_ ≠ (.slice A29 y446.length c29 : Value).ownBlock) HO_9.out (fun k_ hk => (by rw [HE29.out]; exact hk)))
             clear HO_9
             have HO_9 := n_
             clear n_
             go_wp2
             (try simp only [← hl9_3])
             go_roundg kj23
             case measure => have := HJ4.out; have := HK2.out; have := HK3.out; have := HJ23.out; omega
             case rel => exact ⟨(x9_3), (y446), H', ⟨by have := HJ4.out; have := HK2.out; have := HK3.out; have := HJ23.out; omega⟩, ⟨by (try simp only [hl9_3]); (with_reducible repeat (first | apply Kd.R_alloc | apply Kd.R_drewN | apply Kd.R_drew)); exact HO_9.out⟩, ⟨by (try simp only [hl9_3]); (with_reducible repeat (first | apply Kd.Q_alloc | apply Kd.Q_drewN | apply Kd.Q_drew)); exact HO448.out⟩, ⟨sb⟩⟩
            ·replace H := im H
             obtain ⟨t449, A30, H⟩ := bnd H
             have H' := Aside0.mk H
             clear H
             go_wp2_with (first | ((with_reducible refine gate_callee (f := 70) rfl ?_); refine gL (some 55) Try.func70 #[.slice A0 l0.length c0, .int .i64 (rd x10_3 0)] ?_; (with_reducible refine (impl_NeighborsIn.calls kj23 _ _ l0 (rd x10_3 0) t449 _ ?side1 ?side2 A30.out).mono ?_); (case side1 => exact cb HR0); (case side2 => exact HC0.out); rintro e w31 ⟨v450, rfl, ho0, hb⟩; refine ⟨_, rfl, ?_⟩; have HO451 := Aside0.mk (Kd.R_lower (Kd.R_new' (Kd.R_new' ho0 (Kd.R_lt (sr HO_9))) (Kd.Q_lt (sq HO_10))) (below_size (sb))); replace HO_9 := Aside0.mk (Kd.R_elder' (sr HO_9) (Kd.R_base ho0) hb); replace HO_10 := Aside0.mk (Kd.Q_elder' (sq HO_10) (Kd.R_base ho0) hb); replace HB := bs hb; (try clear hb); (try clear hb2); (try clear hk); (try clear hi); (try clear ho0); obtain ⟨Ao32, co32, eo32⟩ := Kd.R_slice HO451.out; subst eo32))
             go_loopg [10, 57] kj23 (fun kq v10 v57 w' => ∃ (x9_5 : List Int) (x10_5 : List Int) (x57_5 : Int), v57 = .int .i64 x57_5 ∧ Aside0 (impl_DistancesTo.l2 kq l0 a1 a2 a3 x9_5 x10_5 (rd x10_3 0) t449 (t449.length : Int) x57_5 = some r) ∧ Aside0 (kq ≤ kj23) ∧ Aside0 (Kd.R (Kd.int .i64) 3 w' w.heap.size (fun k_ => some k_ ≠ (v10 : Value).ownBlock ∧ some k_ ≠ ((.slice Ao32 t449.length co32) : Value).ownBlock) (.slice (some ⟨go17, 0, none⟩) x9_3.length co17) x9_5) ∧ Aside0 (Kd.Q (Kd.int .i64) 3 w' w.heap.size (fun k_ => some k_ ≠ ((.slice (some ⟨go17, 0, none⟩) x9_3.length co17) : Value).ownBlock ∧ some k_ ≠ ((.slice Ao32 t449.length co32) : Value).ownBlock) v10 x10_5) ∧ Aside0 (Kd.R (Kd.int .i64) 3 w' w.heap.size (fun k_ => some k_ ≠ ((.slice (some ⟨go17, 0, none⟩) x9_3.length co17) : Value).ownBlock ∧ some k_ ≠ (v10 : Value).ownBlock) (.slice Ao32 t449.length co32) t449) ∧ Aside0 (Below w.heap.size w w'))
             case atStart => exact ⟨(x9_3), (x10_3), (0), sc, H', kk0, ⟨by (try simp only [hl9_3]); (with_reducible repeat (first | apply Kd.R_alloc | apply Kd.R_drewN | apply Kd.R_drew)); exact HO_9.out⟩, ⟨by (try simp only [hl9_3]); (with_reducible repeat (first | apply Kd.Q_alloc | apply Kd.Q_drewN | apply Kd.Q_drew)); exact HO_10.out⟩, ⟨by (try simp only [hl9_3]); (with_reducible repeat (first | apply Kd.R_alloc | apply Kd.R_drewN | apply Kd.R_drew)); exact Kd.R_mono HO451.out (fun _ hk => ⟨hk.1.2, hk.2⟩)⟩, ⟨sb⟩⟩
             case round =>
              clear H'
              try clear c1
              try clear c12
              try clear c12b0
              try clear c15b0
              try clear c16b0
              try clear p17
              try clear q17
              try clear c22
              try clear c22b0
              try clear c22b1
              try clear c23
              try clear c23b0
              try clear c23b1
              try clear c26
              try clear c26b0
              try clear c26b1
              try clear c28
              try clear c28b0
              try clear c28b1
              try clear c29
              try clear q29
              try clear hx17_0
              try clear hx445_0
              try clear p17
              try clear p445
              try clear q17
              try clear q29
              try clear q445
              obtain ⟨x9_5, x10_5, x57_5, rfl, HA, HK5, HO_9, HO_10, HO_55, HB⟩ := hrel
              have hl9_5 := (Kd.R_reads' HO_9.out).1
              rw [hl9_5] at HO_9
              (try simp only [hl9_5])
              (try simp only [hl9_5] at HO_10)
              (try simp only [hl9_5] at HO_55)
              cases gk with
              | zero => exact absurd HA.out (by simp [impl_DistancesTo.l2])
              | succ k5 =>
               have H := HA.out
               clear HA
               simp only [impl_DistancesTo.l2] at H
               obtain ⟨c33, H⟩ | ⟨c33, H⟩ := ie_ H
               ·have c33b0 := decide_eq_true c33
                clear c33
                obtain ⟨c34b0, H⟩ := id_ H
                obtain ⟨c35b0, H⟩ := id_ H
                obtain ⟨t453, A36, H⟩ := bnd H
                obtain rfl | rfl := tt t453
                ·replace H := ip H
                 obtain ⟨c38b0, H⟩ := id_ H
                 obtain ⟨c39b0, H⟩ := id_ H
                 obtain ⟨c40, H⟩ | ⟨c40, H⟩ := ie_ H
                 ·have c40b0 := decide_eq_true c40
                  clear c40
                  obtain ⟨c41b0, H⟩ := id_ H
                  obtain ⟨c42b0, H⟩ := id_ H
                  obtain ⟨y456, hy456⟩ : ∃ y_ : List Int, y_ = (x9_5.set ((rd t449 x57_5) : Int).toNat (wrap64 ((rd x9_5 (rd x10_3 0)) + 1))) := ⟨_, rfl⟩
                  replace H : (if x10_5.length < 17592186044416 then (impl_DistancesTo.l2 k5 l0 a1 a2 a3 y456 (x10_5 ++ [rd t449 x57_5]) (rd x10_3 0) t449 (t449.length : Int) (wrap64 (x57_5 + 1))) else (none)) = some r := by first | (rw [hy456]; with_reducible exact H) | (have H2_ := (Option.bind_some _ _).symm.trans H; rw [hy456]; with_reducible exact H2_) | (have H2_ := (Option.bind_some _ _).symm.trans H; with_reducible exact H2_) | with_reducible exact H | (rw [hy456]; exact H) | exact H
                  have Ny456 := Aside0.mk hy456
                  clear hy456
                  obtain ⟨LMc44, H⟩ := il_ H
                  obtain ⟨y457, hy457⟩ : ∃ y_ : List Int, y_ = (x10_5 ++ [rd t449 x57_5]) := ⟨_, rfl⟩
                  replace H : (impl_DistancesTo.l2 k5 l0 a1 a2 a3 y456 y457 (rd x10_3 0) t449 (t449.length : Int) (wrap64 (x57_5 + 1))) = some r := by first | (rw [hy457]; with_reducible exact H) | (have H2_ := (Option.bind_some _ _).symm.trans H; rw [hy457]; with_reducible exact H2_) | (have H2_ := (Option.bind_some _ _).symm.trans H; with_reducible exact H2_) | with_reducible exact H | (rw [hy457]; exact H) | exact H
                  have Ny457 := Aside0.mk hy457
                  clear hy457
                  have H' := Aside0.mk H
                  clear H
                  have p452 : 0 ≤ (x57_5 : Int) := sa
                  have q452 : x57_5 < (t449.length : Int) := sa
                  obtain ⟨ad452, e452, hx452_0⟩ := Kd.at_int (Kd.R_reads' HO_55.out).2.2 x57_5 p452 q452
                  cases e452
                  replace p452 := eq_true p452
                  replace q452 := eq_true q452
                  go_wp2_with (first | ((with_reducible refine gate_callee (f := 69) rfl ?_); refine gL (some 63) Try.func69 #[.int .i64 (rd t449 x57_5), .int .i64 a1] ?_; (with_reducible refine (impl_isIndex.calls (rd t449 x57_5) a1 true _ A36.out).mono ?_); rintro e w' ⟨rfl, ⟨nd, rfl⟩⟩; refine ⟨_, rfl, ?_⟩; (try (rw  [drewN_self wr]; generalize hq_ : World.drewN wr _ = wr; have n0_ : Aside0 (Kd.Q (Kd.int .i64) 3 wr w.heap.size _ u10 x10_5) := ⟨by rw [← hq_]; exact (sq HO_10)⟩; have n1_ : Aside0 (Kd.R (Kd.int .i64) 3 wr w.heap.size _ (.slice (some ad452) t449.length co32) t449) := ⟨by rw [← hq_]; exact (sr HO_55)⟩; have n2_ : Aside0 (Kd.R (Kd.int .i64) 3 wr w.heap.size (fun k_ => some k_ ≠ (u10 : Value).ownBlock ∧ some k_ ≠ (.slice (some ad452) t449.length co32 : Value).ownBlock) (.slice (some ⟨go17, 0, none⟩) x9_5.length co17) x9_5) := ⟨by rw [← hq_]; exact (sr HO_9)⟩; have n3_ : Aside0 (Below w.heap.size w wr) := ⟨by rw [← hq_]; exact (sb)⟩; clear HO_10 HO_55 HO_9 HB hq_; have HO_10 := n0_; have HO_55 := n1_; have HO_9 := n2_; have HB := n3_; clear n0_ n1_ n2_ n3_)); have p454 : 0 ≤ ((rd t449 x57_5) : Int) := sa; have q454 : (rd t449 x57_5) < (x9_5.length : Int) := sa; obtain ⟨ad454, e454, hx454_0⟩ := Kd.at_int (Kd.R_reads' HO_9.out).2.2 (rd t449 x57_5) p454 q454; obtain rfl : (⟨go17, 0, none⟩ : Addr) = ad454 := (by injection e454); (first | simp only [add_plain] at hx454_0 | simp only [add_at] at hx454_0 | simp only [Addr.add, Nat.zero_add] at hx454_0 | skip); replace p454 := eq_true p454; replace q454 := eq_true q454; have p455 : 0 ≤ ((rd x10_3 0) : Int) := sa; have q455 : (rd x10_3 0) < (x9_5.length : Int) := sa; obtain ⟨ad455, e455, hx455_0⟩ := Kd.at_int (Kd.R_reads' HO_9.out).2.2 (rd x10_3 0) p455 q455; obtain rfl : (⟨go17, 0, none⟩ : Addr) = ad455 := (by injection e455); (first | simp only [add_plain] at hx455_0 | simp only [add_at] at hx455_0 | simp only [Addr.add, Nat.zero_add] at hx455_0 | skip); replace p455 := eq_true p455; replace q455 := eq_true q455; have p43 : 0 ≤ ((rd t449 x57_5) : Int) := sa; have q43 : ((rd t449 x57_5) : Int) < ((x9_5.length : Int) : Int) := sa; obtain ⟨hx43_0, hf43_0⟩ := Kd.R_celln 0 HO_9.out ((rd t449 x57_5) : Int) p43 q43; replace p43 := eq_true p43; replace q43 := eq_true q43; obtain ⟨hy45_, hz45_⟩ := Kd.R_celln 0 HO_9.out ((rd t449 x57_5) : Int) (sa) (sa); have HP45 := Kd.R_putg HO_9.out ((rd t449 x57_5) : Int) (wrap64 ((rd x9_5 (rd x10_3 0)) + 1))) | ((with_reducible refine gate_store (t := 3) (p := 78) rfl ?_); refine store_event (t := 3) (p := 78) (v := ?vo_w46) (w1 := (wr.setCell ⟨go17, ((rd t449 x57_5) : Int).toNat, none⟩ (.int .i64 (wrap64 ((rd x9_5 (rd x10_3 0)) + 1))))) ?hg ?ho ?hn ?hr ?_; (case ho => rfl); (case hg => rfl); (case hn => rfl); (case hr => first | (go_simp; done) | (go_simp; rfl)); intro w46 hw; have hg : wr.grownBy w46 (some go17) := (by rw [hw]; exact HP45.2); have hp_ : Kd.R (Kd.int .i64) 3 w46 w.heap.size (fun k_ => some k_ ≠ (u10 : Value).ownBlock ∧ some k_ ≠ (.slice (some ad452) t449.length co32 : Value).ownBlock) (.slice (some ⟨go17, 0, none⟩) x9_5.length co17) y456 := (by rw [hw, Ny456.out]; exact HP45.1); clear HP45; replace HO_9 := Aside0.mk hp_; replace HO_10 := Aside0.mk (Kd.Q_after (v := (.slice (some ⟨go17, 0, none⟩) x9_5.length co17)) (v1 := (.slice (some ⟨go17, 0, none⟩) x9_5.length co17)) (ok := (fun k_ => some k_ ≠ (.slice (some ad452) t449.length co32 : Value).ownBlock)) (by (with_reducible repeat (first | apply Kd.Q_alloc | apply Kd.Q_drewN | apply Kd.Q_drew)); exact Kd.Q_mono HO_10.out (fun _ hk => by first | exact ⟨hk.2, hk.1⟩ | exact hk | (simp_all; done))) hg (.inl rfl)); replace HO_55 := Aside0.mk (Kd.R_after (v := (.slice (some ⟨go17, 0, none⟩) x9_5.length co17)) (v1 := (.slice (some ⟨go17, 0, none⟩) x9_5.length co17)) (ok := (fun k_ => some k_ ≠ (u10 : Value).ownBlock)) (by (with_reducible repeat (first | apply Kd.R_alloc | apply Kd.R_drewN | apply Kd.R_drew)); exact Kd.R_mono HO_55.out (fun _ hk => by first | exact ⟨hk.2, hk.1⟩ | exact hk | (simp_all; done))) hg (.inl rfl)); replace HB := Aside0.mk ((by rw [hw]; exact below_set (HB.out) GB17.out : Below w.heap.size w w46)); clear hg hw hp_) | ((with_reducible refine gate_builtin (b := .append) (xs := #[.tmp 79, .tmp 81]) rfl ?_); at_builtin; refine Kd.Q_append (Kd.int .i64) (w0 := w) w.heap.size rfl (.tmp 79) (.tmp 81) 57 3 (.int .i64 0) 8 rfl Try.underlying57 info3 rfl (by decide) (by omega) u10 x10_5 (rd t449 x57_5) [.int .i64 (rd t449 x57_5)] (fun k_ => some k_ ≠ (.slice (some ⟨go17, 0, none⟩) x9_5.length co17 : Value).ownBlock ∧ some k_ ≠ (.slice (some ad452) t449.length co32 : Value).ownBlock) (fun _ => False) rfl rfl ?aP (fun _ hk => hk.elim) ?aF ?aO ?aB ?aS ?aL ?_; (case aP => exact rfl); (case aB => exact (sb)); (case aF => exact (fun k_ hk => ⟨Kd.fresh' (Kd.R_lt (sr HO_9)) k_ hk, Kd.fresh' (Kd.R_lt (sr HO_55)) k_ hk⟩)); (case aO => exact (by (with_reducible repeat (first | apply Kd.Q_alloc | apply Kd.Q_drewN | apply Kd.Q_drew)); exact Kd.Q_mono HO_10.out (fun _ hk => by first | exact ⟨hk.2, hk.1⟩ | exact hk | (simp_all; done)))); (case aS => exact (below_size (sb))); (case aL => have := LMc44.out; omega); intro v458 w47 ho hb hg hat; rw [← Ny457.out] at ho; replace HO_9 := Aside0.mk (Kd.R_after (ok := (fun k_ => some k_ ≠ (.slice (some ad452) t449.length co32 : Value).ownBlock)) (by (with_reducible repeat (first | apply Kd.R_alloc | apply Kd.R_drewN | apply Kd.R_drew)); exact Kd.R_mono HO_9.out (fun _ hk => by first | exact ⟨hk.2, hk.1⟩ | exact hk | (simp_all; done))) hg hat); replace HO_55 := Aside0.mk (Kd.R_after (ok := (fun k_ => some k_ ≠ (.slice (some ⟨go17, 0, none⟩) x9_5.length co17 : Value).ownBlock)) (by (with_reducible repeat (first | apply Kd.R_alloc | apply Kd.R_drewN | apply Kd.R_drew)); exact Kd.R_mono HO_55.out (fun _ hk => by first | exact ⟨hk.2, hk.1⟩ | exact hk | (simp_all; done))) hg hat); replace HB := Aside0.mk hb; have HO459 := Aside0.mk ho; clear HO_10; clear ho hb hg hat))
                  (try simp only [← hl9_5])
                  go_roundg k5
                  case measure => have := HJ4.out; have := HK2.out; have := HK3.out; have := HJ23.out; have := HK5.out; omega
                  case rel => exact ⟨(y456), (y457), (wrap64 (x57_5 + 1)), sc, H', ⟨by have := HJ4.out; have := HK2.out; have := HK3.out; have := HJ23.out; have := HK5.out; omega⟩, ⟨by (try simp only [hl9_3]); (try simp only [hl9_5]); (with_reducible repeat (first | apply Kd.R_alloc | apply Kd.R_drewN | apply Kd.R_drew)); exact Kd.R_mono HO_9.out (fun _ hk => ⟨hk.2, hk.1⟩)⟩, ⟨by (try simp only [hl9_3]); (try simp only [hl9_5]); (with_reducible repeat (first | apply Kd.Q_alloc | apply Kd.Q_drewN | apply Kd.Q_drew)); exact HO459.out⟩, ⟨by (try simp only [hl9_3]); (try simp only [hl9_5]); (with_reducible repeat (first | apply Kd.R_alloc | apply Kd.R_drewN | apply Kd.R_drew)); exact HO_55.out⟩, ⟨sb⟩⟩
                 ·have c40b0 := decide_eq_false c40
                  clear c40
                  have H' := Aside0.mk H
                  clear H
                  have p452 : 0 ≤ (x57_5 : Int) := sa
                  have q452 : x57_5 < (t449.length : Int) := sa
                  obtain ⟨ad452, e452, hx452_0⟩ := Kd.at_int (Kd.R_reads' HO_55.out).2.2 x57_5 p452 q452
                  cases e452
                  replace p452 := eq_true p452
                  replace q452 := eq_true q452
                  go_wp2_with (first | ((with_reducible refine gate_callee (f := 69) rfl ?_); refine gL (some 63) Try.func69 #[.int .i64 (rd t449 x57_5), .int .i64 a1] ?_; (with_reducible refine (impl_isIndex.calls (rd t449 x57_5) a1 true _ A36.out).mono ?_); rintro e w' ⟨rfl, ⟨nd, rfl⟩⟩; refine ⟨_, rfl, ?_⟩; have p454 : 0 ≤ ((rd t449 x57_5) : Int) := sa; have q454 : (rd t449 x57_5) < (x9_5.length : Int) := sa; obtain ⟨ad454, e454, hx454_0⟩ := Kd.at_int (Kd.R_reads' HO_9.out).2.2 (rd t449 x57_5) p454 q454; obtain rfl : (⟨go17, 0, none⟩ : Addr) = ad454 := (by injection e454); (first | simp only [add_plain] at hx454_0 | simp only [add_at] at hx454_0 | simp only [Addr.add, Nat.zero_add] at hx454_0 | skip); replace p454 := eq_true p454; replace q454 := eq_true q454))
                  (try simp only [← hl9_5])
                  go_roundg k5
                  case measure => have := HJ4.out; have := HK2.out; have := HK3.out; have := HJ23.out; have := HK5.out; omega
                  case rel => exact ⟨(x9_5), (x10_5), (wrap64 (x57_5 + 1)), sc, H', ⟨by have := HJ4.out; have := HK2.out; have := HK3.out; have := HJ23.out; have := HK5.out; omega⟩, ⟨by (try simp only [hl9_3]); (try simp only [hl9_5]); (with_reducible repeat (first | apply Kd.R_alloc | apply Kd.R_drewN | apply Kd.R_drew)); exact HO_9.out⟩, ⟨by (try simp only [hl9_3]); (try simp only [hl9_5]); (with_reducible repeat (first | apply Kd.Q_alloc | apply Kd.Q_drewN | apply Kd.Q_drew)); exact HO_10.out⟩, ⟨by (try simp only [hl9_3]); (try simp only [hl9_5]); (with_reducible repeat (first | apply Kd.R_alloc | apply Kd.R_drewN | apply Kd.R_drew)); exact HO_55.out⟩, ⟨sb⟩⟩
                ·replace H := im H
                 have H' := Aside0.mk H
                 clear H
                 have p452 : 0 ≤ (x57_5 : Int) := sa
                 have q452 : x57_5 < (t449.length : Int) := sa
                 obtain ⟨ad452, e452, hx452_0⟩ := Kd.at_int (Kd.R_reads' HO_55.out).2.2 x57_5 p452 q452
                 cases e452
                 replace p452 := eq_true p452
                 replace q452 := eq_true q452
                 go_wp2_with (first | ((with_reducible refine gate_callee (f := 69) rfl ?_); refine gL (some 63) Try.func69 #[.int .i64 (rd t449 x57_5), .int .i64 a1] ?_; (with_reducible refine (impl_isIndex.calls (rd t449 x57_5) a1 false _ A36.out).mono ?_); rintro e w' ⟨rfl, ⟨nd, rfl⟩⟩; refine ⟨_, rfl, ?_⟩))
                 (try simp only [← hl9_5])
                 go_roundg k5
                 case measure => have := HJ4.out; have := HK2.out; have := HK3.out; have := HJ23.out; have := HK5.out; omega
                 case rel => exact ⟨(x9_5), (x10_5), (wrap64 (x57_5 + 1)), sc, H', ⟨by have := HJ4.out; have := HK2.out; have := HK3.out; have := HJ23.out; have := HK5.out; omega⟩, ⟨by (try simp only [hl9_3]); (try simp only [hl9_5]); (with_reducible repeat (first | apply Kd.R_alloc | apply Kd.R_drewN | apply Kd.R_drew)); exact HO_9.out⟩, ⟨by (try simp only [hl9_3]); (try simp only [hl9_5]); (with_reducible repeat (first | apply Kd.Q_alloc | apply Kd.Q_drewN | apply Kd.Q_drew)); exact HO_10.out⟩, ⟨by (try simp only [hl9_3]); (try simp only [hl9_5]); (with_reducible repeat (first | apply Kd.R_alloc | apply Kd.R_drewN | apply Kd.R_drew)); exact HO_55.out⟩, ⟨sb⟩⟩
               ·have c33b0 := decide_eq_false c33
                clear c33
                obtain ⟨c48, H⟩ := ia_ H
                have c48b0 := eq_true c48
                have c48b1 := decide_eq_true c48
                clear c48
                obtain ⟨y460, hy460⟩ : ∃ y_ : List Int, y_ = (x10_5.drop (1 : Int).toNat) := ⟨_, rfl⟩
                replace H : (impl_DistancesTo.l1 k5 l0 a1 a2 a3 x9_5 y460) = some r := by first | (rw [hy460]; with_reducible exact H) | (have H2_ := (Option.bind_some _ _).symm.trans H; rw [hy460]; with_reducible exact H2_) | (have H2_ := (Option.bind_some _ _).symm.trans H; with_reducible exact H2_) | with_reducible exact H | (rw [hy460]; exact H) | exact H
                have Ny460 := Aside0.mk hy460
                clear hy460
                have H' := Aside0.mk H
                clear H
                obtain ⟨Ao49, co49, eo49, _⟩ := Kd.Q_slice HO_10.out
                subst eo49
                have q50 : (1 : Int) ≤ ((x10_5.length : Int) : Int) := sa
                obtain ⟨i050, hi050, _, hsz50, _⟩ := info_parts info3
                have hcut50 := cut_from (P := Try.prog) 57 3 .i64 Try.underlying57 hi050 1 hsz50 Ao49 x10_5.length co49 1 (by omega) q50
                have hr50 := Kd.Q_drop (k := (1 : Int).toNat) HO_10.out (by omega)
                obtain ⟨A50, hA50⟩ : ∃ A1, A1 = (if co49 = (1 : Int).toNat then Ao49 else (Ao49 : Option Addr).map (·.add ((1 : Int).toNat * 1))) := ⟨_, rfl⟩
                obtain ⟨c50, hc50⟩ : ∃ c1, c1 = co49 - (1 : Int).toNat := ⟨_, rfl⟩
                have hy50 : y460.length = x10_5.length - (1 : Int).toNat := (by rw [Ny460.out, List.length_drop])
                rw [← Ny460.out] at hr50
                rw [← hy50, ← hA50, ← hc50] at hcut50
                replace hr50 : Kd.Q (Kd.int .i64) 3 wr w.heap.size (fun k_ => some k_ ≠ (.slice (some ⟨go17, 0, none⟩) x9_5.length co17 : Value).ownBlock ∧ some k_ ≠ (.slice Ao32 t449.length co32 : Value).ownBlock) (.slice A50 y460.length c50) y460 := (by rw [hA50, hc50, hy50]; exact hr50)
                have HE50 : Aside0 ((Value.slice A50 y460.length c50).ownBlock = (.slice Ao49 x10_5.length co49 : Value).ownBlock) := ⟨by rw [hA50]; split <;> (cases (Ao49 : Option Addr) <;> rfl)⟩
                clear hy50 hi050 hsz50 HO_10 hA50 hc50
                have HO462 := Aside0.mk hr50
                clear hr50
                replace q50 := eq_true q50
                have n_ := Aside0.mk (Kd.R_mono (ok' := fun k_ => (some k_ ≠ (.slice A50 y460.length c50 : Value).ownBlock ∧ some k_ ≠ (.slice Ao32 t449.length co32 : Value).ownBlock)) HO_9.out (fun k_ hk => ⟨(by rw [HE50.out]; exact hk.1), hk.2⟩))
                clear HO_9
                have HO_9 := n_
                clear n_
                have n_ := Aside0.mk (Kd.R_mono (ok' := fun k_ => (some k_ ≠ (.slice (some ⟨go17, 0, none⟩) x9_5.length co17 : Value).ownBlock ∧ some k_ ≠ (.slice A50 y460.length c50 : Value).ownBlock)) HO_55.out (fun k_ hk => ⟨hk.1, (by rw [HE50.out]; exact hk.2)⟩))
                clear HO_55
                have HO_55 := n_
                clear n_
                go_wp2
                (try simp only [← hl9_3, ← hl9_5])
                go_roundg k5
                case measure => have := HJ4.out; have := HK2.out; have := HK3.out; have := HJ23.out; have := HK5.out; omega
                case rel => exact ⟨(x9_5), (y460), H', ⟨by have := HJ4.out; have := HK2.out; have := HK3.out; have := HJ23.out; have := HK5.out; omega⟩, ⟨by (try simp only [hl9_3]); (try simp only [hl9_5]); (with_reducible repeat (first | apply Kd.R_alloc | apply Kd.R_drewN | apply Kd.R_drew)); exact Kd.R_mono HO_9.out (fun _ hk => hk.1)⟩, ⟨by (try simp only [hl9_3]); (try simp only [hl9_5]); (with_reducible repeat (first | apply Kd.Q_alloc | apply Kd.Q_drewN | apply Kd.Q_drew)); exact Kd.Q_mono HO462.out (fun _ hk => hk.1)⟩, ⟨sb⟩⟩
         ·have c22b0 := decide_eq_false c22
          have c22b1 : decide (0 < x10_3.length) = false := decide_eq_false (by omega)
          clear c22
          obtain rfl := Option.some.inj H
          obtain ⟨Ao51, co51, eo51, _⟩ := Kd.Q_slice HO_10.out
          subst eo51
          go_wp2
          go_ret
          exact ⟨_, se, by (with_reducible repeat (first | apply Kd.R_alloc | apply Kd.R_drewN | apply Kd.R_drew)); exact Kd.R_mono HO_9.out (fun _ hk => trivial), sb⟩

end Go.Proofs.Ytcjlbgbenjmkgaa.QFnExactBuildProgram
