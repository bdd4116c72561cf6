/- Printed by a program of the session. Conditions: none. (squeezed). -/
import Derived.Test.YtiihaabhjphaeaaVFnSwitchedQFnSwitchedx13
import Derived.Test.YtiihaabhjphaeaaVFnSwitchedQFnSwitchedx14
namespace Go.Proofs.Ytiihaabhjphaeaa.QFnSwitched
set_option maxHeartbeats 8000000
set_option maxRecDepth 100000
open Go.RowKit Go.Proofs.YtiihaabhjphaeaaW.PrintWords Go.Proofs.YtiihaabhjphaeaaW.PrintLast Go.Proofs.YtiihaabhjphaeaaW.PrintMore Go.Proofs.Ytiihaabhjphaeaa.Open Go.Proofs.Ytiihaabhjphaeaa.Sq
attribute [local go_sem] max2_int min2_int max_two min_two max_three min_three max_four min_four   -- for this text's walks alone
attribute [local go_sem] isSome_set
set_option linter.unusedVariables false
set_option linter.unusedSimpArgs false

theorem a15_4 {P : Prop} (h : P := by have := HK1.out; have := HK2.out; first | omega | exact Nat.le_refl _) : P := h
theorem a15_3 {P : Prop} (h : P := by have := HK1.out; have := HK2.out; have := HJ20.out; have := HK4.out; omega) : P := h
theorem a15_2 {P : Prop} (h : P := by (try simp only [hl9_2]); (try simp only [hl9_4]); (with_reducible repeat (first | apply Kd.R_alloc | apply Kd.R_drewN | apply Kd.R_drew)); exact HO_14.out) : P := h
theorem a15_1 {P : Prop} (h : P := by (try simp only [hl9_2]); (with_reducible repeat (first | apply Kd.R_alloc | apply Kd.R_drewN | apply Kd.R_drew)); exact HO_9.out) : P := h
theorem a15_0 {P : Prop} (h : P := by (try simp only [hl9_2]); (with_reducible repeat (first | apply Kd.R_alloc | apply Kd.R_drewN | apply Kd.R_drew)); exact HO_11.out) : P := h
mutual
def spec_DistancesTo.l0 : Nat → List (S134) → Int → Int → Int → List Int → Int → Option (List Int)
  | 0, _, _, _, _, _, _ => none
  | k + 1, x0, x1, x2, x3, x9, x10 => if x10 < x1 then (if x9.length < 17592186044416 then (spec_DistancesTo.l0 k x0 x1 x2 x3 (x9 ++ [(-1)]) (wrap64 (x10 + 1))) else (none)) else (if 0 ≤ x3 then (if x3 < (x9.length : Int) then (spec_DistancesTo.l1 k x0 x1 x2 x3 (x9.set (x3 : Int).toNat 0) (([x3] : List Int)) 0) else (none)) else (none))
def spec_DistancesTo.l1 : Nat → List (S134) → Int → Int → Int → List Int → List Int → Int → Option (List Int)
  | 0, _, _, _, _, _, _, _ => none
  | k + 1, x0, x1, x2, x3, x9, x11, x12 => if x12 < (x11.length : Int) then (if 0 ≤ x12 then (if (rd x11 x12) = x3 then (spec_DistancesTo.j2 k x0 x1 x2 x3 x9 x11 x12 (rd x11 x12) false) else (spec_DistancesTo.j2 k x0 x1 x2 x3 x9 x11 x12 (rd x11 x12) (decide ((rd x11 x12) ≥ x2)))) else (none)) else (some x9)
def spec_DistancesTo.j2 : Nat → List (S134) → Int → Int → Int → List Int → List Int → Int → Int → Bool → Option (List Int)
  | 0, _, _, _, _, _, _, _, _, _ => none
  | k + 1, x0, x1, x2, x3, x9, x11, x12, x13, x52 => if x52 = true then (spec_DistancesTo.l1 k x0 x1 x2 x3 x9 x11 (wrap64 (x12 + 1))) else ((spec_NeighborsIn.f k x0 x13).bind fun t477 => (spec_DistancesTo.l2 k x0 x1 x2 x3 x9 x11 x12 x13 t477 0))
def spec_DistancesTo.l2 : Nat → List (S134) → Int → Int → Int → List Int → List Int → Int → Int → List Int → Int → Option (List Int)
  | 0, _, _, _, _, _, _, _, _, _, _ => none
  | k + 1, x0, x1, x2, x3, x9, x11, x12, x13, x14, x15 => if x15 < (x14.length : Int) then (if 0 ≤ x15 then ((spec_l1In.f (rd x14 x15) 0 (wrap64 (x1 - 1))).bind fun t481 => (if t481 = true then (if 0 ≤ (rd x14 x15) then (if (rd x14 x15) < (x9.length : Int) then (if (rd x9 (rd x14 x15)) < 0 then (if 0 ≤ x13 then (if x13 < (x9.length : Int) then (if x11.length < 17592186044416 then (spec_DistancesTo.l2 k x0 x1 x2 x3 (x9.set ((rd x14 x15) : Int).toNat (wrap64 ((rd x9 x13) + 1))) (x11 ++ [rd x14 x15]) x12 x13 x14 (wrap64 (x15 + 1))) else (none)) else (none)) else (none)) else (spec_DistancesTo.l2 k x0 x1 x2 x3 x9 x11 x12 x13 x14 (wrap64 (x15 + 1)))) else (none)) else (none)) else (spec_DistancesTo.l2 k x0 x1 x2 x3 x9 x11 x12 x13 x14 (wrap64 (x15 + 1))))) else (none)) else (spec_DistancesTo.l1 k x0 x1 x2 x3 x9 x11 (wrap64 (x12 + 1)))
end
def spec_DistancesTo.f (k : Nat) (l0 : List (S134)) (a1 : Int) (a2 : Int) (a3 : Int) : Option (List Int) := (spec_l14Ok.f a1 a3).bind fun t462 => (if t462 = true then (spec_DistancesTo.l0 k l0 a1 a2 a3 (([] : List Int)) 0) else (some (([] : List Int))))
theorem spec_DistancesTo.mono_l : ∀ k, (∀ y0 y1 y2 y3 y4 y5, LeO (spec_DistancesTo.l0 k y0 y1 y2 y3 y4 y5) (spec_DistancesTo.l0 (k + 1) y0 y1 y2 y3 y4 y5)) ∧ (∀ y0 y1 y2 y3 y4 y5 y6, LeO (spec_DistancesTo.l1 k y0 y1 y2 y3 y4 y5 y6) (spec_DistancesTo.l1 (k + 1) y0 y1 y2 y3 y4 y5 y6)) ∧ (∀ y0 y1 y2 y3 y4 y5 y6 y7 y8, LeO (spec_DistancesTo.j2 k y0 y1 y2 y3 y4 y5 y6 y7 y8) (spec_DistancesTo.j2 (k + 1) y0 y1 y2 y3 y4 y5 y6 y7 y8)) ∧ (∀ y0 y1 y2 y3 y4 y5 y6 y7 y8 y9, LeO (spec_DistancesTo.l2 k y0 y1 y2 y3 y4 y5 y6 y7 y8 y9) (spec_DistancesTo.l2 (k + 1) y0 y1 y2 y3 y4 y5 y6 y7 y8 y9))
  | 0 => ⟨fun _ _ _ _ _ _ r h => by simp [spec_DistancesTo.l0] at h, fun _ _ _ _ _ _ _ r h => by simp [spec_DistancesTo.l1] at h, fun _ _ _ _ _ _ _ _ _ r h => by simp [spec_DistancesTo.j2] at h, fun _ _ _ _ _ _ _ _ _ _ r h => by simp [spec_DistancesTo.l2] at h⟩
  | k + 1 => by
    obtain ⟨ih0, ih1, ih2, ih3⟩ := spec_DistancesTo.mono_l k
    refine ⟨?_, ?_, ?_, ?_⟩
    · intro y0 y1 y2 y3 y4 y5
      unfold spec_DistancesTo.l0
      have m0 := @spec_NeighborsIn.mono
      exact mo
    · intro y0 y1 y2 y3 y4 y5 y6
      unfold spec_DistancesTo.l1
      have m0 := @spec_NeighborsIn.mono
      exact mo
    · intro y0 y1 y2 y3 y4 y5 y6 y7 y8
      unfold spec_DistancesTo.j2
      have m0 := @spec_NeighborsIn.mono
      exact mo
    · intro y0 y1 y2 y3 y4 y5 y6 y7 y8 y9
      unfold spec_DistancesTo.l2
      have m0 := @spec_NeighborsIn.mono
      exact mo
theorem spec_DistancesTo.mono : ∀ a0 a1 a2 a3 k, LeO (spec_DistancesTo.f k a0 a1 a2 a3) (spec_DistancesTo.f (k + 1) a0 a1 a2 a3) := by
  intro a0 a1 a2 a3 k
  obtain ⟨ih0, ih1, ih2, ih3⟩ := spec_DistancesTo.mono_l k
  unfold spec_DistancesTo.f
  have m0 := @spec_NeighborsIn.mono
  exact mo
def spec_DistancesTo.T20 : Bool × List (List Nat × List Nat) := (true, [([], []), ([], []), ([], []), ([1, 2], [1, 2]), ([3], [3]), ([], []), ([], []), ([5, 6], [5, 6]), ([7], [7]), ([8], [8]), ([0, 4, 0, 1, 2, 3, 4, 5, 6, 7, 8, 9], [0, 4]), ([10, 9, 0, 1, 2, 3, 4, 5, 6, 7, 8, 9], [9, 10])])
def spec_DistancesTo.B20 : List Nat := [0, 0, 0, 6, 14, 0, 0, 96, 224, 480, 1023, 2047]
theorem spec_DistancesTo.tab20 : rtab .any (opsOf Try.f56 20) = spec_DistancesTo.T20 := by kernel_rfl
theorem spec_DistancesTo.bits20 : waitsOk spec_DistancesTo.T20.2 spec_DistancesTo.B20 = true := by kernel_rfl
theorem e15_0 {P : Prop} (h : P := by
 go_wp2_with (first | (have _ := c31b0; (with_reducible refine gc 85 rfl ?_); refine gL (some 68) Try.func85 #[.int .i64 (rd t477 x15_4), .int .i64 0, .int .i64 (wrap64 (a1 - 1))] ?_; (with_reducible refine (spec_l1In.calls (rd t477 x15_4) 0 (wrap64 (a1 - 1)) true _ A29.out).mono ?_); rintro e w' ⟨rfl, ⟨nd, rfl⟩⟩; refine ⟨_, rfl, ?_⟩; have p482 : 0 ≤ (x15_4 : Int) := sa; have q482 : x15_4 < (t477.length : Int) := sa; obtain ⟨ad482, e482, hx482_0⟩ := Kd.at_int (Kd.R_reads' HO_14.out).2.2 x15_4 p482 q482; obtain rfl : ad480 = ad482 := (by injection e482); replace p482 := eq_true p482; replace q482 := eq_true q482; have p483 : 0 ≤ ((rd t477 x15_4) : Int) := sa; have q483 : (rd t477 x15_4) < (x9_4.length : Int) := sa; obtain ⟨ad483, e483, hx483_0⟩ := Kd.at_int (Kd.R_reads' HO_9.out).2.2 (rd t477 x15_4) p483 q483; obtain rfl : (⟨go14, 0, none⟩ : Addr) = ad483 := (by injection e483); (first | simp only [add_plain] at hx483_0 | simp only [add_at] at hx483_0 | simp only [Addr.add, Nat.zero_add] at hx483_0 | skip); replace p483 := eq_true p483; replace q483 := eq_true q483) | ((with_reducible refine gc 85 rfl ?_); refine gL (some 68) Try.func85 #[.int .i64 (rd t477 x15_4), .int .i64 0, .int .i64 (wrap64 (a1 - 1))] ?_; (with_reducible refine (spec_l1In.calls (rd t477 x15_4) 0 (wrap64 (a1 - 1)) false _ A29.out).mono ?_); rintro e w' ⟨rfl, ⟨nd, rfl⟩⟩; refine ⟨_, rfl, ?_⟩))
 (try simp only [← hl9_4])
 go_roundg k4
 case measure => have := HK1.out; have := HK2.out; have := HJ20.out; have := HK4.out; omega
 case rel => exact ⟨(x9_4), (x11_4), (wrap64 (x15_4 + 1)), sc, H', ⟨a15_3⟩, ⟨by (try simp only [hl9_2]); (try simp only [hl9_4]); (with_reducible repeat (first | apply Kd.R_alloc | apply Kd.R_drewN | apply Kd.R_drew)); exact HO_9.out⟩, ⟨by (try simp only [hl9_2]); (try simp only [hl9_4]); (with_reducible repeat (first | apply Kd.R_alloc | apply Kd.R_drewN | apply Kd.R_drew)); exact HO_11.out⟩, ⟨a15_2⟩, ⟨sb⟩⟩) : P := h
theorem spec_DistancesTo.calls (k : Nat) (A0 : Option Addr) (c0 : Nat) (l0 : List (S134)) (a1 : Int) (a2 : Int) (a3 : Int) (r : List Int) (w : World) (hr0 : Kd.C k134 w A0 l0.length l0) (hc0 : l0.length ≤ c0) (h : spec_DistancesTo.f k l0 a1 a2 a3 = some r) :
    Calls Try.prog 56 #[.slice A0 l0.length c0, .int .i64 a1, .int .i64 a2, .int .i64 a3] w fun e w' => ∃ v0_ : Value, e = .returned (v0_) ∧ Kd.R (Kd.int .i64) 3 w' w.heap.size (fun _ => True) v0_ r ∧ Below w.heap.size w w' := by
 have HR0 := am hr0
 have HC0 := am hc0
 clear hr0 hc0
 have HB := am (Below.refl w.heap.size w)
 have H := h; unfold spec_DistancesTo.f at H
 clear h
 obtain ⟨t462, A5, H⟩ := bnd H
 obtain rfl | rfl := tt t462
 ·replace H := ip H
  obtain ⟨y466, hy466⟩ : ∃ y_ : List Int, y_ = (([] : List Int)) := ⟨_, rfl⟩
  replace H : (spec_DistancesTo.l0 k l0 a1 a2 a3 y466 0) = some r := ry hy466 H
  have Ny466 := am hy466
  clear hy466
  have H' := am H
  clear H
  go_enter Try.func56, Try.ntmps56
  go_wp2_with (first | ((with_reducible refine gc 126 rfl ?_); refine gL (some 18) Try.func126 #[.int .i64 a1, .int .i64 a3] ?_; (with_reducible refine (spec_l14Ok.calls a1 a3 true _ A5.out).mono ?_); rintro e w' ⟨rfl, ⟨nd, rfl⟩⟩; refine ⟨_, rfl, ?_⟩) | ((with_reducible refine gd 21 rfl ?_); refine Kd.R_lit (Kd.int .i64) _ 3 ?hg (N := 21) ?hd (xs := ([] : List Int)) (inner := []) (ok := fun _ => True) (okp := fun _ => True) ?hr ?hp (fun _ hk => hk) trivial (Below.refl _ _) (Nat.le_refl _) (by simp) ?_; (case hd => rfl); (case hg => rfl); (case hr => first | (go_simp; done) | (go_simp; rfl)); (case hp => exact (Reps.none _ _)); intro v467 w7 ho8 hb hg_ hnew_; clear hg_ hnew_; (first | rw [← Ny466.out] at ho8 | (simp only [Int.reduceToNat] at ho8; rw [← Ny466.out] at ho8)); have HO468 := am (Kd.R_lower ho8 (below_size (sb))); replace HB := bs hb; clear hb ho8))
  go_loopg [9, 10] k (fun kq v9 v10 w' => ∃ (x9_1 : List Int) (x10_1 : Int), v10 = .int .i64 x10_1 ∧ Aside0 (spec_DistancesTo.l0 kq l0 a1 a2 a3 x9_1 x10_1 = some r) ∧ Aside0 (kq ≤ k) ∧ Aside0 (Kd.R (Kd.int .i64) 3 w' w.heap.size (fun _ => True) v9 x9_1) ∧ Aside0 (Below w.heap.size w w'))
  case atStart => exact ⟨(y466), (0), sc, H', kk0, ⟨sr HO468⟩, ⟨sb⟩⟩
  case round =>
   clear H'
   obtain ⟨x9_1, x10_1, rfl, HA, HK1, HO_9, HB⟩ := hrel
   cases gk with
   | zero => exact absurd HA.out (by simp [spec_DistancesTo.l0])
   | succ k1 =>
    have H := HA.out
    clear HA
    simp only [spec_DistancesTo.l0] at H
    obtain ⟨-, c9b0, H⟩ | ⟨-, c9b0, H⟩ := ic_ H
    ·obtain ⟨LMc10, H⟩ := il_ H
     obtain ⟨y469, hy469⟩ : ∃ y_ : List Int, y_ = (x9_1 ++ [(-1)]) := ⟨_, rfl⟩
     replace H : (spec_DistancesTo.l0 k1 l0 a1 a2 a3 y469 (wrap64 (x10_1 + 1))) = some r := ry hy469 H
     have Ny469 := am hy469
     clear hy469
     have H' := am H
     clear H
     go_wp2_with (first | ((with_reducible refine gate_builtin (b := .append) (xs := #[.tmp 27, .tmp 28]) rfl ?_); at_builtin; refine Kd.R_append (Kd.int .i64) (w0 := w) w.heap.size rfl (.tmp 27) (.tmp 28) 28 3 (.int .i64 0) 8 rfl Try.underlying28 info3 rfl (by decide) (by omega) u9 x9_1 (-1) [.int .i64 (-1)] (fun _ => True) (fun _ => False) rfl rfl ?aP (fun _ hk => hk.elim) ?aF ?aO ?aB ?aS ?aL ?_; (case aP => exact rfl); (case aB => exact (sb)); (case aF => exact (fun _ _ => trivial)); (case aO => exact (sr HO_9)); (case aS => exact (below_size (sb))); (case aL => have := LMc10.out; omega); intro v470 w11 ho hb hg hat; rw [← Ny469.out] at ho; replace HB := am hb; have HO471 := am ho; clear HO_9; clear ho hb hg hat))
     go_roundg k1
     case measure => have := HK1.out; omega
     case rel => exact ⟨(y469), (wrap64 (x10_1 + 1)), sc, H', kk1, ⟨sr HO471⟩, ⟨sb⟩⟩
    ·obtain ⟨c12b0, H⟩ := id_ H
     obtain ⟨c13b0, H⟩ := id_ H
     obtain ⟨y472, hy472⟩ : ∃ y_ : List Int, y_ = (x9_1.set (a3 : Int).toNat 0) := ⟨_, rfl⟩
     replace H : (spec_DistancesTo.l1 k1 l0 a1 a2 a3 y472 (([a3] : List Int)) 0) = some r := ry hy472 H
     have Ny472 := am hy472
     clear hy472
     obtain ⟨y473, hy473⟩ : ∃ y_ : List Int, y_ = (([a3] : List Int)) := ⟨_, rfl⟩
     replace H : (spec_DistancesTo.l1 k1 l0 a1 a2 a3 y472 y473 0) = some r := ry hy473 H
     have Ny473 := am hy473
     clear hy473
     have H' := am H
     clear H
     have p14 : 0 ≤ (a3 : Int) := sa
     have q14 : (a3 : Int) < ((x9_1.length : Int) : Int) := sa
     obtain ⟨go14, co14, eo14, gb14, gl14, cl14, HG14⟩ := Kd.R_form HO_9.out (by omega)
     (first | cases eo14 | (injection eo14 with ea_ en_ ec_; (first | subst ea_ | (injection ea_ with ea_; subst ea_)); subst ec_; clear en_))
     have GB14 := am gb14
     have GG14 := am HG14
     clear gb14 gl14 HG14
     obtain ⟨hx14_0, hf14_0⟩ := Kd.R_celln 0 HO_9.out (a3 : Int) p14 q14
     replace p14 := eq_true p14
     replace q14 := eq_true q14
     have HP15 := Kd.R_putg HO_9.out (a3 : Int) 0
     go_wp2_with (first | ((with_reducible refine gate_store (t := 3) (p := 32) rfl ?_); refine store_event (t := 3) (p := 32) (v := ?vo_w16) (w1 := (wr.setCell ⟨go14, (a3 : Int).toNat, none⟩ (.int .i64 0))) ?hg ?ho ?hn ?hr ?_; (case ho => rfl); (case hg => rfl); (case hn => rfl); (case hr => first | (go_simp; done) | (go_simp; rfl)); intro w16 hw; have hg : wr.grownBy w16 (some go14) := (by rw [hw]; exact HP15.2); have hp_ : Kd.R (Kd.int .i64) 3 w16 w.heap.size (fun _ => True) (.slice (some ⟨go14, 0, none⟩) x9_1.length co14) y472 := (by rw [hw, Ny472.out]; exact HP15.1); clear HP15; replace HO_9 := am hp_; replace HB := am ((by rw [hw]; exact below_set (HB.out) GB14.out : Below w.heap.size w w16)); clear hg hw hp_) | ((with_reducible refine gd 34 rfl ?_); refine Kd.R_lit (Kd.int .i64) _ 3 ?hg (N := 34) ?hd (xs := ([a3] : List Int)) (inner := [.int .i64 a3]) (ok := fun _ => True) (okp := fun _ => True) ?hr ?hp (fun _ hk => hk) trivial (Below.refl _ _) (Nat.le_refl _) (by simp) ?_; (case hd => rfl); (case hg => rfl); (case hr => first | (go_simp; done) | (go_simp; rfl)); (case hp => exact (Reps.one (show Kd.M (Kd.int .i64) _ _ _ a3 [.int .i64 a3] from rfl) (Reps.none _ _))); intro v474 w17 ho18 hb hg_ hnew_; clear hg_ hnew_; (first | rw [← Ny473.out] at ho18 | (simp only [Int.reduceToNat] at ho18; rw [← Ny473.out] at ho18)); have HO475 := am (Kd.R_lower (Kd.R_new' ho18 (Kd.R_lt (sr HO_9))) (below_size (sb))); replace HO_9 := am (Kd.R_elder' (sr HO_9) (Kd.R_base ho18) hb); replace HB := bs hb; clear hb ho18))
     go_loopg [11, 12] k1 (fun kq v11 v12 w' => ∃ (x9_2 : List Int) (x11_2 : List Int) (x12_2 : Int), v12 = .int .i64 x12_2 ∧ Aside0 (spec_DistancesTo.l1 kq l0 a1 a2 a3 x9_2 x11_2 x12_2 = some r) ∧ Aside0 (kq ≤ k1) ∧ Aside0 (Kd.R (Kd.int .i64) 3 w' w.heap.size (fun k_ => some k_ ≠ (v11 : Value).ownBlock) (.slice (some ⟨go14, 0, none⟩) x9_1.length co14) x9_2) ∧ Aside0 (Kd.R (Kd.int .i64) 3 w' w.heap.size (fun k_ => some k_ ≠ ((.slice (some ⟨go14, 0, none⟩) x9_1.length co14) : Value).ownBlock) v11 x11_2) ∧ Aside0 (Below w.heap.size w w'))
     case atStart => exact ⟨(y472), (y473), (0), sc, H', kk0, ⟨by exact rm HO_9 (fun _ hk => hk.2)⟩, ⟨by exact rm HO475 (fun _ hk => hk.2)⟩, ⟨sb⟩⟩
     case round =>
      clear H'
      try clear c9
      try clear c9b0
      try clear c12b0
      try clear c13b0
      try clear p14
      try clear q14
      try clear hx14_0
      try clear p14
      try clear q14
      obtain ⟨x9_2, x11_2, x12_2, rfl, HA, HK2, HO_9, HO_11, HB⟩ := hrel
      have hl9_2 := (Kd.R_reads' HO_9.out).1
      rw [hl9_2] at HO_9
      (try simp only [hl9_2])
      (try simp only [hl9_2] at HO_11)
      cases gk with
      | zero => exact absurd HA.out (by simp [spec_DistancesTo.l1])
      | succ k2 =>
       have H := HA.out
       clear HA
       simp only [spec_DistancesTo.l1] at H
       obtain ⟨-, c19b0, H⟩ | ⟨-, c19b0, H⟩ := ic_ H
       ·obtain ⟨c20b0, H⟩ := id_ H
        have HC21 := am H
        clear H
        obtain ⟨Ao22, co22, eo22⟩ := Kd.R_slice HO_11.out
        subst eo22
        have p476 : 0 ≤ (x12_2 : Int) := sa
        have q476 : x12_2 < (x11_2.length : Int) := sa
        obtain ⟨ad476, e476, hx476_0⟩ := Kd.at_int (Kd.R_reads' HO_11.out).2.2 x12_2 p476 q476
        cases e476
        replace p476 := eq_true p476
        replace q476 := eq_true q476
        go_upto_region 14 with (fail)
        go_cut [52] (fun v52 wc => ∃ (kq : Nat) (x52_20 : Bool), v52 = .bool x52_20 ∧ Aside0 (spec_DistancesTo.j2 kq l0 a1 a2 a3 x9_2 x11_2 x12_2 (rd x11_2 x12_2) x52_20 = some r) ∧ Aside0 (kq ≤ k2) ∧ Aside0 (Kd.R (Kd.int .i64) 3 wc w.heap.size (fun k_ => some k_ ≠ ((.slice (some ad476) x11_2.length co22) : Value).ownBlock) (.slice (some ⟨go14, 0, none⟩) x9_2.length co14) x9_2) ∧ Aside0 (Kd.R (Kd.int .i64) 3 wc w.heap.size (fun k_ => some k_ ≠ ((.slice (some ⟨go14, 0, none⟩) x9_2.length co14) : Value).ownBlock) (.slice (some ad476) x11_2.length co22) x11_2) ∧ Aside0 (Below w.heap.size w wc))
        case first =>
         have H := HC21.out
         clear HC21
         obtain ⟨-, c23b0, c23b1, H⟩ | ⟨c23, c23b0, c23b1, H⟩ := ib_ H
         ·(first | rw [c23b0] | (simp only [i64_w, i32_w]; rw [c23b0]) | rw [c23b1] | skip)
          have H' := am H
          clear H
          go_wp2
          go_meet
          case rel => exact ⟨_, (false), sc, H', ⟨a15_4⟩, ⟨a15_1⟩, ⟨a15_0⟩, ⟨sb⟩⟩
         ·(first | rw [c23b0] | (simp only [i64_w, i32_w]; rw [c23b0]) | rw [c23b1] | skip)
          have H' := am H
          clear H
          go_wp2
          go_meet
          case rel => exact ⟨_, (decide ((rd x11_2 x12_2) ≥ a2)), sc, H', ⟨a15_4⟩, ⟨a15_1⟩, ⟨a15_0⟩, ⟨sb⟩⟩
        case rest =>
         clear HC21
         try clear c9
         try clear c9b0
         try clear c12b0
         try clear c13b0
         try clear p14
         try clear q14
         try clear c19
         try clear c19b0
         try clear c20b0
         try clear hx14_0
         try clear hx476_0
         try clear p14
         try clear p476
         try clear q14
         try clear q476
         obtain ⟨kq, x52_20, rfl, HA, HJ20, HO_9, HO_11, HB⟩ := hcut
         cases kq with
         | zero => exact absurd HA.out (by simp [spec_DistancesTo.j2])
         | succ kj20 =>
          have H := HA.out
          clear HA
          simp only [spec_DistancesTo.j2] at H
          obtain rfl | rfl := tt x52_20
          ·replace H := ip H
           have H' := am H
           clear H
           go_wp2
           (try simp only [← hl9_2])
           go_roundg kj20
           case measure => have := HK1.out; have := HK2.out; have := HJ20.out; omega
           case rel => exact ⟨(x9_2), (x11_2), (wrap64 (x12_2 + 1)), sc, H', ⟨by have := HK1.out; have := HK2.out; have := HJ20.out; omega⟩, ⟨a15_1⟩, ⟨a15_0⟩, ⟨sb⟩⟩
          ·replace H := im H
           obtain ⟨t477, A25, H⟩ := bnd H
           have H' := am H
           clear H
           go_wp2_with (first | ((with_reducible refine gc 127 rfl ?_); refine gL (some 55) Try.func127 #[.slice A0 l0.length c0, .int .i64 (rd x11_2 x12_2)] ?_; (with_reducible refine (spec_NeighborsIn.calls kj20 _ _ l0 (rd x11_2 x12_2) t477 _ ?side1 ?side2 A25.out).mono ?_); (case side1 => exact cb HR0); (case side2 => exact HC0.out); rintro e w26 ⟨v478, rfl, ho0, hb⟩; refine ⟨_, rfl, ?_⟩; have HO479 := am (Kd.R_lower (Kd.R_new' (Kd.R_new' ho0 (Kd.R_lt (sr HO_9))) (Kd.R_lt (sr HO_11))) (below_size (sb))); replace HO_9 := am (Kd.R_elder' (sr HO_9) (Kd.R_base ho0) hb); replace HO_11 := am (Kd.R_elder' (sr HO_11) (Kd.R_base ho0) hb); replace HB := bs hb; (try clear hb); (try clear ho0)))
           go_loopg [11, 15] kj20 (fun kq v11 v15 w' => ∃ (x9_4 : List Int) (x11_4 : List Int) (x15_4 : Int), v15 = .int .i64 x15_4 ∧ Aside0 (spec_DistancesTo.l2 kq l0 a1 a2 a3 x9_4 x11_4 x12_2 (rd x11_2 x12_2) t477 x15_4 = some r) ∧ Aside0 (kq ≤ kj20) ∧ Aside0 (Kd.R (Kd.int .i64) 3 w' w.heap.size (fun k_ => some k_ ≠ (v11 : Value).ownBlock ∧ some k_ ≠ (v478 : Value).ownBlock) (.slice (some ⟨go14, 0, none⟩) x9_2.length co14) x9_4) ∧ Aside0 (Kd.R (Kd.int .i64) 3 w' w.heap.size (fun k_ => some k_ ≠ ((.slice (some ⟨go14, 0, none⟩) x9_2.length co14) : Value).ownBlock ∧ some k_ ≠ (v478 : Value).ownBlock) v11 x11_4) ∧ Aside0 (Kd.R (Kd.int .i64) 3 w' w.heap.size (fun k_ => some k_ ≠ ((.slice (some ⟨go14, 0, none⟩) x9_2.length co14) : Value).ownBlock ∧ some k_ ≠ (v11 : Value).ownBlock) v478 t477) ∧ Aside0 (Below w.heap.size w w'))
           case atStart => exact ⟨(x9_2), (x11_2), (0), sc, H', kk0, ⟨a15_1⟩, ⟨a15_0⟩, ⟨by (try simp only [hl9_2]); exact rm HO479 (fun _ hk => ⟨hk.1.2, hk.2⟩)⟩, ⟨sb⟩⟩
           case round =>
            clear H'
            try clear c9
            try clear c9b0
            try clear c12b0
            try clear c13b0
            try clear p14
            try clear q14
            try clear c19
            try clear c19b0
            try clear c20b0
            try clear hx14_0
            try clear hx476_0
            try clear p14
            try clear p476
            try clear q14
            try clear q476
            obtain ⟨x9_4, x11_4, x15_4, rfl, HA, HK4, HO_9, HO_11, HO_14, HB⟩ := hrel
            have hl9_4 := (Kd.R_reads' HO_9.out).1
            rw [hl9_4] at HO_9
            (try simp only [hl9_4])
            (try simp only [hl9_4] at HO_11)
            (try simp only [hl9_4] at HO_14)
            cases gk with
            | zero => exact absurd HA.out (by simp [spec_DistancesTo.l2])
            | succ k4 =>
             have H := HA.out
             clear HA
             simp only [spec_DistancesTo.l2] at H
             obtain ⟨-, c27b0, H⟩ | ⟨-, c27b0, H⟩ := ic_ H
             ·obtain ⟨c28b0, H⟩ := id_ H
              obtain ⟨t481, A29, H⟩ := bnd H
              obtain rfl | rfl := tt t481
              ·replace H := ip H
               obtain ⟨c31b0, H⟩ := id_ H
               obtain ⟨c32b0, H⟩ := id_ H
               obtain ⟨-, c33b0, H⟩ | ⟨-, c33b0, H⟩ := ic_ H
               ·obtain ⟨c34b0, H⟩ := id_ H
                obtain ⟨c35b0, H⟩ := id_ H
                obtain ⟨y486, hy486⟩ : ∃ y_ : List Int, y_ = (x9_4.set ((rd t477 x15_4) : Int).toNat (wrap64 ((rd x9_4 (rd x11_2 x12_2)) + 1))) := ⟨_, rfl⟩
                replace H : (if x11_4.length < 17592186044416 then (spec_DistancesTo.l2 k4 l0 a1 a2 a3 y486 (x11_4 ++ [rd t477 x15_4]) x12_2 (rd x11_2 x12_2) t477 (wrap64 (x15_4 + 1))) else (none)) = some r := ry hy486 H
                have Ny486 := am hy486
                clear hy486
                obtain ⟨LMc37, H⟩ := il_ H
                obtain ⟨y488, hy488⟩ : ∃ y_ : List Int, y_ = (x11_4 ++ [rd t477 x15_4]) := ⟨_, rfl⟩
                replace H : (spec_DistancesTo.l2 k4 l0 a1 a2 a3 y486 y488 x12_2 (rd x11_2 x12_2) t477 (wrap64 (x15_4 + 1))) = some r := ry hy488 H
                have Ny488 := am hy488
                clear hy488
                have H' := am H
                clear H
                obtain ⟨Ao38, co38, eo38⟩ := Kd.R_slice HO_14.out
                subst eo38
                have p480 : 0 ≤ (x15_4 : Int) := sa
                have q480 : x15_4 < (t477.length : Int) := sa
                obtain ⟨ad480, e480, hx480_0⟩ := Kd.at_int (Kd.R_reads' HO_14.out).2.2 x15_4 p480 q480
                cases e480
                replace p480 := eq_true p480
                replace q480 := eq_true q480
                try go_wp2_with (first | ((with_reducible refine gc 85 rfl ?_); refine gL (some 68) Try.func85 #[.int .i64 (rd t477 x15_4), .int .i64 0, .int .i64 (wrap64 (a1 - 1))] ?_; (with_reducible refine (spec_l1In.calls (rd t477 x15_4) 0 (wrap64 (a1 - 1)) true _ A29.out).mono ?_); rintro e w' ⟨rfl, ⟨nd, rfl⟩⟩; refine ⟨_, rfl, ?_⟩; (try (rw  [drewN_self wr]; generalize hq_ : World.drewN wr _ = wr; have n0_ : Aside0 (Kd.R (Kd.int .i64) 3 wr w.heap.size _ u11 x11_4) := ⟨by rw [← hq_]; exact (sr HO_11)⟩; have n1_ : Aside0 (Kd.R (Kd.int .i64) 3 wr w.heap.size _ (.slice (some ad480) t477.length co38) t477) := ⟨by rw [← hq_]; exact (sr HO_14)⟩; have n2_ : Aside0 (Kd.R (Kd.int .i64) 3 wr w.heap.size (fun k_ => some k_ ≠ (u11 : Value).ownBlock ∧ some k_ ≠ (.slice (some ad480) t477.length co38 : Value).ownBlock) (.slice (some ⟨go14, 0, none⟩) x9_4.length co14) x9_4) := ⟨by rw [← hq_]; exact (sr HO_9)⟩; have n3_ : Aside0 (Below w.heap.size w wr) := ⟨by rw [← hq_]; exact (sb)⟩; clear HO_11 HO_14 HO_9 HB hq_; have HO_11 := n0_; have HO_14 := n1_; have HO_9 := n2_; have HB := n3_; clear n0_ n1_ n2_ n3_)); have p482 : 0 ≤ (x15_4 : Int) := sa; have q482 : x15_4 < (t477.length : Int) := sa; obtain ⟨ad482, e482, hx482_0⟩ := Kd.at_int (Kd.R_reads' HO_14.out).2.2 x15_4 p482 q482; obtain rfl : ad480 = ad482 := (by injection e482); replace p482 := eq_true p482; replace q482 := eq_true q482; have p483 : 0 ≤ ((rd t477 x15_4) : Int) := sa; have q483 : (rd t477 x15_4) < (x9_4.length : Int) := sa; obtain ⟨ad483, e483, hx483_0⟩ := Kd.at_int (Kd.R_reads' HO_9.out).2.2 (rd t477 x15_4) p483 q483; obtain rfl : (⟨go14, 0, none⟩ : Addr) = ad483 := (by injection e483); (first | simp only [add_plain] at hx483_0 | simp only [add_at] at hx483_0 | simp only [Addr.add, Nat.zero_add] at hx483_0 | skip); replace p483 := eq_true p483; replace q483 := eq_true q483))
                replace HO_9 := am (Kd.R_drew HO_9.out)
                replace HO_11 := am (Kd.R_drew HO_11.out)
                replace HO_14 := am (Kd.R_drew HO_14.out)
                replace HB := am (below_drew1 HB.out)
                have p484 : 0 ≤ (x15_4 : Int) := sa
                have q484 : x15_4 < (t477.length : Int) := sa
                obtain ⟨ad484, e484, hx484_0⟩ := Kd.at_int (Kd.R_reads' HO_14.out).2.2 x15_4 p484 q484
                obtain rfl : ad480 = ad484 := (by injection e484)
                replace p484 := eq_true p484
                replace q484 := eq_true q484
                have p485 : 0 ≤ ((rd x11_2 x12_2) : Int) := sa
                have q485 : (rd x11_2 x12_2) < (x9_4.length : Int) := sa
                obtain ⟨ad485, e485, hx485_0⟩ := Kd.at_int (Kd.R_reads' HO_9.out).2.2 (rd x11_2 x12_2) p485 q485
                obtain rfl : (⟨go14, 0, none⟩ : Addr) = ad485 := (by injection e485)
                (first | simp only [add_plain] at hx485_0 | simp only [add_at] at hx485_0 | simp only [Addr.add, Nat.zero_add] at hx485_0 | skip)
                replace p485 := eq_true p485
                replace q485 := eq_true q485
                have p36 : 0 ≤ ((rd t477 x15_4) : Int) := sa
                have q36 : ((rd t477 x15_4) : Int) < ((x9_4.length : Int) : Int) := sa
                obtain ⟨hx36_0, hf36_0⟩ := Kd.R_celln 0 HO_9.out ((rd t477 x15_4) : Int) p36 q36
                replace p36 := eq_true p36
                replace q36 := eq_true q36
                have HP40 := Kd.R_putn HO_9.out ((rd t477 x15_4) : Int) (wrap64 ((rd x9_4 (rd x11_2 x12_2)) + 1))
                rw [← Ny486.out] at HP40
                have HQ40 := am HP40
                clear HP40
                refine start_ (n := 12) (S := fun w' => w'.cell? (ad480.add (x15_4).toNat) = some (.int .i64 (rd t477 x15_4)) ∧ w'.cell? ⟨go14, ((rd x11_2 x12_2)).toNat, none⟩ = some (.int .i64 (rd x9_4 (rd x11_2 x12_2)))) (ds := [11]) #[false, false, false, false, false, false, false, false, false, false, false, false] (by kernel_rfl) rfl rfl ⟨hx484_0, hx485_0⟩ (fun hHeld => ?_); refine with_tabW spec_DistancesTo.tab20 spec_DistancesTo.bits20 (fun HT_ HW_ => ?_)
                generalize wr.drew = w39 at HO_9 HO_11 HO_14 HB HQ40 hf36_0 hx36_0 hx484_0 hx485_0 hHeld ⊢
                refine put 0 79 (bt 12 1) HT_ ?_
                refine put 1 80 (bt 12 3) HT_ ?_
                refine put 2 81 (bt 12 7) HT_ ?_
                refine put 3 82 (bt 12 15) HT_ ?_
                refine put 5 84 (bt 12 47) HT_ ?_
                refine put 6 85 (bt 12 111) HT_ ?_
                refine put 7 86 (bt 12 239) HT_ ?_
                refine tat2 4 83 (bt 12 255) HT_ HW_ hHeld ?_
                refine tat2 8 87 (bt 12 511) HT_ HW_ hHeld ?_
                refine put 9 88 (bt 12 1023) HT_ ?_
                refine put 10 89 (bt 12 2047) HT_ ?_
                refine last_ (i := 11) (N := none) (bt 12 4095) rfl rfl (one_of HT_.out (by kernel_rfl)) (by decide) (fun K hK => ?_)
                refine skip_ (w1 := ?_) (by rfl) rfl ?_ ?_
                rotate_left
                ·go_simp
                 rfl
                refine hK.out _ _ ?_
                clear hK K
                refine done_ (done_of HT_.out (by kernel_rfl)) ?_
                have p487 : 0 ≤ (x15_4 : Int) := sa
                have q487 : x15_4 < (t477.length : Int) := sa
                obtain ⟨ad487, e487, hx487_0⟩ := Kd.at_int (Kd.R_reads' HO_14.out).2.2 x15_4 p487 q487
                obtain rfl : ad480 = ad487 := (by injection e487)
                have hn487_0 : ad480.block ≠ go14 := (fun he_ => ((HO_14.out.1 _ rfl).1) (by rw [he_]; rfl))
                replace hx487_0 := (cell_far (p := ⟨go14, ((rd t477 x15_4) : Int).toNat, none⟩) (by first | (rw [add_block]; exact hn487_0) | exact hn487_0) (.int .i64 (wrap64 ((rd x9_4 (rd x11_2 x12_2)) + 1)))).trans hx487_0
                clear hn487_0
                replace p487 := eq_true p487
                replace q487 := eq_true q487
                try go_wp2_with (first | ((with_reducible refine gate_builtin (b := .append) (xs := #[.tmp 90, .tmp 95]) rfl ?_); at_builtin; refine Kd.R_append (Kd.int .i64) (w0 := w) w.heap.size rfl (.tmp 90) (.tmp 95) 28 3 (.int .i64 0) 8 rfl Try.underlying28 info3 rfl (by decide) (by omega) u11 x11_4 (rd t477 x15_4) [.int .i64 (rd t477 x15_4)] (fun k_ => some k_ ≠ (.slice (some ⟨go14, 0, none⟩) x9_4.length co14 : Value).ownBlock ∧ some k_ ≠ (.slice (some ad480) t477.length co38 : Value).ownBlock) (fun _ => False) rfl (by first | (go_simp; done) | (go_simp; rfl)) ?aP (fun _ hk => hk.elim) ?aF ?aO ?aB ?aS ?aL ?_; (case aP => exact rfl); (case aB => exact (sbw)); (case aF => exact (fun k_ hk => ⟨Kd.fresh' (Kd.R_lt (sr HQ40)) k_ hk, Kd.fresh' (Kd.R_lt (by (with_reducible repeat (first | apply Kd.R_alloc | apply Kd.R_drewN | apply Kd.R_drew)); exact (Kd.R_mono (Kd.R_far (p := ⟨go14, ((rd t477 x15_4) : Int).toNat, none⟩) (Kd.R_mono HO_14.out (fun k_ hk => (⟨hk, fun e_ => hk.1 (by rw [e_]; rfl)⟩ : _ ∧ k_ ≠ go14))) (fun _ hk => hk.2) (.int .i64 (wrap64 ((rd x9_4 (rd x11_2 x12_2)) + 1)))) (fun _ h_ => h_.1)))) k_ hk⟩)); (case aO => exact (by (with_reducible repeat (first | apply Kd.R_alloc | apply Kd.R_drewN | apply Kd.R_drew)); exact Kd.R_mono (Kd.R_far (p := ⟨go14, ((rd t477 x15_4) : Int).toNat, none⟩) (Kd.R_mono HO_11.out (fun k_ hk => (⟨hk, fun e_ => hk.1 (by rw [e_]; rfl)⟩ : _ ∧ k_ ≠ go14))) (fun _ hk => hk.2) (.int .i64 (wrap64 ((rd x9_4 (rd x11_2 x12_2)) + 1)))) (fun _ hk => ⟨hk.1.1, hk.1.2⟩))); (case aS => exact (below_size (sbw))); (case aL => have := LMc37.out; omega); intro v489 w41 ho hb hg hat; rw [← Ny488.out] at ho; replace HO_9 := am (Kd.R_after (ok := (fun k_ => some k_ ≠ (.slice (some ad480) t477.length co38 : Value).ownBlock)) (by exact rm HQ40 (fun _ hk => ⟨hk.2, hk.1⟩)) hg hat); replace HO_14 := am (Kd.R_after (ok := (fun k_ => some k_ ≠ (.slice (some ⟨go14, 0, none⟩) x9_4.length co14 : Value).ownBlock)) (by (with_reducible repeat (first | apply Kd.R_alloc | apply Kd.R_drewN | apply Kd.R_drew)); exact Kd.R_mono (Kd.R_far (p := ⟨go14, ((rd t477 x15_4) : Int).toNat, none⟩) (Kd.R_mono HO_14.out (fun k_ hk => (⟨hk, fun e_ => hk.1 (by rw [e_]; rfl)⟩ : _ ∧ k_ ≠ go14))) (fun _ hk => hk.2) (.int .i64 (wrap64 ((rd x9_4 (rd x11_2 x12_2)) + 1)))) (fun _ hk => ⟨hk.1.1, hk.1.2⟩)) hg hat); replace HB := am hb; have HO490 := am ho; clear HO_11; clear ho hb hg hat))
                (try simp only [← hl9_4])
                go_roundg k4
                case measure => have := HK1.out; have := HK2.out; have := HJ20.out; have := HK4.out; omega
                case rel => exact ⟨(y486), (y488), (wrap64 (x15_4 + 1)), sc, H', ⟨a15_3⟩, ⟨by (try simp only [hl9_2]); (try simp only [hl9_4]); exact rm HO_9 (fun _ hk => ⟨hk.2, hk.1⟩)⟩, ⟨by (try simp only [hl9_2]); (try simp only [hl9_4]); (with_reducible repeat (first | apply Kd.R_alloc | apply Kd.R_drewN | apply Kd.R_drew)); exact HO490.out⟩, ⟨a15_2⟩, ⟨sb⟩⟩
               ·have H' := am H
                clear H
                obtain ⟨Ao42, co42, eo42⟩ := Kd.R_slice HO_14.out
                subst eo42
                have p480 : 0 ≤ (x15_4 : Int) := sa
                have q480 : x15_4 < (t477.length : Int) := sa
                obtain ⟨ad480, e480, hx480_0⟩ := Kd.at_int (Kd.R_reads' HO_14.out).2.2 x15_4 p480 q480
                cases e480
                replace p480 := eq_true p480
                replace q480 := eq_true q480
                exact e15_0
              ·replace H := im H
               have H' := am H
               clear H
               obtain ⟨Ao43, co43, eo43⟩ := Kd.R_slice HO_14.out
               subst eo43
               have p480 : 0 ≤ (x15_4 : Int) := sa
               have q480 : x15_4 < (t477.length : Int) := sa
               obtain ⟨ad480, e480, hx480_0⟩ := Kd.at_int (Kd.R_reads' HO_14.out).2.2 x15_4 p480 q480
               cases e480
               replace p480 := eq_true p480
               replace q480 := eq_true q480
               exact e15_0
             ·have H' := am H
              clear H
              obtain ⟨Ao44, co44, eo44⟩ := Kd.R_slice HO_14.out
              subst eo44
              go_wp2
              (try simp only [← hl9_2, ← hl9_4])
              go_roundg k4
              case measure => have := HK1.out; have := HK2.out; have := HJ20.out; have := HK4.out; omega
              case rel => exact ⟨(x9_4), (x11_4), (wrap64 (x12_2 + 1)), sc, H', ⟨a15_3⟩, ⟨by (try simp only [hl9_2]); (try simp only [hl9_4]); exact rm HO_9 (fun _ hk => hk.1)⟩, ⟨by (try simp only [hl9_2]); (try simp only [hl9_4]); exact rm HO_11 (fun _ hk => hk.1)⟩, ⟨sb⟩⟩
       ·obtain rfl := Option.some.inj H
        obtain ⟨Ao45, co45, eo45⟩ := Kd.R_slice HO_11.out
        subst eo45
        go_wp2
        go_ret
        exact ⟨_, se, by exact rm HO_9 (fun _ hk => trivial), sb⟩
 ·replace H := im H
  obtain ⟨y463, hy463⟩ : ∃ y_ : List Int, y_ = (([] : List Int)) := ⟨_, rfl⟩
  replace H : (some y463) = some r := ry hy463 H
  have Ny463 := am hy463
  clear hy463
  obtain rfl := Option.some.inj H
  go_enter Try.func56, Try.ntmps56
  go_wp2_with (first | ((with_reducible refine gc 126 rfl ?_); refine gL (some 18) Try.func126 #[.int .i64 a1, .int .i64 a3] ?_; (with_reducible refine (spec_l14Ok.calls a1 a3 false _ A5.out).mono ?_); rintro e w' ⟨rfl, ⟨nd, rfl⟩⟩; refine ⟨_, rfl, ?_⟩) | ((with_reducible refine gd 20 rfl ?_); refine Kd.R_lit (Kd.int .i64) _ 3 ?hg (N := 20) ?hd (xs := ([] : List Int)) (inner := []) (ok := fun _ => True) (okp := fun _ => True) ?hr ?hp (fun _ hk => hk) trivial (Below.refl _ _) (Nat.le_refl _) (by simp) ?_; (case hd => rfl); (case hg => rfl); (case hr => first | (go_simp; done) | (go_simp; rfl)); (case hp => exact (Reps.none _ _)); intro v464 w46 ho47 hb hg_ hnew_; clear hg_ hnew_; (first | rw [← Ny463.out] at ho47 | (simp only [Int.reduceToNat] at ho47; rw [← Ny463.out] at ho47)); have HO465 := am (Kd.R_lower ho47 (below_size (sb))); replace HB := bs hb; clear hb ho47))
  go_ret
  exact ⟨_, se, sr HO465, sb⟩

end Go.Proofs.Ytiihaabhjphaeaa.QFnSwitched
