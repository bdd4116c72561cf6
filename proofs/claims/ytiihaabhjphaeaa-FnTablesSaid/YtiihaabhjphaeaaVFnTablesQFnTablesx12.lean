/- What the Go functions of the law FnTables come to, as Lean functions, and that they do: by a program of the session, out of the kit's printer. Conditions: none. (squeezed). -/
import Derived.Test.YtiihaabhjphaeaaVFnTablesSq
import Derived.Test.YtiihaabhjphaeaaVFnTablesQFnTablesx0
import Derived.Test.YtiihaabhjphaeaaVFnTablesQFnTablesx1
import Derived.Test.YtiihaabhjphaeaaVFnTablesQFnTablesx6
import Derived.Test.YtiihaabhjphaeaaVFnTablesQFnTablesx11
namespace Go.Proofs.Ytiihaabhjphaeaa.QFnTables
open Go.RowKit Go.Proofs.YtiihaabhjphaeaaW.PrintWords Go.Proofs.YtiihaabhjphaeaaW.PrintLast Go.Proofs.YtiihaabhjphaeaaW.PrintMore Go.Proofs.Ytiihaabhjphaeaa.Open Go.Proofs.Ytiihaabhjphaeaa.Sq
attribute [local go_sem] max2_int min2_int max_two min_two max_three min_three max_four min_four   -- for this text's walks alone
attribute [local go_sem] isSome_set
set_option linter.unusedVariables false
set_option linter.unusedSimpArgs false

/-! ### spec_PathTo: function 131 -/
mutual
def spec_PathTo.l0 : Nat → List Int → Int → List Int → Int → Option (List Int)
  | 0, _, _, _, _ => none
  | k + 1, x0, x2, x7, x8 => if (x7.length : Int) ≤ (x0.length : Int) then ((spec_l1In.f x8 0 (wrap64 ((x0.length : Int) - 1))).bind fun t505 => (spec_PathTo.j1 k x0 x2 x7 x8 t505)) else (spec_PathTo.j1 k x0 x2 x7 x8 false)
def spec_PathTo.j1 : Nat → List Int → Int → List Int → Int → Bool → Option (List Int)
  | 0, _, _, _, _, _ => none
  | k + 1, x0, x2, x7, x8, x22 => if x22 = true then (if x7.length < 17592186044416 then ((some (x7 ++ [x8] : List Int)).bind fun y506 => (if x8 = x2 then (some y506) else (if 0 ≤ x8 then (if x8 < (x0.length : Int) then (spec_PathTo.l0 k x0 x2 y506 (rd x0 x8)) else (none)) else (none)))) else (none)) else (some (([] : List Int)))
end
def spec_PathTo.f (k : Nat) (l0 : List Int) (a1 : Int) (a2 : Int) : Option (List Int) := spec_PathTo.l0 k l0 a2 (([] : List Int)) a1
theorem spec_PathTo.mono_l : ∀ k, (∀ y0 y1 y2 y3, LeO (spec_PathTo.l0 k y0 y1 y2 y3) (spec_PathTo.l0 (k + 1) y0 y1 y2 y3)) ∧ (∀ y0 y1 y2 y3 y4, LeO (spec_PathTo.j1 k y0 y1 y2 y3 y4) (spec_PathTo.j1 (k + 1) y0 y1 y2 y3 y4))
  | 0 => ⟨fun _ _ _ _ r h => by simp [spec_PathTo.l0] at h, fun _ _ _ _ _ r h => by simp [spec_PathTo.j1] at h⟩
  | k + 1 => by
    obtain ⟨ih0, ih1⟩ := spec_PathTo.mono_l k
    refine ⟨?_, ?_⟩
    · intro y0 y1 y2 y3
      unfold spec_PathTo.l0
      exact mo
    · intro y0 y1 y2 y3 y4
      unfold spec_PathTo.j1
      exact mo
theorem spec_PathTo.mono : ∀ a0 a1 a2 k, LeO (spec_PathTo.f k a0 a1 a2) (spec_PathTo.f (k + 1) a0 a1 a2) := by
  intro a0 a1 a2 k
  obtain ⟨ih0, ih1⟩ := spec_PathTo.mono_l k
  unfold spec_PathTo.f
  exact mo
set_option maxHeartbeats 8000000 in
set_option maxRecDepth 100000 in
theorem spec_PathTo.calls (k : Nat) (A0 : Option Addr) (c0 : Nat) (l0 : List Int) (a1 : Int) (a2 : Int) (r : List Int) (w : World) (hr0 : Kd.C (Kd.int .i64) w A0 l0.length l0) (hc0 : l0.length ≤ c0) (h : spec_PathTo.f k l0 a1 a2 = some r) :
    Calls Try.prog 131 #[.slice A0 l0.length c0, .int .i64 a1, .int .i64 a2] w fun e w' => ∃ v0_ : Value, e = .returned (v0_) ∧ Kd.R (Kd.int .i64) 3 w' w.heap.size (fun _ => True) v0_ r ∧ Below w.heap.size w w' := by
 have HR0 := Aside0.mk hr0
 have HC0 := Aside0.mk hc0
 clear hr0 hc0
 have HB := Aside0.mk (Below.refl w.heap.size w)
 have H : (spec_PathTo.l0 k l0 a2 (([] : List Int)) a1) = some r := h
 clear h
 obtain ⟨y502, hy502⟩ : ∃ y_ : List Int, y_ = (([] : List Int)) := ⟨_, rfl⟩
 replace H : (spec_PathTo.l0 k l0 a2 y502 a1) = some r := by first | (rw [hy502]; with_reducible exact H) | (have H2_ := (Option.bind_some _ _).symm.trans H; rw [hy502]; with_reducible exact H2_) | (have H2_ := (Option.bind_some _ _).symm.trans H; with_reducible exact H2_) | with_reducible exact H | (rw [hy502]; exact H) | exact H
 have Ny502 := Aside0.mk hy502
 clear hy502
 have H' := Aside0.mk H
 clear H
 go_enter Try.func131, Try.ntmps131
 go_wp2_with (first | ((with_reducible refine gate_dst (N := 9) rfl ?_); (try (refine gate_guard (by rfl) ?_; dsimp only)); refine Kd.R_lit (Kd.int .i64) _ 3 ?hg (N := 9) ?hd (xs := ([] : List Int)) (inner := []) (ok := fun _ => True) (okp := fun _ => True) ?hr ?hp (fun _ hk => hk) trivial (Below.refl _ _) (Nat.le_refl _) (by simp) ?_; (case hd => rfl); (case hg => rfl); (case hr => first | (go_simp; done) | (go_simp; rfl)); (case hp => exact (Reps.none _ _)); intro v503 w4 ho5 hb hg_ hnew_; clear hg_ hnew_; (first | rw [← Ny502.out] at ho5 | (simp only [Int.reduceToNat] at ho5; rw [← Ny502.out] at ho5)); have HO504 := Aside0.mk (Kd.R_lower ho5 (below_size (sb))); replace HB := bs hb; clear hb ho5))
 go_loopg [7, 8] k (fun kq v7 v8 w' => ∃ (x7_1 : List Int) (x8_1 : Int), v8 = .int .i64 x8_1 ∧ Aside0 (spec_PathTo.l0 kq l0 a2 x7_1 x8_1 = some r) ∧ Aside0 (kq ≤ k) ∧ Aside0 (Kd.R (Kd.int .i64) 3 w' w.heap.size (fun _ => True) v7 x7_1) ∧ Aside0 (Below w.heap.size w w'))
 case atStart => exact ⟨(y502), (a1), sc, H', kk0, ⟨sr HO504⟩, ⟨sb⟩⟩
 case round =>
  clear H'
  obtain ⟨x7_1, x8_1, rfl, HA, HK1, HO_7, HB⟩ := hrel
  cases gk with
  | zero => exact absurd HA.out (by simp [spec_PathTo.l0])
  | succ k1 =>
   have H := HA.out
   clear HA
   simp only [spec_PathTo.l0] at H
   have HC6 := Aside0.mk H
   clear H
   go_upto_region 3 with (fail)
   go_cut [22] (fun v22 wc => ∃ (kq : Nat) (x22_5 : Bool), v22 = .bool x22_5 ∧ Aside0 (spec_PathTo.j1 kq l0 a2 x7_1 x8_1 x22_5 = some r) ∧ Aside0 (kq ≤ k1) ∧ Aside0 (Kd.R (Kd.int .i64) 3 wc w.heap.size (fun _ => True) u7 x7_1) ∧ Aside0 (Below w.heap.size w wc))
   case first =>
    have H := HC6.out
    clear HC6
    obtain ⟨c7, H⟩ | ⟨c7, H⟩ := ie_ H
    ·have c7b0 := decide_eq_true c7
     have c7b1 : decide (x7_1.length ≤ l0.length) = true := decide_eq_true (Int.ofNat_le.mp c7)
     clear c7
     (first | rw [c7b0] | (simp only [i64_w, i32_w]; rw [c7b0]) | rw [c7b1] | skip)
     obtain ⟨t505, A8, H⟩ := bnd H
     have H' := Aside0.mk H
     clear H
     obtain ⟨Ao9, co9, eo9⟩ := Kd.R_slice HO_7.out
     subst eo9
     go_wp2_with (first | (go_at_call 85; (try simp only [i64_w, i32_w]); (with_reducible refine (spec_l1In.calls x8_1 0 (wrap64 ((l0.length : Int) - 1)) t505 _ A8.out).mono ?_); rintro e w' ⟨rfl, ⟨nd, rfl⟩⟩))
     go_meet
     case rel => exact ⟨_, (t505), sc, H', ⟨by have := HK1.out; first | omega | exact Nat.le_refl _⟩, ⟨sr HO_7⟩, ⟨sb⟩⟩
    ·have c7b0 := decide_eq_false c7
     have c7b1 : decide (x7_1.length ≤ l0.length) = false := decide_eq_false (fun h => c7 (Int.ofNat_le.mpr h))
     clear c7
     (first | rw [c7b0] | (simp only [i64_w, i32_w]; rw [c7b0]) | rw [c7b1] | skip)
     have H' := Aside0.mk H
     clear H
     obtain ⟨Ao10, co10, eo10⟩ := Kd.R_slice HO_7.out
     subst eo10
     go_wp2
     go_meet
     case rel => exact ⟨_, (false), sc, H', ⟨by have := HK1.out; first | omega | exact Nat.le_refl _⟩, ⟨sr HO_7⟩, ⟨sb⟩⟩
   case rest =>
    clear HC6
    try clear c7
    try clear c7b0
    try clear c7b1
    obtain ⟨kq, x22_5, rfl, HA, HJ5, HO_7, HB⟩ := hcut
    cases kq with
    | zero => exact absurd HA.out (by simp [spec_PathTo.j1])
    | succ kj5 =>
     have H := HA.out
     clear HA
     simp only [spec_PathTo.j1] at H
     obtain rfl | rfl := tt x22_5
     ·replace H := ip H
      obtain ⟨LMc12, H⟩ := il_ H
      obtain ⟨y506, hy506⟩ : ∃ y_ : List Int, y_ = (x7_1 ++ [x8_1]) := ⟨_, rfl⟩
      replace H : (if x8_1 = a2 then (some y506) else (if 0 ≤ x8_1 then (if x8_1 < (l0.length : Int) then (spec_PathTo.l0 kj5 l0 a2 y506 (rd l0 x8_1)) else (none)) else (none))) = some r := by first | (rw [hy506]; with_reducible exact H) | (have H2_ := (Option.bind_some _ _).symm.trans H; rw [hy506]; with_reducible exact H2_) | (have H2_ := (Option.bind_some _ _).symm.trans H; with_reducible exact H2_) | with_reducible exact H | (rw [hy506]; exact H) | exact H
      have Ny506 := Aside0.mk hy506
      clear hy506
      obtain ⟨c13, H⟩ | ⟨c13, H⟩ := ie_ H
      ·have c13b0 : (x8_1 == a2) = true := beq_iff_eq.mpr c13
       have c13b1 : (x8_1 != a2) = false := bne_eq_false_iff_eq.mpr c13
       clear c13
       obtain rfl := Option.some.inj H
       go_wp2_with (first | ((with_reducible refine gate_builtin (b := .append) (xs := #[.tmp 23, .tmp 25]) rfl ?_); (try (refine gate_guard (by rfl) ?_; dsimp only)); at_builtin; refine Kd.R_append (Kd.int .i64) (w0 := w) w.heap.size rfl (.tmp 23) (.tmp 25) 28 3 (.int .i64 0) 8 rfl Try.underlying28 info3 rfl (by decide) (by omega) u7 x7_1 x8_1 [.int .i64 x8_1] (fun _ => True) (fun _ => False) rfl rfl ?aP (fun _ hk => hk.elim) ?aF ?aO ?aB ?aS ?aL ?_; (case aP => exact rfl); (case aB => exact (sb)); (case aF => exact (fun _ _ => trivial)); (case aO => exact (sr HO_7)); (case aS => exact (below_size (sb))); (case aL => have := LMc12.out; omega); intro v507 w14 ho hb hg hat; rw [← Ny506.out] at ho; replace HB := Aside0.mk hb; have HO508 := Aside0.mk ho; clear HO_7; clear ho hb hg hat))
       go_ret
       exact ⟨_, se, sr HO508, sb⟩
      ·have c13b0 : (x8_1 == a2) = false := beq_eq_false_iff_ne.mpr c13
       have c13b1 : (x8_1 != a2) = true := bne_iff_ne.mpr c13
       obtain ⟨c15b0, H⟩ := id_ H
       obtain ⟨c16b0, H⟩ := id_ H
       have H' := Aside0.mk H
       clear H
       go_wp2_with (first | ((with_reducible refine gate_builtin (b := .append) (xs := #[.tmp 23, .tmp 25]) rfl ?_); (try (refine gate_guard (by rfl) ?_; dsimp only)); at_builtin; refine Kd.R_append (Kd.int .i64) (w0 := w) w.heap.size rfl (.tmp 23) (.tmp 25) 28 3 (.int .i64 0) 8 rfl Try.underlying28 info3 rfl (by decide) (by omega) u7 x7_1 x8_1 [.int .i64 x8_1] (fun _ => True) (fun _ => False) rfl rfl ?aP (fun _ hk => hk.elim) ?aF ?aO ?aB ?aS ?aL ?_; (case aP => exact rfl); (case aB => exact (sb)); (case aF => exact (fun _ _ => trivial)); (case aO => exact (sr HO_7)); (case aS => exact (below_size (sb))); (case aL => have := LMc12.out; omega); intro v507 w17 ho hb hg hat; rw [← Ny506.out] at ho; replace HB := Aside0.mk hb; have HO508 := Aside0.mk ho; clear HO_7; clear ho hb hg hat; obtain ⟨p509, q509, ad509, e509, _, hx509_0⟩ := at_i HR0 HB x8_1; cases e509))
       go_roundg kj5
       case measure => have := HK1.out; have := HJ5.out; omega
       case rel => exact ⟨(y506), (rd l0 x8_1), sc, H', ⟨by have := HK1.out; have := HJ5.out; omega⟩, ⟨sr HO508⟩, ⟨sb⟩⟩
     ·replace H := im H
      obtain ⟨y510, hy510⟩ : ∃ y_ : List Int, y_ = (([] : List Int)) := ⟨_, rfl⟩
      replace H : (some y510) = some r := by first | (rw [hy510]; with_reducible exact H) | (have H2_ := (Option.bind_some _ _).symm.trans H; rw [hy510]; with_reducible exact H2_) | (have H2_ := (Option.bind_some _ _).symm.trans H; with_reducible exact H2_) | with_reducible exact H | (rw [hy510]; exact H) | exact H
      have Ny510 := Aside0.mk hy510
      clear hy510
      obtain rfl := Option.some.inj H
      go_wp2_with (first | ((with_reducible refine gate_dst (N := 35) rfl ?_); (try (refine gate_guard (by rfl) ?_; dsimp only)); refine Kd.R_lit (Kd.int .i64) _ 3 ?hg (N := 35) ?hd (xs := ([] : List Int)) (inner := []) (ok := fun _ => True) (okp := fun _ => True) ?hr ?hp (fun _ hk => hk) trivial (Below.refl _ _) (Nat.le_refl _) (by simp) ?_; (case hd => rfl); (case hg => rfl); (case hr => first | (go_simp; done) | (go_simp; rfl)); (case hp => exact (Reps.none _ _)); intro v511 w18 ho19 hb hg_ hnew_; clear hg_ hnew_; (first | rw [← Ny510.out] at ho19 | (simp only [Int.reduceToNat] at ho19; rw [← Ny510.out] at ho19)); have HO512 := Aside0.mk (Kd.R_lower (Kd.R_new' ho19 (Kd.R_lt (sr HO_7))) (below_size (sb))); replace HO_7 := Aside0.mk (Kd.R_elder' (sr HO_7) (Kd.R_base ho19) hb); replace HB := bs hb; clear hb ho19))
      go_ret
      exact ⟨_, se, by (with_reducible repeat (first | apply Kd.R_alloc | apply Kd.R_drewN | apply Kd.R_drew)); exact Kd.R_mono HO512.out (fun _ hk => trivial), sb⟩

/-! ### spec_RouteOf: function 66 -/
def spec_RouteOf.f (k : Nat) (a0_0 : Int) (l0_1 : List Int) (l0_2 : List Int) (a1 : Int) : Option (List Int) := (spec_PathTo.f k l0_2 a1 a0_0).bind fun t514 => (some t514)
theorem spec_RouteOf.mono : ∀ a0 a1 a2 a3 k, LeO (spec_RouteOf.f k a0 a1 a2 a3) (spec_RouteOf.f (k + 1) a0 a1 a2 a3) := by
  intro a0 a1 a2 a3 k
  unfold spec_RouteOf.f
  have m0 := @spec_PathTo.mono
  exact mo
set_option maxHeartbeats 8000000 in
set_option maxRecDepth 100000 in
theorem spec_RouteOf.calls (k : Nat) (a0_0 : Int) (A0_1 : Option Addr) (c0_1 : Nat) (l0_1 : List Int) (A0_2 : Option Addr) (c0_2 : Nat) (l0_2 : List Int) (a1 : Int) (r : List Int) (w : World) (hr0_1 : Kd.C (Kd.int .i64) w A0_1 l0_1.length l0_1) (hc0_1 : l0_1.length ≤ c0_1) (hr0_2 : Kd.C (Kd.int .i64) w A0_2 l0_2.length l0_2) (hc0_2 : l0_2.length ≤ c0_2) (h : spec_RouteOf.f k a0_0 l0_1 l0_2 a1 = some r) :
    Calls Try.prog 66 #[.agg #[.int .i64 a0_0, .slice A0_1 l0_1.length c0_1, .slice A0_2 l0_2.length c0_2], .int .i64 a1] w fun e w' => ∃ v0_ : Value, e = .returned (v0_) ∧ Kd.R (Kd.int .i64) 3 w' w.heap.size (fun _ => True) v0_ r ∧ Below w.heap.size w w' := by
 have hu55 := Try.underlying55
 have HR0_1 := Aside0.mk hr0_1
 have HC0_1 := Aside0.mk hc0_1
 clear hr0_1 hc0_1
 have HR0_2 := Aside0.mk hr0_2
 have HC0_2 := Aside0.mk hc0_2
 clear hr0_2 hc0_2
 have HB := Aside0.mk (Below.refl w.heap.size w)
 have H : ((spec_PathTo.f k l0_2 a1 a0_0).bind fun t514 => (some t514)) = some r := h
 clear h
 obtain ⟨t514, A3, H⟩ := bnd H
 obtain rfl := Option.some.inj H
 go_enter Try.func66, Try.ntmps66
 go_wp2_with (first | ((with_reducible refine gate_dst (N := 2) rfl ?_); refine bx 2 #[.int .i64 a0_0, .slice A0_1 l0_1.length c0_1, .slice A0_2 l0_2.length c0_2] 55 ?_; intro gb513 hg w4 hbox hb; have GW513 := bz w hg; have GE513 := bz w hg; replace HB := bs hb; have BK513 := Aside0.mk hbox; clear hb hbox hg; obtain ⟨hcz5_0, hcz5_1, hcz5_2, hfz5_0, hfz5_1, hfz5_2⟩ := cc3 BK513) | ((with_reducible refine gate_callee (f := 131) rfl ?_); refine gL (some 10) Try.func131 #[.slice A0_2 l0_2.length c0_2, .int .i64 a1, .int .i64 a0_0] ?_; (with_reducible refine (spec_PathTo.calls k _ _ l0_2 a1 a0_0 t514 _ ?side1 ?side2 A3.out).mono ?_); (case side1 => exact cb HR0_2); (case side2 => exact HC0_2.out); rintro e w6 ⟨v515, rfl, ho0, hb⟩; refine ⟨_, rfl, ?_⟩; have HO516 := Aside0.mk (Kd.R_lower ho0 (below_size (sbw))); replace BK513 := bb BK513 hb; replace HB := bsw hb; (try clear hb); (try clear hb2); (try clear hk); (try clear hi); (try clear ho0)))
 go_ret
 exact ⟨_, se, sr HO516, sbw⟩

/-! ### impl_IsDownhill: function 67 -/
def impl_IsDownhill.l0 : Nat → List Int → Int → Int → Int → List Int → List Int → Option (Bool)
  | 0, _, _, _, _, _, _ => none
  | k + 1, x13, x14, x15, x518000, x518001, x518002 => if x15 < x14 then (if 0 ≤ x15 then (if x15 < (x13.length : Int) then ((impl_isIndex.f (rd x13 x15) (x518002.length : Int)).bind fun t519 => (if t519 = true then (if 0 ≤ (rd x13 x15) then (if (rd x13 x15) < (x518001.length : Int) then (if (rd x518001 (rd x13 x15)) < 0 then (some false) else (if x15 < (x518001.length : Int) then (if (rd x518001 (rd x13 x15)) ≥ (rd x518001 x15) then (some false) else (impl_IsDownhill.l0 k x13 x14 (wrap64 (x15 + 1)) x518000 x518001 x518002)) else (none))) else (none)) else (none)) else (impl_IsDownhill.l0 k x13 x14 (wrap64 (x15 + 1)) x518000 x518001 x518002))) else (none)) else (none)) else (some true)
def impl_IsDownhill.f (k : Nat) (a0_0 : Int) (l0_1 : List Int) (l0_2 : List Int) : Option (Bool) := if (l0_1.length : Int) = (l0_2.length : Int) then (impl_IsDownhill.l0 k l0_2 (l0_2.length : Int) 0 a0_0 l0_1 l0_2) else (some false)
theorem impl_IsDownhill.mono_l : ∀ k, (∀ y0 y1 y2 y3 y4 y5, LeO (impl_IsDownhill.l0 k y0 y1 y2 y3 y4 y5) (impl_IsDownhill.l0 (k + 1) y0 y1 y2 y3 y4 y5))
  | 0 => fun _ _ _ _ _ _ r h => by simp [impl_IsDownhill.l0] at h
  | k + 1 => by
    have ih0 := impl_IsDownhill.mono_l k
    · intro y0 y1 y2 y3 y4 y5
      unfold impl_IsDownhill.l0
      exact mo
theorem impl_IsDownhill.mono : ∀ a0 a1 a2 k, LeO (impl_IsDownhill.f k a0 a1 a2) (impl_IsDownhill.f (k + 1) a0 a1 a2) := by
  intro a0 a1 a2 k
  have ih0 := impl_IsDownhill.mono_l k
  unfold impl_IsDownhill.f
  exact mo
set_option maxHeartbeats 8000000 in
set_option maxRecDepth 100000 in
theorem impl_IsDownhill.calls (k : Nat) (a0_0 : Int) (A0_1 : Option Addr) (c0_1 : Nat) (l0_1 : List Int) (A0_2 : Option Addr) (c0_2 : Nat) (l0_2 : List Int) (r : Bool) (w : World) (hr0_1 : Kd.C (Kd.int .i64) w A0_1 l0_1.length l0_1) (hc0_1 : l0_1.length ≤ c0_1) (hr0_2 : Kd.C (Kd.int .i64) w A0_2 l0_2.length l0_2) (hc0_2 : l0_2.length ≤ c0_2) (h : impl_IsDownhill.f k a0_0 l0_1 l0_2 = some r) :
    Calls Try.prog 67 #[.agg #[.int .i64 a0_0, .slice A0_1 l0_1.length c0_1, .slice A0_2 l0_2.length c0_2]] w fun e w' => e = .returned (.bool r) ∧ Below w.heap.size w w' := by
 have hu55 := Try.underlying55
 have HR0_1 := Aside0.mk hr0_1
 have HC0_1 := Aside0.mk hc0_1
 clear hr0_1 hc0_1
 have HR0_2 := Aside0.mk hr0_2
 have HC0_2 := Aside0.mk hc0_2
 clear hr0_2 hc0_2
 have HB := Aside0.mk (Below.refl w.heap.size w)
 have H : (if (l0_1.length : Int) = (l0_2.length : Int) then (impl_IsDownhill.l0 k l0_2 (l0_2.length : Int) 0 a0_0 l0_1 l0_2) else (some false)) = some r := h
 clear h
 obtain ⟨c2, H⟩ | ⟨c2, H⟩ := ie_ H
 ·have c2b0 : ((l0_1.length : Int) == (l0_2.length : Int)) = true := beq_iff_eq.mpr c2
  have c2b1 : ((l0_1.length : Int) != (l0_2.length : Int)) = false := bne_eq_false_iff_eq.mpr c2
  have c2b2 : (l0_1.length == l0_2.length) = true := by first | simpa using c2 | (simp at c2 ⊢; omega)
  clear c2
  have H' := Aside0.mk H
  clear H
  go_enter Try.func67, Try.ntmps67
  go_wp2_with (first | ((with_reducible refine gate_dst (N := 1) rfl ?_); refine bx 1 #[.int .i64 a0_0, .slice A0_1 l0_1.length c0_1, .slice A0_2 l0_2.length c0_2] 55 ?_; intro gb517 hg w3 hbox hb; have GW517 := bz w hg; have GE517 := bz w hg; replace HB := bs hb; have BK517 := Aside0.mk hbox; clear hb hbox hg; obtain ⟨hcz4_0, hcz4_1, hcz4_2, hfz4_0, hfz4_1, hfz4_2⟩ := cc3 BK517))
  repeat (go_quiet (first | ((with_reducible refine gate_dst (N := 1) rfl ?_); refine box_event ?hg (N := 1) ?hd (cs := #[.int .i64 a0_0, .slice A0_1 l0_1.length c0_1, .slice A0_2 l0_2.length c0_2]) (t := 55) ?hr ?_; (case hd => rfl); (case hg => rfl); (case hr => first | (go_simp; done) | (go_simp; rfl)); intro gb517 hg w3 hbox hb; have n0_ := Aside0.mk (below_step (sb) hb); have n1_ := Aside0.mk (hbox); have n2_ := Aside0.mk ((by rw [hg]; exact (below_size (sb)) : w.heap.size ≤ gb517)); have n3_ := Aside0.mk ((by rw [hg]; exact (below_size (sb)) : w.heap.size ≤ gb517)); clear HB; have HB := n0_; have BK517 := n1_; have GW517 := n2_; have GE517 := n3_; clear n0_ n1_ n2_ n3_; clear hb hbox hg; have hcz4_0 : w3.cell? ⟨gb517, 0, none⟩ = some (.int .i64 a0_0) := bc0 BK517; have hcz4_1 : w3.cell? ⟨gb517, 1, none⟩ = some (.slice A0_1 l0_1.length c0_1) := bc1 BK517; have hcz4_2 : w3.cell? ⟨gb517, 2, none⟩ = some (.slice A0_2 l0_2.length c0_2) := bc2 BK517; have hfz4_0 := blk_frozen BK517.out 0; have hfz4_1 := blk_frozen BK517.out 1; have hfz4_2 := blk_frozen BK517.out 2)); try go_wp2_with (first | ((with_reducible refine gate_dst (N := 1) rfl ?_); refine box_event ?hg (N := 1) ?hd (cs := #[.int .i64 a0_0, .slice A0_1 l0_1.length c0_1, .slice A0_2 l0_2.length c0_2]) (t := 55) ?hr ?_; (case hd => rfl); (case hg => rfl); (case hr => first | (go_simp; done) | (go_simp; rfl)); intro gb517 hg w3 hbox hb; have n0_ := Aside0.mk (below_step (sb) hb); have n1_ := Aside0.mk (hbox); have n2_ := Aside0.mk ((by rw [hg]; exact (below_size (sb)) : w.heap.size ≤ gb517)); have n3_ := Aside0.mk ((by rw [hg]; exact (below_size (sb)) : w.heap.size ≤ gb517)); clear HB; have HB := n0_; have BK517 := n1_; have GW517 := n2_; have GE517 := n3_; clear n0_ n1_ n2_ n3_; clear hb hbox hg; have hcz4_0 : w3.cell? ⟨gb517, 0, none⟩ = some (.int .i64 a0_0) := bc0 BK517; have hcz4_1 : w3.cell? ⟨gb517, 1, none⟩ = some (.slice A0_1 l0_1.length c0_1) := bc1 BK517; have hcz4_2 : w3.cell? ⟨gb517, 2, none⟩ = some (.slice A0_2 l0_2.length c0_2) := bc2 BK517; have hfz4_0 := blk_frozen BK517.out 0; have hfz4_1 := blk_frozen BK517.out 1; have hfz4_2 := blk_frozen BK517.out 2)))
  go_loopg [15] k (fun kq v15 w' => ∃ (x15_1 : Int), v15 = .int .i64 x15_1 ∧ Aside0 (impl_IsDownhill.l0 kq l0_2 (l0_2.length : Int) x15_1 a0_0 l0_1 l0_2 = some r) ∧ Aside0 (kq ≤ k) ∧ Aside0 (w'.heap[gb517]? = some (.cells #[.int .i64 a0_0, (.slice A0_1 l0_1.length c0_1), (.slice A0_2 l0_2.length c0_2)] 55 (0, 0))) ∧ Aside0 (Below w.heap.size w w'))
  case atStart => exact ⟨(0), sc, H', kk0, ⟨sk BK517⟩, ⟨sbw⟩⟩
  case round =>
   clear H'
   try clear c2
   try clear c2b0
   try clear c2b1
   try clear c2b2
   try clear hcz4_0
   try clear hcz4_1
   try clear hcz4_2
   try clear hfz4_0
   try clear hfz4_1
   try clear hfz4_2
   obtain ⟨x15_1, rfl, HA, HK1, BK517, HB⟩ := hrel
   cases gk with
   | zero => exact absurd HA.out (by simp [impl_IsDownhill.l0])
   | succ k1 =>
    have H := HA.out
    clear HA
    simp only [impl_IsDownhill.l0] at H
    obtain ⟨c5, H⟩ | ⟨c5, H⟩ := ie_ H
    ·have c5b0 := decide_eq_true c5
     clear c5
     obtain ⟨c6b0, H⟩ := id_ H
     obtain ⟨c7b0, H⟩ := id_ H
     obtain ⟨t519, A8, H⟩ := bnd H
     obtain rfl | rfl := tt t519
     ·replace H := ip H
      obtain ⟨c10b0, H⟩ := id_ H
      obtain ⟨c11b0, H⟩ := id_ H
      obtain ⟨c12, H⟩ | ⟨c12, H⟩ := ie_ H
      ·have c12b0 := decide_eq_true c12
       clear c12
       obtain rfl := Option.some.inj H
       obtain ⟨p518, q518, ad518, e518, _, hx518_0⟩ := at_i HR0_2 HB x15_1
       cases e518
       obtain ⟨hcz13_0, hcz13_1, hcz13_2, hfz13_0, hfz13_1, hfz13_2⟩ := cc3 BK517
       go_wp2_with (first | (go_at_call 77; (with_reducible refine (impl_isIndex.calls (rd l0_2 x15_1) (l0_2.length : Int) true _ A8.out).mono ?_); rintro e w' ⟨rfl, ⟨nd, rfl⟩⟩; (try first | exact ⟨rfl, _, World.drewN_drewN _ _ _⟩ | exact ⟨rfl, _, Eq.trans (World.drewN_drewN _ _ _) (congrArg (World.drewN _) (Nat.add_assoc _ _ _))⟩); obtain ⟨p520, q520, ad520, e520, _, hx520_0⟩ := at_i HR0_1 HB (rd l0_2 x15_1); cases e520))
       first | (have p520 : 0 ≤ ((rd l0_2 x15_1) : Int) := sa; have q520 : (rd l0_2 x15_1) < (l0_1.length : Int) := sa; obtain ⟨ad520, e520, hx520_0⟩ := Kd.at_int HR0_1.out (rd l0_2 x15_1) p520 q520; cases e520; replace hx520_0 := hb_ HB hx520_0; replace p520 := eq_true p520; replace q520 := eq_true q520; go_quiet (first | (go_at_call 77; (with_reducible refine (impl_isIndex.calls (rd l0_2 x15_1) (l0_2.length : Int) true _ A8.out).mono ?_); rintro e w' ⟨rfl, ⟨nd, rfl⟩⟩; (try first | exact ⟨rfl, _, World.drewN_drewN _ _ _⟩ | exact ⟨rfl, _, Eq.trans (World.drewN_drewN _ _ _) (congrArg (World.drewN _) (Nat.add_assoc _ _ _))⟩))); try go_wp2_with (fail)) | (repeat (go_quiet (first | (go_at_call 77; (with_reducible refine (impl_isIndex.calls (rd l0_2 x15_1) (l0_2.length : Int) true _ A8.out).mono ?_); rintro e w' ⟨rfl, ⟨nd, rfl⟩⟩; (try first | exact ⟨rfl, _, World.drewN_drewN _ _ _⟩ | exact ⟨rfl, _, Eq.trans (World.drewN_drewN _ _ _) (congrArg (World.drewN _) (Nat.add_assoc _ _ _))⟩); have p520 : 0 ≤ ((rd l0_2 x15_1) : Int) := sa; have q520 : (rd l0_2 x15_1) < (l0_1.length : Int) := sa; obtain ⟨ad520, e520, hx520_0⟩ := Kd.at_int HR0_1.out (rd l0_2 x15_1) p520 q520; cases e520; replace hx520_0 := hb_ HB hx520_0; replace p520 := eq_true p520; replace q520 := eq_true q520)); try go_wp2_with (first | (go_at_call 77; (with_reducible refine (impl_isIndex.calls (rd l0_2 x15_1) (l0_2.length : Int) true _ A8.out).mono ?_); rintro e w' ⟨rfl, ⟨nd, rfl⟩⟩; (try first | exact ⟨rfl, _, World.drewN_drewN _ _ _⟩ | exact ⟨rfl, _, Eq.trans (World.drewN_drewN _ _ _) (congrArg (World.drewN _) (Nat.add_assoc _ _ _))⟩); have p520 : 0 ≤ ((rd l0_2 x15_1) : Int) := sa; have q520 : (rd l0_2 x15_1) < (l0_1.length : Int) := sa; obtain ⟨ad520, e520, hx520_0⟩ := Kd.at_int HR0_1.out (rd l0_2 x15_1) p520 q520; cases e520; replace hx520_0 := hb_ HB hx520_0; replace p520 := eq_true p520; replace q520 := eq_true q520))))
       go_ret
       exact ⟨se, sbw⟩
      ·have c12b0 := decide_eq_false c12
       clear c12
       obtain ⟨c14b0, H⟩ := id_ H
       obtain ⟨c15, H⟩ | ⟨c15, H⟩ := ie_ H
       ·have c15b0 := decide_eq_true c15
        clear c15
        obtain rfl := Option.some.inj H
        obtain ⟨p518, q518, ad518, e518, _, hx518_0⟩ := at_i HR0_2 HB x15_1
        cases e518
        obtain ⟨hcz16_0, hcz16_1, hcz16_2, hfz16_0, hfz16_1, hfz16_2⟩ := cc3 BK517
        go_wp2_with (first | (go_at_call 77; (with_reducible refine (impl_isIndex.calls (rd l0_2 x15_1) (l0_2.length : Int) true _ A8.out).mono ?_); rintro e w' ⟨rfl, ⟨nd, rfl⟩⟩; (try first | exact ⟨rfl, _, World.drewN_drewN _ _ _⟩ | exact ⟨rfl, _, Eq.trans (World.drewN_drewN _ _ _) (congrArg (World.drewN _) (Nat.add_assoc _ _ _))⟩); obtain ⟨p520, q520, ad520, e520, _, hx520_0⟩ := at_i HR0_1 HB (rd l0_2 x15_1); cases e520; obtain ⟨p521, q521, ad521, e521, _, hx521_0⟩ := at_i HR0_1 HB (rd l0_2 x15_1); obtain rfl : ad520 = ad521 := (by injection e521); obtain ⟨p522, q522, ad522, e522, _, hx522_0⟩ := at_i HR0_1 HB x15_1; obtain rfl : ad520 = ad522 := (by injection e522)))
        first | (have p520 : 0 ≤ ((rd l0_2 x15_1) : Int) := sa; have q520 : (rd l0_2 x15_1) < (l0_1.length : Int) := sa; obtain ⟨ad520, e520, hx520_0⟩ := Kd.at_int HR0_1.out (rd l0_2 x15_1) p520 q520; cases e520; replace hx520_0 := hb_ HB hx520_0; replace p520 := eq_true p520; replace q520 := eq_true q520; have p521 : 0 ≤ ((rd l0_2 x15_1) : Int) := sa; have q521 : (rd l0_2 x15_1) < (l0_1.length : Int) := sa; obtain ⟨ad521, e521, hx521_0⟩ := Kd.at_int HR0_1.out (rd l0_2 x15_1) p521 q521; obtain rfl : ad520 = ad521 := (by injection e521); replace hx521_0 := hb_ HB hx521_0; replace p521 := eq_true p521; replace q521 := eq_true q521; have p522 : 0 ≤ (x15_1 : Int) := sa; have q522 : x15_1 < (l0_1.length : Int) := sa; obtain ⟨ad522, e522, hx522_0⟩ := Kd.at_int HR0_1.out x15_1 p522 q522; obtain rfl : ad520 = ad522 := (by injection e522); replace hx522_0 := hb_ HB hx522_0; replace p522 := eq_true p522; replace q522 := eq_true q522; go_quiet (first | (go_at_call 77; (with_reducible refine (impl_isIndex.calls (rd l0_2 x15_1) (l0_2.length : Int) true _ A8.out).mono ?_); rintro e w' ⟨rfl, ⟨nd, rfl⟩⟩; (try first | exact ⟨rfl, _, World.drewN_drewN _ _ _⟩ | exact ⟨rfl, _, Eq.trans (World.drewN_drewN _ _ _) (congrArg (World.drewN _) (Nat.add_assoc _ _ _))⟩))); try go_wp2_with (fail)) | (repeat (go_quiet (first | (go_at_call 77; (with_reducible refine (impl_isIndex.calls (rd l0_2 x15_1) (l0_2.length : Int) true _ A8.out).mono ?_); rintro e w' ⟨rfl, ⟨nd, rfl⟩⟩; (try first | exact ⟨rfl, _, World.drewN_drewN _ _ _⟩ | exact ⟨rfl, _, Eq.trans (World.drewN_drewN _ _ _) (congrArg (World.drewN _) (Nat.add_assoc _ _ _))⟩); have p520 : 0 ≤ ((rd l0_2 x15_1) : Int) := sa; have q520 : (rd l0_2 x15_1) < (l0_1.length : Int) := sa; obtain ⟨ad520, e520, hx520_0⟩ := Kd.at_int HR0_1.out (rd l0_2 x15_1) p520 q520; cases e520; replace hx520_0 := hb_ HB hx520_0; replace p520 := eq_true p520; replace q520 := eq_true q520; have p521 : 0 ≤ ((rd l0_2 x15_1) : Int) := sa; have q521 : (rd l0_2 x15_1) < (l0_1.length : Int) := sa; obtain ⟨ad521, e521, hx521_0⟩ := Kd.at_int HR0_1.out (rd l0_2 x15_1) p521 q521; obtain rfl : ad520 = ad521 := (by injection e521); replace hx521_0 := hb_ HB hx521_0; replace p521 := eq_true p521; replace q521 := eq_true q521; have p522 : 0 ≤ (x15_1 : Int) := sa; have q522 : x15_1 < (l0_1.length : Int) := sa; obtain ⟨ad522, e522, hx522_0⟩ := Kd.at_int HR0_1.out x15_1 p522 q522; obtain rfl : ad520 = ad522 := (by injection e522); replace hx522_0 := hb_ HB hx522_0; replace p522 := eq_true p522; replace q522 := eq_true q522)); try go_wp2_with (first | (go_at_call 77; (with_reducible refine (impl_isIndex.calls (rd l0_2 x15_1) (l0_2.length : Int) true _ A8.out).mono ?_); rintro e w' ⟨rfl, ⟨nd, rfl⟩⟩; (try first | exact ⟨rfl, _, World.drewN_drewN _ _ _⟩ | exact ⟨rfl, _, Eq.trans (World.drewN_drewN _ _ _) (congrArg (World.drewN _) (Nat.add_assoc _ _ _))⟩); have p520 : 0 ≤ ((rd l0_2 x15_1) : Int) := sa; have q520 : (rd l0_2 x15_1) < (l0_1.length : Int) := sa; obtain ⟨ad520, e520, hx520_0⟩ := Kd.at_int HR0_1.out (rd l0_2 x15_1) p520 q520; cases e520; replace hx520_0 := hb_ HB hx520_0; replace p520 := eq_true p520; replace q520 := eq_true q520; have p521 : 0 ≤ ((rd l0_2 x15_1) : Int) := sa; have q521 : (rd l0_2 x15_1) < (l0_1.length : Int) := sa; obtain ⟨ad521, e521, hx521_0⟩ := Kd.at_int HR0_1.out (rd l0_2 x15_1) p521 q521; obtain rfl : ad520 = ad521 := (by injection e521); replace hx521_0 := hb_ HB hx521_0; replace p521 := eq_true p521; replace q521 := eq_true q521; have p522 : 0 ≤ (x15_1 : Int) := sa; have q522 : x15_1 < (l0_1.length : Int) := sa; obtain ⟨ad522, e522, hx522_0⟩ := Kd.at_int HR0_1.out x15_1 p522 q522; obtain rfl : ad520 = ad522 := (by injection e522); replace hx522_0 := hb_ HB hx522_0; replace p522 := eq_true p522; replace q522 := eq_true q522))))
        go_ret
        exact ⟨se, sbw⟩
       ·have c15b0 := decide_eq_false c15
        clear c15
        have H' := Aside0.mk H
        clear H
        obtain ⟨p518, q518, ad518, e518, _, hx518_0⟩ := at_i HR0_2 HB x15_1
        cases e518
        obtain ⟨hcz17_0, hcz17_1, hcz17_2, hfz17_0, hfz17_1, hfz17_2⟩ := cc3 BK517
        go_wp2_with (first | (go_at_call 77; (with_reducible refine (impl_isIndex.calls (rd l0_2 x15_1) (l0_2.length : Int) true _ A8.out).mono ?_); rintro e w' ⟨rfl, ⟨nd, rfl⟩⟩; (try first | exact ⟨rfl, _, World.drewN_drewN _ _ _⟩ | exact ⟨rfl, _, Eq.trans (World.drewN_drewN _ _ _) (congrArg (World.drewN _) (Nat.add_assoc _ _ _))⟩); obtain ⟨p520, q520, ad520, e520, _, hx520_0⟩ := at_i HR0_1 HB (rd l0_2 x15_1); cases e520; obtain ⟨p521, q521, ad521, e521, _, hx521_0⟩ := at_i HR0_1 HB (rd l0_2 x15_1); obtain rfl : ad520 = ad521 := (by injection e521); obtain ⟨p522, q522, ad522, e522, _, hx522_0⟩ := at_i HR0_1 HB x15_1; obtain rfl : ad520 = ad522 := (by injection e522)))
        first | (have p520 : 0 ≤ ((rd l0_2 x15_1) : Int) := sa; have q520 : (rd l0_2 x15_1) < (l0_1.length : Int) := sa; obtain ⟨ad520, e520, hx520_0⟩ := Kd.at_int HR0_1.out (rd l0_2 x15_1) p520 q520; cases e520; replace hx520_0 := hb_ HB hx520_0; replace p520 := eq_true p520; replace q520 := eq_true q520; have p521 : 0 ≤ ((rd l0_2 x15_1) : Int) := sa; have q521 : (rd l0_2 x15_1) < (l0_1.length : Int) := sa; obtain ⟨ad521, e521, hx521_0⟩ := Kd.at_int HR0_1.out (rd l0_2 x15_1) p521 q521; obtain rfl : ad520 = ad521 := (by injection e521); replace hx521_0 := hb_ HB hx521_0; replace p521 := eq_true p521; replace q521 := eq_true q521; have p522 : 0 ≤ (x15_1 : Int) := sa; have q522 : x15_1 < (l0_1.length : Int) := sa; obtain ⟨ad522, e522, hx522_0⟩ := Kd.at_int HR0_1.out x15_1 p522 q522; obtain rfl : ad520 = ad522 := (by injection e522); replace hx522_0 := hb_ HB hx522_0; replace p522 := eq_true p522; replace q522 := eq_true q522; go_quiet (first | (go_at_call 77; (with_reducible refine (impl_isIndex.calls (rd l0_2 x15_1) (l0_2.length : Int) true _ A8.out).mono ?_); rintro e w' ⟨rfl, ⟨nd, rfl⟩⟩; (try first | exact ⟨rfl, _, World.drewN_drewN _ _ _⟩ | exact ⟨rfl, _, Eq.trans (World.drewN_drewN _ _ _) (congrArg (World.drewN _) (Nat.add_assoc _ _ _))⟩))); try go_wp2_with (fail)) | (repeat (go_quiet (first | (go_at_call 77; (with_reducible refine (impl_isIndex.calls (rd l0_2 x15_1) (l0_2.length : Int) true _ A8.out).mono ?_); rintro e w' ⟨rfl, ⟨nd, rfl⟩⟩; (try first | exact ⟨rfl, _, World.drewN_drewN _ _ _⟩ | exact ⟨rfl, _, Eq.trans (World.drewN_drewN _ _ _) (congrArg (World.drewN _) (Nat.add_assoc _ _ _))⟩); have p520 : 0 ≤ ((rd l0_2 x15_1) : Int) := sa; have q520 : (rd l0_2 x15_1) < (l0_1.length : Int) := sa; obtain ⟨ad520, e520, hx520_0⟩ := Kd.at_int HR0_1.out (rd l0_2 x15_1) p520 q520; cases e520; replace hx520_0 := hb_ HB hx520_0; replace p520 := eq_true p520; replace q520 := eq_true q520; have p521 : 0 ≤ ((rd l0_2 x15_1) : Int) := sa; have q521 : (rd l0_2 x15_1) < (l0_1.length : Int) := sa; obtain ⟨ad521, e521, hx521_0⟩ := Kd.at_int HR0_1.out (rd l0_2 x15_1) p521 q521; obtain rfl : ad520 = ad521 := (by injection e521); replace hx521_0 := hb_ HB hx521_0; replace p521 := eq_true p521; replace q521 := eq_true q521; have p522 : 0 ≤ (x15_1 : Int) := sa; have q522 : x15_1 < (l0_1.length : Int) := sa; obtain ⟨ad522, e522, hx522_0⟩ := Kd.at_int HR0_1.out x15_1 p522 q522; obtain rfl : ad520 = ad522 := (by injection e522); replace hx522_0 := hb_ HB hx522_0; replace p522 := eq_true p522; replace q522 := eq_true q522)); try go_wp2_with (first | (go_at_call 77; (with_reducible refine (impl_isIndex.calls (rd l0_2 x15_1) (l0_2.length : Int) true _ A8.out).mono ?_); rintro e w' ⟨rfl, ⟨nd, rfl⟩⟩; (try first | exact ⟨rfl, _, World.drewN_drewN _ _ _⟩ | exact ⟨rfl, _, Eq.trans (World.drewN_drewN _ _ _) (congrArg (World.drewN _) (Nat.add_assoc _ _ _))⟩); have p520 : 0 ≤ ((rd l0_2 x15_1) : Int) := sa; have q520 : (rd l0_2 x15_1) < (l0_1.length : Int) := sa; obtain ⟨ad520, e520, hx520_0⟩ := Kd.at_int HR0_1.out (rd l0_2 x15_1) p520 q520; cases e520; replace hx520_0 := hb_ HB hx520_0; replace p520 := eq_true p520; replace q520 := eq_true q520; have p521 : 0 ≤ ((rd l0_2 x15_1) : Int) := sa; have q521 : (rd l0_2 x15_1) < (l0_1.length : Int) := sa; obtain ⟨ad521, e521, hx521_0⟩ := Kd.at_int HR0_1.out (rd l0_2 x15_1) p521 q521; obtain rfl : ad520 = ad521 := (by injection e521); replace hx521_0 := hb_ HB hx521_0; replace p521 := eq_true p521; replace q521 := eq_true q521; have p522 : 0 ≤ (x15_1 : Int) := sa; have q522 : x15_1 < (l0_1.length : Int) := sa; obtain ⟨ad522, e522, hx522_0⟩ := Kd.at_int HR0_1.out x15_1 p522 q522; obtain rfl : ad520 = ad522 := (by injection e522); replace hx522_0 := hb_ HB hx522_0; replace p522 := eq_true p522; replace q522 := eq_true q522))))
        go_roundg k1
        case measure => have := HK1.out; omega
        case rel => exact ⟨(wrap64 (x15_1 + 1)), sc, H', kk1, ⟨sk BK517⟩, ⟨sbw⟩⟩
     ·replace H := im H
      have H' := Aside0.mk H
      clear H
      obtain ⟨p518, q518, ad518, e518, _, hx518_0⟩ := at_i HR0_2 HB x15_1
      cases e518
      obtain ⟨hcz18_0, hcz18_1, hcz18_2, hfz18_0, hfz18_1, hfz18_2⟩ := cc3 BK517
      go_wp2_with (first | (go_at_call 77; (with_reducible refine (impl_isIndex.calls (rd l0_2 x15_1) (l0_2.length : Int) false _ A8.out).mono ?_); rintro e w' ⟨rfl, ⟨nd, rfl⟩⟩; (try first | exact ⟨rfl, _, World.drewN_drewN _ _ _⟩ | exact ⟨rfl, _, Eq.trans (World.drewN_drewN _ _ _) (congrArg (World.drewN _) (Nat.add_assoc _ _ _))⟩)))
      repeat (go_quiet (first | (go_at_call 77; (with_reducible refine (impl_isIndex.calls (rd l0_2 x15_1) (l0_2.length : Int) false _ A8.out).mono ?_); rintro e w' ⟨rfl, ⟨nd, rfl⟩⟩; (try first | exact ⟨rfl, _, World.drewN_drewN _ _ _⟩ | exact ⟨rfl, _, Eq.trans (World.drewN_drewN _ _ _) (congrArg (World.drewN _) (Nat.add_assoc _ _ _))⟩))); try go_wp2_with (first | (go_at_call 77; (with_reducible refine (impl_isIndex.calls (rd l0_2 x15_1) (l0_2.length : Int) false _ A8.out).mono ?_); rintro e w' ⟨rfl, ⟨nd, rfl⟩⟩; (try first | exact ⟨rfl, _, World.drewN_drewN _ _ _⟩ | exact ⟨rfl, _, Eq.trans (World.drewN_drewN _ _ _) (congrArg (World.drewN _) (Nat.add_assoc _ _ _))⟩))))
      go_roundg k1
      case measure => have := HK1.out; omega
      case rel => exact ⟨(wrap64 (x15_1 + 1)), sc, H', kk1, ⟨sk BK517⟩, ⟨sbw⟩⟩
    ·have c5b0 := decide_eq_false c5
     clear c5
     obtain rfl := Option.some.inj H
     go_wp2
     repeat (go_quiet (fail); try go_wp2)
     go_ret
     exact ⟨se, sbw⟩
 ·have c2b0 : ((l0_1.length : Int) == (l0_2.length : Int)) = false := beq_eq_false_iff_ne.mpr c2
  have c2b1 : ((l0_1.length : Int) != (l0_2.length : Int)) = true := bne_iff_ne.mpr c2
  have c2b2 : (l0_1.length == l0_2.length) = false := by first | simpa using c2 | (simp at c2 ⊢; omega)
  obtain rfl := Option.some.inj H
  go_enter Try.func67, Try.ntmps67
  go_wp2_with (first | ((with_reducible refine gate_dst (N := 1) rfl ?_); refine bx 1 #[.int .i64 a0_0, .slice A0_1 l0_1.length c0_1, .slice A0_2 l0_2.length c0_2] 55 ?_; intro gb517 hg w19 hbox hb; have GW517 := bz w hg; have GE517 := bz w hg; replace HB := bs hb; have BK517 := Aside0.mk hbox; clear hb hbox hg; obtain ⟨hcz20_0, hcz20_1, hcz20_2, hfz20_0, hfz20_1, hfz20_2⟩ := cc3 BK517))
  repeat (go_quiet (first | ((with_reducible refine gate_dst (N := 1) rfl ?_); refine box_event ?hg (N := 1) ?hd (cs := #[.int .i64 a0_0, .slice A0_1 l0_1.length c0_1, .slice A0_2 l0_2.length c0_2]) (t := 55) ?hr ?_; (case hd => rfl); (case hg => rfl); (case hr => first | (go_simp; done) | (go_simp; rfl)); intro gb517 hg w19 hbox hb; have n0_ := Aside0.mk (below_step (sb) hb); have n1_ := Aside0.mk (hbox); have n2_ := Aside0.mk ((by rw [hg]; exact (below_size (sb)) : w.heap.size ≤ gb517)); have n3_ := Aside0.mk ((by rw [hg]; exact (below_size (sb)) : w.heap.size ≤ gb517)); clear HB; have HB := n0_; have BK517 := n1_; have GW517 := n2_; have GE517 := n3_; clear n0_ n1_ n2_ n3_; clear hb hbox hg; have hcz20_0 : w19.cell? ⟨gb517, 0, none⟩ = some (.int .i64 a0_0) := bc0 BK517; have hcz20_1 : w19.cell? ⟨gb517, 1, none⟩ = some (.slice A0_1 l0_1.length c0_1) := bc1 BK517; have hcz20_2 : w19.cell? ⟨gb517, 2, none⟩ = some (.slice A0_2 l0_2.length c0_2) := bc2 BK517; have hfz20_0 := blk_frozen BK517.out 0; have hfz20_1 := blk_frozen BK517.out 1; have hfz20_2 := blk_frozen BK517.out 2)); try go_wp2_with (first | ((with_reducible refine gate_dst (N := 1) rfl ?_); refine box_event ?hg (N := 1) ?hd (cs := #[.int .i64 a0_0, .slice A0_1 l0_1.length c0_1, .slice A0_2 l0_2.length c0_2]) (t := 55) ?hr ?_; (case hd => rfl); (case hg => rfl); (case hr => first | (go_simp; done) | (go_simp; rfl)); intro gb517 hg w19 hbox hb; have n0_ := Aside0.mk (below_step (sb) hb); have n1_ := Aside0.mk (hbox); have n2_ := Aside0.mk ((by rw [hg]; exact (below_size (sb)) : w.heap.size ≤ gb517)); have n3_ := Aside0.mk ((by rw [hg]; exact (below_size (sb)) : w.heap.size ≤ gb517)); clear HB; have HB := n0_; have BK517 := n1_; have GW517 := n2_; have GE517 := n3_; clear n0_ n1_ n2_ n3_; clear hb hbox hg; have hcz20_0 : w19.cell? ⟨gb517, 0, none⟩ = some (.int .i64 a0_0) := bc0 BK517; have hcz20_1 : w19.cell? ⟨gb517, 1, none⟩ = some (.slice A0_1 l0_1.length c0_1) := bc1 BK517; have hcz20_2 : w19.cell? ⟨gb517, 2, none⟩ = some (.slice A0_2 l0_2.length c0_2) := bc2 BK517; have hfz20_0 := blk_frozen BK517.out 0; have hfz20_1 := blk_frozen BK517.out 1; have hfz20_2 := blk_frozen BK517.out 2)))
  go_ret
  exact ⟨se, sbw⟩

/-! ### slices_Index_int_int: function 168 -/
def slices_Index_int_int.l0 : Nat → List Int → Int → Int → Int → Option (Int)
  | 0, _, _, _, _ => none
  | k + 1, x0, x1, x7, x8 => if x8 < x7 then (if 0 ≤ x8 then (if x8 < (x0.length : Int) then (if x1 = (rd x0 x8) then (some x8) else (slices_Index_int_int.l0 k x0 x1 x7 (wrap64 (x8 + 1)))) else (none)) else (none)) else (some (-1))
def slices_Index_int_int.f (k : Nat) (l0 : List Int) (a1 : Int) : Option (Int) := slices_Index_int_int.l0 k l0 a1 (l0.length : Int) 0
theorem slices_Index_int_int.mono_l : ∀ k, (∀ y0 y1 y2 y3, LeO (slices_Index_int_int.l0 k y0 y1 y2 y3) (slices_Index_int_int.l0 (k + 1) y0 y1 y2 y3))
  | 0 => fun _ _ _ _ r h => by simp [slices_Index_int_int.l0] at h
  | k + 1 => by
    have ih0 := slices_Index_int_int.mono_l k
    · intro y0 y1 y2 y3
      unfold slices_Index_int_int.l0
      exact mo
theorem slices_Index_int_int.mono : ∀ a0 a1 k, LeO (slices_Index_int_int.f k a0 a1) (slices_Index_int_int.f (k + 1) a0 a1) := by
  intro a0 a1 k
  have ih0 := slices_Index_int_int.mono_l k
  unfold slices_Index_int_int.f
  exact mo
set_option maxHeartbeats 8000000 in
set_option maxRecDepth 100000 in
theorem slices_Index_int_int.calls (k : Nat) (A0 : Option Addr) (c0 : Nat) (l0 : List Int) (a1 : Int) (r : Int) (w : World) (hr0 : Kd.C (Kd.int .i64) w A0 l0.length l0) (hc0 : l0.length ≤ c0) (h : slices_Index_int_int.f k l0 a1 = some r) :
    Calls Try.prog 168 #[.slice A0 l0.length c0, .int .i64 a1] w fun e w' => e = .returned (.int .i64 r) ∧ Drawn0 w w' := by
 have HR0 := Aside0.mk hr0
 have HC0 := Aside0.mk hc0
 clear hr0 hc0
 have H : (slices_Index_int_int.l0 k l0 a1 (l0.length : Int) 0) = some r := h
 clear h
 have H' := Aside0.mk H
 clear H
 go_enter Try.func168, Try.ntmps168
 go_wp2
 go_loopg [8] k (fun kq v8 w' => ∃ (x8_1 : Int), v8 = .int .i64 x8_1 ∧ Aside0 (slices_Index_int_int.l0 kq l0 a1 (l0.length : Int) x8_1 = some r) ∧ Aside0 (kq ≤ k) ∧ Drawn0 w w')
 case atStart => exact ⟨(0), sc, H', kk0, sd⟩
 case round =>
  clear H'
  obtain ⟨x8_1, rfl, HA, HK1, ⟨m1, rfl⟩⟩ := hrel
  cases gk with
  | zero => exact absurd HA.out (by simp [slices_Index_int_int.l0])
  | succ k1 =>
   have H := HA.out
   clear HA
   simp only [slices_Index_int_int.l0] at H
   obtain ⟨c3, H⟩ | ⟨c3, H⟩ := ie_ H
   ·have c3b0 := decide_eq_true c3
    clear c3
    obtain ⟨c4b0, H⟩ := id_ H
    obtain ⟨c5b0, H⟩ := id_ H
    obtain ⟨c6, H⟩ | ⟨c6, H⟩ := ie_ H
    ·have c6b0 : (a1 == (rd l0 x8_1)) = true := beq_iff_eq.mpr c6
     have c6b1 : (a1 != (rd l0 x8_1)) = false := bne_eq_false_iff_eq.mpr c6
     clear c6
     obtain rfl := Option.some.inj H
     have p523 : 0 ≤ (x8_1 : Int) := sa
     have q523 : x8_1 < (l0.length : Int) := sa
     obtain ⟨ad523, e523, hx523_0⟩ := Kd.at_int HR0.out x8_1 p523 q523
     cases e523
     replace p523 := eq_true p523
     replace q523 := eq_true q523
     go_wp2
     go_ret
     exact ⟨sc, sd⟩
    ·have c6b0 : (a1 == (rd l0 x8_1)) = false := beq_eq_false_iff_ne.mpr c6
     have c6b1 : (a1 != (rd l0 x8_1)) = true := bne_iff_ne.mpr c6
     have H' := Aside0.mk H
     clear H
     have p523 : 0 ≤ (x8_1 : Int) := sa
     have q523 : x8_1 < (l0.length : Int) := sa
     obtain ⟨ad523, e523, hx523_0⟩ := Kd.at_int HR0.out x8_1 p523 q523
     cases e523
     replace p523 := eq_true p523
     replace q523 := eq_true q523
     go_wp2
     go_roundg k1
     case measure => have := HK1.out; omega
     case rel => exact ⟨(wrap64 (x8_1 + 1)), sc, H', kk1, sd⟩
   ·have c3b0 := decide_eq_false c3
    clear c3
    obtain rfl := Option.some.inj H
    go_wp2
    go_ret
    exact ⟨sc, sd⟩

/-! ### slices_Contains_int_int: function 132 -/
def slices_Contains_int_int.f (k : Nat) (l0 : List Int) (a1 : Int) : Option (Bool) := (slices_Index_int_int.f k l0 a1).bind fun t524 => (some (decide (t524 ≥ 0)))
theorem slices_Contains_int_int.mono : ∀ a0 a1 k, LeO (slices_Contains_int_int.f k a0 a1) (slices_Contains_int_int.f (k + 1) a0 a1) := by
  intro a0 a1 k
  unfold slices_Contains_int_int.f
  have m0 := @slices_Index_int_int.mono
  exact mo
set_option maxHeartbeats 8000000 in
set_option maxRecDepth 100000 in
theorem slices_Contains_int_int.calls (k : Nat) (A0 : Option Addr) (c0 : Nat) (l0 : List Int) (a1 : Int) (r : Bool) (w : World) (hr0 : Kd.C (Kd.int .i64) w A0 l0.length l0) (hc0 : l0.length ≤ c0) (h : slices_Contains_int_int.f k l0 a1 = some r) :
    Calls Try.prog 132 #[.slice A0 l0.length c0, .int .i64 a1] w fun e w' => e = .returned (.bool r) ∧ Drawn0 w w' := by
 have HR0 := Aside0.mk hr0
 have HC0 := Aside0.mk hc0
 clear hr0 hc0
 have H : ((slices_Index_int_int.f k l0 a1).bind fun t524 => (some (decide (t524 ≥ 0)))) = some r := h
 clear h
 obtain ⟨t524, A3, H⟩ := bnd H
 obtain rfl := Option.some.inj H
 go_enter Try.func132, Try.ntmps132
 go_wp2_with (first | ((with_reducible refine gate_callee (f := 168) rfl ?_); refine gL (some 7) Try.func168 #[.slice A0 l0.length c0, .int .i64 a1] ?_; (with_reducible refine (slices_Index_int_int.calls k _ _ l0 a1 t524 _ ?side1 ?side2 A3.out).mono ?_); (case side1 => repeat (first | exact HR0.out | (with_reducible refine Kd.C_alloc ?_ _) | (with_reducible refine Kd.C_drewN ?_ _) | (with_reducible refine Kd.C_drew ?_))); (case side2 => exact HC0.out); rintro e w' ⟨rfl, ⟨nd, rfl⟩⟩; refine ⟨_, rfl, ?_⟩))
 go_ret
 exact ⟨sc, sd⟩

/-! ### impl_UsesNode: function 68 -/
def impl_UsesNode.l0 : Nat → Int → Int → Int → Int → Int → List Int → List Int → Option (Int)
  | 0, _, _, _, _, _, _, _ => none
  | k + 1, x1, x5, x9, x10, x526000, x526001, x526002 => if x10 < x9 then (if x10 = x1 then (impl_UsesNode.l0 k x1 x5 x9 (wrap64 (x10 + 1)) x526000 x526001 x526002) else (if x10 = x526000 then (impl_UsesNode.l0 k x1 x5 x9 (wrap64 (x10 + 1)) x526000 x526001 x526002) else ((impl_RouteOf.f k x526000 x526001 x526002 x10).bind fun t526 => ((slices_Contains_int_int.f k t526 x1).bind fun t529 => (if t529 = true then (impl_UsesNode.l0 k x1 (wrap64 (x5 + 1)) x9 (wrap64 (x10 + 1)) x526000 x526001 x526002) else (impl_UsesNode.l0 k x1 x5 x9 (wrap64 (x10 + 1)) x526000 x526001 x526002)))))) else (some x5)
def impl_UsesNode.f (k : Nat) (a0_0 : Int) (l0_1 : List Int) (l0_2 : List Int) (a1 : Int) : Option (Int) := impl_UsesNode.l0 k a1 0 (l0_2.length : Int) 0 a0_0 l0_1 l0_2
theorem impl_UsesNode.mono_l : ∀ k, (∀ y0 y1 y2 y3 y4 y5 y6, LeO (impl_UsesNode.l0 k y0 y1 y2 y3 y4 y5 y6) (impl_UsesNode.l0 (k + 1) y0 y1 y2 y3 y4 y5 y6))
  | 0 => fun _ _ _ _ _ _ _ r h => by simp [impl_UsesNode.l0] at h
  | k + 1 => by
    have ih0 := impl_UsesNode.mono_l k
    · intro y0 y1 y2 y3 y4 y5 y6
      unfold impl_UsesNode.l0
      have m0 := @impl_RouteOf.mono
      have m1 := @slices_Contains_int_int.mono
      exact mo
theorem impl_UsesNode.mono : ∀ a0 a1 a2 a3 k, LeO (impl_UsesNode.f k a0 a1 a2 a3) (impl_UsesNode.f (k + 1) a0 a1 a2 a3) := by
  intro a0 a1 a2 a3 k
  have ih0 := impl_UsesNode.mono_l k
  unfold impl_UsesNode.f
  have m0 := @impl_RouteOf.mono
  have m1 := @slices_Contains_int_int.mono
  exact mo
set_option maxHeartbeats 8000000 in
set_option maxRecDepth 100000 in
theorem impl_UsesNode.calls (k : Nat) (a0_0 : Int) (A0_1 : Option Addr) (c0_1 : Nat) (l0_1 : List Int) (A0_2 : Option Addr) (c0_2 : Nat) (l0_2 : List Int) (a1 : Int) (r : Int) (w : World) (hr0_1 : Kd.C (Kd.int .i64) w A0_1 l0_1.length l0_1) (hc0_1 : l0_1.length ≤ c0_1) (hr0_2 : Kd.C (Kd.int .i64) w A0_2 l0_2.length l0_2) (hc0_2 : l0_2.length ≤ c0_2) (h : impl_UsesNode.f k a0_0 l0_1 l0_2 a1 = some r) :
    Calls Try.prog 68 #[.agg #[.int .i64 a0_0, .slice A0_1 l0_1.length c0_1, .slice A0_2 l0_2.length c0_2], .int .i64 a1] w fun e w' => e = .returned (.int .i64 r) ∧ Below w.heap.size w w' := by
 have hu55 := Try.underlying55
 have HR0_1 := Aside0.mk hr0_1
 have HC0_1 := Aside0.mk hc0_1
 clear hr0_1 hc0_1
 have HR0_2 := Aside0.mk hr0_2
 have HC0_2 := Aside0.mk hc0_2
 clear hr0_2 hc0_2
 have HB := Aside0.mk (Below.refl w.heap.size w)
 have H : (impl_UsesNode.l0 k a1 0 (l0_2.length : Int) 0 a0_0 l0_1 l0_2) = some r := h
 clear h
 have H' := Aside0.mk H
 clear H
 go_enter Try.func68, Try.ntmps68
 go_wp2_with (first | ((with_reducible refine gate_dst (N := 2) rfl ?_); refine bx 2 #[.int .i64 a0_0, .slice A0_1 l0_1.length c0_1, .slice A0_2 l0_2.length c0_2] 55 ?_; intro gb525 hg w3 hbox hb; have GW525 := bz w hg; have GE525 := bz w hg; replace HB := bs hb; have BK525 := Aside0.mk hbox; clear hb hbox hg; obtain ⟨hcz4_0, hcz4_1, hcz4_2, hfz4_0, hfz4_1, hfz4_2⟩ := cc3 BK525))
 go_loopg [5, 10] k (fun kq v5 v10 w' => ∃ (x5_1 : Int) (x10_1 : Int), v5 = .int .i64 x5_1 ∧ v10 = .int .i64 x10_1 ∧ Aside0 (impl_UsesNode.l0 kq a1 x5_1 (l0_2.length : Int) x10_1 a0_0 l0_1 l0_2 = some r) ∧ Aside0 (kq ≤ k) ∧ Aside0 (w'.heap[gb525]? = some (.cells #[.int .i64 a0_0, (.slice A0_1 l0_1.length c0_1), (.slice A0_2 l0_2.length c0_2)] 55 (0, 0))) ∧ Aside0 (Below w.heap.size w w'))
 case atStart => exact ⟨(0), (0), sc, sc, H', kk0, ⟨sk BK525⟩, ⟨sbw⟩⟩
 case round =>
  clear H'
  try clear hcz4_0
  try clear hcz4_1
  try clear hcz4_2
  try clear hfz4_0
  try clear hfz4_1
  try clear hfz4_2
  obtain ⟨x5_1, x10_1, rfl, rfl, HA, HK1, BK525, HB⟩ := hrel
  cases gk with
  | zero => exact absurd HA.out (by simp [impl_UsesNode.l0])
  | succ k1 =>
   have H := HA.out
   clear HA
   simp only [impl_UsesNode.l0] at H
   obtain ⟨c5, H⟩ | ⟨c5, H⟩ := ie_ H
   ·have c5b0 := decide_eq_true c5
    clear c5
    obtain ⟨c6, H⟩ | ⟨c6, H⟩ := ie_ H
    ·have c6b0 : (x10_1 == a1) = true := beq_iff_eq.mpr c6
     have c6b1 : (x10_1 != a1) = false := bne_eq_false_iff_eq.mpr c6
     clear c6
     have H' := Aside0.mk H
     clear H
     go_wp2
     go_roundg k1
     case measure => have := HK1.out; omega
     case rel => exact ⟨(x5_1), (wrap64 (x10_1 + 1)), sc, sc, H', kk1, ⟨sk BK525⟩, ⟨sbw⟩⟩
    ·have c6b0 : (x10_1 == a1) = false := beq_eq_false_iff_ne.mpr c6
     have c6b1 : (x10_1 != a1) = true := bne_iff_ne.mpr c6
     obtain ⟨c7, H⟩ | ⟨c7, H⟩ := ie_ H
     ·have c7b0 : (x10_1 == a0_0) = true := beq_iff_eq.mpr c7
      have c7b1 : (x10_1 != a0_0) = false := bne_eq_false_iff_eq.mpr c7
      clear c7
      have H' := Aside0.mk H
      clear H
      obtain ⟨hcz8_0, hcz8_1, hcz8_2, hfz8_0, hfz8_1, hfz8_2⟩ := cc3 BK525
      go_wp2
      go_roundg k1
      case measure => have := HK1.out; omega
      case rel => exact ⟨(x5_1), (wrap64 (x10_1 + 1)), sc, sc, H', kk1, ⟨sk BK525⟩, ⟨sbw⟩⟩
     ·have c7b0 : (x10_1 == a0_0) = false := beq_eq_false_iff_ne.mpr c7
      have c7b1 : (x10_1 != a0_0) = true := bne_iff_ne.mpr c7
      obtain ⟨t526, A9, H⟩ := bnd H
      obtain ⟨t529, A10, H⟩ := bnd H
      obtain rfl | rfl := tt t529
      ·replace H := ip H
       have H' := Aside0.mk H
       clear H
       obtain ⟨hcz12_0, hcz12_1, hcz12_2, hfz12_0, hfz12_1, hfz12_2⟩ := cc3 BK525
       go_wp2_with (first | (go_at_call 65; (with_reducible refine (impl_RouteOf.calls k1 a0_0 _ _ l0_1 _ _ l0_2 x10_1 t526 _ ?side1 ?side2 ?side3 ?side4 A9.out).mono ?_); (case side1 => exact cb HR0_1); (case side2 => exact HC0_1.out); (case side3 => exact cb HR0_2); (case side4 => exact HC0_2.out); rintro e w13 ⟨v527, rfl, ho0, hb⟩; have HO528 := Aside0.mk (Kd.R_lower ho0 (below_size (sbw))); replace BK525 := bb BK525 hb; replace HB := bsw hb; (try clear hb); (try clear hb2); (try clear hk); (try clear hi); (try clear ho0); obtain ⟨Ao14, co14, eo14⟩ := Kd.R_slice HO528.out; subst eo14) | (go_at_call 132; (with_reducible refine (slices_Contains_int_int.calls k1 _ _ t526 a1 true _ ?side1 ?side2 A10.out).mono ?_); (case side1 => repeat (first | exact (Kd.R_reads' HO528.out).2.2 | (with_reducible refine Kd.C_alloc ?_ _) | (with_reducible refine Kd.C_drewN ?_ _) | (with_reducible refine Kd.C_drew ?_))); (case side2 => exact (Kd.R_reads' HO528.out).2.1); rintro e w' ⟨rfl, ⟨nd, rfl⟩⟩))
       go_roundg k1
       case measure => have := HK1.out; omega
       case rel => exact ⟨(wrap64 (x5_1 + 1)), (wrap64 (x10_1 + 1)), sc, sc, H', kk1, ⟨sk BK525⟩, ⟨sbw⟩⟩
      ·replace H := im H
       have H' := Aside0.mk H
       clear H
       obtain ⟨hcz15_0, hcz15_1, hcz15_2, hfz15_0, hfz15_1, hfz15_2⟩ := cc3 BK525
       go_wp2_with (first | (go_at_call 65; (with_reducible refine (impl_RouteOf.calls k1 a0_0 _ _ l0_1 _ _ l0_2 x10_1 t526 _ ?side1 ?side2 ?side3 ?side4 A9.out).mono ?_); (case side1 => exact cb HR0_1); (case side2 => exact HC0_1.out); (case side3 => exact cb HR0_2); (case side4 => exact HC0_2.out); rintro e w16 ⟨v527, rfl, ho0, hb⟩; have HO528 := Aside0.mk (Kd.R_lower ho0 (below_size (sbw))); replace BK525 := bb BK525 hb; replace HB := bsw hb; (try clear hb); (try clear hb2); (try clear hk); (try clear hi); (try clear ho0); obtain ⟨Ao17, co17, eo17⟩ := Kd.R_slice HO528.out; subst eo17) | (go_at_call 132; (with_reducible refine (slices_Contains_int_int.calls k1 _ _ t526 a1 false _ ?side1 ?side2 A10.out).mono ?_); (case side1 => repeat (first | exact (Kd.R_reads' HO528.out).2.2 | (with_reducible refine Kd.C_alloc ?_ _) | (with_reducible refine Kd.C_drewN ?_ _) | (with_reducible refine Kd.C_drew ?_))); (case side2 => exact (Kd.R_reads' HO528.out).2.1); rintro e w' ⟨rfl, ⟨nd, rfl⟩⟩))
       go_roundg k1
       case measure => have := HK1.out; omega
       case rel => exact ⟨(x5_1), (wrap64 (x10_1 + 1)), sc, sc, H', kk1, ⟨sk BK525⟩, ⟨sbw⟩⟩
   ·have c5b0 := decide_eq_false c5
    clear c5
    obtain rfl := Option.some.inj H
    go_wp2
    go_ret
    exact ⟨se, sbw⟩

end Go.Proofs.Ytiihaabhjphaeaa.QFnTables
