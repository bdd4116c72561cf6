/- Printed by a program of the session. Conditions: none. (squeezed). -/
import Derived.Test.YtohbccekdmdmbaaVFnExactRepairHopSty
import Derived.Test.YtohbccekdmdmbaaVFnExactRepairHopQFnExactRepairHopx10
namespace Go.Proofs.Ytohbccekdmdmbaa.QFnExactRepairHop
set_option maxHeartbeats 8000000
set_option maxRecDepth 100000
open Go.RowKit Go.Proofs.YtohbccekdmdmbaaW.PrintWords Go.Proofs.YtohbccekdmdmbaaW.PrintLast Go.Proofs.YtohbccekdmdmbaaW.PrintMore Go.Proofs.Ytohbccekdmdmbaa.Open Go.Proofs.Ytohbccekdmdmbaa.Sq
attribute [local go_sem] max2_int min2_int max_two min_two max_three min_three max_four min_four   -- for this text's walks alone
attribute [local go_sem] isSome_set
set_option linter.unusedVariables false
set_option linter.unusedSimpArgs false

theorem a11_0 {P : Prop} (h : P := by (with_reducible repeat (first | apply Kd.R_alloc | apply Kd.R_drewN | apply Kd.R_drew)); exact Kd.R_mono (Kd.R_far (p := ⟨gb481, 1, none⟩) (Kd.R_far (p := ⟨gb481, 0, none⟩) (Kd.R_types HO_5.out BK481.out (by decide)) (fun _ hk => hk.2) (.int .i64 ((rd_T55 l0 x11_1).f0))) (fun _ hk => hk.2) (.int .i64 ((rd_T55 l0 x11_1).f1))) (fun _ hk => trivial)) : P := h
def impl_NeighborsIn.l0 : Nat → Int → List Int → List (S55) → Int → Int → Option (List Int)
  | 0, _, _, _, _, _ => none
  | k + 1, x1, x5, x9, x10, x11 => if x11 < x10 then (if 0 ≤ x11 then (if x11 < (x9.length : Int) then (if ((rd_T55 x9 x11).f0) = x1 then (if x5.length < 17592186044416 then ((some (x5 ++ [(rd_T55 x9 x11).f1] : List Int)).bind fun y482 => (if ((rd_T55 x9 x11).f1) = x1 then (if y482.length < 17592186044416 then (impl_NeighborsIn.l0 k x1 (y482 ++ [(rd_T55 x9 x11).f0]) x9 x10 (wrap64 (x11 + 1))) else (none)) else (impl_NeighborsIn.l0 k x1 y482 x9 x10 (wrap64 (x11 + 1))))) else (none)) else (if ((rd_T55 x9 x11).f1) = x1 then (if x5.length < 17592186044416 then (impl_NeighborsIn.l0 k x1 (x5 ++ [(rd_T55 x9 x11).f0]) x9 x10 (wrap64 (x11 + 1))) else (none)) else (impl_NeighborsIn.l0 k x1 x5 x9 x10 (wrap64 (x11 + 1))))) else (none)) else (none)) else ((slices_Sort_int_int.f x5).bind fun t476 => ((slices_Compact_int_int.f t476).bind fun t477 => (some t477)))
def impl_NeighborsIn.f (k : Nat) (l0 : List (S55)) (a1 : Int) : Option (List Int) := impl_NeighborsIn.l0 k a1 (([] : List Int)) l0 (l0.length : Int) 0
theorem impl_NeighborsIn.mono_l : ∀ k, (∀ y0 y1 y2 y3 y4, LeO (impl_NeighborsIn.l0 k y0 y1 y2 y3 y4) (impl_NeighborsIn.l0 (k + 1) y0 y1 y2 y3 y4))
  | 0 => fun _ _ _ _ _ r h => by simp [impl_NeighborsIn.l0] at h
  | k + 1 => by
    have ih0 := impl_NeighborsIn.mono_l k
    · intro y0 y1 y2 y3 y4
      unfold impl_NeighborsIn.l0
      exact mo
theorem impl_NeighborsIn.mono : ∀ a0 a1 k, LeO (impl_NeighborsIn.f k a0 a1) (impl_NeighborsIn.f (k + 1) a0 a1) := by
  intro a0 a1 k
  have ih0 := impl_NeighborsIn.mono_l k
  unfold impl_NeighborsIn.f
  exact mo
theorem e11_0 {P : Prop} (h : P := by
 go_wp2_with (first | ((with_reducible refine gd 7 rfl ?_); refine bx 7 #[.int .i64 0, .int .i64 0] 55 ?_; intro gb481 hg w12 hbox hb; replace HO_5 := rb HO_5 hb; have GW481 := bz w hg; have GE481 := bz w hg; replace HB := bs hb; have BK481 := am hbox; clear hb hbox hg; obtain ⟨hcz13_0, hcz13_1, hfz13_0, hfz13_1⟩ := cc2 BK481) | (have _ := c10b0; (with_reducible refine gate_builtin (b := .append) (xs := #[.tmp 19, .tmp 22]) rfl ?_); at_builtin; refine Kd.R_append (Kd.int .i64) (w0 := w) w.heap.size rfl (.tmp 19) (.tmp 22) 22 3 (.int .i64 0) 8 rfl Try.underlying22 info3 rfl (by decide) (by omega) u5 x5_1 ((rd_T55 l0 x11_1).f1) [.int .i64 ((rd_T55 l0 x11_1).f1)] (fun _ => True) (fun _ => False) rfl (by first | (go_simp; done) | (go_simp; rfl)) ?aP (fun _ hk => hk.elim) ?aF ?aO ?aB ?aS ?aL ?_; (case aP => exact rfl); (case aB => exact (sbw)); (case aF => exact (fun _ _ => trivial)); (case aO => exact a11_0); (case aS => exact (below_size (sbw))); (case aL => have := LMc9.out; omega); intro v483 w14 ho hb hg hat; rw [← Ny482.out] at ho; replace BK481 := am (blk_grown (g := gb481) (o := .cells #[.int .i64 ((rd_T55 l0 x11_1).f0), .int .i64 ((rd_T55 l0 x11_1).f1)] 55 (0, 0)) (sp BK481) hg (Kd.R_ne HO_5.out BK481.out (by decide))); replace HB := am hb; have HO484 := am ho; clear HO_5; clear ho hb hg hat; obtain ⟨hcz15_0, hcz15_1, hfz15_0, hfz15_1⟩ := cc2 BK481) | (have _ := c10b0; (with_reducible refine gate_builtin (b := .append) (xs := #[.tmp 28, .tmp 31]) rfl ?_); at_builtin; refine Kd.R_append (Kd.int .i64) (w0 := w) w.heap.size rfl (.tmp 28) (.tmp 31) 22 3 (.int .i64 0) 8 rfl Try.underlying22 info3 rfl (by decide) (by omega) v483 y482 ((rd_T55 l0 x11_1).f0) [.int .i64 ((rd_T55 l0 x11_1).f0)] (fun _ => True) (fun _ => False) rfl rfl ?aP (fun _ hk => hk.elim) ?aF ?aO ?aB ?aS ?aL ?_; (case aP => exact rfl); (case aB => exact (sbw)); (case aF => exact (fun _ _ => trivial)); (case aO => exact (sr HO484)); (case aS => exact (below_size (sbw))); (case aL => have := LMc11.out; omega); intro v486 w16 ho hb hg hat; rw [← Ny485.out] at ho; replace BK481 := am (blk_grown (g := gb481) (o := .cells #[.int .i64 ((rd_T55 l0 x11_1).f0), .int .i64 ((rd_T55 l0 x11_1).f1)] 55 (0, 0)) (sk BK481) hg (Kd.R_ne HO484.out BK481.out (by decide))); replace HB := am hb; have HO487 := am ho; clear HO484; clear ho hb hg hat) | (have _ := c6b0; (with_reducible refine gate_builtin (b := .append) (xs := #[.tmp 28, .tmp 31]) rfl ?_); at_builtin; refine Kd.R_append (Kd.int .i64) (w0 := w) w.heap.size rfl (.tmp 28) (.tmp 31) 22 3 (.int .i64 0) 8 rfl Try.underlying22 info3 rfl (by decide) (by omega) u5 x5_1 ((rd_T55 l0 x11_1).f0) [.int .i64 ((rd_T55 l0 x11_1).f0)] (fun _ => True) (fun _ => False) rfl (by first | (go_simp; done) | (go_simp; rfl)) ?aP (fun _ hk => hk.elim) ?aF ?aO ?aB ?aS ?aL ?_; (case aP => exact rfl); (case aB => exact (sbw)); (case aF => exact (fun _ _ => trivial)); (case aO => exact a11_0); (case aS => exact (below_size (sbw))); (case aL => have := LMc22.out; omega); intro v489 w25 ho hb hg hat; rw [← Ny488.out] at ho; replace BK481 := am (blk_grown (g := gb481) (o := .cells #[.int .i64 ((rd_T55 l0 x11_1).f0), .int .i64 ((rd_T55 l0 x11_1).f1)] 55 (0, 0)) (sp BK481) hg (Kd.R_ne HO_5.out BK481.out (by decide))); replace HB := am hb; have HO490 := am ho; clear HO_5; clear ho hb hg hat) | ((with_reducible refine gc 50 rfl ?_); refine gL (some 35) Try.func50 #[.slice Ao30 x5_1.length co30] ?_; (with_reducible refine (slices_Sort_int_int.calls (fun k_ => some k_ = (.slice Ao30 x5_1.length co30 : Value).ownBlock) (.slice Ao30 x5_1.length co30) x5_1 t476 w _ ?side1 ?side2 A28.out).mono ?_); (case side1 => repeat (first | (with_reducible first | exact HB.out | apply below_alloc | apply pw_below_drewN | apply below_drew1) | exact HB.out)); (case side2 => exact Kd.R_tight rfl HO_5.out); rintro e w31 ⟨rfl, hy0, hb, hkp⟩; refine ⟨_, rfl, ?_⟩; replace HO_5 := am (Kd.R_reok rfl hy0 (fun k_ e_ => HO_5.out.1 k_ e_)); replace HB := am hb; (try clear hb); (try clear hkp); (try clear hy0)) | ((with_reducible refine gc 51 rfl ?_); refine gL (some 37) Try.func51 #[.slice Ao30 x5_1.length co30] ?_; (with_reducible refine (slices_Compact_int_int.calls (fun k_ => some k_ = (.slice Ao30 x5_1.length co30 : Value).ownBlock) (.slice Ao30 x5_1.length co30) t476 t477 w _ ?side1 ?side2 A29.out).mono ?_); (case side1 => repeat (first | (with_reducible first | exact HB.out | apply below_alloc | apply pw_below_drewN | apply below_drew1) | exact HB.out)); (case side2 => exact Kd.R_tight rfl HO_5.out); rintro e w32 ⟨v478, rfl, ho0, hb, hkp⟩; refine ⟨_, rfl, ?_⟩; have HO479 := am (Kd.R_mono (ok' := fun k_ => True) ho0 (fun k_ hk_ => trivial)); replace HB := am hb; clear HO_5; (try clear hb); (try clear hkp); (try clear ho0)))
 first
 | have _ := y485
   go_roundg k1
   case measure => have := HK1.out; omega
   case rel => exact ⟨(y485), (wrap64 (x11_1 + 1)), sc, H', kk1, ⟨sr HO487⟩, ⟨sbw⟩⟩
 | have _ := c10b0
   go_roundg k1
   case measure => have := HK1.out; omega
   case rel => exact ⟨(y482), (wrap64 (x11_1 + 1)), sc, H', kk1, ⟨sr HO484⟩, ⟨sbw⟩⟩
 | have _ := y488
   go_roundg k1
   case measure => have := HK1.out; omega
   case rel => exact ⟨(y488), (wrap64 (x11_1 + 1)), sc, H', kk1, ⟨sr HO490⟩, ⟨sbw⟩⟩
 | have _ := c6b0
   go_roundg k1
   case measure => have := HK1.out; omega
   case rel => exact ⟨(x5_1), (wrap64 (x11_1 + 1)), sc, H', kk1, ⟨a11_0⟩, ⟨sbw⟩⟩
 | go_ret
   exact ⟨_, se, sr HO479, sb⟩
   ) : P := h
theorem impl_NeighborsIn.calls (k : Nat) (A0 : Option Addr) (c0 : Nat) (l0 : List (S55)) (a1 : Int) (r : List Int) (w : World) (hr0 : Kd.C k55 w A0 l0.length l0) (hc0 : l0.length ≤ c0) (h : impl_NeighborsIn.f k l0 a1 = some r) :
    Calls Try.prog 33 #[.slice A0 l0.length c0, .int .i64 a1] w fun e w' => ∃ v0_ : Value, e = .returned (v0_) ∧ Kd.R (Kd.int .i64) 3 w' w.heap.size (fun _ => True) v0_ r ∧ Below w.heap.size w w' := by
 have hu55 := Try.underlying55
 have HR0 := am hr0
 have HC0 := am hc0
 clear hr0 hc0
 have HB := am (Below.refl w.heap.size w)
 have H := h; unfold impl_NeighborsIn.f at H
 clear h
 obtain ⟨y473, hy473⟩ : ∃ y_ : List Int, y_ = (([] : List Int)) := ⟨_, rfl⟩
 replace H : (impl_NeighborsIn.l0 k a1 y473 l0 (l0.length : Int) 0) = some r := ry hy473 H
 have Ny473 := am hy473
 clear hy473
 have H' := am H
 clear H
 go_enter Try.func33, Try.ntmps33
 go_wp2_with (first | ((with_reducible refine gd 8 rfl ?_); refine Kd.R_lit (Kd.int .i64) _ 3 ?hg (N := 8) ?hd (xs := ([] : List Int)) (inner := []) (ok := fun _ => True) (okp := fun _ => True) ?hr ?hp (fun _ hk => hk) trivial (Below.refl _ _) (Nat.le_refl _) (by simp) ?_; (case hd => rfl); (case hg => rfl); (case hr => first | (go_simp; done) | (go_simp; rfl)); (case hp => exact (Reps.none _ _)); intro v474 w3 ho4 hb hg_ hnew_; clear hg_ hnew_; (first | rw [← Ny473.out] at ho4 | (simp only [Int.reduceToNat] at ho4; rw [← Ny473.out] at ho4)); have HO475 := am (Kd.R_lower ho4 (below_size (sb))); replace HB := bs hb; clear hb ho4))
 go_loopg [5, 11] k (fun kq v5 v11 w' => ∃ (x5_1 : List Int) (x11_1 : Int), v11 = .int .i64 x11_1 ∧ Aside0 (impl_NeighborsIn.l0 kq a1 x5_1 l0 (l0.length : Int) x11_1 = some r) ∧ Aside0 (kq ≤ k) ∧ Aside0 (Kd.R (Kd.int .i64) 3 w' w.heap.size (fun _ => True) v5 x5_1) ∧ Aside0 (Below w.heap.size w w'))
 case atStart => exact ⟨(y473), (0), sc, H', kk0, ⟨sr HO475⟩, ⟨sb⟩⟩
 case round =>
  clear H'
  obtain ⟨x5_1, x11_1, rfl, HA, HK1, HO_5, HB⟩ := hrel
  cases gk with
  | zero => exact absurd HA.out (by simp [impl_NeighborsIn.l0])
  | succ k1 =>
   have H := HA.out
   clear HA
   simp only [impl_NeighborsIn.l0] at H
   obtain ⟨-, c5b0, H⟩ | ⟨-, c5b0, H⟩ := ic_ H
   ·obtain ⟨c6b0, H⟩ := id_ H
    obtain ⟨c7b0, H⟩ := id_ H
    obtain ⟨-, c8b0, c8b1, H⟩ | ⟨c8, c8b0, c8b1, H⟩ := ib_ H
    ·obtain ⟨LMc9, H⟩ := il_ H
     obtain ⟨y482, Ny482, H⟩ := iy_ H
     obtain ⟨-, c10b0, c10b1, H⟩ | ⟨c10, c10b0, c10b1, H⟩ := ib_ H
     ·obtain ⟨LMc11, H⟩ := il_ H
      obtain ⟨y485, hy485⟩ : ∃ y_ : List Int, y_ = (y482 ++ [(rd_T55 l0 x11_1).f0]) := ⟨_, rfl⟩
      replace H : (impl_NeighborsIn.l0 k1 a1 y485 l0 (l0.length : Int) (wrap64 (x11_1 + 1))) = some r := ry hy485 H
      have Ny485 := am hy485
      clear hy485
      have H' := am H
      clear H
      obtain ⟨p480, q480, ad480, e480, _, _, hx480_0, hx480_1⟩ := aT_T55 HR0 HB x11_1
      cases e480
      exact e11_0
     ·have H' := am H
      clear H
      obtain ⟨p480, q480, ad480, e480, _, _, hx480_0, hx480_1⟩ := aT_T55 HR0 HB x11_1
      cases e480
      exact e11_0
    ·obtain ⟨-, c21b0, c21b1, H⟩ | ⟨c21, c21b0, c21b1, H⟩ := ib_ H
     ·obtain ⟨LMc22, H⟩ := il_ H
      obtain ⟨y488, hy488⟩ : ∃ y_ : List Int, y_ = (x5_1 ++ [(rd_T55 l0 x11_1).f0]) := ⟨_, rfl⟩
      replace H : (impl_NeighborsIn.l0 k1 a1 y488 l0 (l0.length : Int) (wrap64 (x11_1 + 1))) = some r := ry hy488 H
      have Ny488 := am hy488
      clear hy488
      have H' := am H
      clear H
      obtain ⟨p480, q480, ad480, e480, _, _, hx480_0, hx480_1⟩ := aT_T55 HR0 HB x11_1
      cases e480
      exact e11_0
     ·have H' := am H
      clear H
      obtain ⟨p480, q480, ad480, e480, _, _, hx480_0, hx480_1⟩ := aT_T55 HR0 HB x11_1
      cases e480
      exact e11_0
   ·obtain ⟨t476, A28, H⟩ := bnd H
    obtain ⟨t477, A29, H⟩ := bnd H
    obtain rfl := Option.some.inj H
    obtain ⟨Ao30, co30, eo30⟩ := Kd.R_slice HO_5.out
    subst eo30
    exact e11_0
def slices_SortStableFunc_int_int.f (dist l0 : List Int) (_ : Int) : Option (List Int) := Stw.srtF dist l0
theorem slices_SortStableFunc_int_int.calls (gb : Nat) (t0 : Int) (A1 : Option Addr) (c1 : Nat) (dist : List Int) (v2 : Value) (P0_ : Nat → Prop) (u9000_ : Value) (l0 : List Int) (a1 : Int) (r : List Int) (w0 w : World) (hB : Below w0.heap.size w0 w) (hd : Kd.C (Kd.int .i64) w0 A1 dist.length dist) (hg0 : w0.heap.size ≤ gb)
    (hbx : w.heap[gb]? = some (.cells #[.int .i64 t0, .slice A1 dist.length c1, v2] 29 (0, 0))) (ho0 : Kd.R (Kd.int .i64) 3 w w0.heap.size P0_ u9000_ l0) (h : slices_SortStableFunc_int_int.f dist l0 a1 = some r) :
    Calls Try.prog 34 #[u9000_, .func (.func 35) #[] #[.pointer (some ⟨gb, 0, none⟩)]] w fun e w' => e = .returned (.tuple #[]) ∧ Kd.R (Kd.int .i64) 3 w' w0.heap.size (fun k_ => (P0_ k_ ∨ w.heap.size ≤ k_)) u9000_ r ∧ Below w0.heap.size w0 w' ∧ Kept w w' (fun k_ => P0_ k_) :=
  Stw.sortStable gb t0 A1 c1 dist v2 P0_ u9000_ l0 r w0 w hB hd hbx hg0 ho0 h

end Go.Proofs.Ytohbccekdmdmbaa.QFnExactRepairHop

