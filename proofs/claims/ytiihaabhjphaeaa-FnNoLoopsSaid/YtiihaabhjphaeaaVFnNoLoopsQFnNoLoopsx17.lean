/- Printed by a program of the session. Conditions: none. (squeezed). -/
import Derived.Test.YtiihaabhjphaeaaVFnNoLoopsQFnNoLoopsx16
namespace Go.Proofs.Ytiihaabhjphaeaa.QFnNoLoops
set_option maxHeartbeats 8000000
set_option maxRecDepth 100000
open Go.RowKit Go.Proofs.YtiihaabhjphaeaaW.PrintWords Go.Proofs.YtiihaabhjphaeaaW.PrintLast Go.Proofs.YtiihaabhjphaeaaW.PrintMore Go.Proofs.Ytiihaabhjphaeaa.Open Go.Proofs.Ytiihaabhjphaeaa.Sq
attribute [local go_sem] max2_int min2_int max_two min_two max_three min_three max_four min_four   -- for this text's walks alone
attribute [local go_sem] isSome_set
set_option linter.unusedVariables false
set_option linter.unusedSimpArgs false

theorem a17_0 {P : Prop} (h : P := by (with_reducible repeat (first | apply Kd.R_alloc | apply Kd.R_drewN | apply Kd.R_drew)); exact (Kd.R_mono (Kd.R_far (p := ⟨gb620, 1, none⟩) (Kd.R_far (p := ⟨gb620, 0, none⟩) (Kd.R_types HO_7.out BK620.out (by decide)) (fun _ hk => hk.2) (.int .i64 ((rd_T105 l0_3 x8_1).f0.f0))) (fun _ hk => hk.2) (.int .i64 ((rd_T105 l0_3 x8_1).f0.f1))) (fun _ h_ => h_.1))) : P := h
def impl_AreOffsets.l0 : Nat → List Int → Int → Int → Int → Int → Int → List (S105) → Option (Bool)
  | 0, _, _, _, _, _, _, _ => none
  | k + 1, x12, x13, x14, x595000, x595001, x595002, x595003 => if x14 < x13 then (if 0 ≤ x14 then (if x14 < (x12.length : Int) then ((impl_InRange.f x595002 0 5).bind fun t596 => (if t596 = true then ((impl_InRange.f (rd x12 x14) (wrap64 (-x595002)) x595002).bind fun t597 => (if t597 = true then (impl_AreOffsets.l0 k x12 x13 (wrap64 (x14 + 1)) x595000 x595001 x595002 x595003) else (some false))) else (some false))) else (none)) else (none)) else (some true)
def impl_AreOffsets.f (k : Nat) (a0_0 : Int) (a0_1 : Int) (a0_2 : Int) (l0_3 : List (S105)) (l1 : List Int) : Option (Bool) := if (l1.length : Int) = a0_0 then (impl_AreOffsets.l0 k l1 (l1.length : Int) 0 a0_0 a0_1 a0_2 l0_3) else (some false)
theorem impl_AreOffsets.mono_l : ∀ k, (∀ y0 y1 y2 y3 y4 y5 y6, LeO (impl_AreOffsets.l0 k y0 y1 y2 y3 y4 y5 y6) (impl_AreOffsets.l0 (k + 1) y0 y1 y2 y3 y4 y5 y6))
  | 0 => fun _ _ _ _ _ _ _ r h => by simp [impl_AreOffsets.l0] at h
  | k + 1 => by
    have ih0 := impl_AreOffsets.mono_l k
    · intro y0 y1 y2 y3 y4 y5 y6
      unfold impl_AreOffsets.l0
      exact mo
theorem impl_AreOffsets.mono : ∀ a0 a1 a2 a3 a4 k, LeO (impl_AreOffsets.f k a0 a1 a2 a3 a4) (impl_AreOffsets.f (k + 1) a0 a1 a2 a3 a4) := by
  intro a0 a1 a2 a3 a4 k
  have ih0 := impl_AreOffsets.mono_l k
  unfold impl_AreOffsets.f
  exact mo
theorem impl_AreOffsets.calls (k : Nat) (a0_0 : Int) (a0_1 : Int) (a0_2 : Int) (A0_3 : Option Addr) (c0_3 : Nat) (l0_3 : List (S105)) (A1 : Option Addr) (c1 : Nat) (l1 : List Int) (r : Bool) (w : World) (hr0_3 : Kd.C k105 w A0_3 l0_3.length l0_3) (hc0_3 : l0_3.length ≤ c0_3) (hr1 : Kd.C (Kd.int .i64) w A1 l1.length l1) (hc1 : l1.length ≤ c1) (h : impl_AreOffsets.f k a0_0 a0_1 a0_2 l0_3 l1 = some r) :
    Calls Try.prog 140 #[.agg #[.int .i64 a0_0, .int .i64 a0_1, .int .i64 a0_2, .slice A0_3 l0_3.length c0_3], .slice A1 l1.length c1] w fun e w' => e = .returned (.bool r) ∧ Below w.heap.size w w' := by
 have hu31 := Try.underlying31
 have HR0_3 := am hr0_3
 have HC0_3 := am hc0_3
 clear hr0_3 hc0_3
 have HR1 := am hr1
 have HC1 := am hc1
 clear hr1 hc1
 have HB := am (Below.refl w.heap.size w)
 have H := h; unfold impl_AreOffsets.f at H
 clear h
 obtain ⟨-, c3b0, c3b1, H⟩ | ⟨c3, c3b0, c3b1, H⟩ := ib_ H
 ·have H' := am H
  clear H
  go_enter Try.func140, Try.ntmps140
  go_wp2_with (first | ((with_reducible refine gd 2 rfl ?_); refine bx 2 #[.int .i64 a0_0, .int .i64 a0_1, .int .i64 a0_2, .slice A0_3 l0_3.length c0_3] 31 ?_; intro gb594 hg w4 hbox hb; have GW594 := bz w hg; have GE594 := bz w hg; replace HB := bs hb; have BK594 := am hbox; clear hb hbox hg; obtain ⟨hcz5_0, hcz5_1, hcz5_2, hcz5_3, hfz5_0, hfz5_1, hfz5_2, hfz5_3⟩ := cc4 BK594))
  go_loopg [14] k (fun kq v14 w' => ∃ (x14_1 : Int), v14 = .int .i64 x14_1 ∧ Aside0 (impl_AreOffsets.l0 kq l1 (l1.length : Int) x14_1 a0_0 a0_1 a0_2 l0_3 = some r) ∧ Aside0 (kq ≤ k) ∧ Aside0 (w'.heap[gb594]? = some (.cells #[.int .i64 a0_0, .int .i64 a0_1, .int .i64 a0_2, (.slice A0_3 l0_3.length c0_3)] 31 (0, 0))) ∧ Aside0 (Below w.heap.size w w'))
  case atStart => exact ⟨(0), sc, H', kk0, ⟨sk BK594⟩, ⟨sbw⟩⟩
  case round =>
   clear H'
   try clear c3
   try clear c3b0
   try clear c3b1
   try clear hcz5_0
   try clear hcz5_1
   try clear hcz5_2
   try clear hcz5_3
   try clear hfz5_0
   try clear hfz5_1
   try clear hfz5_2
   try clear hfz5_3
   obtain ⟨x14_1, rfl, HA, HK1, BK594, HB⟩ := hrel
   cases gk with
   | zero => exact absurd HA.out (by simp [impl_AreOffsets.l0])
   | succ k1 =>
    have H := HA.out
    clear HA
    simp only [impl_AreOffsets.l0] at H
    obtain ⟨-, c6b0, H⟩ | ⟨-, c6b0, H⟩ := ic_ H
    ·obtain ⟨c7b0, H⟩ := id_ H
     obtain ⟨c8b0, H⟩ := id_ H
     obtain ⟨t596, A9, H⟩ := bnd H
     obtain rfl | rfl := tt t596
     ·replace H := ip H
      obtain ⟨t597, A11, H⟩ := bnd H
      obtain rfl | rfl := tt t597
      ·replace H := ip H
       have H' := am H
       clear H
       obtain ⟨p595, q595, ad595, e595, _, hx595_0⟩ := at_i HR1 HB x14_1
       cases e595
       obtain ⟨hcz13_0, hcz13_1, hcz13_2, hcz13_3, hfz13_0, hfz13_1, hfz13_2, hfz13_3⟩ := cc4 BK594
       go_wp2_with (first | ((with_reducible refine gc 95 rfl ?_); refine gL (some 20) Try.func95 #[.int .i64 a0_2, .int .i64 0, .int .i64 5] ?_; (with_reducible refine (impl_InRange.calls a0_2 0 5 true _ A9.out).mono ?_); rintro e w' ⟨rfl, ⟨nd, rfl⟩⟩; refine ⟨_, rfl, ?_⟩) | (go_at_call 95; (try simp only [i64_w, i32_w]); (with_reducible refine (impl_InRange.calls (rd l1 x14_1) (wrap64 (-a0_2)) a0_2 true _ A11.out).mono ?_); rintro e w' ⟨rfl, ⟨nd, rfl⟩⟩))
       go_roundg k1
       case measure => have := HK1.out; omega
       case rel => exact ⟨(wrap64 (x14_1 + 1)), sc, H', kk1, ⟨sk BK594⟩, ⟨sbw⟩⟩
      ·replace H := im H
       obtain rfl := Option.some.inj H
       obtain ⟨p595, q595, ad595, e595, _, hx595_0⟩ := at_i HR1 HB x14_1
       cases e595
       obtain ⟨hcz14_0, hcz14_1, hcz14_2, hcz14_3, hfz14_0, hfz14_1, hfz14_2, hfz14_3⟩ := cc4 BK594
       go_wp2_with (first | ((with_reducible refine gc 95 rfl ?_); refine gL (some 20) Try.func95 #[.int .i64 a0_2, .int .i64 0, .int .i64 5] ?_; (with_reducible refine (impl_InRange.calls a0_2 0 5 true _ A9.out).mono ?_); rintro e w' ⟨rfl, ⟨nd, rfl⟩⟩; refine ⟨_, rfl, ?_⟩) | (go_at_call 95; (try simp only [i64_w, i32_w]); (with_reducible refine (impl_InRange.calls (rd l1 x14_1) (wrap64 (-a0_2)) a0_2 false _ A11.out).mono ?_); rintro e w' ⟨rfl, ⟨nd, rfl⟩⟩))
       go_ret
       exact ⟨se, sbw⟩
     ·replace H := im H
      obtain rfl := Option.some.inj H
      obtain ⟨p595, q595, ad595, e595, _, hx595_0⟩ := at_i HR1 HB x14_1
      cases e595
      obtain ⟨hcz15_0, hcz15_1, hcz15_2, hcz15_3, hfz15_0, hfz15_1, hfz15_2, hfz15_3⟩ := cc4 BK594
      go_wp2_with (first | ((with_reducible refine gc 95 rfl ?_); refine gL (some 20) Try.func95 #[.int .i64 a0_2, .int .i64 0, .int .i64 5] ?_; (with_reducible refine (impl_InRange.calls a0_2 0 5 false _ A9.out).mono ?_); rintro e w' ⟨rfl, ⟨nd, rfl⟩⟩; refine ⟨_, rfl, ?_⟩))
      go_ret
      exact ⟨se, sbw⟩
    ·obtain rfl := Option.some.inj H
     go_wp2
     go_ret
     exact ⟨se, sbw⟩
 ·obtain rfl := Option.some.inj H
  go_enter Try.func140, Try.ntmps140
  go_wp2_with (first | ((with_reducible refine gd 2 rfl ?_); refine bx 2 #[.int .i64 a0_0, .int .i64 a0_1, .int .i64 a0_2, .slice A0_3 l0_3.length c0_3] 31 ?_; intro gb594 hg w16 hbox hb; have GW594 := bz w hg; have GE594 := bz w hg; replace HB := bs hb; have BK594 := am hbox; clear hb hbox hg; obtain ⟨hcz17_0, hcz17_1, hcz17_2, hcz17_3, hfz17_0, hfz17_1, hfz17_2, hfz17_3⟩ := cc4 BK594))
  go_ret
  exact ⟨se, sbw⟩

def impl_isMoment.f (k : Nat) (a0_0 : Int) (a0_1 : Int) (a0_2 : Int) (l0_3 : List (S105)) (a1 : Int) (l2 : List Int) : Option (Bool) := (impl_AreOffsets.f k a0_0 a0_1 a0_2 l0_3 l2).bind fun t599 => (if t599 = true then ((impl_InRange.f a1 0 1000).bind fun t600 => (some t600)) else (some false))
theorem impl_isMoment.mono : ∀ a0 a1 a2 a3 a4 a5 k, LeO (impl_isMoment.f k a0 a1 a2 a3 a4 a5) (impl_isMoment.f (k + 1) a0 a1 a2 a3 a4 a5) := by
  intro a0 a1 a2 a3 a4 a5 k
  unfold impl_isMoment.f
  have m0 := @impl_AreOffsets.mono
  exact mo
theorem e17_0 {P : Prop} (h : P := by
 obtain rfl := Option.some.inj H
 go_enter Try.func83, Try.ntmps83
 go_wp2_with (first | ((with_reducible refine gd 3 rfl ?_); refine bx 3 #[.int .i64 a0_0, .int .i64 a0_1, .int .i64 a0_2, .slice A0_3 l0_3.length c0_3] 31 ?_; intro gb598 hg w7 hbox hb; have GW598 := bz w hg; have GE598 := bz w hg; replace HB := bs hb; have BK598 := am hbox; clear hb hbox hg; obtain ⟨hcz8_0, hcz8_1, hcz8_2, hcz8_3, hfz8_0, hfz8_1, hfz8_2, hfz8_3⟩ := cc4 BK598) | (have _ := A6; (with_reducible refine gc 140 rfl ?_); refine gL (some 9) Try.func140 #[.agg #[.int .i64 a0_0, .int .i64 a0_1, .int .i64 a0_2, .slice A0_3 l0_3.length c0_3], .slice A2 l2.length c2] ?_; (with_reducible refine (impl_AreOffsets.calls k a0_0 a0_1 a0_2 _ _ l0_3 _ _ l2 true _ ?side1 ?side2 ?side3 ?side4 A4.out).mono ?_); (case side1 => exact cb HR0_3); (case side2 => exact HC0_3.out); (case side3 => exact cb HR2); (case side4 => exact HC2.out); rintro e w9 ⟨rfl, hb⟩; refine ⟨_, rfl, ?_⟩; replace BK598 := bb BK598 hb; replace HB := bsw hb; (try clear hb)) | (have _ := A6; go_at_call 95; (with_reducible refine (impl_InRange.calls a1 0 1000 t600 _ A6.out).mono ?_); rintro e w' ⟨rfl, ⟨nd, rfl⟩⟩) | ((with_reducible refine gc 140 rfl ?_); refine gL (some 9) Try.func140 #[.agg #[.int .i64 a0_0, .int .i64 a0_1, .int .i64 a0_2, .slice A0_3 l0_3.length c0_3], .slice A2 l2.length c2] ?_; (with_reducible refine (impl_AreOffsets.calls k a0_0 a0_1 a0_2 _ _ l0_3 _ _ l2 false _ ?side1 ?side2 ?side3 ?side4 A4.out).mono ?_); (case side1 => exact cb HR0_3); (case side2 => exact HC0_3.out); (case side3 => exact cb HR2); (case side4 => exact HC2.out); rintro e w12 ⟨rfl, hb⟩; refine ⟨_, rfl, ?_⟩; replace BK598 := bb BK598 hb; replace HB := bsw hb; (try clear hb)))
 first
 | have _ := A6
   go_ret
   exact ⟨se, sbw⟩
 | go_ret
   exact ⟨se, sbw⟩
   ) : P := h
theorem impl_isMoment.calls (k : Nat) (a0_0 : Int) (a0_1 : Int) (a0_2 : Int) (A0_3 : Option Addr) (c0_3 : Nat) (l0_3 : List (S105)) (a1 : Int) (A2 : Option Addr) (c2 : Nat) (l2 : List Int) (r : Bool) (w : World) (hr0_3 : Kd.C k105 w A0_3 l0_3.length l0_3) (hc0_3 : l0_3.length ≤ c0_3) (hr2 : Kd.C (Kd.int .i64) w A2 l2.length l2) (hc2 : l2.length ≤ c2) (h : impl_isMoment.f k a0_0 a0_1 a0_2 l0_3 a1 l2 = some r) :
    Calls Try.prog 83 #[.agg #[.int .i64 a0_0, .int .i64 a0_1, .int .i64 a0_2, .slice A0_3 l0_3.length c0_3], .int .i64 a1, .slice A2 l2.length c2] w fun e w' => e = .returned (.bool r) ∧ Below w.heap.size w w' := by
 have hu31 := Try.underlying31
 have HR0_3 := am hr0_3
 have HC0_3 := am hc0_3
 clear hr0_3 hc0_3
 have HR2 := am hr2
 have HC2 := am hc2
 clear hr2 hc2
 have HB := am (Below.refl w.heap.size w)
 have H := h; unfold impl_isMoment.f at H
 clear h
 obtain ⟨t599, A4, H⟩ := bnd H
 obtain rfl | rfl := tt t599
 ·replace H := ip H
  obtain ⟨t600, A6, H⟩ := bnd H
  exact e17_0
 ·replace H := im H
  exact e17_0
def impl_NextsAt.l0 : Nat → Int → Int → List Int → List Int → Int → Int → Int → Int → Int → List (S105) → Option (List Int)
  | 0, _, _, _, _, _, _, _, _, _, _ => none
  | k + 1, x1, x2, x9, x19, x20, x21, x602000, x602001, x602002, x602003 => if x21 < x20 then (if 0 ≤ x21 then (if x21 < (x19.length : Int) then ((impl_HopAt.f k x602000 x602001 x602002 x602003 x21 x1 (wrap64 (x2 + (rd x19 x21)))).bind fun t607 => (if x9.length < 17592186044416 then (impl_NextsAt.l0 k x1 x2 (x9 ++ [t607]) x19 x20 (wrap64 (x21 + 1)) x602000 x602001 x602002 x602003) else (none))) else (none)) else (none)) else (some x9)
def impl_NextsAt.f (k : Nat) (a0_0 : Int) (a0_1 : Int) (a0_2 : Int) (l0_3 : List (S105)) (a1 : Int) (a2 : Int) (l3 : List Int) : Option (List Int) := (some (([] : List Int) : List Int)).bind fun y602 => ((impl_isMoment.f k a0_0 a0_1 a0_2 l0_3 a2 l3).bind fun t605 => (if t605 = true then (impl_NextsAt.l0 k a1 a2 y602 l3 (l3.length : Int) 0 a0_0 a0_1 a0_2 l0_3) else (some y602)))
theorem impl_NextsAt.mono_l : ∀ k, (∀ y0 y1 y2 y3 y4 y5 y6 y7 y8 y9, LeO (impl_NextsAt.l0 k y0 y1 y2 y3 y4 y5 y6 y7 y8 y9) (impl_NextsAt.l0 (k + 1) y0 y1 y2 y3 y4 y5 y6 y7 y8 y9))
  | 0 => fun _ _ _ _ _ _ _ _ _ _ r h => by simp [impl_NextsAt.l0] at h
  | k + 1 => by
    have ih0 := impl_NextsAt.mono_l k
    · intro y0 y1 y2 y3 y4 y5 y6 y7 y8 y9
      unfold impl_NextsAt.l0
      have m0 := @impl_HopAt.mono
      have m1 := @impl_isMoment.mono
      exact mo
theorem impl_NextsAt.mono : ∀ a0 a1 a2 a3 a4 a5 a6 k, LeO (impl_NextsAt.f k a0 a1 a2 a3 a4 a5 a6) (impl_NextsAt.f (k + 1) a0 a1 a2 a3 a4 a5 a6) := by
  intro a0 a1 a2 a3 a4 a5 a6 k
  have ih0 := impl_NextsAt.mono_l k
  unfold impl_NextsAt.f
  have m0 := @impl_HopAt.mono
  have m1 := @impl_isMoment.mono
  exact mo
theorem impl_NextsAt.calls (k : Nat) (a0_0 : Int) (a0_1 : Int) (a0_2 : Int) (A0_3 : Option Addr) (c0_3 : Nat) (l0_3 : List (S105)) (a1 : Int) (a2 : Int) (A3 : Option Addr) (c3 : Nat) (l3 : List Int) (r : List Int) (w : World) (hr0_3 : Kd.C k105 w A0_3 l0_3.length l0_3) (hc0_3 : l0_3.length ≤ c0_3) (hr3 : Kd.C (Kd.int .i64) w A3 l3.length l3) (hc3 : l3.length ≤ c3) (h : impl_NextsAt.f k a0_0 a0_1 a0_2 l0_3 a1 a2 l3 = some r) :
    Calls Try.prog 23 #[.agg #[.int .i64 a0_0, .int .i64 a0_1, .int .i64 a0_2, .slice A0_3 l0_3.length c0_3], .int .i64 a1, .int .i64 a2, .slice A3 l3.length c3] w fun e w' => ∃ v0_ : Value, e = .returned (v0_) ∧ Kd.R (Kd.int .i64) 3 w' w.heap.size (fun _ => True) v0_ r ∧ Below w.heap.size w w' := by
 have hu31 := Try.underlying31
 have HR0_3 := am hr0_3
 have HC0_3 := am hc0_3
 clear hr0_3 hc0_3
 have HR3 := am hr3
 have HC3 := am hc3
 clear hr3 hc3
 have HB := am (Below.refl w.heap.size w)
 have H := h; unfold impl_NextsAt.f at H
 clear h
 obtain ⟨y602, Ny602, H⟩ := iy_ H
 obtain ⟨t605, A5, H⟩ := bnd H
 obtain rfl | rfl := tt t605
 ·replace H := ip H
  have H' := am H
  clear H
  go_enter Try.func23, Try.ntmps23
  go_wp2_with (first | ((with_reducible refine gd 4 rfl ?_); refine bx 4 #[.int .i64 a0_0, .int .i64 a0_1, .int .i64 a0_2, .slice A0_3 l0_3.length c0_3] 31 ?_; intro gb601 hg w7 hbox hb; have GW601 := bz w hg; have GE601 := bz w hg; replace HB := bs hb; have BK601 := am hbox; clear hb hbox hg) | ((with_reducible refine gd 12 rfl ?_); refine Kd.R_lit (Kd.int .i64) _ 3 ?hg (N := 12) ?hd (xs := ([] : List Int)) (inner := []) (ok := fun _ => True) (okp := fun _ => True) ?hr ?hp (fun _ hk => hk) trivial (Below.refl _ _) (Nat.le_refl _) (by simp) ?_; (case hd => rfl); (case hg => rfl); (case hr => first | (go_simp; done) | (go_simp; rfl)); (case hp => exact (Reps.none _ _)); intro v603 w8 ho9 hb hg_ hnew_; clear hg_ hnew_; (first | rw [← Ny602.out] at ho9 | (simp only [Int.reduceToNat] at ho9; rw [← Ny602.out] at ho9)); have HO604 := am (Kd.R_lower ho9 (below_size (sbw))); replace BK601 := bb BK601 hb; replace HB := bsw hb; clear hb ho9; obtain ⟨hcz10_0, hcz10_1, hcz10_2, hcz10_3, hfz10_0, hfz10_1, hfz10_2, hfz10_3⟩ := cc4 BK601) | ((with_reducible refine gc 83 rfl ?_); refine gL (some 16) Try.func83 #[.agg #[.int .i64 a0_0, .int .i64 a0_1, .int .i64 a0_2, .slice A0_3 l0_3.length c0_3], .int .i64 a2, .slice A3 l3.length c3] ?_; (with_reducible refine (impl_isMoment.calls k a0_0 a0_1 a0_2 _ _ l0_3 a2 _ _ l3 true _ ?side1 ?side2 ?side3 ?side4 A5.out).mono ?_); (case side1 => exact cb HR0_3); (case side2 => exact HC0_3.out); (case side3 => exact cb HR3); (case side4 => exact HC3.out); rintro e w11 ⟨rfl, hb⟩; refine ⟨_, rfl, ?_⟩; replace HO604 := rb HO604 hb; replace BK601 := bb BK601 hb; replace HB := bsw hb; (try clear hb); (try clear hk)))
  go_loopg [9, 21] k (fun kq v9 v21 w' => ∃ (x9_1 : List Int) (x21_1 : Int), v21 = .int .i64 x21_1 ∧ Aside0 (impl_NextsAt.l0 kq a1 a2 x9_1 l3 (l3.length : Int) x21_1 a0_0 a0_1 a0_2 l0_3 = some r) ∧ Aside0 (kq ≤ k) ∧ Aside0 (Kd.R (Kd.int .i64) 3 w' w.heap.size (fun _ => True) v9 x9_1) ∧ Aside0 (w'.heap[gb601]? = some (.cells #[.int .i64 a0_0, .int .i64 a0_1, .int .i64 a0_2, (.slice A0_3 l0_3.length c0_3)] 31 (0, 0))) ∧ Aside0 (Below w.heap.size w w'))
  case atStart => exact ⟨(y602), (0), sc, H', kk0, ⟨sr HO604⟩, ⟨sk BK601⟩, ⟨sbw⟩⟩
  case round =>
   clear H'
   obtain ⟨x9_1, x21_1, rfl, HA, HK1, HO_9, BK601, HB⟩ := hrel
   cases gk with
   | zero => exact absurd HA.out (by simp [impl_NextsAt.l0])
   | succ k1 =>
    have H := HA.out
    clear HA
    simp only [impl_NextsAt.l0] at H
    obtain ⟨-, c12b0, H⟩ | ⟨-, c12b0, H⟩ := ic_ H
    ·obtain ⟨c13b0, H⟩ := id_ H
     obtain ⟨c14b0, H⟩ := id_ H
     obtain ⟨t607, A15, H⟩ := bnd H
     obtain ⟨LMc16, H⟩ := il_ H
     obtain ⟨y608, hy608⟩ : ∃ y_ : List Int, y_ = (x9_1 ++ [t607]) := ⟨_, rfl⟩
     replace H : (impl_NextsAt.l0 k1 a1 a2 y608 l3 (l3.length : Int) (wrap64 (x21_1 + 1)) a0_0 a0_1 a0_2 l0_3) = some r := ry hy608 H
     have Ny608 := am hy608
     clear hy608
     have H' := am H
     clear H
     obtain ⟨p606, q606, ad606, e606, _, hx606_0⟩ := at_i HR3 HB x21_1
     cases e606
     obtain ⟨hcz17_0, hcz17_1, hcz17_2, hcz17_3, hfz17_0, hfz17_1, hfz17_2, hfz17_3⟩ := cc4 BK601
     go_wp2_with (first | ((with_reducible refine gc 27 rfl ?_); refine gL (some 33) Try.func27 #[.agg #[.int .i64 a0_0, .int .i64 a0_1, .int .i64 a0_2, .slice A0_3 l0_3.length c0_3], .int .i64 x21_1, .int .i64 a1, .int .i64 (wrap64 (a2 + (rd l3 x21_1)))] ?_; (with_reducible refine (impl_HopAt.calls k1 a0_0 a0_1 a0_2 _ _ l0_3 x21_1 a1 (wrap64 (a2 + (rd l3 x21_1))) t607 _ ?side1 ?side2 A15.out).mono ?_); (case side1 => exact cb HR0_3); (case side2 => exact HC0_3.out); rintro e w18 ⟨rfl, hb⟩; refine ⟨_, rfl, ?_⟩; replace HO_9 := rb HO_9 hb; replace BK601 := bb BK601 hb; replace HB := bsw hb; (try clear hb); (try clear hk)) | ((with_reducible refine gate_builtin (b := .append) (xs := #[.tmp 26, .tmp 34]) rfl ?_); at_builtin; refine Kd.R_append (Kd.int .i64) (w0 := w) w.heap.size rfl (.tmp 26) (.tmp 34) 28 3 (.int .i64 0) 8 rfl Try.underlying28 info3 rfl (by decide) (by omega) u9 x9_1 t607 [.int .i64 t607] (fun _ => True) (fun _ => False) rfl rfl ?aP (fun _ hk => hk.elim) ?aF ?aO ?aB ?aS ?aL ?_; (case aP => exact rfl); (case aB => exact (sbw)); (case aF => exact (fun _ _ => trivial)); (case aO => exact (sr HO_9)); (case aS => exact (below_size (sbw))); (case aL => have := LMc16.out; omega); intro v609 w19 ho hb hg hat; rw [← Ny608.out] at ho; replace BK601 := am (blk_grown (g := gb601) (o := .cells #[.int .i64 a0_0, .int .i64 a0_1, .int .i64 a0_2, .slice A0_3 l0_3.length c0_3] 31 (0, 0)) (sk BK601) hg (Kd.R_ne HO_9.out BK601.out (by decide))); replace HB := am hb; have HO610 := am ho; clear HO_9; clear ho hb hg hat))
     go_roundg k1
     case measure => have := HK1.out; omega
     case rel => exact ⟨(y608), (wrap64 (x21_1 + 1)), sc, H', kk1, ⟨sr HO610⟩, ⟨sk BK601⟩, ⟨sbw⟩⟩
    ·obtain rfl := Option.some.inj H
     go_wp2
     go_ret
     exact ⟨_, se, sr HO_9, sbw⟩
 ·replace H := im H
  obtain rfl := Option.some.inj H
  go_enter Try.func23, Try.ntmps23
  go_wp2_with (first | ((with_reducible refine gd 4 rfl ?_); refine bx 4 #[.int .i64 a0_0, .int .i64 a0_1, .int .i64 a0_2, .slice A0_3 l0_3.length c0_3] 31 ?_; intro gb601 hg w20 hbox hb; have GW601 := bz w hg; have GE601 := bz w hg; replace HB := bs hb; have BK601 := am hbox; clear hb hbox hg) | ((with_reducible refine gd 12 rfl ?_); refine Kd.R_lit (Kd.int .i64) _ 3 ?hg (N := 12) ?hd (xs := ([] : List Int)) (inner := []) (ok := fun _ => True) (okp := fun _ => True) ?hr ?hp (fun _ hk => hk) trivial (Below.refl _ _) (Nat.le_refl _) (by simp) ?_; (case hd => rfl); (case hg => rfl); (case hr => first | (go_simp; done) | (go_simp; rfl)); (case hp => exact (Reps.none _ _)); intro v603 w21 ho22 hb hg_ hnew_; clear hg_ hnew_; (first | rw [← Ny602.out] at ho22 | (simp only [Int.reduceToNat] at ho22; rw [← Ny602.out] at ho22)); have HO604 := am (Kd.R_lower ho22 (below_size (sbw))); replace BK601 := bb BK601 hb; replace HB := bsw hb; clear hb ho22; obtain ⟨hcz23_0, hcz23_1, hcz23_2, hcz23_3, hfz23_0, hfz23_1, hfz23_2, hfz23_3⟩ := cc4 BK601) | ((with_reducible refine gc 83 rfl ?_); refine gL (some 16) Try.func83 #[.agg #[.int .i64 a0_0, .int .i64 a0_1, .int .i64 a0_2, .slice A0_3 l0_3.length c0_3], .int .i64 a2, .slice A3 l3.length c3] ?_; (with_reducible refine (impl_isMoment.calls k a0_0 a0_1 a0_2 _ _ l0_3 a2 _ _ l3 false _ ?side1 ?side2 ?side3 ?side4 A5.out).mono ?_); (case side1 => exact cb HR0_3); (case side2 => exact HC0_3.out); (case side3 => exact cb HR3); (case side4 => exact HC3.out); rintro e w24 ⟨rfl, hb⟩; refine ⟨_, rfl, ?_⟩; replace HO604 := rb HO604 hb; replace BK601 := bb BK601 hb; replace HB := bsw hb; (try clear hb); (try clear hk)))
  go_ret
  exact ⟨_, se, sr HO604, sbw⟩

def spec_AreOffsets.l0 : Nat → List Int → Int → Int → Int → Int → List (S105) → Option (Bool)
  | 0, _, _, _, _, _, _ => none
  | k + 1, x1, x5, x612000, x612001, x612002, x612003 => if x5 < (x1.length : Int) then ((spec_l1In.f x612002 0 5).bind fun t612 => (if t612 = true then (if 0 ≤ x5 then ((spec_l1In.f (rd x1 x5) (wrap64 (-x612002)) x612002).bind fun t614 => (if t614 = true then (spec_AreOffsets.l0 k x1 (wrap64 (x5 + 1)) x612000 x612001 x612002 x612003) else (some false))) else (none)) else (some false))) else (some ((x1.length : Int) == x612000))
def spec_AreOffsets.f (k : Nat) (a0_0 : Int) (a0_1 : Int) (a0_2 : Int) (l0_3 : List (S105)) (l1 : List Int) : Option (Bool) := spec_AreOffsets.l0 k l1 0 a0_0 a0_1 a0_2 l0_3
theorem spec_AreOffsets.mono_l : ∀ k, (∀ y0 y1 y2 y3 y4 y5, LeO (spec_AreOffsets.l0 k y0 y1 y2 y3 y4 y5) (spec_AreOffsets.l0 (k + 1) y0 y1 y2 y3 y4 y5))
  | 0 => fun _ _ _ _ _ _ r h => by simp [spec_AreOffsets.l0] at h
  | k + 1 => by
    have ih0 := spec_AreOffsets.mono_l k
    · intro y0 y1 y2 y3 y4 y5
      unfold spec_AreOffsets.l0
      exact mo
theorem spec_AreOffsets.mono : ∀ a0 a1 a2 a3 a4 k, LeO (spec_AreOffsets.f k a0 a1 a2 a3 a4) (spec_AreOffsets.f (k + 1) a0 a1 a2 a3 a4) := by
  intro a0 a1 a2 a3 a4 k
  have ih0 := spec_AreOffsets.mono_l k
  unfold spec_AreOffsets.f
  exact mo
theorem spec_AreOffsets.calls (k : Nat) (a0_0 : Int) (a0_1 : Int) (a0_2 : Int) (A0_3 : Option Addr) (c0_3 : Nat) (l0_3 : List (S105)) (A1 : Option Addr) (c1 : Nat) (l1 : List Int) (r : Bool) (w : World) (hr0_3 : Kd.C k105 w A0_3 l0_3.length l0_3) (hc0_3 : l0_3.length ≤ c0_3) (hr1 : Kd.C (Kd.int .i64) w A1 l1.length l1) (hc1 : l1.length ≤ c1) (h : spec_AreOffsets.f k a0_0 a0_1 a0_2 l0_3 l1 = some r) :
    Calls Try.prog 84 #[.agg #[.int .i64 a0_0, .int .i64 a0_1, .int .i64 a0_2, .slice A0_3 l0_3.length c0_3], .slice A1 l1.length c1] w fun e w' => e = .returned (.bool r) ∧ Below w.heap.size w w' := by
 have hu31 := Try.underlying31
 have HR0_3 := am hr0_3
 have HC0_3 := am hc0_3
 clear hr0_3 hc0_3
 have HR1 := am hr1
 have HC1 := am hc1
 clear hr1 hc1
 have HB := am (Below.refl w.heap.size w)
 have H := h; unfold spec_AreOffsets.f at H
 clear h
 have H' := am H
 clear H
 go_enter Try.func84, Try.ntmps84
 go_wp2_with (first | ((with_reducible refine gd 2 rfl ?_); refine bx 2 #[.int .i64 a0_0, .int .i64 a0_1, .int .i64 a0_2, .slice A0_3 l0_3.length c0_3] 31 ?_; intro gb611 hg w3 hbox hb; have GW611 := bz w hg; have GE611 := bz w hg; replace HB := bs hb; have BK611 := am hbox; clear hb hbox hg))
 repeat (go_quiet (first | ((with_reducible refine gd 2 rfl ?_); refine box_event ?hg (N := 2) ?hd (cs := #[.int .i64 a0_0, .int .i64 a0_1, .int .i64 a0_2, .slice A0_3 l0_3.length c0_3]) (t := 31) ?hr ?_; (case hd => rfl); (case hg => rfl); (case hr => first | (go_simp; done) | (go_simp; rfl)); intro gb611 hg w3 hbox hb; have n0_ := am (below_step (sb) hb); have n1_ := am (hbox); have n2_ := am ((by rw [hg]; exact (below_size (sb)) : w.heap.size ≤ gb611)); have n3_ := am ((by rw [hg]; exact (below_size (sb)) : w.heap.size ≤ gb611)); clear HB; have HB := n0_; have BK611 := n1_; have GW611 := n2_; have GE611 := n3_; clear n0_ n1_ n2_ n3_; clear hb hbox hg)); try go_wp2_with (first | ((with_reducible refine gd 2 rfl ?_); refine box_event ?hg (N := 2) ?hd (cs := #[.int .i64 a0_0, .int .i64 a0_1, .int .i64 a0_2, .slice A0_3 l0_3.length c0_3]) (t := 31) ?hr ?_; (case hd => rfl); (case hg => rfl); (case hr => first | (go_simp; done) | (go_simp; rfl)); intro gb611 hg w3 hbox hb; have n0_ := am (below_step (sb) hb); have n1_ := am (hbox); have n2_ := am ((by rw [hg]; exact (below_size (sb)) : w.heap.size ≤ gb611)); have n3_ := am ((by rw [hg]; exact (below_size (sb)) : w.heap.size ≤ gb611)); clear HB; have HB := n0_; have BK611 := n1_; have GW611 := n2_; have GE611 := n3_; clear n0_ n1_ n2_ n3_; clear hb hbox hg)))
 go_loopg [5] k (fun kq v5 w' => ∃ (x5_1 : Int), v5 = .int .i64 x5_1 ∧ Aside0 (spec_AreOffsets.l0 kq l1 x5_1 a0_0 a0_1 a0_2 l0_3 = some r) ∧ Aside0 (kq ≤ k) ∧ Aside0 (w'.heap[gb611]? = some (.cells #[.int .i64 a0_0, .int .i64 a0_1, .int .i64 a0_2, (.slice A0_3 l0_3.length c0_3)] 31 (0, 0))) ∧ Aside0 (Below w.heap.size w w'))
 case atStart => exact ⟨(0), sc, H', kk0, ⟨sk BK611⟩, ⟨sbw⟩⟩
 case round =>
  clear H'
  obtain ⟨x5_1, rfl, HA, HK1, BK611, HB⟩ := hrel
  cases gk with
  | zero => exact absurd HA.out (by simp [spec_AreOffsets.l0])
  | succ k1 =>
   have H := HA.out
   clear HA
   simp only [spec_AreOffsets.l0] at H
   obtain ⟨-, c4b0, H⟩ | ⟨-, c4b0, H⟩ := ic_ H
   ·obtain ⟨t612, A5, H⟩ := bnd H
    obtain rfl | rfl := tt t612
    ·replace H := ip H
     obtain ⟨c7b0, H⟩ := id_ H
     obtain ⟨t614, A8, H⟩ := bnd H
     obtain rfl | rfl := tt t614
     ·replace H := ip H
      have H' := am H
      clear H
      obtain ⟨hcz10_0, hcz10_1, hcz10_2, hcz10_3, hfz10_0, hfz10_1, hfz10_2, hfz10_3⟩ := cc4 BK611
      go_wp2_with (first | (go_at_call 85; (with_reducible refine (spec_l1In.calls a0_2 0 5 true _ A5.out).mono ?_); rintro e w' ⟨rfl, ⟨nd, rfl⟩⟩; (try first | exact ⟨rfl, _, World.drewN_drewN _ _ _⟩ | exact ⟨rfl, _, Eq.trans (World.drewN_drewN _ _ _) (congrArg (World.drewN _) (Nat.add_assoc _ _ _))⟩); obtain ⟨p613, q613, ad613, e613, _, hx613_0⟩ := at_i HR1 HB x5_1; cases e613) | (go_at_call 85; (try simp only [i64_w, i32_w]); (with_reducible refine (spec_l1In.calls (rd l1 x5_1) (wrap64 (-a0_2)) a0_2 true _ A8.out).mono ?_); rintro e w' ⟨rfl, ⟨nd, rfl⟩⟩; (try first | exact ⟨rfl, _, World.drewN_drewN _ _ _⟩ | exact ⟨rfl, _, Eq.trans (World.drewN_drewN _ _ _) (congrArg (World.drewN _) (Nat.add_assoc _ _ _))⟩)))
      repeat (go_quiet (first | (go_at_call 85; (with_reducible refine (spec_l1In.calls a0_2 0 5 true _ A5.out).mono ?_); rintro e w' ⟨rfl, ⟨nd, rfl⟩⟩; (try first | exact ⟨rfl, _, World.drewN_drewN _ _ _⟩ | exact ⟨rfl, _, Eq.trans (World.drewN_drewN _ _ _) (congrArg (World.drewN _) (Nat.add_assoc _ _ _))⟩); have p613 : 0 ≤ (x5_1 : Int) := sa; have q613 : x5_1 < (l1.length : Int) := sa; obtain ⟨ad613, e613, hx613_0⟩ := Kd.at_int HR1.out x5_1 p613 q613; cases e613; replace hx613_0 := hb_ HB hx613_0; replace p613 := eq_true p613; replace q613 := eq_true q613) | (go_at_call 85; (try simp only [i64_w, i32_w]); (with_reducible refine (spec_l1In.calls (rd l1 x5_1) (wrap64 (-a0_2)) a0_2 true _ A8.out).mono ?_); rintro e w' ⟨rfl, ⟨nd, rfl⟩⟩; (try first | exact ⟨rfl, _, World.drewN_drewN _ _ _⟩ | exact ⟨rfl, _, Eq.trans (World.drewN_drewN _ _ _) (congrArg (World.drewN _) (Nat.add_assoc _ _ _))⟩))); try go_wp2_with (first | (go_at_call 85; (with_reducible refine (spec_l1In.calls a0_2 0 5 true _ A5.out).mono ?_); rintro e w' ⟨rfl, ⟨nd, rfl⟩⟩; (try first | exact ⟨rfl, _, World.drewN_drewN _ _ _⟩ | exact ⟨rfl, _, Eq.trans (World.drewN_drewN _ _ _) (congrArg (World.drewN _) (Nat.add_assoc _ _ _))⟩); have p613 : 0 ≤ (x5_1 : Int) := sa; have q613 : x5_1 < (l1.length : Int) := sa; obtain ⟨ad613, e613, hx613_0⟩ := Kd.at_int HR1.out x5_1 p613 q613; cases e613; replace hx613_0 := hb_ HB hx613_0; replace p613 := eq_true p613; replace q613 := eq_true q613) | (go_at_call 85; (try simp only [i64_w, i32_w]); (with_reducible refine (spec_l1In.calls (rd l1 x5_1) (wrap64 (-a0_2)) a0_2 true _ A8.out).mono ?_); rintro e w' ⟨rfl, ⟨nd, rfl⟩⟩; (try first | exact ⟨rfl, _, World.drewN_drewN _ _ _⟩ | exact ⟨rfl, _, Eq.trans (World.drewN_drewN _ _ _) (congrArg (World.drewN _) (Nat.add_assoc _ _ _))⟩))))
      go_roundg k1
      case measure => have := HK1.out; omega
      case rel => exact ⟨(wrap64 (x5_1 + 1)), sc, H', kk1, ⟨sk BK611⟩, ⟨sbw⟩⟩
     ·replace H := im H
      obtain rfl := Option.some.inj H
      obtain ⟨hcz11_0, hcz11_1, hcz11_2, hcz11_3, hfz11_0, hfz11_1, hfz11_2, hfz11_3⟩ := cc4 BK611
      go_wp2_with (first | (go_at_call 85; (with_reducible refine (spec_l1In.calls a0_2 0 5 true _ A5.out).mono ?_); rintro e w' ⟨rfl, ⟨nd, rfl⟩⟩; (try first | exact ⟨rfl, _, World.drewN_drewN _ _ _⟩ | exact ⟨rfl, _, Eq.trans (World.drewN_drewN _ _ _) (congrArg (World.drewN _) (Nat.add_assoc _ _ _))⟩); obtain ⟨p613, q613, ad613, e613, _, hx613_0⟩ := at_i HR1 HB x5_1; cases e613) | (go_at_call 85; (try simp only [i64_w, i32_w]); (with_reducible refine (spec_l1In.calls (rd l1 x5_1) (wrap64 (-a0_2)) a0_2 false _ A8.out).mono ?_); rintro e w' ⟨rfl, ⟨nd, rfl⟩⟩; (try first | exact ⟨rfl, _, World.drewN_drewN _ _ _⟩ | exact ⟨rfl, _, Eq.trans (World.drewN_drewN _ _ _) (congrArg (World.drewN _) (Nat.add_assoc _ _ _))⟩)))
      repeat (go_quiet (first | (go_at_call 85; (with_reducible refine (spec_l1In.calls a0_2 0 5 true _ A5.out).mono ?_); rintro e w' ⟨rfl, ⟨nd, rfl⟩⟩; (try first | exact ⟨rfl, _, World.drewN_drewN _ _ _⟩ | exact ⟨rfl, _, Eq.trans (World.drewN_drewN _ _ _) (congrArg (World.drewN _) (Nat.add_assoc _ _ _))⟩); have p613 : 0 ≤ (x5_1 : Int) := sa; have q613 : x5_1 < (l1.length : Int) := sa; obtain ⟨ad613, e613, hx613_0⟩ := Kd.at_int HR1.out x5_1 p613 q613; cases e613; replace hx613_0 := hb_ HB hx613_0; replace p613 := eq_true p613; replace q613 := eq_true q613) | (go_at_call 85; (try simp only [i64_w, i32_w]); (with_reducible refine (spec_l1In.calls (rd l1 x5_1) (wrap64 (-a0_2)) a0_2 false _ A8.out).mono ?_); rintro e w' ⟨rfl, ⟨nd, rfl⟩⟩; (try first | exact ⟨rfl, _, World.drewN_drewN _ _ _⟩ | exact ⟨rfl, _, Eq.trans (World.drewN_drewN _ _ _) (congrArg (World.drewN _) (Nat.add_assoc _ _ _))⟩))); try go_wp2_with (first | (go_at_call 85; (with_reducible refine (spec_l1In.calls a0_2 0 5 true _ A5.out).mono ?_); rintro e w' ⟨rfl, ⟨nd, rfl⟩⟩; (try first | exact ⟨rfl, _, World.drewN_drewN _ _ _⟩ | exact ⟨rfl, _, Eq.trans (World.drewN_drewN _ _ _) (congrArg (World.drewN _) (Nat.add_assoc _ _ _))⟩); have p613 : 0 ≤ (x5_1 : Int) := sa; have q613 : x5_1 < (l1.length : Int) := sa; obtain ⟨ad613, e613, hx613_0⟩ := Kd.at_int HR1.out x5_1 p613 q613; cases e613; replace hx613_0 := hb_ HB hx613_0; replace p613 := eq_true p613; replace q613 := eq_true q613) | (go_at_call 85; (try simp only [i64_w, i32_w]); (with_reducible refine (spec_l1In.calls (rd l1 x5_1) (wrap64 (-a0_2)) a0_2 false _ A8.out).mono ?_); rintro e w' ⟨rfl, ⟨nd, rfl⟩⟩; (try first | exact ⟨rfl, _, World.drewN_drewN _ _ _⟩ | exact ⟨rfl, _, Eq.trans (World.drewN_drewN _ _ _) (congrArg (World.drewN _) (Nat.add_assoc _ _ _))⟩))))
      go_ret
      exact ⟨se, sbw⟩
    ·replace H := im H
     obtain rfl := Option.some.inj H
     obtain ⟨hcz12_0, hcz12_1, hcz12_2, hcz12_3, hfz12_0, hfz12_1, hfz12_2, hfz12_3⟩ := cc4 BK611
     go_wp2_with (first | (go_at_call 85; (with_reducible refine (spec_l1In.calls a0_2 0 5 false _ A5.out).mono ?_); rintro e w' ⟨rfl, ⟨nd, rfl⟩⟩; (try first | exact ⟨rfl, _, World.drewN_drewN _ _ _⟩ | exact ⟨rfl, _, Eq.trans (World.drewN_drewN _ _ _) (congrArg (World.drewN _) (Nat.add_assoc _ _ _))⟩)))
     repeat (go_quiet (first | (go_at_call 85; (with_reducible refine (spec_l1In.calls a0_2 0 5 false _ A5.out).mono ?_); rintro e w' ⟨rfl, ⟨nd, rfl⟩⟩; (try first | exact ⟨rfl, _, World.drewN_drewN _ _ _⟩ | exact ⟨rfl, _, Eq.trans (World.drewN_drewN _ _ _) (congrArg (World.drewN _) (Nat.add_assoc _ _ _))⟩))); try go_wp2_with (first | (go_at_call 85; (with_reducible refine (spec_l1In.calls a0_2 0 5 false _ A5.out).mono ?_); rintro e w' ⟨rfl, ⟨nd, rfl⟩⟩; (try first | exact ⟨rfl, _, World.drewN_drewN _ _ _⟩ | exact ⟨rfl, _, Eq.trans (World.drewN_drewN _ _ _) (congrArg (World.drewN _) (Nat.add_assoc _ _ _))⟩))))
     go_ret
     exact ⟨se, sbw⟩
   ·obtain rfl := Option.some.inj H
    obtain ⟨hcz13_0, hcz13_1, hcz13_2, hcz13_3, hfz13_0, hfz13_1, hfz13_2, hfz13_3⟩ := cc4 BK611
    go_wp2
    repeat (go_quiet (fail); try go_wp2)
    go_ret
    exact ⟨se, sbw⟩

def spec_PiecesIn.l0 : Nat → Int → Int → List Int → Int → Int → Int → Int → List (S105) → Option (List Int)
  | 0, _, _, _, _, _, _, _, _ => none
  | k + 1, x1, x2, x7, x8, x616000, x616001, x616002, x616003 => if x8 < (x616003.length : Int) then (if 0 ≤ x8 then ((spec_IsSpan.f ((rd_T105 x616003 x8).f0.f0) ((rd_T105 x616003 x8).f0.f1)).bind fun t621 => (if t621 = true then (if x1 ≤ x2 then (if ((rd_T105 x616003 x8).f0.f0) ≤ x2 then (if x1 < ((rd_T105 x616003 x8).f0.f1) then (if x7.length < 17592186044416 then (spec_PiecesIn.l0 k x1 x2 (x7 ++ [x8]) (wrap64 (x8 + 1)) x616000 x616001 x616002 x616003) else (none)) else (spec_PiecesIn.l0 k x1 x2 x7 (wrap64 (x8 + 1)) x616000 x616001 x616002 x616003)) else (spec_PiecesIn.l0 k x1 x2 x7 (wrap64 (x8 + 1)) x616000 x616001 x616002 x616003)) else (spec_PiecesIn.l0 k x1 x2 x7 (wrap64 (x8 + 1)) x616000 x616001 x616002 x616003)) else (spec_PiecesIn.l0 k x1 x2 x7 (wrap64 (x8 + 1)) x616000 x616001 x616002 x616003))) else (none)) else (some x7)
def spec_PiecesIn.f (k : Nat) (a0_0 : Int) (a0_1 : Int) (a0_2 : Int) (l0_3 : List (S105)) (a1 : Int) (a2 : Int) : Option (List Int) := spec_PiecesIn.l0 k a1 a2 (([] : List Int)) 0 a0_0 a0_1 a0_2 l0_3
theorem spec_PiecesIn.mono_l : ∀ k, (∀ y0 y1 y2 y3 y4 y5 y6 y7, LeO (spec_PiecesIn.l0 k y0 y1 y2 y3 y4 y5 y6 y7) (spec_PiecesIn.l0 (k + 1) y0 y1 y2 y3 y4 y5 y6 y7))
  | 0 => fun _ _ _ _ _ _ _ _ r h => by simp [spec_PiecesIn.l0] at h
  | k + 1 => by
    have ih0 := spec_PiecesIn.mono_l k
    · intro y0 y1 y2 y3 y4 y5 y6 y7
      unfold spec_PiecesIn.l0
      exact mo
theorem spec_PiecesIn.mono : ∀ a0 a1 a2 a3 a4 a5 k, LeO (spec_PiecesIn.f k a0 a1 a2 a3 a4 a5) (spec_PiecesIn.f (k + 1) a0 a1 a2 a3 a4 a5) := by
  intro a0 a1 a2 a3 a4 a5 k
  have ih0 := spec_PiecesIn.mono_l k
  unfold spec_PiecesIn.f
  exact mo
theorem spec_PiecesIn.calls (k : Nat) (a0_0 : Int) (a0_1 : Int) (a0_2 : Int) (A0_3 : Option Addr) (c0_3 : Nat) (l0_3 : List (S105)) (a1 : Int) (a2 : Int) (r : List Int) (w : World) (hr0_3 : Kd.C k105 w A0_3 l0_3.length l0_3) (hc0_3 : l0_3.length ≤ c0_3) (h : spec_PiecesIn.f k a0_0 a0_1 a0_2 l0_3 a1 a2 = some r) :
    Calls Try.prog 18 #[.agg #[.int .i64 a0_0, .int .i64 a0_1, .int .i64 a0_2, .slice A0_3 l0_3.length c0_3], .int .i64 a1, .int .i64 a2] w fun e w' => ∃ v0_ : Value, e = .returned (v0_) ∧ Kd.R (Kd.int .i64) 3 w' w.heap.size (fun _ => True) v0_ r ∧ Below w.heap.size w w' := by
 have hu31 := Try.underlying31
 have hu102 := Try.underlying102
 have HR0_3 := am hr0_3
 have HC0_3 := am hc0_3
 clear hr0_3 hc0_3
 have HB := am (Below.refl w.heap.size w)
 have H := h; unfold spec_PiecesIn.f at H
 clear h
 obtain ⟨y616, hy616⟩ : ∃ y_ : List Int, y_ = (([] : List Int)) := ⟨_, rfl⟩
 replace H : (spec_PiecesIn.l0 k a1 a2 y616 0 a0_0 a0_1 a0_2 l0_3) = some r := ry hy616 H
 have Ny616 := am hy616
 clear hy616
 have H' := am H
 clear H
 go_enter Try.func18, Try.ntmps18
 go_wp2_with (first | ((with_reducible refine gd 3 rfl ?_); refine bx 3 #[.int .i64 a0_0, .int .i64 a0_1, .int .i64 a0_2, .slice A0_3 l0_3.length c0_3] 31 ?_; intro gb615 hg w4 hbox hb; have GW615 := bz w hg; have GE615 := bz w hg; replace HB := bs hb; have BK615 := am hbox; clear hb hbox hg) | ((with_reducible refine gd 10 rfl ?_); refine Kd.R_lit (Kd.int .i64) _ 3 ?hg (N := 10) ?hd (xs := ([] : List Int)) (inner := []) (ok := fun _ => True) (okp := fun _ => True) ?hr ?hp (fun _ hk => hk) trivial (Below.refl _ _) (Nat.le_refl _) (by simp) ?_; (case hd => rfl); (case hg => rfl); (case hr => first | (go_simp; done) | (go_simp; rfl)); (case hp => exact (Reps.none _ _)); intro v617 w5 ho6 hb hg_ hnew_; clear hg_ hnew_; (first | rw [← Ny616.out] at ho6 | (simp only [Int.reduceToNat] at ho6; rw [← Ny616.out] at ho6)); have HO618 := am (Kd.R_lower ho6 (below_size (sbw))); replace BK615 := bb BK615 hb; replace HB := bsw hb; clear hb ho6))
 go_loopg [7, 8] k (fun kq v7 v8 w' => ∃ (x7_1 : List Int) (x8_1 : Int), v8 = .int .i64 x8_1 ∧ Aside0 (spec_PiecesIn.l0 kq a1 a2 x7_1 x8_1 a0_0 a0_1 a0_2 l0_3 = some r) ∧ Aside0 (kq ≤ k) ∧ Aside0 (Kd.R (Kd.int .i64) 3 w' w.heap.size (fun _ => True) v7 x7_1) ∧ Aside0 (w'.heap[gb615]? = some (.cells #[.int .i64 a0_0, .int .i64 a0_1, .int .i64 a0_2, (.slice A0_3 l0_3.length c0_3)] 31 (0, 0))) ∧ Aside0 (Below w.heap.size w w'))
 case atStart => exact ⟨(y616), (0), sc, H', kk0, ⟨sr HO618⟩, ⟨sk BK615⟩, ⟨sbw⟩⟩
 case round =>
  clear H'
  obtain ⟨x7_1, x8_1, rfl, HA, HK1, HO_7, BK615, HB⟩ := hrel
  cases gk with
  | zero => exact absurd HA.out (by simp [spec_PiecesIn.l0])
  | succ k1 =>
   have H := HA.out
   clear HA
   simp only [spec_PiecesIn.l0] at H
   obtain ⟨-, c7b0, H⟩ | ⟨-, c7b0, H⟩ := ic_ H
   ·obtain ⟨c8b0, H⟩ := id_ H
    obtain ⟨t621, A9, H⟩ := bnd H
    obtain rfl | rfl := tt t621
    ·replace H := ip H
     obtain ⟨-, c11b0, H⟩ | ⟨-, c11b0, H⟩ := ic_ H
     ·obtain ⟨-, c12b0, H⟩ | ⟨-, c12b0, H⟩ := ic_ H
      ·obtain ⟨-, c13b0, H⟩ | ⟨-, c13b0, H⟩ := ic_ H
       ·obtain ⟨LMc14, H⟩ := il_ H
        obtain ⟨y622, hy622⟩ : ∃ y_ : List Int, y_ = (x7_1 ++ [x8_1]) := ⟨_, rfl⟩
        replace H : (spec_PiecesIn.l0 k1 a1 a2 y622 (wrap64 (x8_1 + 1)) a0_0 a0_1 a0_2 l0_3) = some r := ry hy622 H
        have Ny622 := am hy622
        clear hy622
        have H' := am H
        clear H
        obtain ⟨hcz15_0, hcz15_1, hcz15_2, hcz15_3, hfz15_0, hfz15_1, hfz15_2, hfz15_3⟩ := cc4 BK615
        obtain ⟨p619, q619, ad619, A619_2, c619_2, A619_3, c619_3, e619, _, _, _, _, hx619_0, hx619_1, hx619_2, hx619_3, HC619_2, HR619_2, HC619_3, HR619_3⟩ := aT_T105 HR0_3 HB x8_1
        cases e619
        go_wp2_with (first | ((with_reducible refine gd 9 rfl ?_); refine bx 9 #[.int .i64 0, .int .i64 0] 102 ?_; intro gb620 hg w16 hbox hb; replace HO_7 := rb HO_7 hb; have GW620 := bzw w hg; have GE620 := bzw w hg; replace HB := bsw hb; have BK620 := am hbox; have NB615_620 := nl BK615 hg; have NB620_615 := ng BK615 hg; replace BK615 := bb BK615 hb; clear hb hbox hg; have hnb17 := NB620_615.out; have hnc17 := NB615_620.out; obtain ⟨hcz18_0, hcz18_1, hfz18_0, hfz18_1⟩ := cc2 BK620) | ((with_reducible refine gc 80 rfl ?_); refine gL (some 25) Try.func80 #[.agg #[.int .i64 ((rd_T105 l0_3 x8_1).f0.f0), .int .i64 ((rd_T105 l0_3 x8_1).f0.f1)]] ?_; (with_reducible refine (spec_IsSpan.calls ((rd_T105 l0_3 x8_1).f0.f0) ((rd_T105 l0_3 x8_1).f0.f1) true _ A9.out).mono ?_); rintro e w19 ⟨rfl, hb⟩; refine ⟨_, rfl, ?_⟩; replace HO_7 := am (Kd.R_below a17_0 hb); replace BK615 := am (blk_below (g := gb615) (o := .cells #[.int .i64 a0_0, .int .i64 a0_1, .int .i64 a0_2, .slice (some ad619) l0_3.length c0_3] 31 (0, 0)) (sp BK615) hb); replace BK620 := am (blk_below (g := gb620) (o := .cells #[.int .i64 ((rd_T105 l0_3 x8_1).f0.f0), .int .i64 ((rd_T105 l0_3 x8_1).f0.f1)] 102 (0, 0)) (sp BK620) hb); replace HB := bsw hb; (try clear hb); (try clear hk); obtain ⟨hcz20_0, hcz20_1, hfz20_0, hfz20_1⟩ := cc2 BK620) | ((with_reducible refine gate_builtin (b := .append) (xs := #[.tmp 43, .tmp 45]) rfl ?_); at_builtin; refine Kd.R_append (Kd.int .i64) (w0 := w) w.heap.size rfl (.tmp 43) (.tmp 45) 28 3 (.int .i64 0) 8 rfl Try.underlying28 info3 rfl (by decide) (by omega) u7 x7_1 x8_1 [.int .i64 x8_1] (fun _ => True) (fun _ => False) rfl rfl ?aP (fun _ hk => hk.elim) ?aF ?aO ?aB ?aS ?aL ?_; (case aP => exact rfl); (case aB => exact (sbw)); (case aF => exact (fun _ _ => trivial)); (case aO => exact (sr HO_7)); (case aS => exact (below_size (sbw))); (case aL => have := LMc14.out; omega); intro v623 w21 ho hb hg hat; rw [← Ny622.out] at ho; replace BK615 := am (blk_grown (g := gb615) (o := .cells #[.int .i64 a0_0, .int .i64 a0_1, .int .i64 a0_2, .slice (some ad619) l0_3.length c0_3] 31 (0, 0)) (sk BK615) hg (Kd.R_ne HO_7.out BK615.out (by decide))); replace BK620 := am (blk_grown (g := gb620) (o := .cells #[.int .i64 ((rd_T105 l0_3 x8_1).f0.f0), .int .i64 ((rd_T105 l0_3 x8_1).f0.f1)] 102 (0, 0)) (sk BK620) hg (Kd.R_ne HO_7.out BK620.out (by decide))); replace HB := am hb; have HO624 := am ho; clear HO_7; clear ho hb hg hat))
        go_roundg k1
        case measure => have := HK1.out; omega
        case rel => exact ⟨(y622), (wrap64 (x8_1 + 1)), sc, H', kk1, ⟨sr HO624⟩, ⟨sk BK615⟩, ⟨sbw⟩⟩
       ·have H' := am H
        clear H
        obtain ⟨hcz22_0, hcz22_1, hcz22_2, hcz22_3, hfz22_0, hfz22_1, hfz22_2, hfz22_3⟩ := cc4 BK615
        obtain ⟨p619, q619, ad619, A619_2, c619_2, A619_3, c619_3, e619, _, _, _, _, hx619_0, hx619_1, hx619_2, hx619_3, HC619_2, HR619_2, HC619_3, HR619_3⟩ := aT_T105 HR0_3 HB x8_1
        cases e619
        go_wp2_with (first | ((with_reducible refine gd 9 rfl ?_); refine bx 9 #[.int .i64 0, .int .i64 0] 102 ?_; intro gb620 hg w23 hbox hb; replace HO_7 := rb HO_7 hb; have GW620 := bzw w hg; have GE620 := bzw w hg; replace HB := bsw hb; have BK620 := am hbox; have NB615_620 := nl BK615 hg; have NB620_615 := ng BK615 hg; replace BK615 := bb BK615 hb; clear hb hbox hg; have hnb24 := NB620_615.out; have hnc24 := NB615_620.out; obtain ⟨hcz25_0, hcz25_1, hfz25_0, hfz25_1⟩ := cc2 BK620) | ((with_reducible refine gc 80 rfl ?_); refine gL (some 25) Try.func80 #[.agg #[.int .i64 ((rd_T105 l0_3 x8_1).f0.f0), .int .i64 ((rd_T105 l0_3 x8_1).f0.f1)]] ?_; (with_reducible refine (spec_IsSpan.calls ((rd_T105 l0_3 x8_1).f0.f0) ((rd_T105 l0_3 x8_1).f0.f1) true _ A9.out).mono ?_); rintro e w26 ⟨rfl, hb⟩; refine ⟨_, rfl, ?_⟩; replace HO_7 := am (Kd.R_below a17_0 hb); replace BK615 := am (blk_below (g := gb615) (o := .cells #[.int .i64 a0_0, .int .i64 a0_1, .int .i64 a0_2, .slice (some ad619) l0_3.length c0_3] 31 (0, 0)) (sp BK615) hb); replace BK620 := am (blk_below (g := gb620) (o := .cells #[.int .i64 ((rd_T105 l0_3 x8_1).f0.f0), .int .i64 ((rd_T105 l0_3 x8_1).f0.f1)] 102 (0, 0)) (sp BK620) hb); replace HB := bsw hb; (try clear hb); (try clear hk); obtain ⟨hcz27_0, hcz27_1, hfz27_0, hfz27_1⟩ := cc2 BK620))
        go_roundg k1
        case measure => have := HK1.out; omega
        case rel => exact ⟨(x7_1), (wrap64 (x8_1 + 1)), sc, H', kk1, ⟨sr HO_7⟩, ⟨sk BK615⟩, ⟨sbw⟩⟩
      ·have H' := am H
       clear H
       obtain ⟨hcz28_0, hcz28_1, hcz28_2, hcz28_3, hfz28_0, hfz28_1, hfz28_2, hfz28_3⟩ := cc4 BK615
       obtain ⟨p619, q619, ad619, A619_2, c619_2, A619_3, c619_3, e619, _, _, _, _, hx619_0, hx619_1, hx619_2, hx619_3, HC619_2, HR619_2, HC619_3, HR619_3⟩ := aT_T105 HR0_3 HB x8_1
       cases e619
       go_wp2_with (first | ((with_reducible refine gd 9 rfl ?_); refine bx 9 #[.int .i64 0, .int .i64 0] 102 ?_; intro gb620 hg w29 hbox hb; replace HO_7 := rb HO_7 hb; have GW620 := bzw w hg; have GE620 := bzw w hg; replace HB := bsw hb; have BK620 := am hbox; have NB615_620 := nl BK615 hg; have NB620_615 := ng BK615 hg; replace BK615 := bb BK615 hb; clear hb hbox hg; have hnb30 := NB620_615.out; have hnc30 := NB615_620.out; obtain ⟨hcz31_0, hcz31_1, hfz31_0, hfz31_1⟩ := cc2 BK620) | ((with_reducible refine gc 80 rfl ?_); refine gL (some 25) Try.func80 #[.agg #[.int .i64 ((rd_T105 l0_3 x8_1).f0.f0), .int .i64 ((rd_T105 l0_3 x8_1).f0.f1)]] ?_; (with_reducible refine (spec_IsSpan.calls ((rd_T105 l0_3 x8_1).f0.f0) ((rd_T105 l0_3 x8_1).f0.f1) true _ A9.out).mono ?_); rintro e w32 ⟨rfl, hb⟩; refine ⟨_, rfl, ?_⟩; replace HO_7 := am (Kd.R_below a17_0 hb); replace BK615 := am (blk_below (g := gb615) (o := .cells #[.int .i64 a0_0, .int .i64 a0_1, .int .i64 a0_2, .slice (some ad619) l0_3.length c0_3] 31 (0, 0)) (sp BK615) hb); replace BK620 := am (blk_below (g := gb620) (o := .cells #[.int .i64 ((rd_T105 l0_3 x8_1).f0.f0), .int .i64 ((rd_T105 l0_3 x8_1).f0.f1)] 102 (0, 0)) (sp BK620) hb); replace HB := bsw hb; (try clear hb); (try clear hk); obtain ⟨hcz33_0, hcz33_1, hfz33_0, hfz33_1⟩ := cc2 BK620))
       go_roundg k1
       case measure => have := HK1.out; omega
       case rel => exact ⟨(x7_1), (wrap64 (x8_1 + 1)), sc, H', kk1, ⟨sr HO_7⟩, ⟨sk BK615⟩, ⟨sbw⟩⟩
     ·have H' := am H
      clear H
      obtain ⟨hcz34_0, hcz34_1, hcz34_2, hcz34_3, hfz34_0, hfz34_1, hfz34_2, hfz34_3⟩ := cc4 BK615
      obtain ⟨p619, q619, ad619, A619_2, c619_2, A619_3, c619_3, e619, _, _, _, _, hx619_0, hx619_1, hx619_2, hx619_3, HC619_2, HR619_2, HC619_3, HR619_3⟩ := aT_T105 HR0_3 HB x8_1
      cases e619
      go_wp2_with (first | ((with_reducible refine gd 9 rfl ?_); refine bx 9 #[.int .i64 0, .int .i64 0] 102 ?_; intro gb620 hg w35 hbox hb; replace HO_7 := rb HO_7 hb; have GW620 := bzw w hg; have GE620 := bzw w hg; replace HB := bsw hb; have BK620 := am hbox; have NB615_620 := nl BK615 hg; have NB620_615 := ng BK615 hg; replace BK615 := bb BK615 hb; clear hb hbox hg; have hnb36 := NB620_615.out; have hnc36 := NB615_620.out; obtain ⟨hcz37_0, hcz37_1, hfz37_0, hfz37_1⟩ := cc2 BK620) | ((with_reducible refine gc 80 rfl ?_); refine gL (some 25) Try.func80 #[.agg #[.int .i64 ((rd_T105 l0_3 x8_1).f0.f0), .int .i64 ((rd_T105 l0_3 x8_1).f0.f1)]] ?_; (with_reducible refine (spec_IsSpan.calls ((rd_T105 l0_3 x8_1).f0.f0) ((rd_T105 l0_3 x8_1).f0.f1) true _ A9.out).mono ?_); rintro e w38 ⟨rfl, hb⟩; refine ⟨_, rfl, ?_⟩; replace HO_7 := am (Kd.R_below a17_0 hb); replace BK615 := am (blk_below (g := gb615) (o := .cells #[.int .i64 a0_0, .int .i64 a0_1, .int .i64 a0_2, .slice (some ad619) l0_3.length c0_3] 31 (0, 0)) (sp BK615) hb); replace BK620 := am (blk_below (g := gb620) (o := .cells #[.int .i64 ((rd_T105 l0_3 x8_1).f0.f0), .int .i64 ((rd_T105 l0_3 x8_1).f0.f1)] 102 (0, 0)) (sp BK620) hb); replace HB := bsw hb; (try clear hb); (try clear hk)))
      go_roundg k1
      case measure => have := HK1.out; omega
      case rel => exact ⟨(x7_1), (wrap64 (x8_1 + 1)), sc, H', kk1, ⟨sr HO_7⟩, ⟨sk BK615⟩, ⟨sbw⟩⟩
    ·replace H := im H
     have H' := am H
     clear H
     obtain ⟨hcz39_0, hcz39_1, hcz39_2, hcz39_3, hfz39_0, hfz39_1, hfz39_2, hfz39_3⟩ := cc4 BK615
     obtain ⟨p619, q619, ad619, A619_2, c619_2, A619_3, c619_3, e619, _, _, _, _, hx619_0, hx619_1, hx619_2, hx619_3, HC619_2, HR619_2, HC619_3, HR619_3⟩ := aT_T105 HR0_3 HB x8_1
     cases e619
     go_wp2_with (first | ((with_reducible refine gd 9 rfl ?_); refine bx 9 #[.int .i64 0, .int .i64 0] 102 ?_; intro gb620 hg w40 hbox hb; replace HO_7 := rb HO_7 hb; have GW620 := bzw w hg; have GE620 := bzw w hg; replace HB := bsw hb; have BK620 := am hbox; have NB615_620 := nl BK615 hg; have NB620_615 := ng BK615 hg; replace BK615 := bb BK615 hb; clear hb hbox hg; have hnb41 := NB620_615.out; have hnc41 := NB615_620.out; obtain ⟨hcz42_0, hcz42_1, hfz42_0, hfz42_1⟩ := cc2 BK620) | ((with_reducible refine gc 80 rfl ?_); refine gL (some 25) Try.func80 #[.agg #[.int .i64 ((rd_T105 l0_3 x8_1).f0.f0), .int .i64 ((rd_T105 l0_3 x8_1).f0.f1)]] ?_; (with_reducible refine (spec_IsSpan.calls ((rd_T105 l0_3 x8_1).f0.f0) ((rd_T105 l0_3 x8_1).f0.f1) false _ A9.out).mono ?_); rintro e w43 ⟨rfl, hb⟩; refine ⟨_, rfl, ?_⟩; replace HO_7 := am (Kd.R_below a17_0 hb); replace BK615 := am (blk_below (g := gb615) (o := .cells #[.int .i64 a0_0, .int .i64 a0_1, .int .i64 a0_2, .slice (some ad619) l0_3.length c0_3] 31 (0, 0)) (sp BK615) hb); replace BK620 := am (blk_below (g := gb620) (o := .cells #[.int .i64 ((rd_T105 l0_3 x8_1).f0.f0), .int .i64 ((rd_T105 l0_3 x8_1).f0.f1)] 102 (0, 0)) (sp BK620) hb); replace HB := bsw hb; (try clear hb); (try clear hk)))
     go_roundg k1
     case measure => have := HK1.out; omega
     case rel => exact ⟨(x7_1), (wrap64 (x8_1 + 1)), sc, H', kk1, ⟨sr HO_7⟩, ⟨sk BK615⟩, ⟨sbw⟩⟩
   ·obtain rfl := Option.some.inj H
    obtain ⟨hcz44_0, hcz44_1, hcz44_2, hcz44_3, hfz44_0, hfz44_1, hfz44_2, hfz44_3⟩ := cc4 BK615
    go_wp2
    go_ret
    exact ⟨_, se, sr HO_7, sbw⟩

end Go.Proofs.Ytiihaabhjphaeaa.QFnNoLoops
