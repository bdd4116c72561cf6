/- What the Go functions of the law FnExactNextsAt come to, as Lean functions, and that they do: by a program of the session, out of the kit's printer. Conditions: none. (squeezed). -/
import Derived.Test.YtlakjlolahjphaaVFnExactNextsAtSq
import Derived.Test.YtlakjlolahjphaaVFnExactNextsAtQFnExactNextsAtx0
import Derived.Test.YtlakjlolahjphaaVFnExactNextsAtQFnExactNextsAtx12
import Derived.Test.YtlakjlolahjphaaVFnExactNextsAtQFnExactNextsAtx15
namespace Go.Proofs.Ytlakjlolahjphaa.QFnExactNextsAt
open Go.RowKit Go.Proofs.YtlakjlolahjphaaW.PrintWords Go.Proofs.YtlakjlolahjphaaW.PrintLast Go.Proofs.YtlakjlolahjphaaW.PrintMore Go.Proofs.Ytlakjlolahjphaa.Open Go.Proofs.Ytlakjlolahjphaa.Sq
attribute [local go_sem] max2_int min2_int max_two min_two max_three min_three max_four min_four   -- for this text's walks alone
attribute [local go_sem] isSome_set
set_option linter.unusedVariables false
set_option linter.unusedSimpArgs false

/-! ### impl_isMoment: function 78 -/
def impl_isMoment.f (k : Nat) (a0_0 : Int) (a0_1 : Int) (a0_2 : Int) (l0_3 : List (S106)) (a1 : Int) (l2 : List Int) : Option (Bool) := (impl_AreOffsets.f k a0_0 a0_1 a0_2 l0_3 l2).bind fun t438 => (if t438 = true then ((impl_InRange.f a1 0 1000).bind fun t439 => (some t439)) else (some false))
theorem impl_isMoment.mono : ∀ a0 a1 a2 a3 a4 a5 k, LeO (impl_isMoment.f k a0 a1 a2 a3 a4 a5) (impl_isMoment.f (k + 1) a0 a1 a2 a3 a4 a5) := by
  intro a0 a1 a2 a3 a4 a5 k
  unfold impl_isMoment.f
  have m0 := @impl_AreOffsets.mono
  exact mo
set_option maxHeartbeats 8000000 in
set_option maxRecDepth 100000 in
theorem impl_isMoment.calls (k : Nat) (a0_0 : Int) (a0_1 : Int) (a0_2 : Int) (A0_3 : Option Addr) (c0_3 : Nat) (l0_3 : List (S106)) (a1 : Int) (A2 : Option Addr) (c2 : Nat) (l2 : List Int) (r : Bool) (w : World) (hr0_3 : Kd.C k106 w A0_3 l0_3.length l0_3) (hc0_3 : l0_3.length ≤ c0_3) (hr2 : Kd.C (Kd.int .i64) w A2 l2.length l2) (hc2 : l2.length ≤ c2) (h : impl_isMoment.f k a0_0 a0_1 a0_2 l0_3 a1 l2 = some r) :
    Calls Try.prog 78 #[.agg #[.int .i64 a0_0, .int .i64 a0_1, .int .i64 a0_2, .slice A0_3 l0_3.length c0_3], .int .i64 a1, .slice A2 l2.length c2] w fun e w' => e = .returned (.bool r) ∧ Below w.heap.size w w' := by
 have hu29 := Try.underlying29
 have HR0_3 := Aside0.mk hr0_3
 have HC0_3 := Aside0.mk hc0_3
 clear hr0_3 hc0_3
 have HR2 := Aside0.mk hr2
 have HC2 := Aside0.mk hc2
 clear hr2 hc2
 have HB := Aside0.mk (Below.refl w.heap.size w)
 have H : ((impl_AreOffsets.f k a0_0 a0_1 a0_2 l0_3 l2).bind fun t438 => (if t438 = true then ((impl_InRange.f a1 0 1000).bind fun t439 => (some t439)) else (some false))) = some r := h
 clear h
 obtain ⟨t438, A4, H⟩ := bnd H
 obtain rfl | rfl := tt t438
 ·replace H := ip H
  obtain ⟨t439, A6, H⟩ := bnd H
  obtain rfl := Option.some.inj H
  go_enter Try.func78, Try.ntmps78
  go_wp2_with (first | ((with_reducible refine gate_dst (N := 3) rfl ?_); refine bx 3 #[.int .i64 a0_0, .int .i64 a0_1, .int .i64 a0_2, .slice A0_3 l0_3.length c0_3] 29 ?_; intro gb437 hg w7 hbox hb; have BK437 := Aside0.mk hbox; have GW437 := bz w hg; have GE437 := bz w hg; replace HB := bs hb; clear hb hbox hg; obtain ⟨hcz8_0, hcz8_1, hcz8_2, hcz8_3, hfz8_0, hfz8_1, hfz8_2, hfz8_3⟩ := cc4 BK437) | ((with_reducible refine gate_callee (f := 136) rfl ?_); refine gL (some 9) Try.func136 #[.agg #[.int .i64 a0_0, .int .i64 a0_1, .int .i64 a0_2, .slice A0_3 l0_3.length c0_3], .slice A2 l2.length c2] ?_; (with_reducible refine (impl_AreOffsets.calls k a0_0 a0_1 a0_2 _ _ l0_3 _ _ l2 true _ ?side1 ?side2 ?side3 ?side4 A4.out).mono ?_); (case side1 => exact cb HR0_3); (case side2 => exact HC0_3.out); (case side3 => exact cb HR2); (case side4 => exact HC2.out); rintro e w9 ⟨rfl, hb⟩; refine ⟨_, rfl, ?_⟩; replace BK437 := bb BK437 hb; replace HB := bsw hb; (try clear hb); (try clear hb2); (try clear hk); (try clear hi)) | (go_at_call 89; (with_reducible refine (impl_InRange.calls a1 0 1000 t439 _ A6.out).mono ?_); rintro e w' ⟨rfl, ⟨nd, rfl⟩⟩))
  go_ret
  exact ⟨se, sbw⟩
 ·replace H := im H
  obtain rfl := Option.some.inj H
  go_enter Try.func78, Try.ntmps78
  go_wp2_with (first | ((with_reducible refine gate_dst (N := 3) rfl ?_); refine bx 3 #[.int .i64 a0_0, .int .i64 a0_1, .int .i64 a0_2, .slice A0_3 l0_3.length c0_3] 29 ?_; intro gb437 hg w10 hbox hb; have BK437 := Aside0.mk hbox; have GW437 := bz w hg; have GE437 := bz w hg; replace HB := bs hb; clear hb hbox hg; obtain ⟨hcz11_0, hcz11_1, hcz11_2, hcz11_3, hfz11_0, hfz11_1, hfz11_2, hfz11_3⟩ := cc4 BK437) | ((with_reducible refine gate_callee (f := 136) rfl ?_); refine gL (some 9) Try.func136 #[.agg #[.int .i64 a0_0, .int .i64 a0_1, .int .i64 a0_2, .slice A0_3 l0_3.length c0_3], .slice A2 l2.length c2] ?_; (with_reducible refine (impl_AreOffsets.calls k a0_0 a0_1 a0_2 _ _ l0_3 _ _ l2 false _ ?side1 ?side2 ?side3 ?side4 A4.out).mono ?_); (case side1 => exact cb HR0_3); (case side2 => exact HC0_3.out); (case side3 => exact cb HR2); (case side4 => exact HC2.out); rintro e w12 ⟨rfl, hb⟩; refine ⟨_, rfl, ?_⟩; replace BK437 := bb BK437 hb; replace HB := bsw hb; (try clear hb); (try clear hb2); (try clear hk); (try clear hi)))
  go_ret
  exact ⟨se, sbw⟩

/-! ### impl_NextsAt: function 32 -/
def impl_NextsAt.l0 : Nat → Int → Int → List Int → List Int → Int → Int → Int → Int → Int → List (S106) → Option (List Int)
  | 0, _, _, _, _, _, _, _, _, _, _ => none
  | k + 1, x1, x2, x9, x19, x20, x21, x441000, x441001, x441002, x441003 => if x21 < x20 then (if 0 ≤ x21 then (if x21 < (x19.length : Int) then ((impl_HopAt.f k x441000 x441001 x441002 x441003 x21 x1 (wrap64 (x2 + (rd x19 x21)))).bind fun t446 => (if x9.length < 17592186044416 then (impl_NextsAt.l0 k x1 x2 (x9 ++ [t446]) x19 x20 (wrap64 (x21 + 1)) x441000 x441001 x441002 x441003) else (none))) else (none)) else (none)) else (some x9)
def impl_NextsAt.f (k : Nat) (a0_0 : Int) (a0_1 : Int) (a0_2 : Int) (l0_3 : List (S106)) (a1 : Int) (a2 : Int) (l3 : List Int) : Option (List Int) := (some (([] : List Int) : List Int)).bind fun y441 => ((impl_isMoment.f k a0_0 a0_1 a0_2 l0_3 a2 l3).bind fun t444 => (if t444 = true then (impl_NextsAt.l0 k a1 a2 y441 l3 (l3.length : Int) 0 a0_0 a0_1 a0_2 l0_3) else (some y441)))
theorem impl_NextsAt.mono_l : ∀ k, (∀ y0 y1 y2 y3 y4 y5 y6 y7 y8 y9, LeO (impl_NextsAt.l0 k y0 y1 y2 y3 y4 y5 y6 y7 y8 y9) (impl_NextsAt.l0 (k + 1) y0 y1 y2 y3 y4 y5 y6 y7 y8 y9))
  | 0 => fun _ _ _ _ _ _ _ _ _ _ r h => by simp [impl_NextsAt.l0] at h
  | k + 1 => by
    have ih0 := impl_NextsAt.mono_l k
    · intro y0 y1 y2 y3 y4 y5 y6 y7 y8 y9
      unfold impl_NextsAt.l0
      have m0 := @impl_HopAt.mono
      have m1 := @impl_isMoment.mono
      exact mo
theorem impl_NextsAt.mono : ∀ a0 a1 a2 a3 a4 a5 a6 k, LeO (impl_NextsAt.f k a0 a1 a2 a3 a4 a5 a6) (impl_NextsAt.f (k + 1) a0 a1 a2 a3 a4 a5 a6) := by
  intro a0 a1 a2 a3 a4 a5 a6 k
  have ih0 := impl_NextsAt.mono_l k
  unfold impl_NextsAt.f
  have m0 := @impl_HopAt.mono
  have m1 := @impl_isMoment.mono
  exact mo
set_option maxHeartbeats 8000000 in
set_option maxRecDepth 100000 in
theorem impl_NextsAt.calls (k : Nat) (a0_0 : Int) (a0_1 : Int) (a0_2 : Int) (A0_3 : Option Addr) (c0_3 : Nat) (l0_3 : List (S106)) (a1 : Int) (a2 : Int) (A3 : Option Addr) (c3 : Nat) (l3 : List Int) (r : List Int) (w : World) (hr0_3 : Kd.C k106 w A0_3 l0_3.length l0_3) (hc0_3 : l0_3.length ≤ c0_3) (hr3 : Kd.C (Kd.int .i64) w A3 l3.length l3) (hc3 : l3.length ≤ c3) (h : impl_NextsAt.f k a0_0 a0_1 a0_2 l0_3 a1 a2 l3 = some r) :
    Calls Try.prog 32 #[.agg #[.int .i64 a0_0, .int .i64 a0_1, .int .i64 a0_2, .slice A0_3 l0_3.length c0_3], .int .i64 a1, .int .i64 a2, .slice A3 l3.length c3] w fun e w' => ∃ v0_ : Value, e = .returned (v0_) ∧ Kd.R (Kd.int .i64) 3 w' w.heap.size (fun _ => True) v0_ r ∧ Below w.heap.size w w' := by
 have hu29 := Try.underlying29
 have HR0_3 := Aside0.mk hr0_3
 have HC0_3 := Aside0.mk hc0_3
 clear hr0_3 hc0_3
 have HR3 := Aside0.mk hr3
 have HC3 := Aside0.mk hc3
 clear hr3 hc3
 have HB := Aside0.mk (Below.refl w.heap.size w)
 have H : ((some (([] : List Int) : List Int)).bind fun y441 => ((impl_isMoment.f k a0_0 a0_1 a0_2 l0_3 a2 l3).bind fun t444 => (if t444 = true then (impl_NextsAt.l0 k a1 a2 y441 l3 (l3.length : Int) 0 a0_0 a0_1 a0_2 l0_3) else (some y441)))) = some r := h
 clear h
 obtain ⟨y441, hy441⟩ : ∃ y_ : List Int, y_ = (([] : List Int)) := ⟨_, rfl⟩
 replace H : ((impl_isMoment.f k a0_0 a0_1 a0_2 l0_3 a2 l3).bind fun t444 => (if t444 = true then (impl_NextsAt.l0 k a1 a2 y441 l3 (l3.length : Int) 0 a0_0 a0_1 a0_2 l0_3) else (some y441))) = some r := by first | (rw [hy441]; with_reducible exact H) | (have H2_ := (Option.bind_some _ _).symm.trans H; rw [hy441]; with_reducible exact H2_) | (have H2_ := (Option.bind_some _ _).symm.trans H; with_reducible exact H2_) | with_reducible exact H | (rw [hy441]; exact H) | exact H
 have Ny441 := Aside0.mk hy441
 clear hy441
 obtain ⟨t444, A5, H⟩ := bnd H
 obtain rfl | rfl := tt t444
 ·replace H := ip H
  have H' := Aside0.mk H
  clear H
  go_enter Try.func32, Try.ntmps32
  go_wp2_with (first | ((with_reducible refine gate_dst (N := 4) rfl ?_); refine bx 4 #[.int .i64 a0_0, .int .i64 a0_1, .int .i64 a0_2, .slice A0_3 l0_3.length c0_3] 29 ?_; intro gb440 hg w7 hbox hb; have BK440 := Aside0.mk hbox; have GW440 := bz w hg; have GE440 := bz w hg; replace HB := bs hb; clear hb hbox hg) | ((with_reducible refine gate_dst (N := 12) rfl ?_); refine Kd.R_lit (Kd.int .i64) _ 3 ?hg (N := 12) ?hd (xs := ([] : List Int)) (inner := []) (ok := fun _ => True) (okp := fun _ => True) ?hr ?hp (fun _ hk => hk) trivial (Below.refl _ _) (Nat.le_refl _) (by simp) ?_; (case hd => rfl); (case hg => rfl); (case hr => first | (go_simp; done) | (go_simp; rfl)); (case hp => exact (Reps.none _ _)); intro v442 w8 ho9 hb hg_ hnew_; clear hg_ hnew_; (first | rw [← Ny441.out] at ho9 | (simp only [Int.reduceToNat] at ho9; rw [← Ny441.out] at ho9)); have HO443 := Aside0.mk (Kd.R_lower ho9 (below_size (sbw))); replace BK440 := bb BK440 hb; replace HB := bsw hb; clear hb ho9; obtain ⟨hcz10_0, hcz10_1, hcz10_2, hcz10_3, hfz10_0, hfz10_1, hfz10_2, hfz10_3⟩ := cc4 BK440) | ((with_reducible refine gate_callee (f := 78) rfl ?_); refine gL (some 16) Try.func78 #[.agg #[.int .i64 a0_0, .int .i64 a0_1, .int .i64 a0_2, .slice A0_3 l0_3.length c0_3], .int .i64 a2, .slice A3 l3.length c3] ?_; (with_reducible refine (impl_isMoment.calls k a0_0 a0_1 a0_2 _ _ l0_3 a2 _ _ l3 true _ ?side1 ?side2 ?side3 ?side4 A5.out).mono ?_); (case side1 => exact cb HR0_3); (case side2 => exact HC0_3.out); (case side3 => exact cb HR3); (case side4 => exact HC3.out); rintro e w11 ⟨rfl, hb⟩; refine ⟨_, rfl, ?_⟩; replace HO443 := Aside0.mk (Kd.R_below (sr HO443) hb); replace BK440 := bb BK440 hb; replace HB := bsw hb; (try clear hb); (try clear hb2); (try clear hk); (try clear hi)))
  go_loopg [9, 21] k (fun kq v9 v21 w' => ∃ (x9_1 : List Int) (x21_1 : Int), v21 = .int .i64 x21_1 ∧ Aside0 (impl_NextsAt.l0 kq a1 a2 x9_1 l3 (l3.length : Int) x21_1 a0_0 a0_1 a0_2 l0_3 = some r) ∧ Aside0 (kq ≤ k) ∧ Aside0 (Kd.R (Kd.int .i64) 3 w' w.heap.size (fun _ => True) v9 x9_1) ∧ Aside0 (w'.heap[gb440]? = some (.cells #[.int .i64 a0_0, .int .i64 a0_1, .int .i64 a0_2, (.slice A0_3 l0_3.length c0_3)] 29 (0, 0))) ∧ Aside0 (Below w.heap.size w w'))
  case atStart => exact ⟨(y441), (0), sc, H', kk0, ⟨sr HO443⟩, ⟨sk BK440⟩, ⟨sbw⟩⟩
  case round =>
   clear H'
   obtain ⟨x9_1, x21_1, rfl, HA, HK1, HO_9, BK440, HB⟩ := hrel
   cases gk with
   | zero => exact absurd HA.out (by simp [impl_NextsAt.l0])
   | succ k1 =>
    have H := HA.out
    clear HA
    simp only [impl_NextsAt.l0] at H
    obtain ⟨c12, H⟩ | ⟨c12, H⟩ := ie_ H
    ·have c12b0 := decide_eq_true c12
     clear c12
     obtain ⟨c13b0, H⟩ := id_ H
     obtain ⟨c14b0, H⟩ := id_ H
     obtain ⟨t446, A15, H⟩ := bnd H
     obtain ⟨LMc16, H⟩ := il_ H
     obtain ⟨y447, hy447⟩ : ∃ y_ : List Int, y_ = (x9_1 ++ [t446]) := ⟨_, rfl⟩
     replace H : (impl_NextsAt.l0 k1 a1 a2 y447 l3 (l3.length : Int) (wrap64 (x21_1 + 1)) a0_0 a0_1 a0_2 l0_3) = some r := by first | (rw [hy447]; with_reducible exact H) | (have H2_ := (Option.bind_some _ _).symm.trans H; rw [hy447]; with_reducible exact H2_) | (have H2_ := (Option.bind_some _ _).symm.trans H; with_reducible exact H2_) | with_reducible exact H | (rw [hy447]; exact H) | exact H
     have Ny447 := Aside0.mk hy447
     clear hy447
     have H' := Aside0.mk H
     clear H
     obtain ⟨p445, q445, ad445, e445, _, hx445_0⟩ := at_i HR3 HB x21_1
     cases e445
     obtain ⟨hcz17_0, hcz17_1, hcz17_2, hcz17_3, hfz17_0, hfz17_1, hfz17_2, hfz17_3⟩ := cc4 BK440
     go_wp2_with (first | ((with_reducible refine gate_callee (f := 17) rfl ?_); refine gL (some 33) Try.func17 #[.agg #[.int .i64 a0_0, .int .i64 a0_1, .int .i64 a0_2, .slice A0_3 l0_3.length c0_3], .int .i64 x21_1, .int .i64 a1, .int .i64 (wrap64 (a2 + (rd l3 x21_1)))] ?_; (with_reducible refine (impl_HopAt.calls k1 a0_0 a0_1 a0_2 _ _ l0_3 x21_1 a1 (wrap64 (a2 + (rd l3 x21_1))) t446 _ ?side1 ?side2 A15.out).mono ?_); (case side1 => exact cb HR0_3); (case side2 => exact HC0_3.out); rintro e w18 ⟨rfl, hb⟩; refine ⟨_, rfl, ?_⟩; replace HO_9 := Aside0.mk (Kd.R_below (sr HO_9) hb); replace BK440 := bb BK440 hb; replace HB := bsw hb; (try clear hb); (try clear hb2); (try clear hk); (try clear hi)) | ((with_reducible refine gate_builtin (b := .append) (xs := #[.tmp 26, .tmp 34]) rfl ?_); at_builtin; refine Kd.R_append (Kd.int .i64) (w0 := w) w.heap.size rfl (.tmp 26) (.tmp 34) 40 3 (.int .i64 0) 8 rfl Try.underlying40 info3 rfl (by decide) (by omega) u9 x9_1 t446 [.int .i64 t446] (fun _ => True) (fun _ => False) rfl rfl ?aP (fun _ hk => hk.elim) ?aF ?aO ?aB ?aS ?aL ?_; (case aP => exact rfl); (case aB => exact (sbw)); (case aF => exact (fun _ _ => trivial)); (case aO => exact (sr HO_9)); (case aS => exact (below_size (sbw))); (case aL => have := LMc16.out; omega); intro v448 w19 ho hb hg hat; rw [← Ny447.out] at ho; replace BK440 := Aside0.mk (blk_grown (g := gb440) (o := .cells #[.int .i64 a0_0, .int .i64 a0_1, .int .i64 a0_2, .slice A0_3 l0_3.length c0_3] 29 (0, 0)) (sk BK440) hg (Kd.R_ne HO_9.out BK440.out (by decide))); replace HB := Aside0.mk hb; have HO449 := Aside0.mk ho; clear HO_9; clear ho hb hg hat))
     go_roundg k1
     case measure => have := HK1.out; omega
     case rel => exact ⟨(y447), (wrap64 (x21_1 + 1)), sc, H', kk1, ⟨sr HO449⟩, ⟨sk BK440⟩, ⟨sbw⟩⟩
    ·have c12b0 := decide_eq_false c12
     clear c12
     obtain rfl := Option.some.inj H
     go_wp2
     go_ret
     exact ⟨_, se, sr HO_9, sbw⟩
 ·replace H := im H
  obtain rfl := Option.some.inj H
  go_enter Try.func32, Try.ntmps32
  go_wp2_with (first | ((with_reducible refine gate_dst (N := 4) rfl ?_); refine bx 4 #[.int .i64 a0_0, .int .i64 a0_1, .int .i64 a0_2, .slice A0_3 l0_3.length c0_3] 29 ?_; intro gb440 hg w20 hbox hb; have BK440 := Aside0.mk hbox; have GW440 := bz w hg; have GE440 := bz w hg; replace HB := bs hb; clear hb hbox hg) | ((with_reducible refine gate_dst (N := 12) rfl ?_); refine Kd.R_lit (Kd.int .i64) _ 3 ?hg (N := 12) ?hd (xs := ([] : List Int)) (inner := []) (ok := fun _ => True) (okp := fun _ => True) ?hr ?hp (fun _ hk => hk) trivial (Below.refl _ _) (Nat.le_refl _) (by simp) ?_; (case hd => rfl); (case hg => rfl); (case hr => first | (go_simp; done) | (go_simp; rfl)); (case hp => exact (Reps.none _ _)); intro v442 w21 ho22 hb hg_ hnew_; clear hg_ hnew_; (first | rw [← Ny441.out] at ho22 | (simp only [Int.reduceToNat] at ho22; rw [← Ny441.out] at ho22)); have HO443 := Aside0.mk (Kd.R_lower ho22 (below_size (sbw))); replace BK440 := bb BK440 hb; replace HB := bsw hb; clear hb ho22; obtain ⟨hcz23_0, hcz23_1, hcz23_2, hcz23_3, hfz23_0, hfz23_1, hfz23_2, hfz23_3⟩ := cc4 BK440) | ((with_reducible refine gate_callee (f := 78) rfl ?_); refine gL (some 16) Try.func78 #[.agg #[.int .i64 a0_0, .int .i64 a0_1, .int .i64 a0_2, .slice A0_3 l0_3.length c0_3], .int .i64 a2, .slice A3 l3.length c3] ?_; (with_reducible refine (impl_isMoment.calls k a0_0 a0_1 a0_2 _ _ l0_3 a2 _ _ l3 false _ ?side1 ?side2 ?side3 ?side4 A5.out).mono ?_); (case side1 => exact cb HR0_3); (case side2 => exact HC0_3.out); (case side3 => exact cb HR3); (case side4 => exact HC3.out); rintro e w24 ⟨rfl, hb⟩; refine ⟨_, rfl, ?_⟩; replace HO443 := Aside0.mk (Kd.R_below (sr HO443) hb); replace BK440 := bb BK440 hb; replace HB := bsw hb; (try clear hb); (try clear hb2); (try clear hk); (try clear hi)))
  go_ret
  exact ⟨_, se, sr HO443, sbw⟩

/-! ### laws_heldIntS: function 34 -/
def laws_heldIntS.l0 : Nat → List Int → Int → Int → Option (Int)
  | 0, _, _, _ => none
  | k + 1, x0, x1, x5 => if x5 < (x0.length : Int) then (if 0 ≤ x5 then (if (rd x0 x5) = x1 then (laws_heldIntS.l0 k x0 (wrap64 (x1 + 1)) (wrap64 (x5 + 1))) else (some (-1))) else (none)) else (some x1)
def laws_heldIntS.f (k : Nat) (l0 : List Int) (a1 : Int) : Option (Int) := laws_heldIntS.l0 k l0 a1 0
theorem laws_heldIntS.mono_l : ∀ k, (∀ y0 y1 y2, LeO (laws_heldIntS.l0 k y0 y1 y2) (laws_heldIntS.l0 (k + 1) y0 y1 y2))
  | 0 => fun _ _ _ r h => by simp [laws_heldIntS.l0] at h
  | k + 1 => by
    have ih0 := laws_heldIntS.mono_l k
    · intro y0 y1 y2
      unfold laws_heldIntS.l0
      exact mo
theorem laws_heldIntS.mono : ∀ a0 a1 k, LeO (laws_heldIntS.f k a0 a1) (laws_heldIntS.f (k + 1) a0 a1) := by
  intro a0 a1 k
  have ih0 := laws_heldIntS.mono_l k
  unfold laws_heldIntS.f
  exact mo
set_option maxHeartbeats 8000000 in
set_option maxRecDepth 100000 in
theorem laws_heldIntS.calls (k : Nat) (A0 : Option Addr) (c0 : Nat) (l0 : List Int) (a1 : Int) (r : Int) (w : World) (hr0 : Kd.C (Kd.int .i64) w A0 l0.length l0) (hc0 : l0.length ≤ c0) (h : laws_heldIntS.f k l0 a1 = some r) :
    Calls Try.prog 34 #[.slice A0 l0.length c0, .int .i64 a1] w fun e w' => e = .returned (.int .i64 r) ∧ Drawn0 w w' := by
 have HR0 := Aside0.mk hr0
 have HC0 := Aside0.mk hc0
 clear hr0 hc0
 have H : (laws_heldIntS.l0 k l0 a1 0) = some r := h
 clear h
 have H' := Aside0.mk H
 clear H
 go_enter Try.func34, Try.ntmps34
 go_wp2
 go_loopg [1, 5] k (fun kq v1 v5 w' => ∃ (x1_1 : Int) (x5_1 : Int), v1 = .int .i64 x1_1 ∧ v5 = .int .i64 x5_1 ∧ Aside0 (laws_heldIntS.l0 kq l0 x1_1 x5_1 = some r) ∧ Aside0 (kq ≤ k) ∧ Drawn0 w w')
 case atStart => exact ⟨(a1), (0), sc, sc, H', kk0, sd⟩
 case round =>
  clear H'
  obtain ⟨x1_1, x5_1, rfl, rfl, HA, HK1, ⟨m1, rfl⟩⟩ := hrel
  cases gk with
  | zero => exact absurd HA.out (by simp [laws_heldIntS.l0])
  | succ k1 =>
   have H := HA.out
   clear HA
   simp only [laws_heldIntS.l0] at H
   obtain ⟨c3, H⟩ | ⟨c3, H⟩ := ie_ H
   ·have c3b0 := decide_eq_true c3
    clear c3
    obtain ⟨c4b0, H⟩ := id_ H
    obtain ⟨c5, H⟩ | ⟨c5, H⟩ := ie_ H
    ·have c5b0 : ((rd l0 x5_1) == x1_1) = true := beq_iff_eq.mpr c5
     have c5b1 : ((rd l0 x5_1) != x1_1) = false := bne_eq_false_iff_eq.mpr c5
     clear c5
     have H' := Aside0.mk H
     clear H
     have p450 : 0 ≤ (x5_1 : Int) := sa
     have q450 : x5_1 < (l0.length : Int) := sa
     obtain ⟨ad450, e450, hx450_0⟩ := Kd.at_int HR0.out x5_1 p450 q450
     cases e450
     replace p450 := eq_true p450
     replace q450 := eq_true q450
     go_wp2
     go_roundg k1
     case measure => have := HK1.out; omega
     case rel => exact ⟨(wrap64 (x1_1 + 1)), (wrap64 (x5_1 + 1)), sc, sc, H', kk1, sd⟩
    ·have c5b0 : ((rd l0 x5_1) == x1_1) = false := beq_eq_false_iff_ne.mpr c5
     have c5b1 : ((rd l0 x5_1) != x1_1) = true := bne_iff_ne.mpr c5
     obtain rfl := Option.some.inj H
     have p450 : 0 ≤ (x5_1 : Int) := sa
     have q450 : x5_1 < (l0.length : Int) := sa
     obtain ⟨ad450, e450, hx450_0⟩ := Kd.at_int HR0.out x5_1 p450 q450
     cases e450
     replace p450 := eq_true p450
     replace q450 := eq_true q450
     go_wp2
     go_ret
     exact ⟨sc, sd⟩
   ·have c3b0 := decide_eq_false c3
    clear c3
    obtain rfl := Option.some.inj H
    go_wp2
    go_ret
    exact ⟨sc, sd⟩

end Go.Proofs.Ytlakjlolahjphaa.QFnExactNextsAt
