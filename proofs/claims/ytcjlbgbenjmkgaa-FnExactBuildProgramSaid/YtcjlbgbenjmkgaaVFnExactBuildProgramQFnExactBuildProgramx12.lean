/- What the Go functions of the law FnExactBuildProgram come to, as Lean functions, and that they do: by a program of the session, out of the kit's printer. Conditions: none. (squeezed). -/
import Derived.Test.YtcjlbgbenjmkgaaVFnExactBuildProgramSq2
import Derived.Test.YtcjlbgbenjmkgaaVFnExactBuildProgramSq
import Derived.Test.YtcjlbgbenjmkgaaVFnExactBuildProgramQFnExactBuildProgramx0
import Derived.Test.YtcjlbgbenjmkgaaVFnExactBuildProgramQFnExactBuildProgramx11
namespace Go.Proofs.Ytcjlbgbenjmkgaa.QFnExactBuildProgram
open Go.RowKit Go.Proofs.YtcjlbgbenjmkgaaW.PrintWords Go.Proofs.YtcjlbgbenjmkgaaW.PrintLast Go.Proofs.YtcjlbgbenjmkgaaW.PrintMore Go.Proofs.Ytcjlbgbenjmkgaa.Open Go.Proofs.Ytcjlbgbenjmkgaa.Sq
attribute [local go_sem] max2_int min2_int max_two min_two max_three min_three max_four min_four   -- for this text's walks alone
attribute [local go_sem] isSome_set
set_option linter.unusedVariables false
set_option linter.unusedSimpArgs false

/-! ### impl_IsPlan: function 21 -/
def impl_IsPlan.l0 : Nat → List (S49) → Int → List (S49) → Int → Int → Option (Bool)
  | 0, _, _, _, _, _ => none
  | k + 1, x0, x1, x9, x10, x11 => if x11 < x10 then (if 0 ≤ x11 then (if x11 < (x9.length : Int) then ((impl_IsContact.f ((rd_T49 x9 x11).f0) ((rd_T49 x9 x11).f1) ((rd_T49 x9 x11).f2) ((rd_T49 x9 x11).f3) x1).bind fun t357 => (if t357 = true then (if x11 = 0 then (impl_IsPlan.l0 k x0 x1 x9 x10 (wrap64 (x11 + 1))) else (if 0 ≤ (wrap64 (x11 - 1)) then (if (wrap64 (x11 - 1)) < (x0.length : Int) then ((cmp_Compare_int.f ((rd_T49 x0 (wrap64 (x11 - 1))).f0) ((rd_T49 x9 x11).f0)).bind fun t360 => ((cmp_Compare_int.f ((rd_T49 x0 (wrap64 (x11 - 1))).f1) ((rd_T49 x9 x11).f1)).bind fun t361 => ((cmp_Or_int.f k (([t360, t361] : List Int))).bind fun t365 => (if t365 > 0 then (some false) else (if t365 = 0 then (if ((rd_T49 x0 (wrap64 (x11 - 1))).f3) ≥ ((rd_T49 x9 x11).f2) then (some false) else (impl_IsPlan.l0 k x0 x1 x9 x10 (wrap64 (x11 + 1)))) else (impl_IsPlan.l0 k x0 x1 x9 x10 (wrap64 (x11 + 1)))))))) else (none)) else (none))) else (some false))) else (none)) else (none)) else (some true)
def impl_IsPlan.f (k : Nat) (l0 : List (S49)) (a1 : Int) : Option (Bool) := impl_IsPlan.l0 k l0 a1 l0 (l0.length : Int) 0
theorem impl_IsPlan.mono_l : ∀ k, (∀ y0 y1 y2 y3 y4, LeO (impl_IsPlan.l0 k y0 y1 y2 y3 y4) (impl_IsPlan.l0 (k + 1) y0 y1 y2 y3 y4))
  | 0 => fun _ _ _ _ _ r h => by simp [impl_IsPlan.l0] at h
  | k + 1 => by
    have ih0 := impl_IsPlan.mono_l k
    · intro y0 y1 y2 y3 y4
      unfold impl_IsPlan.l0
      have m0 := @cmp_Or_int.mono
      exact mo
theorem impl_IsPlan.mono : ∀ a0 a1 k, LeO (impl_IsPlan.f k a0 a1) (impl_IsPlan.f (k + 1) a0 a1) := by
  intro a0 a1 k
  have ih0 := impl_IsPlan.mono_l k
  unfold impl_IsPlan.f
  have m0 := @cmp_Or_int.mono
  exact mo
def impl_IsPlan.T8 : Bool × List (List Nat × List Nat) := (true, [([], []), ([0], [0]), ([], []), ([2], [2]), ([1, 3], [1, 3]), ([], []), ([5], [5]), ([], []), ([7], [7]), ([6, 8, 4], [6, 8]), ([4, 9], [4, 9]), ([10, 9], [10]), ([11, 11, 0, 1, 2, 3, 4, 5, 6, 7, 8, 9, 10, 11], [11])])
def impl_IsPlan.B8 : List Nat := [0, 1, 0, 4, 15, 0, 32, 0, 128, 511, 1023, 2047, 4095]
theorem impl_IsPlan.tab8 : rtab .any (opsOf Try.f21 8) = impl_IsPlan.T8 := by kernel_rfl
theorem impl_IsPlan.bits8 : waitsOk impl_IsPlan.T8.2 impl_IsPlan.B8 = true := by kernel_rfl
set_option maxHeartbeats 8000000 in
set_option maxRecDepth 100000 in
theorem impl_IsPlan.calls (k : Nat) (A0 : Option Addr) (c0 : Nat) (l0 : List (S49)) (a1 : Int) (r : Bool) (w : World) (hr0 : Kd.C k49 w A0 l0.length l0) (hc0 : l0.length ≤ c0) (h : impl_IsPlan.f k l0 a1 = some r) :
    Calls Try.prog 21 #[.slice A0 l0.length c0, .int .i64 a1] w fun e w' => e = .returned (.bool r) ∧ Below w.heap.size w w' := by
 have hu49 := Try.underlying49
 have HR0 := Aside0.mk hr0
 have HC0 := Aside0.mk hc0
 clear hr0 hc0
 have HB := Aside0.mk (Below.refl w.heap.size w)
 have H : (impl_IsPlan.l0 k l0 a1 l0 (l0.length : Int) 0) = some r := h
 clear h
 have H' := Aside0.mk H
 clear H
 go_enter Try.func21, Try.ntmps21
 go_wp2
 go_loopg [11] k (fun kq v11 w' => ∃ (x11_1 : Int), v11 = .int .i64 x11_1 ∧ Aside0 (impl_IsPlan.l0 kq l0 a1 l0 (l0.length : Int) x11_1 = some r) ∧ Aside0 (kq ≤ k) ∧ Aside0 (Below w.heap.size w w'))
 case atStart => exact ⟨(0), sc, H', kk0, ⟨sb⟩⟩
 case round =>
  clear H'
  obtain ⟨x11_1, rfl, HA, HK1, HB⟩ := hrel
  cases gk with
  | zero => exact absurd HA.out (by simp [impl_IsPlan.l0])
  | succ k1 =>
   have H := HA.out
   clear HA
   simp only [impl_IsPlan.l0] at H
   obtain ⟨c3, H⟩ | ⟨c3, H⟩ := ie_ H
   ·have c3b0 := decide_eq_true c3
    clear c3
    obtain ⟨c4b0, H⟩ := id_ H
    obtain ⟨c5b0, H⟩ := id_ H
    obtain ⟨t357, A6, H⟩ := bnd H
    obtain rfl | rfl := tt t357
    ·replace H := ip H
     obtain ⟨c8, H⟩ | ⟨c8, H⟩ := ie_ H
     ·have c8b0 : (x11_1 == 0) = true := beq_iff_eq.mpr c8
      have c8b1 : (x11_1 != 0) = false := bne_eq_false_iff_eq.mpr c8
      clear c8
      have H' := Aside0.mk H
      clear H
      obtain ⟨p355, q355, ad355, e355, _, _, _, _, hx355_0, hx355_1, hx355_2, hx355_3⟩ := aT_T49 HR0 HB x11_1
      cases e355
      go_wp2_with (first | ((with_reducible refine gate_dst (N := 6) rfl ?_); refine bx 6 #[.int .i64 0, .int .i64 0, .int .i64 0, .int .i64 0] 49 ?_; intro gb356 hg w9 hbox hb; have GW356 := bz w hg; have GE356 := bz w hg; replace HB := bs hb; have BK356 := Aside0.mk hbox; clear hb hbox hg; obtain ⟨hcz10_0, hcz10_1, hcz10_2, hcz10_3, hfz10_0, hfz10_1, hfz10_2, hfz10_3⟩ := cc4 BK356) | ((with_reducible refine gate_callee (f := 37) rfl ?_); refine gL (some 18) Try.func37 #[.agg #[.int .i64 ((rd_T49 l0 x11_1).f0), .int .i64 ((rd_T49 l0 x11_1).f1), .int .i64 ((rd_T49 l0 x11_1).f2), .int .i64 ((rd_T49 l0 x11_1).f3)], .int .i64 a1] ?_; (with_reducible refine (impl_IsContact.calls ((rd_T49 l0 x11_1).f0) ((rd_T49 l0 x11_1).f1) ((rd_T49 l0 x11_1).f2) ((rd_T49 l0 x11_1).f3) a1 true _ A6.out).mono ?_); rintro e w11 ⟨rfl, hb⟩; refine ⟨_, rfl, ?_⟩; replace BK356 := Aside0.mk (blk_below (g := gb356) (o := .cells #[.int .i64 ((rd_T49 l0 x11_1).f0), .int .i64 ((rd_T49 l0 x11_1).f1), .int .i64 ((rd_T49 l0 x11_1).f2), .int .i64 ((rd_T49 l0 x11_1).f3)] 49 (0, 0)) (sp BK356) hb); replace HB := bsw hb; (try clear hb); (try clear hb2); (try clear hk); (try clear hi)))
      go_roundg k1
      case measure => have := HK1.out; omega
      case rel => exact ⟨(wrap64 (x11_1 + 1)), sc, H', kk1, ⟨sbw⟩⟩
     ·have c8b0 : (x11_1 == 0) = false := beq_eq_false_iff_ne.mpr c8
      have c8b1 : (x11_1 != 0) = true := bne_iff_ne.mpr c8
      obtain ⟨ji12, hji12⟩ : ∃ j_ : Int, (wrap64 (x11_1 - 1)) = j_ := ⟨_, rfl⟩
      replace H : (if 0 ≤ (ji12) then (if (ji12) < (l0.length : Int) then ((cmp_Compare_int.f ((rd_T49 l0 (ji12)).f0) ((rd_T49 l0 x11_1).f0)).bind fun t360 => ((cmp_Compare_int.f ((rd_T49 l0 (ji12)).f1) ((rd_T49 l0 x11_1).f1)).bind fun t361 => ((cmp_Or_int.f k1 (([t360, t361] : List Int))).bind fun t365 => (if t365 > 0 then (some false) else (if t365 = 0 then (if ((rd_T49 l0 (ji12)).f3) ≥ ((rd_T49 l0 x11_1).f2) then (some false) else (impl_IsPlan.l0 k1 l0 a1 l0 (l0.length : Int) (wrap64 (x11_1 + 1)))) else (impl_IsPlan.l0 k1 l0 a1 l0 (l0.length : Int) (wrap64 (x11_1 + 1)))))))) else (none)) else (none)) = some r := by first | (rw [hji12] at H; exact H) | (simp only [hji12] at H ⊢; exact H)
      (try rw [hji12] at A6)
      have hji12w : (IntKind.i64.wrap (x11_1 - 1)) = ji12 := (i64_w _).trans hji12
      obtain ⟨c13b0, H⟩ := id_ H
      obtain ⟨c14b0, H⟩ := id_ H
      obtain ⟨t360, A15, H⟩ := bnd H
      obtain ⟨t361, A16, H⟩ := bnd H
      obtain ⟨y362, hy362⟩ : ∃ y_ : List Int, y_ = (([t360, t361] : List Int)) := ⟨_, rfl⟩
      replace H : ((cmp_Or_int.f k1 y362).bind fun t365 => (if t365 > 0 then (some false) else (if t365 = 0 then (if ((rd_T49 l0 (ji12)).f3) ≥ ((rd_T49 l0 x11_1).f2) then (some false) else (impl_IsPlan.l0 k1 l0 a1 l0 (l0.length : Int) (wrap64 (x11_1 + 1)))) else (impl_IsPlan.l0 k1 l0 a1 l0 (l0.length : Int) (wrap64 (x11_1 + 1)))))) = some r := by first | (rw [hy362]; with_reducible exact H) | (have H2_ := (Option.bind_some _ _).symm.trans H; rw [hy362]; with_reducible exact H2_) | (have H2_ := (Option.bind_some _ _).symm.trans H; with_reducible exact H2_) | with_reducible exact H | (rw [hy362]; exact H) | exact H
      have Ny362 := Aside0.mk hy362
      clear hy362
      obtain ⟨t365, A17, H⟩ := bnd H
      obtain ⟨c18, H⟩ | ⟨c18, H⟩ := ie_ H
      ·have c18b0 := decide_eq_true c18
       clear c18
       obtain rfl := Option.some.inj H
       obtain ⟨p355, q355, ad355, e355, _, _, _, _, hx355_0, hx355_1, hx355_2, hx355_3⟩ := aT_T49 HR0 HB x11_1
       cases e355
       try go_wp2_with (first | ((with_reducible refine gate_dst (N := 6) rfl ?_); refine bx 6 #[.int .i64 0, .int .i64 0, .int .i64 0, .int .i64 0] 49 ?_; intro gb356 hg w19 hbox hb; have GW356 := bz w hg; have GE356 := bz w hg; replace HB := bs hb; have BK356 := Aside0.mk hbox; clear hb hbox hg; obtain ⟨hcz20_0, hcz20_1, hcz20_2, hcz20_3, hfz20_0, hfz20_1, hfz20_2, hfz20_3⟩ := cc4 BK356) | ((with_reducible refine gate_callee (f := 37) rfl ?_); refine gL (some 18) Try.func37 #[.agg #[.int .i64 ((rd_T49 l0 x11_1).f0), .int .i64 ((rd_T49 l0 x11_1).f1), .int .i64 ((rd_T49 l0 x11_1).f2), .int .i64 ((rd_T49 l0 x11_1).f3)], .int .i64 a1] ?_; (with_reducible refine (impl_IsContact.calls ((rd_T49 l0 x11_1).f0) ((rd_T49 l0 x11_1).f1) ((rd_T49 l0 x11_1).f2) ((rd_T49 l0 x11_1).f3) a1 true _ A6.out).mono ?_); rintro e w21 ⟨rfl, hb⟩; refine ⟨_, rfl, ?_⟩; replace BK356 := Aside0.mk (blk_below (g := gb356) (o := .cells #[.int .i64 ((rd_T49 l0 x11_1).f0), .int .i64 ((rd_T49 l0 x11_1).f1), .int .i64 ((rd_T49 l0 x11_1).f2), .int .i64 ((rd_T49 l0 x11_1).f3)] 49 (0, 0)) (sp BK356) hb); replace HB := bsw hb; (try clear hb); (try clear hb2); (try clear hk); (try clear hi); obtain ⟨p358, q358, ad358, e358, _, _, _, _, hx358_0, hx358_1, hx358_2, hx358_3⟩ := aT_T49 HR0 HB (ji12); obtain rfl : ad355 = ad358 := (by injection e358)) | ((with_reducible refine gate_dst (N := 7) rfl ?_); refine bx 7 #[.int .i64 0, .int .i64 0, .int .i64 0, .int .i64 0] 49 ?_; intro gb359 hg w22 hbox hb; have GW359 := bzw w hg; have GE359 := bzw w hg; replace HB := bsw hb; have BK359 := Aside0.mk hbox; have NB356_359 := nl BK356 hg; have NB359_356 := ng BK356 hg; replace BK356 := bb BK356 hb; clear hb hbox hg; have hnb23 := NB359_356.out; have hnc23 := NB356_359.out; obtain ⟨hcz24_0, hcz24_1, hcz24_2, hcz24_3, hfz24_0, hfz24_1, hfz24_2, hfz24_3⟩ := cc4 BK359))
       have n0_ : Aside0 (((((w22.setCell ⟨gb359, 0, none⟩ (.int .i64 ((rd_T49 l0 (ji12)).f0))).setCell ⟨gb359, 1, none⟩ (.int .i64 ((rd_T49 l0 (ji12)).f1))).setCell ⟨gb359, 2, none⟩ (.int .i64 ((rd_T49 l0 (ji12)).f2))).setCell ⟨gb359, 3, none⟩ (.int .i64 ((rd_T49 l0 (ji12)).f3))).heap[gb356]? = some (.cells #[.int .i64 ((rd_T49 l0 x11_1).f0), .int .i64 ((rd_T49 l0 x11_1).f1), .int .i64 ((rd_T49 l0 x11_1).f2), .int .i64 ((rd_T49 l0 x11_1).f3)] 49 (0, 0))) := ⟨sp BK356⟩
       have n1_ : Aside0 (((((w22.setCell ⟨gb359, 0, none⟩ (.int .i64 ((rd_T49 l0 (ji12)).f0))).setCell ⟨gb359, 1, none⟩ (.int .i64 ((rd_T49 l0 (ji12)).f1))).setCell ⟨gb359, 2, none⟩ (.int .i64 ((rd_T49 l0 (ji12)).f2))).setCell ⟨gb359, 3, none⟩ (.int .i64 ((rd_T49 l0 (ji12)).f3))).heap[gb359]? = some (.cells #[.int .i64 ((rd_T49 l0 (ji12)).f0), .int .i64 ((rd_T49 l0 (ji12)).f1), .int .i64 ((rd_T49 l0 (ji12)).f2), .int .i64 ((rd_T49 l0 (ji12)).f3)] 49 (0, 0))) := ⟨sp BK359⟩
       have n2_ : Aside0 (Below w.heap.size w ((((w22.setCell ⟨gb359, 0, none⟩ (.int .i64 ((rd_T49 l0 (ji12)).f0))).setCell ⟨gb359, 1, none⟩ (.int .i64 ((rd_T49 l0 (ji12)).f1))).setCell ⟨gb359, 2, none⟩ (.int .i64 ((rd_T49 l0 (ji12)).f2))).setCell ⟨gb359, 3, none⟩ (.int .i64 ((rd_T49 l0 (ji12)).f3)))) := ⟨sbw⟩
       (try clear BK356)
       (try clear BK359)
       (try clear HB)
       generalize ((((w22.setCell ⟨gb359, 0, none⟩ (.int .i64 ((rd_T49 l0 (ji12)).f0))).setCell ⟨gb359, 1, none⟩ (.int .i64 ((rd_T49 l0 (ji12)).f1))).setCell ⟨gb359, 2, none⟩ (.int .i64 ((rd_T49 l0 (ji12)).f2))).setCell ⟨gb359, 3, none⟩ (.int .i64 ((rd_T49 l0 (ji12)).f3))) = w25 at n0_ n1_ n2_ ⊢
       have BK356 := n0_
       have BK359 := n1_
       have HB := n2_
       clear n0_ n1_ n2_
       replace BK356 := Aside0.mk (blk_drew BK356.out)
       replace BK359 := Aside0.mk (blk_drew BK359.out)
       replace HB := Aside0.mk (below_drew1 HB.out)
       refine start_ (n := 13) (S := fun w' => w'.cell? ⟨gb359, 0, none⟩ = some (.int .i64 ((rd_T49 l0 (ji12)).f0)) ∧ w'.cell? ⟨gb359, 1, none⟩ = some (.int .i64 ((rd_T49 l0 (ji12)).f1)) ∧ w'.cell? ⟨gb359, 2, none⟩ = some (.int .i64 ((rd_T49 l0 (ji12)).f2)) ∧ w'.cell? ⟨gb359, 3, none⟩ = some (.int .i64 ((rd_T49 l0 (ji12)).f3)) ∧ w'.cell? ⟨gb356, 0, none⟩ = some (.int .i64 ((rd_T49 l0 x11_1).f0)) ∧ w'.cell? ⟨gb356, 1, none⟩ = some (.int .i64 ((rd_T49 l0 x11_1).f1)) ∧ w'.cell? ⟨gb356, 2, none⟩ = some (.int .i64 ((rd_T49 l0 x11_1).f2)) ∧ w'.cell? ⟨gb356, 3, none⟩ = some (.int .i64 ((rd_T49 l0 x11_1).f3))) (ds := []) #[false, false, false, false, false, false, false, false, false, false, false, false, false] (by kernel_rfl) rfl rfl ⟨bc0 BK359, bc1 BK359, bc2 BK359, bc3 BK359, bc0 BK356, bc1 BK356, bc2 BK356, bc3 BK356⟩ (fun hHeld => ?_); refine with_tabW impl_IsPlan.tab8 impl_IsPlan.bits8 (fun HT_ HW_ => ?_)
       generalize w25.drew = w26 at BK356 BK359 HB hHeld ⊢
       refine put 0 27 #[true, false, false, false, false, false, false, false, false, false, false, false, false] HT_ ?_
       refine put 2 29 #[true, false, true, false, false, false, false, false, false, false, false, false, false] HT_ ?_
       refine put 5 32 #[true, false, true, false, false, true, false, false, false, false, false, false, false] HT_ ?_
       refine put 7 34 #[true, false, true, false, false, true, false, true, false, false, false, false, false] HT_ ?_
       refine tat8 1 28 #[true, true, true, false, false, true, false, true, false, false, false, false, false] HT_ HW_ hHeld ?_
       refine tat8 3 30 #[true, true, true, true, false, true, false, true, false, false, false, false, false] HT_ HW_ hHeld ?_
       refine tat8 6 33 #[true, true, true, true, false, true, true, true, false, false, false, false, false] HT_ HW_ hHeld ?_
       refine tat8 8 35 #[true, true, true, true, false, true, true, true, true, false, false, false, false] HT_ HW_ hHeld ?_
       refine one_ (i := 4) (N := some 31) #[true, true, true, true, true, true, true, true, true, false, false, false, false] rfl rfl (one_of HT_.out (by kernel_rfl)) (by decide) (fun K hK => ?_)
       refine goes_ Try.func39 (by kernel_rfl) rfl #[.int .i64 ((rd_T49 l0 (ji12)).f0), .int .i64 ((rd_T49 l0 x11_1).f0)] (by rfl) rfl rfl (by (try simp only [List.map_toArray, List.map_cons, List.map_nil]); first | done | (simp only [hji12]; rfl) | rfl | (simp only [List.length_drop, List.length_take]; rfl)) ?_
       with_reducible refine (cmp_Compare_int.calls ((rd_T49 l0 (ji12)).f0) ((rd_T49 l0 x11_1).f0) t360 _ A15.out).mono ?_
       rintro e w' ⟨rfl, ⟨nd, rfl⟩⟩
       refine ⟨_, rfl, ?_⟩
       refine hK.out _ _ ⟨bc0 BK359, bc1 BK359, bc2 BK359, bc3 BK359, bc0 BK356, bc1 BK356, bc2 BK356, bc3 BK356⟩ (fun hHeld => ?_)
       clear hK K
       refine norm_ (a' := ?_) ?_ ?_
       rotate_left
       ·show Act.put _ (some 31) _ = _
        simp only [Act.put, List.setIfInBounds_toArray, List.set_cons_zero, List.set_cons_succ, i64_w, i32_w]
        rfl
       refine one_ (i := 9) (N := some 36) #[true, true, true, true, true, true, true, true, true, true, false, false, false] rfl rfl (one_of HT_.out (by kernel_rfl)) (by decide) (fun K hK => ?_)
       refine goes_ Try.func39 (by kernel_rfl) rfl #[.int .i64 ((rd_T49 l0 (ji12)).f1), .int .i64 ((rd_T49 l0 x11_1).f1)] (by rfl) rfl rfl (by (try simp only [List.map_toArray, List.map_cons, List.map_nil]); first | done | (simp only [hji12]; rfl) | rfl | (simp only [List.length_drop, List.length_take]; rfl)) ?_
       with_reducible refine (cmp_Compare_int.calls ((rd_T49 l0 (ji12)).f1) ((rd_T49 l0 x11_1).f1) t361 _ A16.out).mono ?_
       rintro e w' ⟨rfl, ⟨nd, rfl⟩⟩
       refine ⟨_, rfl, ?_⟩
       refine hK.out _ _ ⟨bc0 BK359, bc1 BK359, bc2 BK359, bc3 BK359, bc0 BK356, bc1 BK356, bc2 BK356, bc3 BK356⟩ (fun hHeld => ?_)
       clear hK K
       refine norm_ (a' := ?_) ?_ ?_
       rotate_left
       ·show Act.put _ (some 36) _ = _
        simp only [Act.put, List.setIfInBounds_toArray, List.set_cons_zero, List.set_cons_succ, i64_w, i32_w]
        rfl
       refine one_ (i := 10) (N := some 37) #[true, true, true, true, true, true, true, true, true, true, true, false, false] rfl rfl (one_of HT_.out (by kernel_rfl)) (by decide) (fun K hK => ?_)
       refine Kd.R_lit_step (Kd.int .i64) _ 3 ?hg (N := 37) ?hd (xs := ([t360, t361] : List Int)) (inner := [.int .i64 t360, .int .i64 t361]) (ok := fun _ => True) (okp := fun _ => True) ?hr ?hp (fun _ hk => hk) trivial (Below.refl _ _) (Nat.le_refl _) (by simp) ?_; (case hd => rfl); (case hg => rfl); (case hr => first | (go_simp; done) | (go_simp; rfl)); (case hp => exact (Reps.one (show Kd.M (Kd.int .i64) _ _ _ t360 [.int .i64 t360] from rfl) (Reps.one (show Kd.M (Kd.int .i64) _ _ _ t361 [.int .i64 t361] from rfl) (Reps.none _ _))))
       intro v363 w27 ho28 hb hg_ hnew_
       clear hg_ hnew_
       (first | rw [← Ny362.out] at ho28 | (simp only [Int.reduceToNat] at ho28; rw [← Ny362.out] at ho28))
       have HO364 := Aside0.mk (Kd.R_lower ho28 (below_size (sbw)))
       replace BK356 := bb BK356 hb
       replace BK359 := bb BK359 hb
       replace HB := bsw hb
       clear hb ho28
       obtain ⟨Ao29, co29, eo29⟩ := Kd.R_slice HO364.out
       (first | subst eo29 | (injection eo29 with f1_ f2_ f3_; have f4_ := f1_.symm; have f5_ := f3_.symm; clear f1_ f2_ f3_; subst f4_; subst f5_))
       refine hK.out _ _ ⟨bc0 BK359, bc1 BK359, bc2 BK359, bc3 BK359, bc0 BK356, bc1 BK356, bc2 BK356, bc3 BK356⟩ (fun hHeld => ?_)
       clear hK K
       refine norm_ (a' := ?_) ?_ ?_
       rotate_left
       ·show Act.put _ (some 37) _ = _
        simp only [Act.put, List.setIfInBounds_toArray, List.set_cons_zero, List.set_cons_succ, i64_w, i32_w]
        rfl
       refine one_ (i := 11) (N := some 38) #[true, true, true, true, true, true, true, true, true, true, true, true, false] rfl rfl (one_of HT_.out (by kernel_rfl)) (by decide) (fun K hK => ?_)
       refine goes_ Try.func38 (by kernel_rfl) rfl #[.slice Ao29 y362.length co29] (by rfl) rfl rfl sl ?_
       with_reducible refine (cmp_Or_int.calls k1 _ _ y362 t365 _ ?side1 ?side2 A17.out).mono ?_
       (case side1 => exact cr HO364)
       (case side2 => exact (Kd.R_reads' HO364.out).2.1)
       rintro e w' ⟨rfl, ⟨nd, rfl⟩⟩
       refine ⟨_, rfl, ?_⟩
       refine hK.out _ _ ⟨bc0 BK359, bc1 BK359, bc2 BK359, bc3 BK359, bc0 BK356, bc1 BK356, bc2 BK356, bc3 BK356⟩ (fun hHeld => ?_)
       clear hK K
       refine norm_ (a' := ?_) ?_ ?_
       rotate_left
       ·show Act.put _ (some 38) _ = _
        simp only [Act.put, List.setIfInBounds_toArray, List.set_cons_zero, List.set_cons_succ, i64_w, i32_w]
        rfl
       refine put 12 8 #[true, true, true, true, true, true, true, true, true, true, true, true, true] HT_ ?_
       refine done_ (done_of HT_.out (by kernel_rfl)) ?_
       try go_wp2
       go_ret
       exact ⟨by first | rfl | (simp [errW_none, errW_some] <;> rfl) | (simp only [← hji12]; first | rfl | (simp [errW_none, errW_some] <;> rfl)) | (simp [*, errW_none, errW_some] <;> rfl), sbw⟩
      ·have c18b0 := decide_eq_false c18
       clear c18
       obtain ⟨c30, H⟩ | ⟨c30, H⟩ := ie_ H
       ·have c30b0 : (t365 == 0) = true := beq_iff_eq.mpr c30
        have c30b1 : (t365 != 0) = false := bne_eq_false_iff_eq.mpr c30
        clear c30
        obtain ⟨c31, H⟩ | ⟨c31, H⟩ := ie_ H
        ·have c31b0 := decide_eq_true c31
         clear c31
         obtain rfl := Option.some.inj H
         obtain ⟨p355, q355, ad355, e355, _, _, _, _, hx355_0, hx355_1, hx355_2, hx355_3⟩ := aT_T49 HR0 HB x11_1
         cases e355
         try go_wp2_with (first | ((with_reducible refine gate_dst (N := 6) rfl ?_); refine bx 6 #[.int .i64 0, .int .i64 0, .int .i64 0, .int .i64 0] 49 ?_; intro gb356 hg w32 hbox hb; have GW356 := bz w hg; have GE356 := bz w hg; replace HB := bs hb; have BK356 := Aside0.mk hbox; clear hb hbox hg; obtain ⟨hcz33_0, hcz33_1, hcz33_2, hcz33_3, hfz33_0, hfz33_1, hfz33_2, hfz33_3⟩ := cc4 BK356) | ((with_reducible refine gate_callee (f := 37) rfl ?_); refine gL (some 18) Try.func37 #[.agg #[.int .i64 ((rd_T49 l0 x11_1).f0), .int .i64 ((rd_T49 l0 x11_1).f1), .int .i64 ((rd_T49 l0 x11_1).f2), .int .i64 ((rd_T49 l0 x11_1).f3)], .int .i64 a1] ?_; (with_reducible refine (impl_IsContact.calls ((rd_T49 l0 x11_1).f0) ((rd_T49 l0 x11_1).f1) ((rd_T49 l0 x11_1).f2) ((rd_T49 l0 x11_1).f3) a1 true _ A6.out).mono ?_); rintro e w34 ⟨rfl, hb⟩; refine ⟨_, rfl, ?_⟩; replace BK356 := Aside0.mk (blk_below (g := gb356) (o := .cells #[.int .i64 ((rd_T49 l0 x11_1).f0), .int .i64 ((rd_T49 l0 x11_1).f1), .int .i64 ((rd_T49 l0 x11_1).f2), .int .i64 ((rd_T49 l0 x11_1).f3)] 49 (0, 0)) (sp BK356) hb); replace HB := bsw hb; (try clear hb); (try clear hb2); (try clear hk); (try clear hi); obtain ⟨p358, q358, ad358, e358, _, _, _, _, hx358_0, hx358_1, hx358_2, hx358_3⟩ := aT_T49 HR0 HB (ji12); obtain rfl : ad355 = ad358 := (by injection e358)) | ((with_reducible refine gate_dst (N := 7) rfl ?_); refine bx 7 #[.int .i64 0, .int .i64 0, .int .i64 0, .int .i64 0] 49 ?_; intro gb359 hg w35 hbox hb; have GW359 := bzw w hg; have GE359 := bzw w hg; replace HB := bsw hb; have BK359 := Aside0.mk hbox; have NB356_359 := nl BK356 hg; have NB359_356 := ng BK356 hg; replace BK356 := bb BK356 hb; clear hb hbox hg; have hnb36 := NB359_356.out; have hnc36 := NB356_359.out; obtain ⟨hcz37_0, hcz37_1, hcz37_2, hcz37_3, hfz37_0, hfz37_1, hfz37_2, hfz37_3⟩ := cc4 BK359))
         have n0_ : Aside0 (((((w35.setCell ⟨gb359, 0, none⟩ (.int .i64 ((rd_T49 l0 (ji12)).f0))).setCell ⟨gb359, 1, none⟩ (.int .i64 ((rd_T49 l0 (ji12)).f1))).setCell ⟨gb359, 2, none⟩ (.int .i64 ((rd_T49 l0 (ji12)).f2))).setCell ⟨gb359, 3, none⟩ (.int .i64 ((rd_T49 l0 (ji12)).f3))).heap[gb356]? = some (.cells #[.int .i64 ((rd_T49 l0 x11_1).f0), .int .i64 ((rd_T49 l0 x11_1).f1), .int .i64 ((rd_T49 l0 x11_1).f2), .int .i64 ((rd_T49 l0 x11_1).f3)] 49 (0, 0))) := ⟨sp BK356⟩
         have n1_ : Aside0 (((((w35.setCell ⟨gb359, 0, none⟩ (.int .i64 ((rd_T49 l0 (ji12)).f0))).setCell ⟨gb359, 1, none⟩ (.int .i64 ((rd_T49 l0 (ji12)).f1))).setCell ⟨gb359, 2, none⟩ (.int .i64 ((rd_T49 l0 (ji12)).f2))).setCell ⟨gb359, 3, none⟩ (.int .i64 ((rd_T49 l0 (ji12)).f3))).heap[gb359]? = some (.cells #[.int .i64 ((rd_T49 l0 (ji12)).f0), .int .i64 ((rd_T49 l0 (ji12)).f1), .int .i64 ((rd_T49 l0 (ji12)).f2), .int .i64 ((rd_T49 l0 (ji12)).f3)] 49 (0, 0))) := ⟨sp BK359⟩
         have n2_ : Aside0 (Below w.heap.size w ((((w35.setCell ⟨gb359, 0, none⟩ (.int .i64 ((rd_T49 l0 (ji12)).f0))).setCell ⟨gb359, 1, none⟩ (.int .i64 ((rd_T49 l0 (ji12)).f1))).setCell ⟨gb359, 2, none⟩ (.int .i64 ((rd_T49 l0 (ji12)).f2))).setCell ⟨gb359, 3, none⟩ (.int .i64 ((rd_T49 l0 (ji12)).f3)))) := ⟨sbw⟩
         (try clear BK356)
         (try clear BK359)
         (try clear HB)
         generalize ((((w35.setCell ⟨gb359, 0, none⟩ (.int .i64 ((rd_T49 l0 (ji12)).f0))).setCell ⟨gb359, 1, none⟩ (.int .i64 ((rd_T49 l0 (ji12)).f1))).setCell ⟨gb359, 2, none⟩ (.int .i64 ((rd_T49 l0 (ji12)).f2))).setCell ⟨gb359, 3, none⟩ (.int .i64 ((rd_T49 l0 (ji12)).f3))) = w38 at n0_ n1_ n2_ ⊢
         have BK356 := n0_
         have BK359 := n1_
         have HB := n2_
         clear n0_ n1_ n2_
         replace BK356 := Aside0.mk (blk_drew BK356.out)
         replace BK359 := Aside0.mk (blk_drew BK359.out)
         replace HB := Aside0.mk (below_drew1 HB.out)
         refine start_ (n := 13) (S := fun w' => w'.cell? ⟨gb359, 0, none⟩ = some (.int .i64 ((rd_T49 l0 (ji12)).f0)) ∧ w'.cell? ⟨gb359, 1, none⟩ = some (.int .i64 ((rd_T49 l0 (ji12)).f1)) ∧ w'.cell? ⟨gb359, 2, none⟩ = some (.int .i64 ((rd_T49 l0 (ji12)).f2)) ∧ w'.cell? ⟨gb359, 3, none⟩ = some (.int .i64 ((rd_T49 l0 (ji12)).f3)) ∧ w'.cell? ⟨gb356, 0, none⟩ = some (.int .i64 ((rd_T49 l0 x11_1).f0)) ∧ w'.cell? ⟨gb356, 1, none⟩ = some (.int .i64 ((rd_T49 l0 x11_1).f1)) ∧ w'.cell? ⟨gb356, 2, none⟩ = some (.int .i64 ((rd_T49 l0 x11_1).f2)) ∧ w'.cell? ⟨gb356, 3, none⟩ = some (.int .i64 ((rd_T49 l0 x11_1).f3))) (ds := []) #[false, false, false, false, false, false, false, false, false, false, false, false, false] (by kernel_rfl) rfl rfl ⟨bc0 BK359, bc1 BK359, bc2 BK359, bc3 BK359, bc0 BK356, bc1 BK356, bc2 BK356, bc3 BK356⟩ (fun hHeld => ?_); refine with_tabW impl_IsPlan.tab8 impl_IsPlan.bits8 (fun HT_ HW_ => ?_)
         generalize w38.drew = w39 at BK356 BK359 HB hHeld ⊢
         refine put 0 27 #[true, false, false, false, false, false, false, false, false, false, false, false, false] HT_ ?_
         refine put 2 29 #[true, false, true, false, false, false, false, false, false, false, false, false, false] HT_ ?_
         refine put 5 32 #[true, false, true, false, false, true, false, false, false, false, false, false, false] HT_ ?_
         refine put 7 34 #[true, false, true, false, false, true, false, true, false, false, false, false, false] HT_ ?_
         refine tat8 1 28 #[true, true, true, false, false, true, false, true, false, false, false, false, false] HT_ HW_ hHeld ?_
         refine tat8 3 30 #[true, true, true, true, false, true, false, true, false, false, false, false, false] HT_ HW_ hHeld ?_
         refine tat8 6 33 #[true, true, true, true, false, true, true, true, false, false, false, false, false] HT_ HW_ hHeld ?_
         refine tat8 8 35 #[true, true, true, true, false, true, true, true, true, false, false, false, false] HT_ HW_ hHeld ?_
         refine one_ (i := 4) (N := some 31) #[true, true, true, true, true, true, true, true, true, false, false, false, false] rfl rfl (one_of HT_.out (by kernel_rfl)) (by decide) (fun K hK => ?_)
         refine goes_ Try.func39 (by kernel_rfl) rfl #[.int .i64 ((rd_T49 l0 (ji12)).f0), .int .i64 ((rd_T49 l0 x11_1).f0)] (by rfl) rfl rfl (by (try simp only [List.map_toArray, List.map_cons, List.map_nil]); first | done | (simp only [hji12]; rfl) | rfl | (simp only [List.length_drop, List.length_take]; rfl)) ?_
         with_reducible refine (cmp_Compare_int.calls ((rd_T49 l0 (ji12)).f0) ((rd_T49 l0 x11_1).f0) t360 _ A15.out).mono ?_
         rintro e w' ⟨rfl, ⟨nd, rfl⟩⟩
         refine ⟨_, rfl, ?_⟩
         refine hK.out _ _ ⟨bc0 BK359, bc1 BK359, bc2 BK359, bc3 BK359, bc0 BK356, bc1 BK356, bc2 BK356, bc3 BK356⟩ (fun hHeld => ?_)
         clear hK K
         refine norm_ (a' := ?_) ?_ ?_
         rotate_left
         ·show Act.put _ (some 31) _ = _
          simp only [Act.put, List.setIfInBounds_toArray, List.set_cons_zero, List.set_cons_succ, i64_w, i32_w]
          rfl
         refine one_ (i := 9) (N := some 36) #[true, true, true, true, true, true, true, true, true, true, false, false, false] rfl rfl (one_of HT_.out (by kernel_rfl)) (by decide) (fun K hK => ?_)
         refine goes_ Try.func39 (by kernel_rfl) rfl #[.int .i64 ((rd_T49 l0 (ji12)).f1), .int .i64 ((rd_T49 l0 x11_1).f1)] (by rfl) rfl rfl (by (try simp only [List.map_toArray, List.map_cons, List.map_nil]); first | done | (simp only [hji12]; rfl) | rfl | (simp only [List.length_drop, List.length_take]; rfl)) ?_
         with_reducible refine (cmp_Compare_int.calls ((rd_T49 l0 (ji12)).f1) ((rd_T49 l0 x11_1).f1) t361 _ A16.out).mono ?_
         rintro e w' ⟨rfl, ⟨nd, rfl⟩⟩
         refine ⟨_, rfl, ?_⟩
         refine hK.out _ _ ⟨bc0 BK359, bc1 BK359, bc2 BK359, bc3 BK359, bc0 BK356, bc1 BK356, bc2 BK356, bc3 BK356⟩ (fun hHeld => ?_)
         clear hK K
         refine norm_ (a' := ?_) ?_ ?_
         rotate_left
         ·show Act.put _ (some 36) _ = _
          simp only [Act.put, List.setIfInBounds_toArray, List.set_cons_zero, List.set_cons_succ, i64_w, i32_w]
          rfl
         refine one_ (i := 10) (N := some 37) #[true, true, true, true, true, true, true, true, true, true, true, false, false] rfl rfl (one_of HT_.out (by kernel_rfl)) (by decide) (fun K hK => ?_)
         refine Kd.R_lit_step (Kd.int .i64) _ 3 ?hg (N := 37) ?hd (xs := ([t360, t361] : List Int)) (inner := [.int .i64 t360, .int .i64 t361]) (ok := fun _ => True) (okp := fun _ => True) ?hr ?hp (fun _ hk => hk) trivial (Below.refl _ _) (Nat.le_refl _) (by simp) ?_; (case hd => rfl); (case hg => rfl); (case hr => first | (go_simp; done) | (go_simp; rfl)); (case hp => exact (Reps.one (show Kd.M (Kd.int .i64) _ _ _ t360 [.int .i64 t360] from rfl) (Reps.one (show Kd.M (Kd.int .i64) _ _ _ t361 [.int .i64 t361] from rfl) (Reps.none _ _))))
         intro v363 w40 ho41 hb hg_ hnew_
         clear hg_ hnew_
         (first | rw [← Ny362.out] at ho41 | (simp only [Int.reduceToNat] at ho41; rw [← Ny362.out] at ho41))
         have HO364 := Aside0.mk (Kd.R_lower ho41 (below_size (sbw)))
         replace BK356 := bb BK356 hb
         replace BK359 := bb BK359 hb
         replace HB := bsw hb
         clear hb ho41
         obtain ⟨Ao42, co42, eo42⟩ := Kd.R_slice HO364.out
         (first | subst eo42 | (injection eo42 with f1_ f2_ f3_; have f4_ := f1_.symm; have f5_ := f3_.symm; clear f1_ f2_ f3_; subst f4_; subst f5_))
         refine hK.out _ _ ⟨bc0 BK359, bc1 BK359, bc2 BK359, bc3 BK359, bc0 BK356, bc1 BK356, bc2 BK356, bc3 BK356⟩ (fun hHeld => ?_)
         clear hK K
         refine norm_ (a' := ?_) ?_ ?_
         rotate_left
         ·show Act.put _ (some 37) _ = _
          simp only [Act.put, List.setIfInBounds_toArray, List.set_cons_zero, List.set_cons_succ, i64_w, i32_w]
          rfl
         refine one_ (i := 11) (N := some 38) #[true, true, true, true, true, true, true, true, true, true, true, true, false] rfl rfl (one_of HT_.out (by kernel_rfl)) (by decide) (fun K hK => ?_)
         refine goes_ Try.func38 (by kernel_rfl) rfl #[.slice Ao42 y362.length co42] (by rfl) rfl rfl sl ?_
         with_reducible refine (cmp_Or_int.calls k1 _ _ y362 t365 _ ?side1 ?side2 A17.out).mono ?_
         (case side1 => exact cr HO364)
         (case side2 => exact (Kd.R_reads' HO364.out).2.1)
         rintro e w' ⟨rfl, ⟨nd, rfl⟩⟩
         refine ⟨_, rfl, ?_⟩
         refine hK.out _ _ ⟨bc0 BK359, bc1 BK359, bc2 BK359, bc3 BK359, bc0 BK356, bc1 BK356, bc2 BK356, bc3 BK356⟩ (fun hHeld => ?_)
         clear hK K
         refine norm_ (a' := ?_) ?_ ?_
         rotate_left
         ·show Act.put _ (some 38) _ = _
          simp only [Act.put, List.setIfInBounds_toArray, List.set_cons_zero, List.set_cons_succ, i64_w, i32_w]
          rfl
         refine put 12 8 #[true, true, true, true, true, true, true, true, true, true, true, true, true] HT_ ?_
         refine done_ (done_of HT_.out (by kernel_rfl)) ?_
         obtain ⟨hcz43_0, hcz43_1, hcz43_2, hcz43_3, hfz43_0, hfz43_1, hfz43_2, hfz43_3⟩ := cc4 BK359
         obtain ⟨hcz44_0, hcz44_1, hcz44_2, hcz44_3, hfz44_0, hfz44_1, hfz44_2, hfz44_3⟩ := cc4 BK356
         try go_wp2
         go_ret
         exact ⟨by first | rfl | (simp [errW_none, errW_some] <;> rfl) | (simp only [← hji12]; first | rfl | (simp [errW_none, errW_some] <;> rfl)) | (simp [*, errW_none, errW_some] <;> rfl), sbw⟩
        ·have c31b0 := decide_eq_false c31
         clear c31
         have H' := Aside0.mk H
         clear H
         obtain ⟨p355, q355, ad355, e355, _, _, _, _, hx355_0, hx355_1, hx355_2, hx355_3⟩ := aT_T49 HR0 HB x11_1
         cases e355
         try go_wp2_with (first | ((with_reducible refine gate_dst (N := 6) rfl ?_); refine bx 6 #[.int .i64 0, .int .i64 0, .int .i64 0, .int .i64 0] 49 ?_; intro gb356 hg w45 hbox hb; have GW356 := bz w hg; have GE356 := bz w hg; replace HB := bs hb; have BK356 := Aside0.mk hbox; clear hb hbox hg; obtain ⟨hcz46_0, hcz46_1, hcz46_2, hcz46_3, hfz46_0, hfz46_1, hfz46_2, hfz46_3⟩ := cc4 BK356) | ((with_reducible refine gate_callee (f := 37) rfl ?_); refine gL (some 18) Try.func37 #[.agg #[.int .i64 ((rd_T49 l0 x11_1).f0), .int .i64 ((rd_T49 l0 x11_1).f1), .int .i64 ((rd_T49 l0 x11_1).f2), .int .i64 ((rd_T49 l0 x11_1).f3)], .int .i64 a1] ?_; (with_reducible refine (impl_IsContact.calls ((rd_T49 l0 x11_1).f0) ((rd_T49 l0 x11_1).f1) ((rd_T49 l0 x11_1).f2) ((rd_T49 l0 x11_1).f3) a1 true _ A6.out).mono ?_); rintro e w47 ⟨rfl, hb⟩; refine ⟨_, rfl, ?_⟩; replace BK356 := Aside0.mk (blk_below (g := gb356) (o := .cells #[.int .i64 ((rd_T49 l0 x11_1).f0), .int .i64 ((rd_T49 l0 x11_1).f1), .int .i64 ((rd_T49 l0 x11_1).f2), .int .i64 ((rd_T49 l0 x11_1).f3)] 49 (0, 0)) (sp BK356) hb); replace HB := bsw hb; (try clear hb); (try clear hb2); (try clear hk); (try clear hi); obtain ⟨p358, q358, ad358, e358, _, _, _, _, hx358_0, hx358_1, hx358_2, hx358_3⟩ := aT_T49 HR0 HB (ji12); obtain rfl : ad355 = ad358 := (by injection e358)) | ((with_reducible refine gate_dst (N := 7) rfl ?_); refine bx 7 #[.int .i64 0, .int .i64 0, .int .i64 0, .int .i64 0] 49 ?_; intro gb359 hg w48 hbox hb; have GW359 := bzw w hg; have GE359 := bzw w hg; replace HB := bsw hb; have BK359 := Aside0.mk hbox; have NB356_359 := nl BK356 hg; have NB359_356 := ng BK356 hg; replace BK356 := bb BK356 hb; clear hb hbox hg; have hnb49 := NB359_356.out; have hnc49 := NB356_359.out; obtain ⟨hcz50_0, hcz50_1, hcz50_2, hcz50_3, hfz50_0, hfz50_1, hfz50_2, hfz50_3⟩ := cc4 BK359))
         have n0_ : Aside0 (((((w48.setCell ⟨gb359, 0, none⟩ (.int .i64 ((rd_T49 l0 (ji12)).f0))).setCell ⟨gb359, 1, none⟩ (.int .i64 ((rd_T49 l0 (ji12)).f1))).setCell ⟨gb359, 2, none⟩ (.int .i64 ((rd_T49 l0 (ji12)).f2))).setCell ⟨gb359, 3, none⟩ (.int .i64 ((rd_T49 l0 (ji12)).f3))).heap[gb356]? = some (.cells #[.int .i64 ((rd_T49 l0 x11_1).f0), .int .i64 ((rd_T49 l0 x11_1).f1), .int .i64 ((rd_T49 l0 x11_1).f2), .int .i64 ((rd_T49 l0 x11_1).f3)] 49 (0, 0))) := ⟨sp BK356⟩
         have n1_ : Aside0 (((((w48.setCell ⟨gb359, 0, none⟩ (.int .i64 ((rd_T49 l0 (ji12)).f0))).setCell ⟨gb359, 1, none⟩ (.int .i64 ((rd_T49 l0 (ji12)).f1))).setCell ⟨gb359, 2, none⟩ (.int .i64 ((rd_T49 l0 (ji12)).f2))).setCell ⟨gb359, 3, none⟩ (.int .i64 ((rd_T49 l0 (ji12)).f3))).heap[gb359]? = some (.cells #[.int .i64 ((rd_T49 l0 (ji12)).f0), .int .i64 ((rd_T49 l0 (ji12)).f1), .int .i64 ((rd_T49 l0 (ji12)).f2), .int .i64 ((rd_T49 l0 (ji12)).f3)] 49 (0, 0))) := ⟨sp BK359⟩
         have n2_ : Aside0 (Below w.heap.size w ((((w48.setCell ⟨gb359, 0, none⟩ (.int .i64 ((rd_T49 l0 (ji12)).f0))).setCell ⟨gb359, 1, none⟩ (.int .i64 ((rd_T49 l0 (ji12)).f1))).setCell ⟨gb359, 2, none⟩ (.int .i64 ((rd_T49 l0 (ji12)).f2))).setCell ⟨gb359, 3, none⟩ (.int .i64 ((rd_T49 l0 (ji12)).f3)))) := ⟨sbw⟩
         (try clear BK356)
         (try clear BK359)
         (try clear HB)
         generalize ((((w48.setCell ⟨gb359, 0, none⟩ (.int .i64 ((rd_T49 l0 (ji12)).f0))).setCell ⟨gb359, 1, none⟩ (.int .i64 ((rd_T49 l0 (ji12)).f1))).setCell ⟨gb359, 2, none⟩ (.int .i64 ((rd_T49 l0 (ji12)).f2))).setCell ⟨gb359, 3, none⟩ (.int .i64 ((rd_T49 l0 (ji12)).f3))) = w51 at n0_ n1_ n2_ ⊢
         have BK356 := n0_
         have BK359 := n1_
         have HB := n2_
         clear n0_ n1_ n2_
         replace BK356 := Aside0.mk (blk_drew BK356.out)
         replace BK359 := Aside0.mk (blk_drew BK359.out)
         replace HB := Aside0.mk (below_drew1 HB.out)
         refine start_ (n := 13) (S := fun w' => w'.cell? ⟨gb359, 0, none⟩ = some (.int .i64 ((rd_T49 l0 (ji12)).f0)) ∧ w'.cell? ⟨gb359, 1, none⟩ = some (.int .i64 ((rd_T49 l0 (ji12)).f1)) ∧ w'.cell? ⟨gb359, 2, none⟩ = some (.int .i64 ((rd_T49 l0 (ji12)).f2)) ∧ w'.cell? ⟨gb359, 3, none⟩ = some (.int .i64 ((rd_T49 l0 (ji12)).f3)) ∧ w'.cell? ⟨gb356, 0, none⟩ = some (.int .i64 ((rd_T49 l0 x11_1).f0)) ∧ w'.cell? ⟨gb356, 1, none⟩ = some (.int .i64 ((rd_T49 l0 x11_1).f1)) ∧ w'.cell? ⟨gb356, 2, none⟩ = some (.int .i64 ((rd_T49 l0 x11_1).f2)) ∧ w'.cell? ⟨gb356, 3, none⟩ = some (.int .i64 ((rd_T49 l0 x11_1).f3))) (ds := []) #[false, false, false, false, false, false, false, false, false, false, false, false, false] (by kernel_rfl) rfl rfl ⟨bc0 BK359, bc1 BK359, bc2 BK359, bc3 BK359, bc0 BK356, bc1 BK356, bc2 BK356, bc3 BK356⟩ (fun hHeld => ?_); refine with_tabW impl_IsPlan.tab8 impl_IsPlan.bits8 (fun HT_ HW_ => ?_)
         generalize w51.drew = w52 at BK356 BK359 HB hHeld ⊢
         refine put 0 27 #[true, false, false, false, false, false, false, false, false, false, false, false, false] HT_ ?_
         refine put 2 29 #[true, false, true, false, false, false, false, false, false, false, false, false, false] HT_ ?_
         refine put 5 32 #[true, false, true, false, false, true, false, false, false, false, false, false, false] HT_ ?_
         refine put 7 34 #[true, false, true, false, false, true, false, true, false, false, false, false, false] HT_ ?_
         refine tat8 1 28 #[true, true, true, false, false, true, false, true, false, false, false, false, false] HT_ HW_ hHeld ?_
         refine tat8 3 30 #[true, true, true, true, false, true, false, true, false, false, false, false, false] HT_ HW_ hHeld ?_
         refine tat8 6 33 #[true, true, true, true, false, true, true, true, false, false, false, false, false] HT_ HW_ hHeld ?_
         refine tat8 8 35 #[true, true, true, true, false, true, true, true, true, false, false, false, false] HT_ HW_ hHeld ?_
         refine one_ (i := 4) (N := some 31) #[true, true, true, true, true, true, true, true, true, false, false, false, false] rfl rfl (one_of HT_.out (by kernel_rfl)) (by decide) (fun K hK => ?_)
         refine goes_ Try.func39 (by kernel_rfl) rfl #[.int .i64 ((rd_T49 l0 (ji12)).f0), .int .i64 ((rd_T49 l0 x11_1).f0)] (by rfl) rfl rfl (by (try simp only [List.map_toArray, List.map_cons, List.map_nil]); first | done | (simp only [hji12]; rfl) | rfl | (simp only [List.length_drop, List.length_take]; rfl)) ?_
         with_reducible refine (cmp_Compare_int.calls ((rd_T49 l0 (ji12)).f0) ((rd_T49 l0 x11_1).f0) t360 _ A15.out).mono ?_
         rintro e w' ⟨rfl, ⟨nd, rfl⟩⟩
         refine ⟨_, rfl, ?_⟩
         refine hK.out _ _ ⟨bc0 BK359, bc1 BK359, bc2 BK359, bc3 BK359, bc0 BK356, bc1 BK356, bc2 BK356, bc3 BK356⟩ (fun hHeld => ?_)
         clear hK K
         refine norm_ (a' := ?_) ?_ ?_
         rotate_left
         ·show Act.put _ (some 31) _ = _
          simp only [Act.put, List.setIfInBounds_toArray, List.set_cons_zero, List.set_cons_succ, i64_w, i32_w]
          rfl
         refine one_ (i := 9) (N := some 36) #[true, true, true, true, true, true, true, true, true, true, false, false, false] rfl rfl (one_of HT_.out (by kernel_rfl)) (by decide) (fun K hK => ?_)
         refine goes_ Try.func39 (by kernel_rfl) rfl #[.int .i64 ((rd_T49 l0 (ji12)).f1), .int .i64 ((rd_T49 l0 x11_1).f1)] (by rfl) rfl rfl (by (try simp only [List.map_toArray, List.map_cons, List.map_nil]); first | done | (simp only [hji12]; rfl) | rfl | (simp only [List.length_drop, List.length_take]; rfl)) ?_
         with_reducible refine (cmp_Compare_int.calls ((rd_T49 l0 (ji12)).f1) ((rd_T49 l0 x11_1).f1) t361 _ A16.out).mono ?_
         rintro e w' ⟨rfl, ⟨nd, rfl⟩⟩
         refine ⟨_, rfl, ?_⟩
         refine hK.out _ _ ⟨bc0 BK359, bc1 BK359, bc2 BK359, bc3 BK359, bc0 BK356, bc1 BK356, bc2 BK356, bc3 BK356⟩ (fun hHeld => ?_)
         clear hK K
         refine norm_ (a' := ?_) ?_ ?_
         rotate_left
         ·show Act.put _ (some 36) _ = _
          simp only [Act.put, List.setIfInBounds_toArray, List.set_cons_zero, List.set_cons_succ, i64_w, i32_w]
          rfl
         refine one_ (i := 10) (N := some 37) #[true, true, true, true, true, true, true, true, true, true, true, false, false] rfl rfl (one_of HT_.out (by kernel_rfl)) (by decide) (fun K hK => ?_)
         refine Kd.R_lit_step (Kd.int .i64) _ 3 ?hg (N := 37) ?hd (xs := ([t360, t361] : List Int)) (inner := [.int .i64 t360, .int .i64 t361]) (ok := fun _ => True) (okp := fun _ => True) ?hr ?hp (fun _ hk => hk) trivial (Below.refl _ _) (Nat.le_refl _) (by simp) ?_; (case hd => rfl); (case hg => rfl); (case hr => first | (go_simp; done) | (go_simp; rfl)); (case hp => exact (Reps.one (show Kd.M (Kd.int .i64) _ _ _ t360 [.int .i64 t360] from rfl) (Reps.one (show Kd.M (Kd.int .i64) _ _ _ t361 [.int .i64 t361] from rfl) (Reps.none _ _))))
         intro v363 w53 ho54 hb hg_ hnew_
         clear hg_ hnew_
         (first | rw [← Ny362.out] at ho54 | (simp only [Int.reduceToNat] at ho54; rw [← Ny362.out] at ho54))
         have HO364 := Aside0.mk (Kd.R_lower ho54 (below_size (sbw)))
         replace BK356 := bb BK356 hb
         replace BK359 := bb BK359 hb
         replace HB := bsw hb
         clear hb ho54
         obtain ⟨Ao55, co55, eo55⟩ := Kd.R_slice HO364.out
         (first | subst eo55 | (injection eo55 with f1_ f2_ f3_; have f4_ := f1_.symm; have f5_ := f3_.symm; clear f1_ f2_ f3_; subst f4_; subst f5_))
         refine hK.out _ _ ⟨bc0 BK359, bc1 BK359, bc2 BK359, bc3 BK359, bc0 BK356, bc1 BK356, bc2 BK356, bc3 BK356⟩ (fun hHeld => ?_)
         clear hK K
         refine norm_ (a' := ?_) ?_ ?_
         rotate_left
         ·show Act.put _ (some 37) _ = _
          simp only [Act.put, List.setIfInBounds_toArray, List.set_cons_zero, List.set_cons_succ, i64_w, i32_w]
          rfl
         refine one_ (i := 11) (N := some 38) #[true, true, true, true, true, true, true, true, true, true, true, true, false] rfl rfl (one_of HT_.out (by kernel_rfl)) (by decide) (fun K hK => ?_)
         refine goes_ Try.func38 (by kernel_rfl) rfl #[.slice Ao55 y362.length co55] (by rfl) rfl rfl sl ?_
         with_reducible refine (cmp_Or_int.calls k1 _ _ y362 t365 _ ?side1 ?side2 A17.out).mono ?_
         (case side1 => exact cr HO364)
         (case side2 => exact (Kd.R_reads' HO364.out).2.1)
         rintro e w' ⟨rfl, ⟨nd, rfl⟩⟩
         refine ⟨_, rfl, ?_⟩
         refine hK.out _ _ ⟨bc0 BK359, bc1 BK359, bc2 BK359, bc3 BK359, bc0 BK356, bc1 BK356, bc2 BK356, bc3 BK356⟩ (fun hHeld => ?_)
         clear hK K
         refine norm_ (a' := ?_) ?_ ?_
         rotate_left
         ·show Act.put _ (some 38) _ = _
          simp only [Act.put, List.setIfInBounds_toArray, List.set_cons_zero, List.set_cons_succ, i64_w, i32_w]
          rfl
         refine put 12 8 #[true, true, true, true, true, true, true, true, true, true, true, true, true] HT_ ?_
         refine done_ (done_of HT_.out (by kernel_rfl)) ?_
         obtain ⟨hcz56_0, hcz56_1, hcz56_2, hcz56_3, hfz56_0, hfz56_1, hfz56_2, hfz56_3⟩ := cc4 BK359
         obtain ⟨hcz57_0, hcz57_1, hcz57_2, hcz57_3, hfz57_0, hfz57_1, hfz57_2, hfz57_3⟩ := cc4 BK356
         try go_wp2
         go_roundg k1
         case measure => have := HK1.out; omega
         case rel => exact ⟨(wrap64 (x11_1 + 1)), sc, H', kk1, ⟨sbw⟩⟩
       ·have c30b0 : (t365 == 0) = false := beq_eq_false_iff_ne.mpr c30
        have c30b1 : (t365 != 0) = true := bne_iff_ne.mpr c30
        have H' := Aside0.mk H
        clear H
        obtain ⟨p355, q355, ad355, e355, _, _, _, _, hx355_0, hx355_1, hx355_2, hx355_3⟩ := aT_T49 HR0 HB x11_1
        cases e355
        try go_wp2_with (first | ((with_reducible refine gate_dst (N := 6) rfl ?_); refine bx 6 #[.int .i64 0, .int .i64 0, .int .i64 0, .int .i64 0] 49 ?_; intro gb356 hg w58 hbox hb; have GW356 := bz w hg; have GE356 := bz w hg; replace HB := bs hb; have BK356 := Aside0.mk hbox; clear hb hbox hg; obtain ⟨hcz59_0, hcz59_1, hcz59_2, hcz59_3, hfz59_0, hfz59_1, hfz59_2, hfz59_3⟩ := cc4 BK356) | ((with_reducible refine gate_callee (f := 37) rfl ?_); refine gL (some 18) Try.func37 #[.agg #[.int .i64 ((rd_T49 l0 x11_1).f0), .int .i64 ((rd_T49 l0 x11_1).f1), .int .i64 ((rd_T49 l0 x11_1).f2), .int .i64 ((rd_T49 l0 x11_1).f3)], .int .i64 a1] ?_; (with_reducible refine (impl_IsContact.calls ((rd_T49 l0 x11_1).f0) ((rd_T49 l0 x11_1).f1) ((rd_T49 l0 x11_1).f2) ((rd_T49 l0 x11_1).f3) a1 true _ A6.out).mono ?_); rintro e w60 ⟨rfl, hb⟩; refine ⟨_, rfl, ?_⟩; replace BK356 := Aside0.mk (blk_below (g := gb356) (o := .cells #[.int .i64 ((rd_T49 l0 x11_1).f0), .int .i64 ((rd_T49 l0 x11_1).f1), .int .i64 ((rd_T49 l0 x11_1).f2), .int .i64 ((rd_T49 l0 x11_1).f3)] 49 (0, 0)) (sp BK356) hb); replace HB := bsw hb; (try clear hb); (try clear hb2); (try clear hk); (try clear hi); obtain ⟨p358, q358, ad358, e358, _, _, _, _, hx358_0, hx358_1, hx358_2, hx358_3⟩ := aT_T49 HR0 HB (ji12); obtain rfl : ad355 = ad358 := (by injection e358)) | ((with_reducible refine gate_dst (N := 7) rfl ?_); refine bx 7 #[.int .i64 0, .int .i64 0, .int .i64 0, .int .i64 0] 49 ?_; intro gb359 hg w61 hbox hb; have GW359 := bzw w hg; have GE359 := bzw w hg; replace HB := bsw hb; have BK359 := Aside0.mk hbox; have NB356_359 := nl BK356 hg; have NB359_356 := ng BK356 hg; replace BK356 := bb BK356 hb; clear hb hbox hg; have hnb62 := NB359_356.out; have hnc62 := NB356_359.out; obtain ⟨hcz63_0, hcz63_1, hcz63_2, hcz63_3, hfz63_0, hfz63_1, hfz63_2, hfz63_3⟩ := cc4 BK359))
        have n0_ : Aside0 (((((w61.setCell ⟨gb359, 0, none⟩ (.int .i64 ((rd_T49 l0 (ji12)).f0))).setCell ⟨gb359, 1, none⟩ (.int .i64 ((rd_T49 l0 (ji12)).f1))).setCell ⟨gb359, 2, none⟩ (.int .i64 ((rd_T49 l0 (ji12)).f2))).setCell ⟨gb359, 3, none⟩ (.int .i64 ((rd_T49 l0 (ji12)).f3))).heap[gb356]? = some (.cells #[.int .i64 ((rd_T49 l0 x11_1).f0), .int .i64 ((rd_T49 l0 x11_1).f1), .int .i64 ((rd_T49 l0 x11_1).f2), .int .i64 ((rd_T49 l0 x11_1).f3)] 49 (0, 0))) := ⟨sp BK356⟩
        have n1_ : Aside0 (((((w61.setCell ⟨gb359, 0, none⟩ (.int .i64 ((rd_T49 l0 (ji12)).f0))).setCell ⟨gb359, 1, none⟩ (.int .i64 ((rd_T49 l0 (ji12)).f1))).setCell ⟨gb359, 2, none⟩ (.int .i64 ((rd_T49 l0 (ji12)).f2))).setCell ⟨gb359, 3, none⟩ (.int .i64 ((rd_T49 l0 (ji12)).f3))).heap[gb359]? = some (.cells #[.int .i64 ((rd_T49 l0 (ji12)).f0), .int .i64 ((rd_T49 l0 (ji12)).f1), .int .i64 ((rd_T49 l0 (ji12)).f2), .int .i64 ((rd_T49 l0 (ji12)).f3)] 49 (0, 0))) := ⟨sp BK359⟩
        have n2_ : Aside0 (Below w.heap.size w ((((w61.setCell ⟨gb359, 0, none⟩ (.int .i64 ((rd_T49 l0 (ji12)).f0))).setCell ⟨gb359, 1, none⟩ (.int .i64 ((rd_T49 l0 (ji12)).f1))).setCell ⟨gb359, 2, none⟩ (.int .i64 ((rd_T49 l0 (ji12)).f2))).setCell ⟨gb359, 3, none⟩ (.int .i64 ((rd_T49 l0 (ji12)).f3)))) := ⟨sbw⟩
        (try clear BK356)
        (try clear BK359)
        (try clear HB)
        generalize ((((w61.setCell ⟨gb359, 0, none⟩ (.int .i64 ((rd_T49 l0 (ji12)).f0))).setCell ⟨gb359, 1, none⟩ (.int .i64 ((rd_T49 l0 (ji12)).f1))).setCell ⟨gb359, 2, none⟩ (.int .i64 ((rd_T49 l0 (ji12)).f2))).setCell ⟨gb359, 3, none⟩ (.int .i64 ((rd_T49 l0 (ji12)).f3))) = w64 at n0_ n1_ n2_ ⊢
        have BK356 := n0_
        have BK359 := n1_
        have HB := n2_
        clear n0_ n1_ n2_
        replace BK356 := Aside0.mk (blk_drew BK356.out)
        replace BK359 := Aside0.mk (blk_drew BK359.out)
        replace HB := Aside0.mk (below_drew1 HB.out)
        refine start_ (n := 13) (S := fun w' => w'.cell? ⟨gb359, 0, none⟩ = some (.int .i64 ((rd_T49 l0 (ji12)).f0)) ∧ w'.cell? ⟨gb359, 1, none⟩ = some (.int .i64 ((rd_T49 l0 (ji12)).f1)) ∧ w'.cell? ⟨gb359, 2, none⟩ = some (.int .i64 ((rd_T49 l0 (ji12)).f2)) ∧ w'.cell? ⟨gb359, 3, none⟩ = some (.int .i64 ((rd_T49 l0 (ji12)).f3)) ∧ w'.cell? ⟨gb356, 0, none⟩ = some (.int .i64 ((rd_T49 l0 x11_1).f0)) ∧ w'.cell? ⟨gb356, 1, none⟩ = some (.int .i64 ((rd_T49 l0 x11_1).f1)) ∧ w'.cell? ⟨gb356, 2, none⟩ = some (.int .i64 ((rd_T49 l0 x11_1).f2)) ∧ w'.cell? ⟨gb356, 3, none⟩ = some (.int .i64 ((rd_T49 l0 x11_1).f3))) (ds := []) #[false, false, false, false, false, false, false, false, false, false, false, false, false] (by kernel_rfl) rfl rfl ⟨bc0 BK359, bc1 BK359, bc2 BK359, bc3 BK359, bc0 BK356, bc1 BK356, bc2 BK356, bc3 BK356⟩ (fun hHeld => ?_); refine with_tabW impl_IsPlan.tab8 impl_IsPlan.bits8 (fun HT_ HW_ => ?_)
        generalize w64.drew = w65 at BK356 BK359 HB hHeld ⊢
        refine put 0 27 #[true, false, false, false, false, false, false, false, false, false, false, false, false] HT_ ?_
        refine put 2 29 #[true, false, true, false, false, false, false, false, false, false, false, false, false] HT_ ?_
        refine put 5 32 #[true, false, true, false, false, true, false, false, false, false, false, false, false] HT_ ?_
        refine put 7 34 #[true, false, true, false, false, true, false, true, false, false, false, false, false] HT_ ?_
        refine tat8 1 28 #[true, true, true, false, false, true, false, true, false, false, false, false, false] HT_ HW_ hHeld ?_
        refine tat8 3 30 #[true, true, true, true, false, true, false, true, false, false, false, false, false] HT_ HW_ hHeld ?_
        refine tat8 6 33 #[true, true, true, true, false, true, true, true, false, false, false, false, false] HT_ HW_ hHeld ?_
        refine tat8 8 35 #[true, true, true, true, false, true, true, true, true, false, false, false, false] HT_ HW_ hHeld ?_
        refine one_ (i := 4) (N := some 31) #[true, true, true, true, true, true, true, true, true, false, false, false, false] rfl rfl (one_of HT_.out (by kernel_rfl)) (by decide) (fun K hK => ?_)
        refine goes_ Try.func39 (by kernel_rfl) rfl #[.int .i64 ((rd_T49 l0 (ji12)).f0), .int .i64 ((rd_T49 l0 x11_1).f0)] (by rfl) rfl rfl (by (try simp only [List.map_toArray, List.map_cons, List.map_nil]); first | done | (simp only [hji12]; rfl) | rfl | (simp only [List.length_drop, List.length_take]; rfl)) ?_
        with_reducible refine (cmp_Compare_int.calls ((rd_T49 l0 (ji12)).f0) ((rd_T49 l0 x11_1).f0) t360 _ A15.out).mono ?_
        rintro e w' ⟨rfl, ⟨nd, rfl⟩⟩
        refine ⟨_, rfl, ?_⟩
        refine hK.out _ _ ⟨bc0 BK359, bc1 BK359, bc2 BK359, bc3 BK359, bc0 BK356, bc1 BK356, bc2 BK356, bc3 BK356⟩ (fun hHeld => ?_)
        clear hK K
        refine norm_ (a' := ?_) ?_ ?_
        rotate_left
        ·show Act.put _ (some 31) _ = _
         simp only [Act.put, List.setIfInBounds_toArray, List.set_cons_zero, List.set_cons_succ, i64_w, i32_w]
         rfl
        refine one_ (i := 9) (N := some 36) #[true, true, true, true, true, true, true, true, true, true, false, false, false] rfl rfl (one_of HT_.out (by kernel_rfl)) (by decide) (fun K hK => ?_)
        refine goes_ Try.func39 (by kernel_rfl) rfl #[.int .i64 ((rd_T49 l0 (ji12)).f1), .int .i64 ((rd_T49 l0 x11_1).f1)] (by rfl) rfl rfl (by (try simp only [List.map_toArray, List.map_cons, List.map_nil]); first | done | (simp only [hji12]; rfl) | rfl | (simp only [List.length_drop, List.length_take]; rfl)) ?_
        with_reducible refine (cmp_Compare_int.calls ((rd_T49 l0 (ji12)).f1) ((rd_T49 l0 x11_1).f1) t361 _ A16.out).mono ?_
        rintro e w' ⟨rfl, ⟨nd, rfl⟩⟩
        refine ⟨_, rfl, ?_⟩
        refine hK.out _ _ ⟨bc0 BK359, bc1 BK359, bc2 BK359, bc3 BK359, bc0 BK356, bc1 BK356, bc2 BK356, bc3 BK356⟩ (fun hHeld => ?_)
        clear hK K
        refine norm_ (a' := ?_) ?_ ?_
        rotate_left
        ·show Act.put _ (some 36) _ = _
         simp only [Act.put, List.setIfInBounds_toArray, List.set_cons_zero, List.set_cons_succ, i64_w, i32_w]
         rfl
        refine one_ (i := 10) (N := some 37) #[true, true, true, true, true, true, true, true, true, true, true, false, false] rfl rfl (one_of HT_.out (by kernel_rfl)) (by decide) (fun K hK => ?_)
        refine Kd.R_lit_step (Kd.int .i64) _ 3 ?hg (N := 37) ?hd (xs := ([t360, t361] : List Int)) (inner := [.int .i64 t360, .int .i64 t361]) (ok := fun _ => True) (okp := fun _ => True) ?hr ?hp (fun _ hk => hk) trivial (Below.refl _ _) (Nat.le_refl _) (by simp) ?_; (case hd => rfl); (case hg => rfl); (case hr => first | (go_simp; done) | (go_simp; rfl)); (case hp => exact (Reps.one (show Kd.M (Kd.int .i64) _ _ _ t360 [.int .i64 t360] from rfl) (Reps.one (show Kd.M (Kd.int .i64) _ _ _ t361 [.int .i64 t361] from rfl) (Reps.none _ _))))
        intro v363 w66 ho67 hb hg_ hnew_
        clear hg_ hnew_
        (first | rw [← Ny362.out] at ho67 | (simp only [Int.reduceToNat] at ho67; rw [← Ny362.out] at ho67))
        have HO364 := Aside0.mk (Kd.R_lower ho67 (below_size (sbw)))
        replace BK356 := bb BK356 hb
        replace BK359 := bb BK359 hb
        replace HB := bsw hb
        clear hb ho67
        obtain ⟨Ao68, co68, eo68⟩ := Kd.R_slice HO364.out
        (first | subst eo68 | (injection eo68 with f1_ f2_ f3_; have f4_ := f1_.symm; have f5_ := f3_.symm; clear f1_ f2_ f3_; subst f4_; subst f5_))
        refine hK.out _ _ ⟨bc0 BK359, bc1 BK359, bc2 BK359, bc3 BK359, bc0 BK356, bc1 BK356, bc2 BK356, bc3 BK356⟩ (fun hHeld => ?_)
        clear hK K
        refine norm_ (a' := ?_) ?_ ?_
        rotate_left
        ·show Act.put _ (some 37) _ = _
         simp only [Act.put, List.setIfInBounds_toArray, List.set_cons_zero, List.set_cons_succ, i64_w, i32_w]
         rfl
        refine one_ (i := 11) (N := some 38) #[true, true, true, true, true, true, true, true, true, true, true, true, false] rfl rfl (one_of HT_.out (by kernel_rfl)) (by decide) (fun K hK => ?_)
        refine goes_ Try.func38 (by kernel_rfl) rfl #[.slice Ao68 y362.length co68] (by rfl) rfl rfl sl ?_
        with_reducible refine (cmp_Or_int.calls k1 _ _ y362 t365 _ ?side1 ?side2 A17.out).mono ?_
        (case side1 => exact cr HO364)
        (case side2 => exact (Kd.R_reads' HO364.out).2.1)
        rintro e w' ⟨rfl, ⟨nd, rfl⟩⟩
        refine ⟨_, rfl, ?_⟩
        refine hK.out _ _ ⟨bc0 BK359, bc1 BK359, bc2 BK359, bc3 BK359, bc0 BK356, bc1 BK356, bc2 BK356, bc3 BK356⟩ (fun hHeld => ?_)
        clear hK K
        refine norm_ (a' := ?_) ?_ ?_
        rotate_left
        ·show Act.put _ (some 38) _ = _
         simp only [Act.put, List.setIfInBounds_toArray, List.set_cons_zero, List.set_cons_succ, i64_w, i32_w]
         rfl
        refine put 12 8 #[true, true, true, true, true, true, true, true, true, true, true, true, true] HT_ ?_
        refine done_ (done_of HT_.out (by kernel_rfl)) ?_
        try go_wp2
        go_roundg k1
        case measure => have := HK1.out; omega
        case rel => exact ⟨(wrap64 (x11_1 + 1)), sc, H', kk1, ⟨sbw⟩⟩
    ·replace H := im H
     obtain rfl := Option.some.inj H
     obtain ⟨p355, q355, ad355, e355, _, _, _, _, hx355_0, hx355_1, hx355_2, hx355_3⟩ := aT_T49 HR0 HB x11_1
     cases e355
     go_wp2_with (first | ((with_reducible refine gate_dst (N := 6) rfl ?_); refine bx 6 #[.int .i64 0, .int .i64 0, .int .i64 0, .int .i64 0] 49 ?_; intro gb356 hg w69 hbox hb; have GW356 := bz w hg; have GE356 := bz w hg; replace HB := bs hb; have BK356 := Aside0.mk hbox; clear hb hbox hg; obtain ⟨hcz70_0, hcz70_1, hcz70_2, hcz70_3, hfz70_0, hfz70_1, hfz70_2, hfz70_3⟩ := cc4 BK356) | ((with_reducible refine gate_callee (f := 37) rfl ?_); refine gL (some 18) Try.func37 #[.agg #[.int .i64 ((rd_T49 l0 x11_1).f0), .int .i64 ((rd_T49 l0 x11_1).f1), .int .i64 ((rd_T49 l0 x11_1).f2), .int .i64 ((rd_T49 l0 x11_1).f3)], .int .i64 a1] ?_; (with_reducible refine (impl_IsContact.calls ((rd_T49 l0 x11_1).f0) ((rd_T49 l0 x11_1).f1) ((rd_T49 l0 x11_1).f2) ((rd_T49 l0 x11_1).f3) a1 false _ A6.out).mono ?_); rintro e w71 ⟨rfl, hb⟩; refine ⟨_, rfl, ?_⟩; replace BK356 := Aside0.mk (blk_below (g := gb356) (o := .cells #[.int .i64 ((rd_T49 l0 x11_1).f0), .int .i64 ((rd_T49 l0 x11_1).f1), .int .i64 ((rd_T49 l0 x11_1).f2), .int .i64 ((rd_T49 l0 x11_1).f3)] 49 (0, 0)) (sp BK356) hb); replace HB := bsw hb; (try clear hb); (try clear hb2); (try clear hk); (try clear hi)))
     go_ret
     exact ⟨se, sbw⟩
   ·have c3b0 := decide_eq_false c3
    clear c3
    obtain rfl := Option.some.inj H
    go_wp2
    go_ret
    exact ⟨se, sb⟩

end Go.Proofs.Ytcjlbgbenjmkgaa.QFnExactBuildProgram
