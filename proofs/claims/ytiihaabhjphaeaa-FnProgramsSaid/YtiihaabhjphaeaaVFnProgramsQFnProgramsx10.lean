/- Printed by a program of the session. Conditions: none. (squeezed). -/
import Derived.Test.YtiihaabhjphaeaaVFnProgramsQFnProgramsx9
namespace Go.Proofs.Ytiihaabhjphaeaa.QFnPrograms
set_option maxHeartbeats 8000000
set_option maxRecDepth 100000
open Go.RowKit Go.Proofs.YtiihaabhjphaeaaW.PrintWords Go.Proofs.YtiihaabhjphaeaaW.PrintLast Go.Proofs.YtiihaabhjphaeaaW.PrintMore Go.Proofs.Ytiihaabhjphaeaa.Open Go.Proofs.Ytiihaabhjphaeaa.Sq
attribute [local go_sem] max2_int min2_int max_two min_two max_three min_three max_four min_four   -- for this text's walks alone
attribute [local go_sem] isSome_set
set_option linter.unusedVariables false
set_option linter.unusedSimpArgs false

def impl_IsPlan.l0 : Nat → List (S137) → Int → List (S137) → Int → Int → Option (Bool)
  | 0, _, _, _, _, _ => none
  | k + 1, x0, x1, x9, x10, x11 => if x11 < x10 then (if 0 ≤ x11 then (if x11 < (x9.length : Int) then ((impl_IsContact.f ((rd_T137 x9 x11).f0) ((rd_T137 x9 x11).f1) ((rd_T137 x9 x11).f2) ((rd_T137 x9 x11).f3) x1).bind fun t383 => (if t383 = true then (if x11 = 0 then (impl_IsPlan.l0 k x0 x1 x9 x10 (wrap64 (x11 + 1))) else (if 0 ≤ (wrap64 (x11 - 1)) then (if (wrap64 (x11 - 1)) < (x0.length : Int) then ((cmp_Compare_int.f ((rd_T137 x0 (wrap64 (x11 - 1))).f0) ((rd_T137 x9 x11).f0)).bind fun t386 => ((cmp_Compare_int.f ((rd_T137 x0 (wrap64 (x11 - 1))).f1) ((rd_T137 x9 x11).f1)).bind fun t387 => ((cmp_Or_int.f k (([t386, t387] : List Int))).bind fun t391 => (if t391 > 0 then (some false) else (if t391 = 0 then (if ((rd_T137 x0 (wrap64 (x11 - 1))).f3) ≥ ((rd_T137 x9 x11).f2) then (some false) else (impl_IsPlan.l0 k x0 x1 x9 x10 (wrap64 (x11 + 1)))) else (impl_IsPlan.l0 k x0 x1 x9 x10 (wrap64 (x11 + 1)))))))) else (none)) else (none))) else (some false))) else (none)) else (none)) else (some true)
def impl_IsPlan.f (k : Nat) (l0 : List (S137)) (a1 : Int) : Option (Bool) := impl_IsPlan.l0 k l0 a1 l0 (l0.length : Int) 0
theorem impl_IsPlan.mono_l : ∀ k, (∀ y0 y1 y2 y3 y4, LeO (impl_IsPlan.l0 k y0 y1 y2 y3 y4) (impl_IsPlan.l0 (k + 1) y0 y1 y2 y3 y4))
  | 0 => fun _ _ _ _ _ r h => by simp [impl_IsPlan.l0] at h
  | k + 1 => by
    have ih0 := impl_IsPlan.mono_l k
    · intro y0 y1 y2 y3 y4
      unfold impl_IsPlan.l0
      have m0 := @cmp_Or_int.mono
      exact mo
theorem impl_IsPlan.mono : ∀ a0 a1 k, LeO (impl_IsPlan.f k a0 a1) (impl_IsPlan.f (k + 1) a0 a1) := by
  intro a0 a1 k
  have ih0 := impl_IsPlan.mono_l k
  unfold impl_IsPlan.f
  have m0 := @cmp_Or_int.mono
  exact mo
def impl_IsPlan.T8 : Bool × List (List Nat × List Nat) := (true, [([], []), ([0], [0]), ([], []), ([2], [2]), ([1, 3], [1, 3]), ([], []), ([5], [5]), ([], []), ([7], [7]), ([6, 8, 4], [6, 8]), ([4, 9], [4, 9]), ([10, 9], [10]), ([11, 11, 0, 1, 2, 3, 4, 5, 6, 7, 8, 9, 10, 11], [11])])
def impl_IsPlan.B8 : List Nat := [0, 1, 0, 4, 15, 0, 32, 0, 128, 511, 1023, 2047, 4095]
theorem impl_IsPlan.tab8 : rtab .any (opsOf Try.f110 8) = impl_IsPlan.T8 := by kernel_rfl
theorem impl_IsPlan.bits8 : waitsOk impl_IsPlan.T8.2 impl_IsPlan.B8 = true := by kernel_rfl
theorem impl_IsPlan.calls (k : Nat) (A0 : Option Addr) (c0 : Nat) (l0 : List (S137)) (a1 : Int) (r : Bool) (w : World) (hr0 : Kd.C k137 w A0 l0.length l0) (hc0 : l0.length ≤ c0) (h : impl_IsPlan.f k l0 a1 = some r) :
    Calls Try.prog 110 #[.slice A0 l0.length c0, .int .i64 a1] w fun e w' => e = .returned (.bool r) ∧ Below w.heap.size w w' := by
 have hu137 := Try.underlying137
 have HR0 := am hr0
 have HC0 := am hc0
 clear hr0 hc0
 have HB := am (Below.refl w.heap.size w)
 have H := h; unfold impl_IsPlan.f at H
 clear h
 have H' := am H
 clear H
 go_enter Try.func110, Try.ntmps110
 go_wp2
 go_loopg [11] k (fun kq v11 w' => ∃ (x11_1 : Int), v11 = .int .i64 x11_1 ∧ Aside0 (impl_IsPlan.l0 kq l0 a1 l0 (l0.length : Int) x11_1 = some r) ∧ Aside0 (kq ≤ k) ∧ Aside0 (Below w.heap.size w w'))
 case atStart => exact ⟨(0), sc, H', kk0, ⟨sb⟩⟩
 case round =>
  clear H'
  obtain ⟨x11_1, rfl, HA, HK1, HB⟩ := hrel
  cases gk with
  | zero => exact absurd HA.out (by simp [impl_IsPlan.l0])
  | succ k1 =>
   have H := HA.out
   clear HA
   simp only [impl_IsPlan.l0] at H
   obtain ⟨c3, H⟩ | ⟨c3, H⟩ := ie_ H
   ·have c3b0 := decide_eq_true c3
    clear c3
    obtain ⟨c4b0, H⟩ := id_ H
    obtain ⟨c5b0, H⟩ := id_ H
    obtain ⟨t383, A6, H⟩ := bnd H
    obtain rfl | rfl := tt t383
    ·replace H := ip H
     obtain ⟨c8, H⟩ | ⟨c8, H⟩ := ie_ H
     ·have c8b0 : (x11_1 == 0) = true := beq_iff_eq.mpr c8
      have c8b1 : (x11_1 != 0) = false := bne_eq_false_iff_eq.mpr c8
      clear c8
      have H' := am H
      clear H
      obtain ⟨p381, q381, ad381, e381, _, _, _, _, hx381_0, hx381_1, hx381_2, hx381_3⟩ := aT_T137 HR0 HB x11_1
      cases e381
      go_wp2_with (first | ((with_reducible refine gd 6 rfl ?_); refine bx 6 #[.int .i64 0, .int .i64 0, .int .i64 0, .int .i64 0] 137 ?_; intro gb382 hg w9 hbox hb; have GW382 := bz w hg; have GE382 := bz w hg; replace HB := bs hb; have BK382 := am hbox; clear hb hbox hg; obtain ⟨hcz10_0, hcz10_1, hcz10_2, hcz10_3, hfz10_0, hfz10_1, hfz10_2, hfz10_3⟩ := cc4 BK382) | ((with_reducible refine gc 151 rfl ?_); refine gL (some 18) Try.func151 #[.agg #[.int .i64 ((rd_T137 l0 x11_1).f0), .int .i64 ((rd_T137 l0 x11_1).f1), .int .i64 ((rd_T137 l0 x11_1).f2), .int .i64 ((rd_T137 l0 x11_1).f3)], .int .i64 a1] ?_; (with_reducible refine (impl_IsContact.calls ((rd_T137 l0 x11_1).f0) ((rd_T137 l0 x11_1).f1) ((rd_T137 l0 x11_1).f2) ((rd_T137 l0 x11_1).f3) a1 true _ A6.out).mono ?_); rintro e w11 ⟨rfl, hb⟩; refine ⟨_, rfl, ?_⟩; replace BK382 := am (blk_below (g := gb382) (o := .cells #[.int .i64 ((rd_T137 l0 x11_1).f0), .int .i64 ((rd_T137 l0 x11_1).f1), .int .i64 ((rd_T137 l0 x11_1).f2), .int .i64 ((rd_T137 l0 x11_1).f3)] 137 (0, 0)) (sp BK382) hb); replace HB := bsw hb; (try clear hb)))
      go_roundg k1
      case measure => have := HK1.out; omega
      case rel => exact ⟨(wrap64 (x11_1 + 1)), sc, H', kk1, ⟨sbw⟩⟩
     ·have c8b0 : (x11_1 == 0) = false := beq_eq_false_iff_ne.mpr c8
      have c8b1 : (x11_1 != 0) = true := bne_iff_ne.mpr c8
      obtain ⟨ji12, hji12⟩ : ∃ j_ : Int, (wrap64 (x11_1 - 1)) = j_ := ⟨_, rfl⟩
      replace H : (if 0 ≤ (ji12) then (if (ji12) < (l0.length : Int) then ((cmp_Compare_int.f ((rd_T137 l0 (ji12)).f0) ((rd_T137 l0 x11_1).f0)).bind fun t386 => ((cmp_Compare_int.f ((rd_T137 l0 (ji12)).f1) ((rd_T137 l0 x11_1).f1)).bind fun t387 => ((cmp_Or_int.f k1 (([t386, t387] : List Int))).bind fun t391 => (if t391 > 0 then (some false) else (if t391 = 0 then (if ((rd_T137 l0 (ji12)).f3) ≥ ((rd_T137 l0 x11_1).f2) then (some false) else (impl_IsPlan.l0 k1 l0 a1 l0 (l0.length : Int) (wrap64 (x11_1 + 1)))) else (impl_IsPlan.l0 k1 l0 a1 l0 (l0.length : Int) (wrap64 (x11_1 + 1)))))))) else (none)) else (none)) = some r := by first | (rw [hji12] at H; exact H) | (simp only [hji12] at H ⊢; exact H)
      (try rw [hji12] at A6)
      have hji12w : (IntKind.i64.wrap (x11_1 - 1)) = ji12 := (i64_w _).trans hji12
      obtain ⟨c13b0, H⟩ := id_ H
      obtain ⟨c14b0, H⟩ := id_ H
      obtain ⟨t386, A15, H⟩ := bnd H
      obtain ⟨t387, A16, H⟩ := bnd H
      obtain ⟨y388, hy388⟩ : ∃ y_ : List Int, y_ = (([t386, t387] : List Int)) := ⟨_, rfl⟩
      replace H : ((cmp_Or_int.f k1 y388).bind fun t391 => (if t391 > 0 then (some false) else (if t391 = 0 then (if ((rd_T137 l0 (ji12)).f3) ≥ ((rd_T137 l0 x11_1).f2) then (some false) else (impl_IsPlan.l0 k1 l0 a1 l0 (l0.length : Int) (wrap64 (x11_1 + 1)))) else (impl_IsPlan.l0 k1 l0 a1 l0 (l0.length : Int) (wrap64 (x11_1 + 1)))))) = some r := ry hy388 H
      have Ny388 := am hy388
      clear hy388
      obtain ⟨t391, A17, H⟩ := bnd H
      obtain ⟨c18, H⟩ | ⟨c18, H⟩ := ie_ H
      ·have c18b0 := decide_eq_true c18
       clear c18
       obtain rfl := Option.some.inj H
       obtain ⟨p381, q381, ad381, e381, _, _, _, _, hx381_0, hx381_1, hx381_2, hx381_3⟩ := aT_T137 HR0 HB x11_1
       cases e381
       try go_wp2_with (first | ((with_reducible refine gd 6 rfl ?_); refine bx 6 #[.int .i64 0, .int .i64 0, .int .i64 0, .int .i64 0] 137 ?_; intro gb382 hg w19 hbox hb; have GW382 := bz w hg; have GE382 := bz w hg; replace HB := bs hb; have BK382 := am hbox; clear hb hbox hg; obtain ⟨hcz20_0, hcz20_1, hcz20_2, hcz20_3, hfz20_0, hfz20_1, hfz20_2, hfz20_3⟩ := cc4 BK382) | ((with_reducible refine gc 151 rfl ?_); refine gL (some 18) Try.func151 #[.agg #[.int .i64 ((rd_T137 l0 x11_1).f0), .int .i64 ((rd_T137 l0 x11_1).f1), .int .i64 ((rd_T137 l0 x11_1).f2), .int .i64 ((rd_T137 l0 x11_1).f3)], .int .i64 a1] ?_; (with_reducible refine (impl_IsContact.calls ((rd_T137 l0 x11_1).f0) ((rd_T137 l0 x11_1).f1) ((rd_T137 l0 x11_1).f2) ((rd_T137 l0 x11_1).f3) a1 true _ A6.out).mono ?_); rintro e w21 ⟨rfl, hb⟩; refine ⟨_, rfl, ?_⟩; replace BK382 := am (blk_below (g := gb382) (o := .cells #[.int .i64 ((rd_T137 l0 x11_1).f0), .int .i64 ((rd_T137 l0 x11_1).f1), .int .i64 ((rd_T137 l0 x11_1).f2), .int .i64 ((rd_T137 l0 x11_1).f3)] 137 (0, 0)) (sp BK382) hb); replace HB := bsw hb; (try clear hb); obtain ⟨p384, q384, ad384, e384, _, _, _, _, hx384_0, hx384_1, hx384_2, hx384_3⟩ := aT_T137 HR0 HB (ji12); obtain rfl : ad381 = ad384 := (by injection e384)) | ((with_reducible refine gd 7 rfl ?_); refine bx 7 #[.int .i64 0, .int .i64 0, .int .i64 0, .int .i64 0] 137 ?_; intro gb385 hg w22 hbox hb; have GW385 := bzw w hg; have GE385 := bzw w hg; replace HB := bsw hb; have BK385 := am hbox; have NB382_385 := nl BK382 hg; have NB385_382 := ng BK382 hg; replace BK382 := bb BK382 hb; clear hb hbox hg; have hnb23 := NB385_382.out; have hnc23 := NB382_385.out; obtain ⟨hcz24_0, hcz24_1, hcz24_2, hcz24_3, hfz24_0, hfz24_1, hfz24_2, hfz24_3⟩ := cc4 BK385))
       have n0_ : Aside0 (((((w22.setCell ⟨gb385, 0, none⟩ (.int .i64 ((rd_T137 l0 (ji12)).f0))).setCell ⟨gb385, 1, none⟩ (.int .i64 ((rd_T137 l0 (ji12)).f1))).setCell ⟨gb385, 2, none⟩ (.int .i64 ((rd_T137 l0 (ji12)).f2))).setCell ⟨gb385, 3, none⟩ (.int .i64 ((rd_T137 l0 (ji12)).f3))).heap[gb382]? = some (.cells #[.int .i64 ((rd_T137 l0 x11_1).f0), .int .i64 ((rd_T137 l0 x11_1).f1), .int .i64 ((rd_T137 l0 x11_1).f2), .int .i64 ((rd_T137 l0 x11_1).f3)] 137 (0, 0))) := ⟨sp BK382⟩
       have n1_ : Aside0 (((((w22.setCell ⟨gb385, 0, none⟩ (.int .i64 ((rd_T137 l0 (ji12)).f0))).setCell ⟨gb385, 1, none⟩ (.int .i64 ((rd_T137 l0 (ji12)).f1))).setCell ⟨gb385, 2, none⟩ (.int .i64 ((rd_T137 l0 (ji12)).f2))).setCell ⟨gb385, 3, none⟩ (.int .i64 ((rd_T137 l0 (ji12)).f3))).heap[gb385]? = some (.cells #[.int .i64 ((rd_T137 l0 (ji12)).f0), .int .i64 ((rd_T137 l0 (ji12)).f1), .int .i64 ((rd_T137 l0 (ji12)).f2), .int .i64 ((rd_T137 l0 (ji12)).f3)] 137 (0, 0))) := ⟨sp BK385⟩
       have n2_ : Aside0 (Below w.heap.size w ((((w22.setCell ⟨gb385, 0, none⟩ (.int .i64 ((rd_T137 l0 (ji12)).f0))).setCell ⟨gb385, 1, none⟩ (.int .i64 ((rd_T137 l0 (ji12)).f1))).setCell ⟨gb385, 2, none⟩ (.int .i64 ((rd_T137 l0 (ji12)).f2))).setCell ⟨gb385, 3, none⟩ (.int .i64 ((rd_T137 l0 (ji12)).f3)))) := ⟨sbw⟩
       (try clear BK382)
       (try clear BK385)
       (try clear HB)
       generalize ((((w22.setCell ⟨gb385, 0, none⟩ (.int .i64 ((rd_T137 l0 (ji12)).f0))).setCell ⟨gb385, 1, none⟩ (.int .i64 ((rd_T137 l0 (ji12)).f1))).setCell ⟨gb385, 2, none⟩ (.int .i64 ((rd_T137 l0 (ji12)).f2))).setCell ⟨gb385, 3, none⟩ (.int .i64 ((rd_T137 l0 (ji12)).f3))) = w25 at n0_ n1_ n2_ ⊢
       have BK382 := n0_
       have BK385 := n1_
       have HB := n2_
       clear n0_ n1_ n2_
       replace BK382 := am (blk_drew BK382.out)
       replace BK385 := am (blk_drew BK385.out)
       replace HB := am (below_drew1 HB.out)
       refine start_ (n := 13) (S := fun w' => w'.cell? ⟨gb385, 0, none⟩ = some (.int .i64 ((rd_T137 l0 (ji12)).f0)) ∧ w'.cell? ⟨gb385, 1, none⟩ = some (.int .i64 ((rd_T137 l0 (ji12)).f1)) ∧ w'.cell? ⟨gb385, 2, none⟩ = some (.int .i64 ((rd_T137 l0 (ji12)).f2)) ∧ w'.cell? ⟨gb385, 3, none⟩ = some (.int .i64 ((rd_T137 l0 (ji12)).f3)) ∧ w'.cell? ⟨gb382, 0, none⟩ = some (.int .i64 ((rd_T137 l0 x11_1).f0)) ∧ w'.cell? ⟨gb382, 1, none⟩ = some (.int .i64 ((rd_T137 l0 x11_1).f1)) ∧ w'.cell? ⟨gb382, 2, none⟩ = some (.int .i64 ((rd_T137 l0 x11_1).f2)) ∧ w'.cell? ⟨gb382, 3, none⟩ = some (.int .i64 ((rd_T137 l0 x11_1).f3))) (ds := []) #[false, false, false, false, false, false, false, false, false, false, false, false, false] (by kernel_rfl) rfl rfl ⟨bc0 BK385, bc1 BK385, bc2 BK385, bc3 BK385, bc0 BK382, bc1 BK382, bc2 BK382, bc3 BK382⟩ (fun hHeld => ?_); refine with_tabW impl_IsPlan.tab8 impl_IsPlan.bits8 (fun HT_ HW_ => ?_)
       generalize w25.drew = w26 at BK382 BK385 HB hHeld ⊢
       refine put 0 27 (bt 13 1) HT_ ?_
       refine put 2 29 (bt 13 5) HT_ ?_
       refine put 5 32 (bt 13 37) HT_ ?_
       refine put 7 34 (bt 13 165) HT_ ?_
       refine tat8 1 28 (bt 13 167) HT_ HW_ hHeld ?_
       refine tat8 3 30 (bt 13 175) HT_ HW_ hHeld ?_
       refine tat8 6 33 (bt 13 239) HT_ HW_ hHeld ?_
       refine tat8 8 35 (bt 13 495) HT_ HW_ hHeld ?_
       refine one_ (i := 4) (N := some 31) (bt 13 511) rfl rfl (one_of HT_.out (by kernel_rfl)) (by decide) (fun K hK => ?_)
       refine goes_ Try.func153 (by kernel_rfl) rfl #[.int .i64 ((rd_T137 l0 (ji12)).f0), .int .i64 ((rd_T137 l0 x11_1).f0)] (by rfl) rfl rfl (by (try simp only [List.map_toArray, List.map_cons, List.map_nil]); first | done | (simp only [hji12]; rfl) | rfl | (simp only [List.length_drop, List.length_take]; rfl)) ?_
       with_reducible refine (cmp_Compare_int.calls ((rd_T137 l0 (ji12)).f0) ((rd_T137 l0 x11_1).f0) t386 _ A15.out).mono ?_
       rintro e w' ⟨rfl, ⟨nd, rfl⟩⟩
       refine ⟨_, rfl, ?_⟩
       refine hK.out _ _ ⟨bc0 BK385, bc1 BK385, bc2 BK385, bc3 BK385, bc0 BK382, bc1 BK382, bc2 BK382, bc3 BK382⟩ (fun hHeld => ?_)
       clear hK K
       refine nm 31 ?_
       refine one_ (i := 9) (N := some 36) (bt 13 1023) rfl rfl (one_of HT_.out (by kernel_rfl)) (by decide) (fun K hK => ?_)
       refine goes_ Try.func153 (by kernel_rfl) rfl #[.int .i64 ((rd_T137 l0 (ji12)).f1), .int .i64 ((rd_T137 l0 x11_1).f1)] (by rfl) rfl rfl (by (try simp only [List.map_toArray, List.map_cons, List.map_nil]); first | done | (simp only [hji12]; rfl) | rfl | (simp only [List.length_drop, List.length_take]; rfl)) ?_
       with_reducible refine (cmp_Compare_int.calls ((rd_T137 l0 (ji12)).f1) ((rd_T137 l0 x11_1).f1) t387 _ A16.out).mono ?_
       rintro e w' ⟨rfl, ⟨nd, rfl⟩⟩
       refine ⟨_, rfl, ?_⟩
       refine hK.out _ _ ⟨bc0 BK385, bc1 BK385, bc2 BK385, bc3 BK385, bc0 BK382, bc1 BK382, bc2 BK382, bc3 BK382⟩ (fun hHeld => ?_)
       clear hK K
       refine nm 36 ?_
       refine one_ (i := 10) (N := some 37) (bt 13 2047) rfl rfl (one_of HT_.out (by kernel_rfl)) (by decide) (fun K hK => ?_)
       refine Kd.R_lit_step (Kd.int .i64) _ 3 ?hg (N := 37) ?hd (xs := ([t386, t387] : List Int)) (inner := [.int .i64 t386, .int .i64 t387]) (ok := fun _ => True) (okp := fun _ => True) ?hr ?hp (fun _ hk => hk) trivial (Below.refl _ _) (Nat.le_refl _) (by simp) ?_; (case hd => rfl); (case hg => rfl); (case hr => first | (go_simp; done) | (go_simp; rfl)); (case hp => exact (Reps.one (show Kd.M (Kd.int .i64) _ _ _ t386 [.int .i64 t386] from rfl) (Reps.one (show Kd.M (Kd.int .i64) _ _ _ t387 [.int .i64 t387] from rfl) (Reps.none _ _))))
       intro v389 w27 ho28 hb hg_ hnew_
       clear hg_ hnew_
       (first | rw [← Ny388.out] at ho28 | (simp only [Int.reduceToNat] at ho28; rw [← Ny388.out] at ho28))
       have HO390 := am (Kd.R_lower ho28 (below_size (sbw)))
       replace BK382 := bb BK382 hb
       replace BK385 := bb BK385 hb
       replace HB := bsw hb
       clear hb ho28
       obtain ⟨Ao29, co29, eo29⟩ := Kd.R_slice HO390.out
       (first | subst eo29 | (injection eo29 with f1_ f2_ f3_; have f4_ := f1_.symm; have f5_ := f3_.symm; clear f1_ f2_ f3_; subst f4_; subst f5_))
       refine hK.out _ _ ⟨bc0 BK385, bc1 BK385, bc2 BK385, bc3 BK385, bc0 BK382, bc1 BK382, bc2 BK382, bc3 BK382⟩ (fun hHeld => ?_)
       clear hK K
       refine nm 37 ?_
       refine one_ (i := 11) (N := some 38) (bt 13 4095) rfl rfl (one_of HT_.out (by kernel_rfl)) (by decide) (fun K hK => ?_)
       refine goes_ Try.func152 (by kernel_rfl) rfl #[.slice Ao29 y388.length co29] (by rfl) rfl rfl sl ?_
       with_reducible refine (cmp_Or_int.calls k1 _ _ y388 t391 _ ?side1 ?side2 A17.out).mono ?_
       (case side1 => exact cr HO390)
       (case side2 => exact (Kd.R_reads' HO390.out).2.1)
       rintro e w' ⟨rfl, ⟨nd, rfl⟩⟩
       refine ⟨_, rfl, ?_⟩
       refine hK.out _ _ ⟨bc0 BK385, bc1 BK385, bc2 BK385, bc3 BK385, bc0 BK382, bc1 BK382, bc2 BK382, bc3 BK382⟩ (fun hHeld => ?_)
       clear hK K
       refine nm 38 ?_
       refine put 12 8 (bt 13 8191) HT_ ?_
       refine done_ (done_of HT_.out (by kernel_rfl)) ?_
       try go_wp2
       go_ret
       exact ⟨by first | rfl | (simp [errW_none, errW_some] <;> rfl) | (simp only [← hji12]; first | rfl | (simp [errW_none, errW_some] <;> rfl)) | (simp [*, errW_none, errW_some] <;> rfl), sbw⟩
      ·have c18b0 := decide_eq_false c18
       clear c18
       obtain ⟨c30, H⟩ | ⟨c30, H⟩ := ie_ H
       ·have c30b0 : (t391 == 0) = true := beq_iff_eq.mpr c30
        have c30b1 : (t391 != 0) = false := bne_eq_false_iff_eq.mpr c30
        clear c30
        obtain ⟨c31, H⟩ | ⟨c31, H⟩ := ie_ H
        ·have c31b0 := decide_eq_true c31
         clear c31
         obtain rfl := Option.some.inj H
         obtain ⟨p381, q381, ad381, e381, _, _, _, _, hx381_0, hx381_1, hx381_2, hx381_3⟩ := aT_T137 HR0 HB x11_1
         cases e381
         try go_wp2_with (first | ((with_reducible refine gd 6 rfl ?_); refine bx 6 #[.int .i64 0, .int .i64 0, .int .i64 0, .int .i64 0] 137 ?_; intro gb382 hg w32 hbox hb; have GW382 := bz w hg; have GE382 := bz w hg; replace HB := bs hb; have BK382 := am hbox; clear hb hbox hg; obtain ⟨hcz33_0, hcz33_1, hcz33_2, hcz33_3, hfz33_0, hfz33_1, hfz33_2, hfz33_3⟩ := cc4 BK382) | ((with_reducible refine gc 151 rfl ?_); refine gL (some 18) Try.func151 #[.agg #[.int .i64 ((rd_T137 l0 x11_1).f0), .int .i64 ((rd_T137 l0 x11_1).f1), .int .i64 ((rd_T137 l0 x11_1).f2), .int .i64 ((rd_T137 l0 x11_1).f3)], .int .i64 a1] ?_; (with_reducible refine (impl_IsContact.calls ((rd_T137 l0 x11_1).f0) ((rd_T137 l0 x11_1).f1) ((rd_T137 l0 x11_1).f2) ((rd_T137 l0 x11_1).f3) a1 true _ A6.out).mono ?_); rintro e w34 ⟨rfl, hb⟩; refine ⟨_, rfl, ?_⟩; replace BK382 := am (blk_below (g := gb382) (o := .cells #[.int .i64 ((rd_T137 l0 x11_1).f0), .int .i64 ((rd_T137 l0 x11_1).f1), .int .i64 ((rd_T137 l0 x11_1).f2), .int .i64 ((rd_T137 l0 x11_1).f3)] 137 (0, 0)) (sp BK382) hb); replace HB := bsw hb; (try clear hb); obtain ⟨p384, q384, ad384, e384, _, _, _, _, hx384_0, hx384_1, hx384_2, hx384_3⟩ := aT_T137 HR0 HB (ji12); obtain rfl : ad381 = ad384 := (by injection e384)) | ((with_reducible refine gd 7 rfl ?_); refine bx 7 #[.int .i64 0, .int .i64 0, .int .i64 0, .int .i64 0] 137 ?_; intro gb385 hg w35 hbox hb; have GW385 := bzw w hg; have GE385 := bzw w hg; replace HB := bsw hb; have BK385 := am hbox; have NB382_385 := nl BK382 hg; have NB385_382 := ng BK382 hg; replace BK382 := bb BK382 hb; clear hb hbox hg; have hnb36 := NB385_382.out; have hnc36 := NB382_385.out; obtain ⟨hcz37_0, hcz37_1, hcz37_2, hcz37_3, hfz37_0, hfz37_1, hfz37_2, hfz37_3⟩ := cc4 BK385))
         have n0_ : Aside0 (((((w35.setCell ⟨gb385, 0, none⟩ (.int .i64 ((rd_T137 l0 (ji12)).f0))).setCell ⟨gb385, 1, none⟩ (.int .i64 ((rd_T137 l0 (ji12)).f1))).setCell ⟨gb385, 2, none⟩ (.int .i64 ((rd_T137 l0 (ji12)).f2))).setCell ⟨gb385, 3, none⟩ (.int .i64 ((rd_T137 l0 (ji12)).f3))).heap[gb382]? = some (.cells #[.int .i64 ((rd_T137 l0 x11_1).f0), .int .i64 ((rd_T137 l0 x11_1).f1), .int .i64 ((rd_T137 l0 x11_1).f2), .int .i64 ((rd_T137 l0 x11_1).f3)] 137 (0, 0))) := ⟨sp BK382⟩
         have n1_ : Aside0 (((((w35.setCell ⟨gb385, 0, none⟩ (.int .i64 ((rd_T137 l0 (ji12)).f0))).setCell ⟨gb385, 1, none⟩ (.int .i64 ((rd_T137 l0 (ji12)).f1))).setCell ⟨gb385, 2, none⟩ (.int .i64 ((rd_T137 l0 (ji12)).f2))).setCell ⟨gb385, 3, none⟩ (.int .i64 ((rd_T137 l0 (ji12)).f3))).heap[gb385]? = some (.cells #[.int .i64 ((rd_T137 l0 (ji12)).f0), .int .i64 ((rd_T137 l0 (ji12)).f1), .int .i64 ((rd_T137 l0 (ji12)).f2), .int .i64 ((rd_T137 l0 (ji12)).f3)] 137 (0, 0))) := ⟨sp BK385⟩
         have n2_ : Aside0 (Below w.heap.size w ((((w35.setCell ⟨gb385, 0, none⟩ (.int .i64 ((rd_T137 l0 (ji12)).f0))).setCell ⟨gb385, 1, none⟩ (.int .i64 ((rd_T137 l0 (ji12)).f1))).setCell ⟨gb385, 2, none⟩ (.int .i64 ((rd_T137 l0 (ji12)).f2))).setCell ⟨gb385, 3, none⟩ (.int .i64 ((rd_T137 l0 (ji12)).f3)))) := ⟨sbw⟩
         (try clear BK382)
         (try clear BK385)
         (try clear HB)
         generalize ((((w35.setCell ⟨gb385, 0, none⟩ (.int .i64 ((rd_T137 l0 (ji12)).f0))).setCell ⟨gb385, 1, none⟩ (.int .i64 ((rd_T137 l0 (ji12)).f1))).setCell ⟨gb385, 2, none⟩ (.int .i64 ((rd_T137 l0 (ji12)).f2))).setCell ⟨gb385, 3, none⟩ (.int .i64 ((rd_T137 l0 (ji12)).f3))) = w38 at n0_ n1_ n2_ ⊢
         have BK382 := n0_
         have BK385 := n1_
         have HB := n2_
         clear n0_ n1_ n2_
         replace BK382 := am (blk_drew BK382.out)
         replace BK385 := am (blk_drew BK385.out)
         replace HB := am (below_drew1 HB.out)
         refine start_ (n := 13) (S := fun w' => w'.cell? ⟨gb385, 0, none⟩ = some (.int .i64 ((rd_T137 l0 (ji12)).f0)) ∧ w'.cell? ⟨gb385, 1, none⟩ = some (.int .i64 ((rd_T137 l0 (ji12)).f1)) ∧ w'.cell? ⟨gb385, 2, none⟩ = some (.int .i64 ((rd_T137 l0 (ji12)).f2)) ∧ w'.cell? ⟨gb385, 3, none⟩ = some (.int .i64 ((rd_T137 l0 (ji12)).f3)) ∧ w'.cell? ⟨gb382, 0, none⟩ = some (.int .i64 ((rd_T137 l0 x11_1).f0)) ∧ w'.cell? ⟨gb382, 1, none⟩ = some (.int .i64 ((rd_T137 l0 x11_1).f1)) ∧ w'.cell? ⟨gb382, 2, none⟩ = some (.int .i64 ((rd_T137 l0 x11_1).f2)) ∧ w'.cell? ⟨gb382, 3, none⟩ = some (.int .i64 ((rd_T137 l0 x11_1).f3))) (ds := []) #[false, false, false, false, false, false, false, false, false, false, false, false, false] (by kernel_rfl) rfl rfl ⟨bc0 BK385, bc1 BK385, bc2 BK385, bc3 BK385, bc0 BK382, bc1 BK382, bc2 BK382, bc3 BK382⟩ (fun hHeld => ?_); refine with_tabW impl_IsPlan.tab8 impl_IsPlan.bits8 (fun HT_ HW_ => ?_)
         generalize w38.drew = w39 at BK382 BK385 HB hHeld ⊢
         refine put 0 27 (bt 13 1) HT_ ?_
         refine put 2 29 (bt 13 5) HT_ ?_
         refine put 5 32 (bt 13 37) HT_ ?_
         refine put 7 34 (bt 13 165) HT_ ?_
         refine tat8 1 28 (bt 13 167) HT_ HW_ hHeld ?_
         refine tat8 3 30 (bt 13 175) HT_ HW_ hHeld ?_
         refine tat8 6 33 (bt 13 239) HT_ HW_ hHeld ?_
         refine tat8 8 35 (bt 13 495) HT_ HW_ hHeld ?_
         refine one_ (i := 4) (N := some 31) (bt 13 511) rfl rfl (one_of HT_.out (by kernel_rfl)) (by decide) (fun K hK => ?_)
         refine goes_ Try.func153 (by kernel_rfl) rfl #[.int .i64 ((rd_T137 l0 (ji12)).f0), .int .i64 ((rd_T137 l0 x11_1).f0)] (by rfl) rfl rfl (by (try simp only [List.map_toArray, List.map_cons, List.map_nil]); first | done | (simp only [hji12]; rfl) | rfl | (simp only [List.length_drop, List.length_take]; rfl)) ?_
         with_reducible refine (cmp_Compare_int.calls ((rd_T137 l0 (ji12)).f0) ((rd_T137 l0 x11_1).f0) t386 _ A15.out).mono ?_
         rintro e w' ⟨rfl, ⟨nd, rfl⟩⟩
         refine ⟨_, rfl, ?_⟩
         refine hK.out _ _ ⟨bc0 BK385, bc1 BK385, bc2 BK385, bc3 BK385, bc0 BK382, bc1 BK382, bc2 BK382, bc3 BK382⟩ (fun hHeld => ?_)
         clear hK K
         refine nm 31 ?_
         refine one_ (i := 9) (N := some 36) (bt 13 1023) rfl rfl (one_of HT_.out (by kernel_rfl)) (by decide) (fun K hK => ?_)
         refine goes_ Try.func153 (by kernel_rfl) rfl #[.int .i64 ((rd_T137 l0 (ji12)).f1), .int .i64 ((rd_T137 l0 x11_1).f1)] (by rfl) rfl rfl (by (try simp only [List.map_toArray, List.map_cons, List.map_nil]); first | done | (simp only [hji12]; rfl) | rfl | (simp only [List.length_drop, List.length_take]; rfl)) ?_
         with_reducible refine (cmp_Compare_int.calls ((rd_T137 l0 (ji12)).f1) ((rd_T137 l0 x11_1).f1) t387 _ A16.out).mono ?_
         rintro e w' ⟨rfl, ⟨nd, rfl⟩⟩
         refine ⟨_, rfl, ?_⟩
         refine hK.out _ _ ⟨bc0 BK385, bc1 BK385, bc2 BK385, bc3 BK385, bc0 BK382, bc1 BK382, bc2 BK382, bc3 BK382⟩ (fun hHeld => ?_)
         clear hK K
         refine nm 36 ?_
         refine one_ (i := 10) (N := some 37) (bt 13 2047) rfl rfl (one_of HT_.out (by kernel_rfl)) (by decide) (fun K hK => ?_)
         refine Kd.R_lit_step (Kd.int .i64) _ 3 ?hg (N := 37) ?hd (xs := ([t386, t387] : List Int)) (inner := [.int .i64 t386, .int .i64 t387]) (ok := fun _ => True) (okp := fun _ => True) ?hr ?hp (fun _ hk => hk) trivial (Below.refl _ _) (Nat.le_refl _) (by simp) ?_; (case hd => rfl); (case hg => rfl); (case hr => first | (go_simp; done) | (go_simp; rfl)); (case hp => exact (Reps.one (show Kd.M (Kd.int .i64) _ _ _ t386 [.int .i64 t386] from rfl) (Reps.one (show Kd.M (Kd.int .i64) _ _ _ t387 [.int .i64 t387] from rfl) (Reps.none _ _))))
         intro v389 w40 ho41 hb hg_ hnew_
         clear hg_ hnew_
         (first | rw [← Ny388.out] at ho41 | (simp only [Int.reduceToNat] at ho41; rw [← Ny388.out] at ho41))
         have HO390 := am (Kd.R_lower ho41 (below_size (sbw)))
         replace BK382 := bb BK382 hb
         replace BK385 := bb BK385 hb
         replace HB := bsw hb
         clear hb ho41
         obtain ⟨Ao42, co42, eo42⟩ := Kd.R_slice HO390.out
         (first | subst eo42 | (injection eo42 with f1_ f2_ f3_; have f4_ := f1_.symm; have f5_ := f3_.symm; clear f1_ f2_ f3_; subst f4_; subst f5_))
         refine hK.out _ _ ⟨bc0 BK385, bc1 BK385, bc2 BK385, bc3 BK385, bc0 BK382, bc1 BK382, bc2 BK382, bc3 BK382⟩ (fun hHeld => ?_)
         clear hK K
         refine nm 37 ?_
         refine one_ (i := 11) (N := some 38) (bt 13 4095) rfl rfl (one_of HT_.out (by kernel_rfl)) (by decide) (fun K hK => ?_)
         refine goes_ Try.func152 (by kernel_rfl) rfl #[.slice Ao42 y388.length co42] (by rfl) rfl rfl sl ?_
         with_reducible refine (cmp_Or_int.calls k1 _ _ y388 t391 _ ?side1 ?side2 A17.out).mono ?_
         (case side1 => exact cr HO390)
         (case side2 => exact (Kd.R_reads' HO390.out).2.1)
         rintro e w' ⟨rfl, ⟨nd, rfl⟩⟩
         refine ⟨_, rfl, ?_⟩
         refine hK.out _ _ ⟨bc0 BK385, bc1 BK385, bc2 BK385, bc3 BK385, bc0 BK382, bc1 BK382, bc2 BK382, bc3 BK382⟩ (fun hHeld => ?_)
         clear hK K
         refine nm 38 ?_
         refine put 12 8 (bt 13 8191) HT_ ?_
         refine done_ (done_of HT_.out (by kernel_rfl)) ?_
         obtain ⟨hcz43_0, hcz43_1, hcz43_2, hcz43_3, hfz43_0, hfz43_1, hfz43_2, hfz43_3⟩ := cc4 BK385
         obtain ⟨hcz44_0, hcz44_1, hcz44_2, hcz44_3, hfz44_0, hfz44_1, hfz44_2, hfz44_3⟩ := cc4 BK382
         try go_wp2
         go_ret
         exact ⟨by first | rfl | (simp [errW_none, errW_some] <;> rfl) | (simp only [← hji12]; first | rfl | (simp [errW_none, errW_some] <;> rfl)) | (simp [*, errW_none, errW_some] <;> rfl), sbw⟩
        ·have c31b0 := decide_eq_false c31
         clear c31
         have H' := am H
         clear H
         obtain ⟨p381, q381, ad381, e381, _, _, _, _, hx381_0, hx381_1, hx381_2, hx381_3⟩ := aT_T137 HR0 HB x11_1
         cases e381
         try go_wp2_with (first | ((with_reducible refine gd 6 rfl ?_); refine bx 6 #[.int .i64 0, .int .i64 0, .int .i64 0, .int .i64 0] 137 ?_; intro gb382 hg w45 hbox hb; have GW382 := bz w hg; have GE382 := bz w hg; replace HB := bs hb; have BK382 := am hbox; clear hb hbox hg; obtain ⟨hcz46_0, hcz46_1, hcz46_2, hcz46_3, hfz46_0, hfz46_1, hfz46_2, hfz46_3⟩ := cc4 BK382) | ((with_reducible refine gc 151 rfl ?_); refine gL (some 18) Try.func151 #[.agg #[.int .i64 ((rd_T137 l0 x11_1).f0), .int .i64 ((rd_T137 l0 x11_1).f1), .int .i64 ((rd_T137 l0 x11_1).f2), .int .i64 ((rd_T137 l0 x11_1).f3)], .int .i64 a1] ?_; (with_reducible refine (impl_IsContact.calls ((rd_T137 l0 x11_1).f0) ((rd_T137 l0 x11_1).f1) ((rd_T137 l0 x11_1).f2) ((rd_T137 l0 x11_1).f3) a1 true _ A6.out).mono ?_); rintro e w47 ⟨rfl, hb⟩; refine ⟨_, rfl, ?_⟩; replace BK382 := am (blk_below (g := gb382) (o := .cells #[.int .i64 ((rd_T137 l0 x11_1).f0), .int .i64 ((rd_T137 l0 x11_1).f1), .int .i64 ((rd_T137 l0 x11_1).f2), .int .i64 ((rd_T137 l0 x11_1).f3)] 137 (0, 0)) (sp BK382) hb); replace HB := bsw hb; (try clear hb); obtain ⟨p384, q384, ad384, e384, _, _, _, _, hx384_0, hx384_1, hx384_2, hx384_3⟩ := aT_T137 HR0 HB (ji12); obtain rfl : ad381 = ad384 := (by injection e384)) | ((with_reducible refine gd 7 rfl ?_); refine bx 7 #[.int .i64 0, .int .i64 0, .int .i64 0, .int .i64 0] 137 ?_; intro gb385 hg w48 hbox hb; have GW385 := bzw w hg; have GE385 := bzw w hg; replace HB := bsw hb; have BK385 := am hbox; have NB382_385 := nl BK382 hg; have NB385_382 := ng BK382 hg; replace BK382 := bb BK382 hb; clear hb hbox hg; have hnb49 := NB385_382.out; have hnc49 := NB382_385.out; obtain ⟨hcz50_0, hcz50_1, hcz50_2, hcz50_3, hfz50_0, hfz50_1, hfz50_2, hfz50_3⟩ := cc4 BK385))
         have n0_ : Aside0 (((((w48.setCell ⟨gb385, 0, none⟩ (.int .i64 ((rd_T137 l0 (ji12)).f0))).setCell ⟨gb385, 1, none⟩ (.int .i64 ((rd_T137 l0 (ji12)).f1))).setCell ⟨gb385, 2, none⟩ (.int .i64 ((rd_T137 l0 (ji12)).f2))).setCell ⟨gb385, 3, none⟩ (.int .i64 ((rd_T137 l0 (ji12)).f3))).heap[gb382]? = some (.cells #[.int .i64 ((rd_T137 l0 x11_1).f0), .int .i64 ((rd_T137 l0 x11_1).f1), .int .i64 ((rd_T137 l0 x11_1).f2), .int .i64 ((rd_T137 l0 x11_1).f3)] 137 (0, 0))) := ⟨sp BK382⟩
         have n1_ : Aside0 (((((w48.setCell ⟨gb385, 0, none⟩ (.int .i64 ((rd_T137 l0 (ji12)).f0))).setCell ⟨gb385, 1, none⟩ (.int .i64 ((rd_T137 l0 (ji12)).f1))).setCell ⟨gb385, 2, none⟩ (.int .i64 ((rd_T137 l0 (ji12)).f2))).setCell ⟨gb385, 3, none⟩ (.int .i64 ((rd_T137 l0 (ji12)).f3))).heap[gb385]? = some (.cells #[.int .i64 ((rd_T137 l0 (ji12)).f0), .int .i64 ((rd_T137 l0 (ji12)).f1), .int .i64 ((rd_T137 l0 (ji12)).f2), .int .i64 ((rd_T137 l0 (ji12)).f3)] 137 (0, 0))) := ⟨sp BK385⟩
         have n2_ : Aside0 (Below w.heap.size w ((((w48.setCell ⟨gb385, 0, none⟩ (.int .i64 ((rd_T137 l0 (ji12)).f0))).setCell ⟨gb385, 1, none⟩ (.int .i64 ((rd_T137 l0 (ji12)).f1))).setCell ⟨gb385, 2, none⟩ (.int .i64 ((rd_T137 l0 (ji12)).f2))).setCell ⟨gb385, 3, none⟩ (.int .i64 ((rd_T137 l0 (ji12)).f3)))) := ⟨sbw⟩
         (try clear BK382)
         (try clear BK385)
         (try clear HB)
         generalize ((((w48.setCell ⟨gb385, 0, none⟩ (.int .i64 ((rd_T137 l0 (ji12)).f0))).setCell ⟨gb385, 1, none⟩ (.int .i64 ((rd_T137 l0 (ji12)).f1))).setCell ⟨gb385, 2, none⟩ (.int .i64 ((rd_T137 l0 (ji12)).f2))).setCell ⟨gb385, 3, none⟩ (.int .i64 ((rd_T137 l0 (ji12)).f3))) = w51 at n0_ n1_ n2_ ⊢
         have BK382 := n0_
         have BK385 := n1_
         have HB := n2_
         clear n0_ n1_ n2_
         replace BK382 := am (blk_drew BK382.out)
         replace BK385 := am (blk_drew BK385.out)
         replace HB := am (below_drew1 HB.out)
         refine start_ (n := 13) (S := fun w' => w'.cell? ⟨gb385, 0, none⟩ = some (.int .i64 ((rd_T137 l0 (ji12)).f0)) ∧ w'.cell? ⟨gb385, 1, none⟩ = some (.int .i64 ((rd_T137 l0 (ji12)).f1)) ∧ w'.cell? ⟨gb385, 2, none⟩ = some (.int .i64 ((rd_T137 l0 (ji12)).f2)) ∧ w'.cell? ⟨gb385, 3, none⟩ = some (.int .i64 ((rd_T137 l0 (ji12)).f3)) ∧ w'.cell? ⟨gb382, 0, none⟩ = some (.int .i64 ((rd_T137 l0 x11_1).f0)) ∧ w'.cell? ⟨gb382, 1, none⟩ = some (.int .i64 ((rd_T137 l0 x11_1).f1)) ∧ w'.cell? ⟨gb382, 2, none⟩ = some (.int .i64 ((rd_T137 l0 x11_1).f2)) ∧ w'.cell? ⟨gb382, 3, none⟩ = some (.int .i64 ((rd_T137 l0 x11_1).f3))) (ds := []) #[false, false, false, false, false, false, false, false, false, false, false, false, false] (by kernel_rfl) rfl rfl ⟨bc0 BK385, bc1 BK385, bc2 BK385, bc3 BK385, bc0 BK382, bc1 BK382, bc2 BK382, bc3 BK382⟩ (fun hHeld => ?_); refine with_tabW impl_IsPlan.tab8 impl_IsPlan.bits8 (fun HT_ HW_ => ?_)
         generalize w51.drew = w52 at BK382 BK385 HB hHeld ⊢
         refine put 0 27 (bt 13 1) HT_ ?_
         refine put 2 29 (bt 13 5) HT_ ?_
         refine put 5 32 (bt 13 37) HT_ ?_
         refine put 7 34 (bt 13 165) HT_ ?_
         refine tat8 1 28 (bt 13 167) HT_ HW_ hHeld ?_
         refine tat8 3 30 (bt 13 175) HT_ HW_ hHeld ?_
         refine tat8 6 33 (bt 13 239) HT_ HW_ hHeld ?_
         refine tat8 8 35 (bt 13 495) HT_ HW_ hHeld ?_
         refine one_ (i := 4) (N := some 31) (bt 13 511) rfl rfl (one_of HT_.out (by kernel_rfl)) (by decide) (fun K hK => ?_)
         refine goes_ Try.func153 (by kernel_rfl) rfl #[.int .i64 ((rd_T137 l0 (ji12)).f0), .int .i64 ((rd_T137 l0 x11_1).f0)] (by rfl) rfl rfl (by (try simp only [List.map_toArray, List.map_cons, List.map_nil]); first | done | (simp only [hji12]; rfl) | rfl | (simp only [List.length_drop, List.length_take]; rfl)) ?_
         with_reducible refine (cmp_Compare_int.calls ((rd_T137 l0 (ji12)).f0) ((rd_T137 l0 x11_1).f0) t386 _ A15.out).mono ?_
         rintro e w' ⟨rfl, ⟨nd, rfl⟩⟩
         refine ⟨_, rfl, ?_⟩
         refine hK.out _ _ ⟨bc0 BK385, bc1 BK385, bc2 BK385, bc3 BK385, bc0 BK382, bc1 BK382, bc2 BK382, bc3 BK382⟩ (fun hHeld => ?_)
         clear hK K
         refine nm 31 ?_
         refine one_ (i := 9) (N := some 36) (bt 13 1023) rfl rfl (one_of HT_.out (by kernel_rfl)) (by decide) (fun K hK => ?_)
         refine goes_ Try.func153 (by kernel_rfl) rfl #[.int .i64 ((rd_T137 l0 (ji12)).f1), .int .i64 ((rd_T137 l0 x11_1).f1)] (by rfl) rfl rfl (by (try simp only [List.map_toArray, List.map_cons, List.map_nil]); first | done | (simp only [hji12]; rfl) | rfl | (simp only [List.length_drop, List.length_take]; rfl)) ?_
         with_reducible refine (cmp_Compare_int.calls ((rd_T137 l0 (ji12)).f1) ((rd_T137 l0 x11_1).f1) t387 _ A16.out).mono ?_
         rintro e w' ⟨rfl, ⟨nd, rfl⟩⟩
         refine ⟨_, rfl, ?_⟩
         refine hK.out _ _ ⟨bc0 BK385, bc1 BK385, bc2 BK385, bc3 BK385, bc0 BK382, bc1 BK382, bc2 BK382, bc3 BK382⟩ (fun hHeld => ?_)
         clear hK K
         refine nm 36 ?_
         refine one_ (i := 10) (N := some 37) (bt 13 2047) rfl rfl (one_of HT_.out (by kernel_rfl)) (by decide) (fun K hK => ?_)
         refine Kd.R_lit_step (Kd.int .i64) _ 3 ?hg (N := 37) ?hd (xs := ([t386, t387] : List Int)) (inner := [.int .i64 t386, .int .i64 t387]) (ok := fun _ => True) (okp := fun _ => True) ?hr ?hp (fun _ hk => hk) trivial (Below.refl _ _) (Nat.le_refl _) (by simp) ?_; (case hd => rfl); (case hg => rfl); (case hr => first | (go_simp; done) | (go_simp; rfl)); (case hp => exact (Reps.one (show Kd.M (Kd.int .i64) _ _ _ t386 [.int .i64 t386] from rfl) (Reps.one (show Kd.M (Kd.int .i64) _ _ _ t387 [.int .i64 t387] from rfl) (Reps.none _ _))))
         intro v389 w53 ho54 hb hg_ hnew_
         clear hg_ hnew_
         (first | rw [← Ny388.out] at ho54 | (simp only [Int.reduceToNat] at ho54; rw [← Ny388.out] at ho54))
         have HO390 := am (Kd.R_lower ho54 (below_size (sbw)))
         replace BK382 := bb BK382 hb
         replace BK385 := bb BK385 hb
         replace HB := bsw hb
         clear hb ho54
         obtain ⟨Ao55, co55, eo55⟩ := Kd.R_slice HO390.out
         (first | subst eo55 | (injection eo55 with f1_ f2_ f3_; have f4_ := f1_.symm; have f5_ := f3_.symm; clear f1_ f2_ f3_; subst f4_; subst f5_))
         refine hK.out _ _ ⟨bc0 BK385, bc1 BK385, bc2 BK385, bc3 BK385, bc0 BK382, bc1 BK382, bc2 BK382, bc3 BK382⟩ (fun hHeld => ?_)
         clear hK K
         refine nm 37 ?_
         refine one_ (i := 11) (N := some 38) (bt 13 4095) rfl rfl (one_of HT_.out (by kernel_rfl)) (by decide) (fun K hK => ?_)
         refine goes_ Try.func152 (by kernel_rfl) rfl #[.slice Ao55 y388.length co55] (by rfl) rfl rfl sl ?_
         with_reducible refine (cmp_Or_int.calls k1 _ _ y388 t391 _ ?side1 ?side2 A17.out).mono ?_
         (case side1 => exact cr HO390)
         (case side2 => exact (Kd.R_reads' HO390.out).2.1)
         rintro e w' ⟨rfl, ⟨nd, rfl⟩⟩
         refine ⟨_, rfl, ?_⟩
         refine hK.out _ _ ⟨bc0 BK385, bc1 BK385, bc2 BK385, bc3 BK385, bc0 BK382, bc1 BK382, bc2 BK382, bc3 BK382⟩ (fun hHeld => ?_)
         clear hK K
         refine nm 38 ?_
         refine put 12 8 (bt 13 8191) HT_ ?_
         refine done_ (done_of HT_.out (by kernel_rfl)) ?_
         obtain ⟨hcz56_0, hcz56_1, hcz56_2, hcz56_3, hfz56_0, hfz56_1, hfz56_2, hfz56_3⟩ := cc4 BK385
         obtain ⟨hcz57_0, hcz57_1, hcz57_2, hcz57_3, hfz57_0, hfz57_1, hfz57_2, hfz57_3⟩ := cc4 BK382
         try go_wp2
         go_roundg k1
         case measure => have := HK1.out; omega
         case rel => exact ⟨(wrap64 (x11_1 + 1)), sc, H', kk1, ⟨sbw⟩⟩
       ·have c30b0 : (t391 == 0) = false := beq_eq_false_iff_ne.mpr c30
        have c30b1 : (t391 != 0) = true := bne_iff_ne.mpr c30
        have H' := am H
        clear H
        obtain ⟨p381, q381, ad381, e381, _, _, _, _, hx381_0, hx381_1, hx381_2, hx381_3⟩ := aT_T137 HR0 HB x11_1
        cases e381
        try go_wp2_with (first | ((with_reducible refine gd 6 rfl ?_); refine bx 6 #[.int .i64 0, .int .i64 0, .int .i64 0, .int .i64 0] 137 ?_; intro gb382 hg w58 hbox hb; have GW382 := bz w hg; have GE382 := bz w hg; replace HB := bs hb; have BK382 := am hbox; clear hb hbox hg; obtain ⟨hcz59_0, hcz59_1, hcz59_2, hcz59_3, hfz59_0, hfz59_1, hfz59_2, hfz59_3⟩ := cc4 BK382) | ((with_reducible refine gc 151 rfl ?_); refine gL (some 18) Try.func151 #[.agg #[.int .i64 ((rd_T137 l0 x11_1).f0), .int .i64 ((rd_T137 l0 x11_1).f1), .int .i64 ((rd_T137 l0 x11_1).f2), .int .i64 ((rd_T137 l0 x11_1).f3)], .int .i64 a1] ?_; (with_reducible refine (impl_IsContact.calls ((rd_T137 l0 x11_1).f0) ((rd_T137 l0 x11_1).f1) ((rd_T137 l0 x11_1).f2) ((rd_T137 l0 x11_1).f3) a1 true _ A6.out).mono ?_); rintro e w60 ⟨rfl, hb⟩; refine ⟨_, rfl, ?_⟩; replace BK382 := am (blk_below (g := gb382) (o := .cells #[.int .i64 ((rd_T137 l0 x11_1).f0), .int .i64 ((rd_T137 l0 x11_1).f1), .int .i64 ((rd_T137 l0 x11_1).f2), .int .i64 ((rd_T137 l0 x11_1).f3)] 137 (0, 0)) (sp BK382) hb); replace HB := bsw hb; (try clear hb); obtain ⟨p384, q384, ad384, e384, _, _, _, _, hx384_0, hx384_1, hx384_2, hx384_3⟩ := aT_T137 HR0 HB (ji12); obtain rfl : ad381 = ad384 := (by injection e384)) | ((with_reducible refine gd 7 rfl ?_); refine bx 7 #[.int .i64 0, .int .i64 0, .int .i64 0, .int .i64 0] 137 ?_; intro gb385 hg w61 hbox hb; have GW385 := bzw w hg; have GE385 := bzw w hg; replace HB := bsw hb; have BK385 := am hbox; have NB382_385 := nl BK382 hg; have NB385_382 := ng BK382 hg; replace BK382 := bb BK382 hb; clear hb hbox hg; have hnb62 := NB385_382.out; have hnc62 := NB382_385.out; obtain ⟨hcz63_0, hcz63_1, hcz63_2, hcz63_3, hfz63_0, hfz63_1, hfz63_2, hfz63_3⟩ := cc4 BK385))
        have n0_ : Aside0 (((((w61.setCell ⟨gb385, 0, none⟩ (.int .i64 ((rd_T137 l0 (ji12)).f0))).setCell ⟨gb385, 1, none⟩ (.int .i64 ((rd_T137 l0 (ji12)).f1))).setCell ⟨gb385, 2, none⟩ (.int .i64 ((rd_T137 l0 (ji12)).f2))).setCell ⟨gb385, 3, none⟩ (.int .i64 ((rd_T137 l0 (ji12)).f3))).heap[gb382]? = some (.cells #[.int .i64 ((rd_T137 l0 x11_1).f0), .int .i64 ((rd_T137 l0 x11_1).f1), .int .i64 ((rd_T137 l0 x11_1).f2), .int .i64 ((rd_T137 l0 x11_1).f3)] 137 (0, 0))) := ⟨sp BK382⟩
        have n1_ : Aside0 (((((w61.setCell ⟨gb385, 0, none⟩ (.int .i64 ((rd_T137 l0 (ji12)).f0))).setCell ⟨gb385, 1, none⟩ (.int .i64 ((rd_T137 l0 (ji12)).f1))).setCell ⟨gb385, 2, none⟩ (.int .i64 ((rd_T137 l0 (ji12)).f2))).setCell ⟨gb385, 3, none⟩ (.int .i64 ((rd_T137 l0 (ji12)).f3))).heap[gb385]? = some (.cells #[.int .i64 ((rd_T137 l0 (ji12)).f0), .int .i64 ((rd_T137 l0 (ji12)).f1), .int .i64 ((rd_T137 l0 (ji12)).f2), .int .i64 ((rd_T137 l0 (ji12)).f3)] 137 (0, 0))) := ⟨sp BK385⟩
        have n2_ : Aside0 (Below w.heap.size w ((((w61.setCell ⟨gb385, 0, none⟩ (.int .i64 ((rd_T137 l0 (ji12)).f0))).setCell ⟨gb385, 1, none⟩ (.int .i64 ((rd_T137 l0 (ji12)).f1))).setCell ⟨gb385, 2, none⟩ (.int .i64 ((rd_T137 l0 (ji12)).f2))).setCell ⟨gb385, 3, none⟩ (.int .i64 ((rd_T137 l0 (ji12)).f3)))) := ⟨sbw⟩
        (try clear BK382)
        (try clear BK385)
        (try clear HB)
        generalize ((((w61.setCell ⟨gb385, 0, none⟩ (.int .i64 ((rd_T137 l0 (ji12)).f0))).setCell ⟨gb385, 1, none⟩ (.int .i64 ((rd_T137 l0 (ji12)).f1))).setCell ⟨gb385, 2, none⟩ (.int .i64 ((rd_T137 l0 (ji12)).f2))).setCell ⟨gb385, 3, none⟩ (.int .i64 ((rd_T137 l0 (ji12)).f3))) = w64 at n0_ n1_ n2_ ⊢
        have BK382 := n0_
        have BK385 := n1_
        have HB := n2_
        clear n0_ n1_ n2_
        replace BK382 := am (blk_drew BK382.out)
        replace BK385 := am (blk_drew BK385.out)
        replace HB := am (below_drew1 HB.out)
        refine start_ (n := 13) (S := fun w' => w'.cell? ⟨gb385, 0, none⟩ = some (.int .i64 ((rd_T137 l0 (ji12)).f0)) ∧ w'.cell? ⟨gb385, 1, none⟩ = some (.int .i64 ((rd_T137 l0 (ji12)).f1)) ∧ w'.cell? ⟨gb385, 2, none⟩ = some (.int .i64 ((rd_T137 l0 (ji12)).f2)) ∧ w'.cell? ⟨gb385, 3, none⟩ = some (.int .i64 ((rd_T137 l0 (ji12)).f3)) ∧ w'.cell? ⟨gb382, 0, none⟩ = some (.int .i64 ((rd_T137 l0 x11_1).f0)) ∧ w'.cell? ⟨gb382, 1, none⟩ = some (.int .i64 ((rd_T137 l0 x11_1).f1)) ∧ w'.cell? ⟨gb382, 2, none⟩ = some (.int .i64 ((rd_T137 l0 x11_1).f2)) ∧ w'.cell? ⟨gb382, 3, none⟩ = some (.int .i64 ((rd_T137 l0 x11_1).f3))) (ds := []) #[false, false, false, false, false, false, false, false, false, false, false, false, false] (by kernel_rfl) rfl rfl ⟨bc0 BK385, bc1 BK385, bc2 BK385, bc3 BK385, bc0 BK382, bc1 BK382, bc2 BK382, bc3 BK382⟩ (fun hHeld => ?_); refine with_tabW impl_IsPlan.tab8 impl_IsPlan.bits8 (fun HT_ HW_ => ?_)
        generalize w64.drew = w65 at BK382 BK385 HB hHeld ⊢
        refine put 0 27 (bt 13 1) HT_ ?_
        refine put 2 29 (bt 13 5) HT_ ?_
        refine put 5 32 (bt 13 37) HT_ ?_
        refine put 7 34 (bt 13 165) HT_ ?_
        refine tat8 1 28 (bt 13 167) HT_ HW_ hHeld ?_
        refine tat8 3 30 (bt 13 175) HT_ HW_ hHeld ?_
        refine tat8 6 33 (bt 13 239) HT_ HW_ hHeld ?_
        refine tat8 8 35 (bt 13 495) HT_ HW_ hHeld ?_
        refine one_ (i := 4) (N := some 31) (bt 13 511) rfl rfl (one_of HT_.out (by kernel_rfl)) (by decide) (fun K hK => ?_)
        refine goes_ Try.func153 (by kernel_rfl) rfl #[.int .i64 ((rd_T137 l0 (ji12)).f0), .int .i64 ((rd_T137 l0 x11_1).f0)] (by rfl) rfl rfl (by (try simp only [List.map_toArray, List.map_cons, List.map_nil]); first | done | (simp only [hji12]; rfl) | rfl | (simp only [List.length_drop, List.length_take]; rfl)) ?_
        with_reducible refine (cmp_Compare_int.calls ((rd_T137 l0 (ji12)).f0) ((rd_T137 l0 x11_1).f0) t386 _ A15.out).mono ?_
        rintro e w' ⟨rfl, ⟨nd, rfl⟩⟩
        refine ⟨_, rfl, ?_⟩
        refine hK.out _ _ ⟨bc0 BK385, bc1 BK385, bc2 BK385, bc3 BK385, bc0 BK382, bc1 BK382, bc2 BK382, bc3 BK382⟩ (fun hHeld => ?_)
        clear hK K
        refine nm 31 ?_
        refine one_ (i := 9) (N := some 36) (bt 13 1023) rfl rfl (one_of HT_.out (by kernel_rfl)) (by decide) (fun K hK => ?_)
        refine goes_ Try.func153 (by kernel_rfl) rfl #[.int .i64 ((rd_T137 l0 (ji12)).f1), .int .i64 ((rd_T137 l0 x11_1).f1)] (by rfl) rfl rfl (by (try simp only [List.map_toArray, List.map_cons, List.map_nil]); first | done | (simp only [hji12]; rfl) | rfl | (simp only [List.length_drop, List.length_take]; rfl)) ?_
        with_reducible refine (cmp_Compare_int.calls ((rd_T137 l0 (ji12)).f1) ((rd_T137 l0 x11_1).f1) t387 _ A16.out).mono ?_
        rintro e w' ⟨rfl, ⟨nd, rfl⟩⟩
        refine ⟨_, rfl, ?_⟩
        refine hK.out _ _ ⟨bc0 BK385, bc1 BK385, bc2 BK385, bc3 BK385, bc0 BK382, bc1 BK382, bc2 BK382, bc3 BK382⟩ (fun hHeld => ?_)
        clear hK K
        refine nm 36 ?_
        refine one_ (i := 10) (N := some 37) (bt 13 2047) rfl rfl (one_of HT_.out (by kernel_rfl)) (by decide) (fun K hK => ?_)
        refine Kd.R_lit_step (Kd.int .i64) _ 3 ?hg (N := 37) ?hd (xs := ([t386, t387] : List Int)) (inner := [.int .i64 t386, .int .i64 t387]) (ok := fun _ => True) (okp := fun _ => True) ?hr ?hp (fun _ hk => hk) trivial (Below.refl _ _) (Nat.le_refl _) (by simp) ?_; (case hd => rfl); (case hg => rfl); (case hr => first | (go_simp; done) | (go_simp; rfl)); (case hp => exact (Reps.one (show Kd.M (Kd.int .i64) _ _ _ t386 [.int .i64 t386] from rfl) (Reps.one (show Kd.M (Kd.int .i64) _ _ _ t387 [.int .i64 t387] from rfl) (Reps.none _ _))))
        intro v389 w66 ho67 hb hg_ hnew_
        clear hg_ hnew_
        (first | rw [← Ny388.out] at ho67 | (simp only [Int.reduceToNat] at ho67; rw [← Ny388.out] at ho67))
        have HO390 := am (Kd.R_lower ho67 (below_size (sbw)))
        replace BK382 := bb BK382 hb
        replace BK385 := bb BK385 hb
        replace HB := bsw hb
        clear hb ho67
        obtain ⟨Ao68, co68, eo68⟩ := Kd.R_slice HO390.out
        (first | subst eo68 | (injection eo68 with f1_ f2_ f3_; have f4_ := f1_.symm; have f5_ := f3_.symm; clear f1_ f2_ f3_; subst f4_; subst f5_))
        refine hK.out _ _ ⟨bc0 BK385, bc1 BK385, bc2 BK385, bc3 BK385, bc0 BK382, bc1 BK382, bc2 BK382, bc3 BK382⟩ (fun hHeld => ?_)
        clear hK K
        refine nm 37 ?_
        refine one_ (i := 11) (N := some 38) (bt 13 4095) rfl rfl (one_of HT_.out (by kernel_rfl)) (by decide) (fun K hK => ?_)
        refine goes_ Try.func152 (by kernel_rfl) rfl #[.slice Ao68 y388.length co68] (by rfl) rfl rfl sl ?_
        with_reducible refine (cmp_Or_int.calls k1 _ _ y388 t391 _ ?side1 ?side2 A17.out).mono ?_
        (case side1 => exact cr HO390)
        (case side2 => exact (Kd.R_reads' HO390.out).2.1)
        rintro e w' ⟨rfl, ⟨nd, rfl⟩⟩
        refine ⟨_, rfl, ?_⟩
        refine hK.out _ _ ⟨bc0 BK385, bc1 BK385, bc2 BK385, bc3 BK385, bc0 BK382, bc1 BK382, bc2 BK382, bc3 BK382⟩ (fun hHeld => ?_)
        clear hK K
        refine nm 38 ?_
        refine put 12 8 (bt 13 8191) HT_ ?_
        refine done_ (done_of HT_.out (by kernel_rfl)) ?_
        try go_wp2
        go_roundg k1
        case measure => have := HK1.out; omega
        case rel => exact ⟨(wrap64 (x11_1 + 1)), sc, H', kk1, ⟨sbw⟩⟩
    ·replace H := im H
     obtain rfl := Option.some.inj H
     obtain ⟨p381, q381, ad381, e381, _, _, _, _, hx381_0, hx381_1, hx381_2, hx381_3⟩ := aT_T137 HR0 HB x11_1
     cases e381
     go_wp2_with (first | ((with_reducible refine gd 6 rfl ?_); refine bx 6 #[.int .i64 0, .int .i64 0, .int .i64 0, .int .i64 0] 137 ?_; intro gb382 hg w69 hbox hb; have GW382 := bz w hg; have GE382 := bz w hg; replace HB := bs hb; have BK382 := am hbox; clear hb hbox hg; obtain ⟨hcz70_0, hcz70_1, hcz70_2, hcz70_3, hfz70_0, hfz70_1, hfz70_2, hfz70_3⟩ := cc4 BK382) | ((with_reducible refine gc 151 rfl ?_); refine gL (some 18) Try.func151 #[.agg #[.int .i64 ((rd_T137 l0 x11_1).f0), .int .i64 ((rd_T137 l0 x11_1).f1), .int .i64 ((rd_T137 l0 x11_1).f2), .int .i64 ((rd_T137 l0 x11_1).f3)], .int .i64 a1] ?_; (with_reducible refine (impl_IsContact.calls ((rd_T137 l0 x11_1).f0) ((rd_T137 l0 x11_1).f1) ((rd_T137 l0 x11_1).f2) ((rd_T137 l0 x11_1).f3) a1 false _ A6.out).mono ?_); rintro e w71 ⟨rfl, hb⟩; refine ⟨_, rfl, ?_⟩; replace BK382 := am (blk_below (g := gb382) (o := .cells #[.int .i64 ((rd_T137 l0 x11_1).f0), .int .i64 ((rd_T137 l0 x11_1).f1), .int .i64 ((rd_T137 l0 x11_1).f2), .int .i64 ((rd_T137 l0 x11_1).f3)] 137 (0, 0)) (sp BK382) hb); replace HB := bsw hb; (try clear hb)))
     go_ret
     exact ⟨se, sbw⟩
   ·have c3b0 := decide_eq_false c3
    clear c3
    obtain rfl := Option.some.inj H
    go_wp2
    go_ret
    exact ⟨se, sb⟩

end Go.Proofs.Ytiihaabhjphaeaa.QFnPrograms
