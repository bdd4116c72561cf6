/- What the Go functions of the law FnExactIsProgram come to, as Lean functions, and that they do: by a program of the session, out of the kit's printer. Conditions: none. (squeezed). -/
import Derived.Test.YtiihaabhjphaeaaVFnExactIsProgramSq2
import Derived.Test.YtiihaabhjphaeaaVFnExactIsProgramSq
import Derived.Test.YtiihaabhjphaeaaVFnExactIsProgramQFnExactIsProgramx0
import Derived.Test.YtiihaabhjphaeaaVFnExactIsProgramQFnExactIsProgramx6
import Derived.Test.YtiihaabhjphaeaaVFnExactIsProgramQFnExactIsProgramx9
namespace Go.Proofs.Ytiihaabhjphaeaa.QFnExactIsProgram
open Go.RowKit Go.Proofs.YtiihaabhjphaeaaW.PrintWords Go.Proofs.YtiihaabhjphaeaaW.PrintLast Go.Proofs.YtiihaabhjphaeaaW.PrintMore Go.Proofs.Ytiihaabhjphaeaa.Open Go.Proofs.Ytiihaabhjphaeaa.Sq
attribute [local go_sem] max2_int min2_int max_two min_two max_three min_three max_four min_four   -- for this text's walks alone
attribute [local go_sem] isSome_set
set_option linter.unusedVariables false
set_option linter.unusedSimpArgs false

/-! ### spec_l17Piece: function 102 -/
mutual
def spec_l17Piece.j0 : Nat → Bool → Int → Int → Int → List (S105) → Int → Int → List (S134) → List (S55) → Option (Bool)
  | 0, _, _, _, _, _, _, _, _, _ => none
  | k + 1, x17, x363000, x363001, x363002, x363003, x364000, x364001, x364002, x364003 => if x17 = true then (some false) else (spec_l17Piece.l0 k 0 x363000 x363001 x363002 x363003 x364000 x364001 x364002 x364003)
def spec_l17Piece.l0 : Nat → Int → Int → Int → Int → List (S105) → Int → Int → List (S134) → List (S55) → Option (Bool)
  | 0, _, _, _, _, _, _, _, _, _ => none
  | k + 1, x5, x363000, x363001, x363002, x363003, x364000, x364001, x364002, x364003 => if x5 < x363000 then (if 0 ≤ x5 then (if x5 < (x364003.length : Int) then ((spec_TableOf.f k x364002 x363000 x363001 x5).bind fun bt366 => ((spec_EqualTables.f k ((rd_T55 x364003 x5).f0) ((rd_T55 x364003 x5).f1) ((rd_T55 x364003 x5).f2) bt366.1 bt366.2.1 bt366.2.2).bind fun t373 => (if t373 = true then (spec_l17Piece.l0 k (wrap64 (x5 + 1)) x363000 x363001 x363002 x363003 x364000 x364001 x364002 x364003) else (some false)))) else (none)) else (none)) else (some true)
end
def spec_l17Piece.f (k : Nat) (a0_0 : Int) (a0_1 : Int) (a0_2 : Int) (l0_3 : List (S105)) (a1_0 : Int) (a1_1 : Int) (l1_2 : List (S134)) (l1_3 : List (S55)) : Option (Bool) := if (l1_3.length : Int) = a0_0 then ((spec_IsSpan.f a1_0 a1_1).bind fun t364 => (spec_l17Piece.j0 k (!t364) a0_0 a0_1 a0_2 l0_3 a1_0 a1_1 l1_2 l1_3)) else (spec_l17Piece.j0 k true a0_0 a0_1 a0_2 l0_3 a1_0 a1_1 l1_2 l1_3)
theorem spec_l17Piece.mono_l : ∀ k, (∀ y0 y1 y2 y3 y4 y5 y6 y7 y8, LeO (spec_l17Piece.j0 k y0 y1 y2 y3 y4 y5 y6 y7 y8) (spec_l17Piece.j0 (k + 1) y0 y1 y2 y3 y4 y5 y6 y7 y8)) ∧ (∀ y0 y1 y2 y3 y4 y5 y6 y7 y8, LeO (spec_l17Piece.l0 k y0 y1 y2 y3 y4 y5 y6 y7 y8) (spec_l17Piece.l0 (k + 1) y0 y1 y2 y3 y4 y5 y6 y7 y8))
  | 0 => ⟨fun _ _ _ _ _ _ _ _ _ r h => by simp [spec_l17Piece.j0] at h, fun _ _ _ _ _ _ _ _ _ r h => by simp [spec_l17Piece.l0] at h⟩
  | k + 1 => by
    obtain ⟨ih0, ih1⟩ := spec_l17Piece.mono_l k
    refine ⟨?_, ?_⟩
    · intro y0 y1 y2 y3 y4 y5 y6 y7 y8
      unfold spec_l17Piece.j0
      have m0 := @spec_EqualTables.mono
      have m1 := @spec_TableOf.mono
      exact mo
    · intro y0 y1 y2 y3 y4 y5 y6 y7 y8
      unfold spec_l17Piece.l0
      have m0 := @spec_EqualTables.mono
      have m1 := @spec_TableOf.mono
      exact mo
theorem spec_l17Piece.mono : ∀ a0 a1 a2 a3 a4 a5 a6 a7 k, LeO (spec_l17Piece.f k a0 a1 a2 a3 a4 a5 a6 a7) (spec_l17Piece.f (k + 1) a0 a1 a2 a3 a4 a5 a6 a7) := by
  intro a0 a1 a2 a3 a4 a5 a6 a7 k
  obtain ⟨ih0, ih1⟩ := spec_l17Piece.mono_l k
  unfold spec_l17Piece.f
  have m0 := @spec_EqualTables.mono
  have m1 := @spec_TableOf.mono
  exact mo
def spec_l17Piece.T6 : Bool × List (List Nat × List Nat) := (true, [([], []), ([0], [0]), ([], []), ([1, 2], [1, 2]), ([3], [3]), ([], []), ([5], [5]), ([], []), ([7], [7]), ([], []), ([9], [9]), ([], []), ([6, 8, 10, 11], [6, 8, 10, 11]), ([4, 12, 12], [4, 12]), ([13], [13])])
def spec_l17Piece.B6 : List Nat := [0, 1, 0, 7, 15, 0, 32, 0, 128, 0, 512, 0, 4064, 8191, 16383]
theorem spec_l17Piece.tab6 : rtab .any (opsOf Try.f102 6) = spec_l17Piece.T6 := by kernel_rfl
theorem spec_l17Piece.bits6 : waitsOk spec_l17Piece.T6.2 spec_l17Piece.B6 = true := by kernel_rfl
set_option maxHeartbeats 8000000 in
set_option maxRecDepth 100000 in
theorem spec_l17Piece.calls (k : Nat) (a0_0 : Int) (a0_1 : Int) (a0_2 : Int) (A0_3 : Option Addr) (c0_3 : Nat) (l0_3 : List (S105)) (a1_0 : Int) (a1_1 : Int) (A1_2 : Option Addr) (c1_2 : Nat) (l1_2 : List (S134)) (A1_3 : Option Addr) (c1_3 : Nat) (l1_3 : List (S55)) (r : Bool) (w : World) (hr0_3 : Kd.C k105 w A0_3 l0_3.length l0_3) (hc0_3 : l0_3.length ≤ c0_3) (hr1_2 : Kd.C k134 w A1_2 l1_2.length l1_2) (hc1_2 : l1_2.length ≤ c1_2) (hr1_3 : Kd.C k55 w A1_3 l1_3.length l1_3) (hc1_3 : l1_3.length ≤ c1_3) (h : spec_l17Piece.f k a0_0 a0_1 a0_2 l0_3 a1_0 a1_1 l1_2 l1_3 = some r) :
    Calls Try.prog 102 #[.agg #[.int .i64 a0_0, .int .i64 a0_1, .int .i64 a0_2, .slice A0_3 l0_3.length c0_3], .agg #[.int .i64 a1_0, .int .i64 a1_1, .slice A1_2 l1_2.length c1_2, .slice A1_3 l1_3.length c1_3]] w fun e w' => e = .returned (.bool r) ∧ Below w.heap.size w w' := by
 have hu31 := Try.underlying31
 have hu105 := Try.underlying105
 have hu102 := Try.underlying102
 have hu55 := Try.underlying55
 have HR0_3 := Aside0.mk hr0_3
 have HC0_3 := Aside0.mk hc0_3
 clear hr0_3 hc0_3
 have HR1_2 := Aside0.mk hr1_2
 have HC1_2 := Aside0.mk hc1_2
 clear hr1_2 hc1_2
 have HR1_3 := Aside0.mk hr1_3
 have HC1_3 := Aside0.mk hc1_3
 clear hr1_3 hc1_3
 have HB := Aside0.mk (Below.refl w.heap.size w)
 have H : (if (l1_3.length : Int) = a0_0 then ((spec_IsSpan.f a1_0 a1_1).bind fun t364 => (spec_l17Piece.j0 k (!t364) a0_0 a0_1 a0_2 l0_3 a1_0 a1_1 l1_2 l1_3)) else (spec_l17Piece.j0 k true a0_0 a0_1 a0_2 l0_3 a1_0 a1_1 l1_2 l1_3)) = some r := h
 clear h
 have HC3 := Aside0.mk H
 clear H
 go_enter Try.func102, Try.ntmps102
 go_upto_region 1 with (first | ((with_reducible refine gate_dst (N := 2) rfl ?_); refine bx 2 #[.int .i64 a0_0, .int .i64 a0_1, .int .i64 a0_2, .slice A0_3 l0_3.length c0_3] 31 ?_; intro gb362 hg w4 hbox hb; have GW362 := bz w hg; have GE362 := bz w hg; replace HB := bs hb; have BK362 := Aside0.mk hbox; clear hb hbox hg) | ((with_reducible refine gate_dst (N := 3) rfl ?_); refine bx 3 #[.int .i64 a1_0, .int .i64 a1_1, .slice A1_2 l1_2.length c1_2, .slice A1_3 l1_3.length c1_3] 105 ?_; intro gb363 hg w5 hbox hb; have GW363 := bzw w hg; have GE363 := bzw w hg; replace HB := bsw hb; have BK363 := Aside0.mk hbox; have NB362_363 := nl BK362 hg; have NB363_362 := ng BK362 hg; replace BK362 := bb BK362 hb; clear hb hbox hg))
 (try simp only [Act.put, List.setIfInBounds_toArray, List.set_cons_zero, List.set_cons_succ])
 go_cut [17] (fun v17 wc => ∃ (kq : Nat) (x17_2 : Bool), v17 = .bool x17_2 ∧ Aside0 (spec_l17Piece.j0 kq x17_2 a0_0 a0_1 a0_2 l0_3 a1_0 a1_1 l1_2 l1_3 = some r) ∧ Aside0 (kq ≤ k) ∧ Aside0 (wc.heap[gb362]? = some (.cells #[.int .i64 a0_0, .int .i64 a0_1, .int .i64 a0_2, (.slice A0_3 l0_3.length c0_3)] 31 (0, 0))) ∧ Aside0 (wc.heap[gb363]? = some (.cells #[.int .i64 a1_0, .int .i64 a1_1, (.slice A1_2 l1_2.length c1_2), (.slice A1_3 l1_3.length c1_3)] 105 (0, 0))) ∧ Aside0 (Below w.heap.size w wc))
 case first =>
  have H := HC3.out
  clear HC3
  obtain ⟨c6, H⟩ | ⟨c6, H⟩ := ie_ H
  ·have c6b0 : ((l1_3.length : Int) == a0_0) = true := beq_iff_eq.mpr c6
   have c6b1 : ((l1_3.length : Int) != a0_0) = false := bne_eq_false_iff_eq.mpr c6
   clear c6
   (first | rw [c6b0] | (simp only [i64_w, i32_w]; rw [c6b0]) | rw [c6b1] | skip)
   obtain ⟨t364, A7, H⟩ := bnd H
   have H' := Aside0.mk H
   clear H
   have hnb8 := NB363_362.out
   have hnc8 := NB362_363.out
   obtain ⟨hcz9_0, hcz9_1, hcz9_2, hcz9_3, hfz9_0, hfz9_1, hfz9_2, hfz9_3⟩ := cc4 BK363
   obtain ⟨hcz10_0, hcz10_1, hcz10_2, hcz10_3, hfz10_0, hfz10_1, hfz10_2, hfz10_3⟩ := cc4 BK362
   go_wp2_with (first | (go_at_call 80; (with_reducible refine (spec_IsSpan.calls a1_0 a1_1 t364 _ A7.out).mono ?_); rintro e w11 ⟨rfl, hb⟩; replace BK362 := bb BK362 hb; replace BK363 := bb BK363 hb; replace HB := bsw hb; (try clear hb); (try clear hb2); (try clear hk); (try clear hi)))
   go_meet
   case rel => exact ⟨_, (!t364), sc, H', ⟨by first | omega | exact Nat.le_refl _⟩, ⟨sk BK362⟩, ⟨sk BK363⟩, ⟨sbw⟩⟩
  ·have c6b0 : ((l1_3.length : Int) == a0_0) = false := beq_eq_false_iff_ne.mpr c6
   have c6b1 : ((l1_3.length : Int) != a0_0) = true := bne_iff_ne.mpr c6
   (first | rw [c6b0] | (simp only [i64_w, i32_w]; rw [c6b0]) | rw [c6b1] | skip)
   have H' := Aside0.mk H
   clear H
   have hnb12 := NB363_362.out
   have hnc12 := NB362_363.out
   obtain ⟨hcz13_0, hcz13_1, hcz13_2, hcz13_3, hfz13_0, hfz13_1, hfz13_2, hfz13_3⟩ := cc4 BK363
   obtain ⟨hcz14_0, hcz14_1, hcz14_2, hcz14_3, hfz14_0, hfz14_1, hfz14_2, hfz14_3⟩ := cc4 BK362
   go_wp2
   go_meet
   case rel => exact ⟨_, (true), sc, H', ⟨by first | omega | exact Nat.le_refl _⟩, ⟨sk BK362⟩, ⟨sk BK363⟩, ⟨sbw⟩⟩
 case rest =>
  clear HC3
  try clear c6
  try clear c6b0
  try clear c6b1
  try clear hcz10_0
  try clear hcz10_1
  try clear hcz10_2
  try clear hcz10_3
  try clear hcz13_0
  try clear hcz13_1
  try clear hcz13_2
  try clear hcz13_3
  try clear hcz14_0
  try clear hcz14_1
  try clear hcz14_2
  try clear hcz14_3
  try clear hcz9_0
  try clear hcz9_1
  try clear hcz9_2
  try clear hcz9_3
  try clear hfz10_0
  try clear hfz10_1
  try clear hfz10_2
  try clear hfz10_3
  try clear hfz13_0
  try clear hfz13_1
  try clear hfz13_2
  try clear hfz13_3
  try clear hfz14_0
  try clear hfz14_1
  try clear hfz14_2
  try clear hfz14_3
  try clear hfz9_0
  try clear hfz9_1
  try clear hfz9_2
  try clear hfz9_3
  obtain ⟨kq, x17_2, rfl, HA, HJ2, BK362, BK363, HB⟩ := hcut
  cases kq with
  | zero => exact absurd HA.out (by simp [spec_l17Piece.j0])
  | succ kj2 =>
   have H := HA.out
   clear HA
   simp only [spec_l17Piece.j0] at H
   obtain rfl | rfl := tt x17_2
   ·replace H := ip H
    obtain rfl := Option.some.inj H
    go_wp2
    go_ret
    exact ⟨se, sbw⟩
   ·replace H := im H
    have H' := Aside0.mk H
    clear H
    go_wp2
    go_loopg [5] kj2 (fun kq v5 w' => ∃ (x5_2 : Int), v5 = .int .i64 x5_2 ∧ Aside0 (spec_l17Piece.l0 kq x5_2 a0_0 a0_1 a0_2 l0_3 a1_0 a1_1 l1_2 l1_3 = some r) ∧ Aside0 (kq ≤ kj2) ∧ Aside0 (w'.heap[gb362]? = some (.cells #[.int .i64 a0_0, .int .i64 a0_1, .int .i64 a0_2, (.slice A0_3 l0_3.length c0_3)] 31 (0, 0))) ∧ Aside0 (w'.heap[gb363]? = some (.cells #[.int .i64 a1_0, .int .i64 a1_1, (.slice A1_2 l1_2.length c1_2), (.slice A1_3 l1_3.length c1_3)] 105 (0, 0))) ∧ Aside0 (Below w.heap.size w w'))
    case atStart => exact ⟨(0), sc, H', kk0, ⟨sk BK362⟩, ⟨sk BK363⟩, ⟨sbw⟩⟩
    case round =>
     clear H'
     try clear c6
     try clear c6b0
     try clear c6b1
     try clear hcz10_0
     try clear hcz10_1
     try clear hcz10_2
     try clear hcz10_3
     try clear hcz13_0
     try clear hcz13_1
     try clear hcz13_2
     try clear hcz13_3
     try clear hcz14_0
     try clear hcz14_1
     try clear hcz14_2
     try clear hcz14_3
     try clear hcz9_0
     try clear hcz9_1
     try clear hcz9_2
     try clear hcz9_3
     try clear hfz10_0
     try clear hfz10_1
     try clear hfz10_2
     try clear hfz10_3
     try clear hfz13_0
     try clear hfz13_1
     try clear hfz13_2
     try clear hfz13_3
     try clear hfz14_0
     try clear hfz14_1
     try clear hfz14_2
     try clear hfz14_3
     try clear hfz9_0
     try clear hfz9_1
     try clear hfz9_2
     try clear hfz9_3
     obtain ⟨x5_2, rfl, HA, HK2, BK362, BK363, HB⟩ := hrel
     cases gk with
     | zero => exact absurd HA.out (by simp [spec_l17Piece.l0])
     | succ k2 =>
      have H := HA.out
      clear HA
      simp only [spec_l17Piece.l0] at H
      obtain ⟨c16, H⟩ | ⟨c16, H⟩ := ie_ H
      ·have c16b0 := decide_eq_true c16
       clear c16
       obtain ⟨c17b0, H⟩ := id_ H
       obtain ⟨c18b0, H⟩ := id_ H
       obtain ⟨⟨t366, t367, t370⟩, A19, H⟩ := bnd H
       replace H : ((spec_EqualTables.f k2 ((rd_T55 l1_3 x5_2).f0) ((rd_T55 l1_3 x5_2).f1) ((rd_T55 l1_3 x5_2).f2) t366 t367 t370).bind fun t373 => (if t373 = true then (spec_l17Piece.l0 k2 (wrap64 (x5_2 + 1)) a0_0 a0_1 a0_2 l0_3 a1_0 a1_1 l1_2 l1_3) else (some false))) = some r := H
       obtain ⟨t373, A20, H⟩ := bnd H
       obtain rfl | rfl := tt t373
       ·replace H := ip H
        have H' := Aside0.mk H
        clear H
        have hnb22 := NB362_363.out
        have hnc22 := NB363_362.out
        obtain ⟨hcz23_0, hcz23_1, hcz23_2, hcz23_3, hfz23_0, hfz23_1, hfz23_2, hfz23_3⟩ := cc4 BK362
        try go_wp2
        replace BK362 := Aside0.mk (blk_drew BK362.out)
        replace BK363 := Aside0.mk (blk_drew BK363.out)
        replace HB := Aside0.mk (below_drew1 HB.out)
        obtain ⟨p365, q365, ad365, A365_1, c365_1, A365_2, c365_2, e365, hw365_0, hw365_1, hw365_2, hx365_0, hx365_1, hx365_2, HC365_1, HR365_1, HC365_2, HR365_2⟩ := aT_T55 HR1_3 HB x5_2
        cases e365
        refine start_ (n := 15) (S := fun w' => w'.cell? ⟨gb363, 0, none⟩ = some (.int .i64 a1_0) ∧ w'.cell? ⟨gb363, 1, none⟩ = some (.int .i64 a1_1) ∧ w'.cell? ⟨gb363, 2, none⟩ = some (.slice A1_2 l1_2.length c1_2) ∧ w'.cell? ⟨gb363, 3, none⟩ = some (.slice (some ad365) l1_3.length c1_3) ∧ w'.cell? ⟨gb362, 0, none⟩ = some (.int .i64 a0_0) ∧ w'.cell? ⟨gb362, 1, none⟩ = some (.int .i64 a0_1) ∧ w'.cell? ⟨gb362, 2, none⟩ = some (.int .i64 a0_2) ∧ w'.cell? ⟨gb362, 3, none⟩ = some (.slice A0_3 l0_3.length c0_3) ∧ w'.cell? (ad365.add ((x5_2).toNat * 3)) = some (.int .i64 ((rd_T55 l1_3 x5_2).f0)) ∧ w'.cell? ⟨(ad365.add ((x5_2).toNat * 3)).block, (ad365.add ((x5_2).toNat * 3)).off + 1, none⟩ = some (.slice A365_1 ((rd_T55 l1_3 x5_2).f1).length c365_1) ∧ w'.cell? ⟨(ad365.add ((x5_2).toNat * 3)).block, (ad365.add ((x5_2).toNat * 3)).off + 2, none⟩ = some (.slice A365_2 ((rd_T55 l1_3 x5_2).f2).length c365_2)) (ds := []) #[false, false, false, false, false, false, false, false, false, false, false, false, false, false, false] (by kernel_rfl) rfl rfl ⟨bc0 BK363, bc1 BK363, bc2 BK363, bc3 BK363, bc0 BK362, bc1 BK362, bc2 BK362, bc3 BK362, (hb_ HB hw365_0), (hb_ HB hw365_1), (hb_ HB hw365_2)⟩ (fun hHeld => ?_); refine with_tabW spec_l17Piece.tab6 spec_l17Piece.bits6 (fun HT_ HW_ => ?_)
        generalize wr.drew = w24 at BK362 BK363 HB HR365_1 HR365_2 hx365_0 hx365_1 hx365_2 hHeld ⊢
        refine put 0 24 #[true, false, false, false, false, false, false, false, false, false, false, false, false, false, false] HT_ ?_
        refine put 2 26 #[true, false, true, false, false, false, false, false, false, false, false, false, false, false, false] HT_ ?_
        refine put 5 29 #[true, false, true, false, false, true, false, false, false, false, false, false, false, false, false] HT_ ?_
        refine put 7 31 #[true, false, true, false, false, true, false, true, false, false, false, false, false, false, false] HT_ ?_
        refine put 9 33 #[true, false, true, false, false, true, false, true, false, true, false, false, false, false, false] HT_ ?_
        refine put 11 35 #[true, false, true, false, false, true, false, true, false, true, false, true, false, false, false] HT_ ?_
        refine tat11 1 25 #[true, true, true, false, false, true, false, true, false, true, false, true, false, false, false] HT_ HW_ hHeld ?_
        refine put 3 27 #[true, true, true, true, false, true, false, true, false, true, false, true, false, false, false] HT_ ?_
        refine tat11 4 28 #[true, true, true, true, true, true, false, true, false, true, false, true, false, false, false] HT_ HW_ hHeld ?_
        refine tat11 6 30 #[true, true, true, true, true, true, true, true, false, true, false, true, false, false, false] HT_ HW_ hHeld ?_
        refine tat11 8 32 #[true, true, true, true, true, true, true, true, true, true, false, true, false, false, false] HT_ HW_ hHeld ?_
        refine tat11 10 34 #[true, true, true, true, true, true, true, true, true, true, true, true, false, false, false] HT_ HW_ hHeld ?_
        refine one_ (i := 12) (N := some 36) #[true, true, true, true, true, true, true, true, true, true, true, true, true, false, false] rfl rfl (one_of HT_.out (by kernel_rfl)) (by decide) (fun K hK => ?_)
        refine goes_ Try.func149 (by kernel_rfl) rfl #[.slice A1_2 l1_2.length c1_2, .int .i64 a0_0, .int .i64 a0_1, .int .i64 x5_2] (by rfl) rfl rfl sl ?_
        with_reducible refine (spec_TableOf.calls k2 _ _ l1_2 a0_0 a0_1 x5_2 t366 t367 t370 _ ?side1 ?side2 A19.out).mono ?_
        (case side1 => exact cb HR1_2)
        (case side2 => exact HC1_2.out)
        rintro e w25 ⟨v368, v371, rfl, ho0, ho1, hb⟩
        refine ⟨_, rfl, ?_⟩
        have HO369 := Aside0.mk (Kd.R_lower ho0 (below_size (sbw)))
        have HO372 := Aside0.mk (Kd.R_lower ho1 (below_size (sbw)))
        replace BK362 := bb BK362 hb
        replace BK363 := bb BK363 hb
        replace HB := bsw hb
        (try clear hb)
        (try clear hb2)
        (try clear hk)
        (try clear hi)
        (try clear ho0)
        (try clear ho1)
        obtain ⟨Ao26, co26, eo26⟩ := Kd.R_slice HO369.out
        (first | subst eo26 | (injection eo26 with f1_ f2_ f3_; have f4_ := f1_.symm; have f5_ := f3_.symm; clear f1_ f2_ f3_; subst f4_; subst f5_))
        obtain ⟨Ao27, co27, eo27⟩ := Kd.R_slice HO372.out
        (first | subst eo27 | (injection eo27 with f1_ f2_ f3_; have f4_ := f1_.symm; have f5_ := f3_.symm; clear f1_ f2_ f3_; subst f4_; subst f5_))
        refine hK.out _ _ ⟨bc0 BK363, bc1 BK363, bc2 BK363, bc3 BK363, bc0 BK362, bc1 BK362, bc2 BK362, bc3 BK362, (hb_ HB hw365_0), (hb_ HB hw365_1), (hb_ HB hw365_2)⟩ (fun hHeld => ?_)
        clear hK K
        refine norm_ (a' := ?_) ?_ ?_
        rotate_left
        ·show Act.put _ (some 36) _ = _
         simp only [Act.put, List.setIfInBounds_toArray, List.set_cons_zero, List.set_cons_succ, i64_w, i32_w]
         rfl
        refine one_ (i := 13) (N := some 37) #[true, true, true, true, true, true, true, true, true, true, true, true, true, true, false] rfl rfl (one_of HT_.out (by kernel_rfl)) (by decide) (fun K hK => ?_)
        refine goes_ Try.func148 (by kernel_rfl) rfl #[.agg #[.int .i64 ((rd_T55 l1_3 x5_2).f0), .slice A365_1 ((rd_T55 l1_3 x5_2).f1).length c365_1, .slice A365_2 ((rd_T55 l1_3 x5_2).f2).length c365_2], .agg #[.int .i64 t366, .slice Ao26 t367.length co26, .slice Ao27 t370.length co27]] (by rfl) rfl rfl sl ?_
        with_reducible refine (spec_EqualTables.calls k2 ((rd_T55 l1_3 x5_2).f0) _ _ ((rd_T55 l1_3 x5_2).f1) _ _ ((rd_T55 l1_3 x5_2).f2) t366 _ _ t367 _ _ t370 true _ ?side1 ?side2 ?side3 ?side4 ?side5 ?side6 ?side7 ?side8 A20.out).mono ?_
        (case side1 => exact cb HR365_1)
        (case side2 => exact HC365_1.out)
        (case side3 => exact cb HR365_2)
        (case side4 => exact HC365_2.out)
        (case side5 => exact cr HO369)
        (case side6 => exact (Kd.R_reads' HO369.out).2.1)
        (case side7 => exact cr HO372)
        (case side8 => exact (Kd.R_reads' HO372.out).2.1)
        rintro e w28 ⟨rfl, hb⟩
        refine ⟨_, rfl, ?_⟩
        replace HO369 := rb HO369 hb
        replace HO372 := rb HO372 hb
        replace BK362 := bb BK362 hb
        replace BK363 := bb BK363 hb
        replace HB := bsw hb
        (try clear hb)
        (try clear hb2)
        (try clear hk)
        (try clear hi)
        refine hK.out _ _ ⟨bc0 BK363, bc1 BK363, bc2 BK363, bc3 BK363, bc0 BK362, bc1 BK362, bc2 BK362, bc3 BK362, (hb_ HB hw365_0), (hb_ HB hw365_1), (hb_ HB hw365_2)⟩ (fun hHeld => ?_)
        clear hK K
        refine norm_ (a' := ?_) ?_ ?_
        rotate_left
        ·show Act.put _ (some 37) _ = _
         simp only [Act.put, List.setIfInBounds_toArray, List.set_cons_zero, List.set_cons_succ, i64_w, i32_w]
         rfl
        refine put 14 38 #[true, true, true, true, true, true, true, true, true, true, true, true, true, true, true] HT_ ?_
        refine done_ (done_of HT_.out (by kernel_rfl)) ?_
        try go_wp2
        go_roundg k2
        case measure => have := HJ2.out; have := HK2.out; omega
        case rel => exact ⟨(wrap64 (x5_2 + 1)), sc, H', ⟨by have := HJ2.out; have := HK2.out; omega⟩, ⟨sk BK362⟩, ⟨sk BK363⟩, ⟨sbw⟩⟩
       ·replace H := im H
        obtain rfl := Option.some.inj H
        have hnb29 := NB362_363.out
        have hnc29 := NB363_362.out
        obtain ⟨hcz30_0, hcz30_1, hcz30_2, hcz30_3, hfz30_0, hfz30_1, hfz30_2, hfz30_3⟩ := cc4 BK362
        try go_wp2
        replace BK362 := Aside0.mk (blk_drew BK362.out)
        replace BK363 := Aside0.mk (blk_drew BK363.out)
        replace HB := Aside0.mk (below_drew1 HB.out)
        obtain ⟨p365, q365, ad365, A365_1, c365_1, A365_2, c365_2, e365, hw365_0, hw365_1, hw365_2, hx365_0, hx365_1, hx365_2, HC365_1, HR365_1, HC365_2, HR365_2⟩ := aT_T55 HR1_3 HB x5_2
        cases e365
        refine start_ (n := 15) (S := fun w' => w'.cell? ⟨gb363, 0, none⟩ = some (.int .i64 a1_0) ∧ w'.cell? ⟨gb363, 1, none⟩ = some (.int .i64 a1_1) ∧ w'.cell? ⟨gb363, 2, none⟩ = some (.slice A1_2 l1_2.length c1_2) ∧ w'.cell? ⟨gb363, 3, none⟩ = some (.slice (some ad365) l1_3.length c1_3) ∧ w'.cell? ⟨gb362, 0, none⟩ = some (.int .i64 a0_0) ∧ w'.cell? ⟨gb362, 1, none⟩ = some (.int .i64 a0_1) ∧ w'.cell? ⟨gb362, 2, none⟩ = some (.int .i64 a0_2) ∧ w'.cell? ⟨gb362, 3, none⟩ = some (.slice A0_3 l0_3.length c0_3) ∧ w'.cell? (ad365.add ((x5_2).toNat * 3)) = some (.int .i64 ((rd_T55 l1_3 x5_2).f0)) ∧ w'.cell? ⟨(ad365.add ((x5_2).toNat * 3)).block, (ad365.add ((x5_2).toNat * 3)).off + 1, none⟩ = some (.slice A365_1 ((rd_T55 l1_3 x5_2).f1).length c365_1) ∧ w'.cell? ⟨(ad365.add ((x5_2).toNat * 3)).block, (ad365.add ((x5_2).toNat * 3)).off + 2, none⟩ = some (.slice A365_2 ((rd_T55 l1_3 x5_2).f2).length c365_2)) (ds := []) #[false, false, false, false, false, false, false, false, false, false, false, false, false, false, false] (by kernel_rfl) rfl rfl ⟨bc0 BK363, bc1 BK363, bc2 BK363, bc3 BK363, bc0 BK362, bc1 BK362, bc2 BK362, bc3 BK362, (hb_ HB hw365_0), (hb_ HB hw365_1), (hb_ HB hw365_2)⟩ (fun hHeld => ?_); refine with_tabW spec_l17Piece.tab6 spec_l17Piece.bits6 (fun HT_ HW_ => ?_)
        generalize wr.drew = w31 at BK362 BK363 HB HR365_1 HR365_2 hx365_0 hx365_1 hx365_2 hHeld ⊢
        refine put 0 24 #[true, false, false, false, false, false, false, false, false, false, false, false, false, false, false] HT_ ?_
        refine put 2 26 #[true, false, true, false, false, false, false, false, false, false, false, false, false, false, false] HT_ ?_
        refine put 5 29 #[true, false, true, false, false, true, false, false, false, false, false, false, false, false, false] HT_ ?_
        refine put 7 31 #[true, false, true, false, false, true, false, true, false, false, false, false, false, false, false] HT_ ?_
        refine put 9 33 #[true, false, true, false, false, true, false, true, false, true, false, false, false, false, false] HT_ ?_
        refine put 11 35 #[true, false, true, false, false, true, false, true, false, true, false, true, false, false, false] HT_ ?_
        refine tat11 1 25 #[true, true, true, false, false, true, false, true, false, true, false, true, false, false, false] HT_ HW_ hHeld ?_
        refine put 3 27 #[true, true, true, true, false, true, false, true, false, true, false, true, false, false, false] HT_ ?_
        refine tat11 4 28 #[true, true, true, true, true, true, false, true, false, true, false, true, false, false, false] HT_ HW_ hHeld ?_
        refine tat11 6 30 #[true, true, true, true, true, true, true, true, false, true, false, true, false, false, false] HT_ HW_ hHeld ?_
        refine tat11 8 32 #[true, true, true, true, true, true, true, true, true, true, false, true, false, false, false] HT_ HW_ hHeld ?_
        refine tat11 10 34 #[true, true, true, true, true, true, true, true, true, true, true, true, false, false, false] HT_ HW_ hHeld ?_
        refine one_ (i := 12) (N := some 36) #[true, true, true, true, true, true, true, true, true, true, true, true, true, false, false] rfl rfl (one_of HT_.out (by kernel_rfl)) (by decide) (fun K hK => ?_)
        refine goes_ Try.func149 (by kernel_rfl) rfl #[.slice A1_2 l1_2.length c1_2, .int .i64 a0_0, .int .i64 a0_1, .int .i64 x5_2] (by rfl) rfl rfl sl ?_
        with_reducible refine (spec_TableOf.calls k2 _ _ l1_2 a0_0 a0_1 x5_2 t366 t367 t370 _ ?side1 ?side2 A19.out).mono ?_
        (case side1 => exact cb HR1_2)
        (case side2 => exact HC1_2.out)
        rintro e w32 ⟨v368, v371, rfl, ho0, ho1, hb⟩
        refine ⟨_, rfl, ?_⟩
        have HO369 := Aside0.mk (Kd.R_lower ho0 (below_size (sbw)))
        have HO372 := Aside0.mk (Kd.R_lower ho1 (below_size (sbw)))
        replace BK362 := bb BK362 hb
        replace BK363 := bb BK363 hb
        replace HB := bsw hb
        (try clear hb)
        (try clear hb2)
        (try clear hk)
        (try clear hi)
        (try clear ho0)
        (try clear ho1)
        obtain ⟨Ao33, co33, eo33⟩ := Kd.R_slice HO369.out
        (first | subst eo33 | (injection eo33 with f1_ f2_ f3_; have f4_ := f1_.symm; have f5_ := f3_.symm; clear f1_ f2_ f3_; subst f4_; subst f5_))
        obtain ⟨Ao34, co34, eo34⟩ := Kd.R_slice HO372.out
        (first | subst eo34 | (injection eo34 with f1_ f2_ f3_; have f4_ := f1_.symm; have f5_ := f3_.symm; clear f1_ f2_ f3_; subst f4_; subst f5_))
        refine hK.out _ _ ⟨bc0 BK363, bc1 BK363, bc2 BK363, bc3 BK363, bc0 BK362, bc1 BK362, bc2 BK362, bc3 BK362, (hb_ HB hw365_0), (hb_ HB hw365_1), (hb_ HB hw365_2)⟩ (fun hHeld => ?_)
        clear hK K
        refine norm_ (a' := ?_) ?_ ?_
        rotate_left
        ·show Act.put _ (some 36) _ = _
         simp only [Act.put, List.setIfInBounds_toArray, List.set_cons_zero, List.set_cons_succ, i64_w, i32_w]
         rfl
        refine one_ (i := 13) (N := some 37) #[true, true, true, true, true, true, true, true, true, true, true, true, true, true, false] rfl rfl (one_of HT_.out (by kernel_rfl)) (by decide) (fun K hK => ?_)
        refine goes_ Try.func148 (by kernel_rfl) rfl #[.agg #[.int .i64 ((rd_T55 l1_3 x5_2).f0), .slice A365_1 ((rd_T55 l1_3 x5_2).f1).length c365_1, .slice A365_2 ((rd_T55 l1_3 x5_2).f2).length c365_2], .agg #[.int .i64 t366, .slice Ao33 t367.length co33, .slice Ao34 t370.length co34]] (by rfl) rfl rfl sl ?_
        with_reducible refine (spec_EqualTables.calls k2 ((rd_T55 l1_3 x5_2).f0) _ _ ((rd_T55 l1_3 x5_2).f1) _ _ ((rd_T55 l1_3 x5_2).f2) t366 _ _ t367 _ _ t370 false _ ?side1 ?side2 ?side3 ?side4 ?side5 ?side6 ?side7 ?side8 A20.out).mono ?_
        (case side1 => exact cb HR365_1)
        (case side2 => exact HC365_1.out)
        (case side3 => exact cb HR365_2)
        (case side4 => exact HC365_2.out)
        (case side5 => exact cr HO369)
        (case side6 => exact (Kd.R_reads' HO369.out).2.1)
        (case side7 => exact cr HO372)
        (case side8 => exact (Kd.R_reads' HO372.out).2.1)
        rintro e w35 ⟨rfl, hb⟩
        refine ⟨_, rfl, ?_⟩
        replace HO369 := rb HO369 hb
        replace HO372 := rb HO372 hb
        replace BK362 := bb BK362 hb
        replace BK363 := bb BK363 hb
        replace HB := bsw hb
        (try clear hb)
        (try clear hb2)
        (try clear hk)
        (try clear hi)
        refine hK.out _ _ ⟨bc0 BK363, bc1 BK363, bc2 BK363, bc3 BK363, bc0 BK362, bc1 BK362, bc2 BK362, bc3 BK362, (hb_ HB hw365_0), (hb_ HB hw365_1), (hb_ HB hw365_2)⟩ (fun hHeld => ?_)
        clear hK K
        refine norm_ (a' := ?_) ?_ ?_
        rotate_left
        ·show Act.put _ (some 37) _ = _
         simp only [Act.put, List.setIfInBounds_toArray, List.set_cons_zero, List.set_cons_succ, i64_w, i32_w]
         rfl
        refine put 14 38 #[true, true, true, true, true, true, true, true, true, true, true, true, true, true, true] HT_ ?_
        refine done_ (done_of HT_.out (by kernel_rfl)) ?_
        try go_wp2
        go_ret
        exact ⟨se, sbw⟩
      ·have c16b0 := decide_eq_false c16
       clear c16
       obtain rfl := Option.some.inj H
       have hnb36 := NB362_363.out
       have hnc36 := NB363_362.out
       obtain ⟨hcz37_0, hcz37_1, hcz37_2, hcz37_3, hfz37_0, hfz37_1, hfz37_2, hfz37_3⟩ := cc4 BK362
       go_wp2
       go_ret
       exact ⟨se, sbw⟩

end Go.Proofs.Ytiihaabhjphaeaa.QFnExactIsProgram
