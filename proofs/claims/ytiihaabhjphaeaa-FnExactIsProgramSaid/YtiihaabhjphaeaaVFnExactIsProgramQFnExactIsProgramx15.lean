/- What the Go functions of the law FnExactIsProgram come to, as Lean functions, and that they do: by a program of the session, out of the kit's printer. Conditions: none. (squeezed). -/
import Derived.Test.YtiihaabhjphaeaaVFnExactIsProgramSq2
import Derived.Test.YtiihaabhjphaeaaVFnExactIsProgramSq
import Derived.Test.YtiihaabhjphaeaaVFnExactIsProgramQFnExactIsProgramx0
import Derived.Test.YtiihaabhjphaeaaVFnExactIsProgramQFnExactIsProgramx5
import Derived.Test.YtiihaabhjphaeaaVFnExactIsProgramQFnExactIsProgramx11
import Derived.Test.YtiihaabhjphaeaaVFnExactIsProgramQFnExactIsProgramx12
import Derived.Test.YtiihaabhjphaeaaVFnExactIsProgramQFnExactIsProgramx13
import Derived.Test.YtiihaabhjphaeaaVFnExactIsProgramQFnExactIsProgramx14
namespace Go.Proofs.Ytiihaabhjphaeaa.QFnExactIsProgram
open Go.RowKit Go.Proofs.YtiihaabhjphaeaaW.PrintWords Go.Proofs.YtiihaabhjphaeaaW.PrintLast Go.Proofs.YtiihaabhjphaeaaW.PrintMore Go.Proofs.Ytiihaabhjphaeaa.Open Go.Proofs.Ytiihaabhjphaeaa.Sq
attribute [local go_sem] max2_int min2_int max_two min_two max_three min_three max_four min_four   -- for this text's walks alone
attribute [local go_sem] isSome_set
set_option linter.unusedVariables false
set_option linter.unusedSimpArgs false

/-! ### laws_eqPieceS: function 124 -/
def laws_eqPieceS.l0 : Nat → List (S105) → List (S105) → Int → Option (Bool)
  | 0, _, _, _ => none
  | k + 1, x0, x1, x5 => if x5 < (x0.length : Int) then (if 0 ≤ x5 then (if x5 < (x1.length : Int) then ((laws_eqPiece.f k ((rd_T105 x0 x5).f0.f0) ((rd_T105 x0 x5).f0.f1) ((rd_T105 x0 x5).f1) ((rd_T105 x0 x5).f2) ((rd_T105 x1 x5).f0.f0) ((rd_T105 x1 x5).f0.f1) ((rd_T105 x1 x5).f1) ((rd_T105 x1 x5).f2)).bind fun t485 => (if t485 = true then (laws_eqPieceS.l0 k x0 x1 (wrap64 (x5 + 1))) else (some false))) else (none)) else (none)) else (some true)
def laws_eqPieceS.f (k : Nat) (l0 : List (S105)) (l1 : List (S105)) : Option (Bool) := if (l0.length : Int) = (l1.length : Int) then (laws_eqPieceS.l0 k l0 l1 0) else (some false)
theorem laws_eqPieceS.mono_l : ∀ k, (∀ y0 y1 y2, LeO (laws_eqPieceS.l0 k y0 y1 y2) (laws_eqPieceS.l0 (k + 1) y0 y1 y2))
  | 0 => fun _ _ _ r h => by simp [laws_eqPieceS.l0] at h
  | k + 1 => by
    have ih0 := laws_eqPieceS.mono_l k
    · intro y0 y1 y2
      unfold laws_eqPieceS.l0
      have m0 := @laws_eqPiece.mono
      exact mo
theorem laws_eqPieceS.mono : ∀ a0 a1 k, LeO (laws_eqPieceS.f k a0 a1) (laws_eqPieceS.f (k + 1) a0 a1) := by
  intro a0 a1 k
  have ih0 := laws_eqPieceS.mono_l k
  unfold laws_eqPieceS.f
  have m0 := @laws_eqPiece.mono
  exact mo
def laws_eqPieceS.T6 : Bool × List (List Nat × List Nat) := (true, [([], []), ([], []), ([0, 1], [0, 1]), ([2], [2]), ([], []), ([], []), ([4, 5], [4, 5]), ([6], [6]), ([3, 7], [3, 7]), ([8], [8])])
def laws_eqPieceS.B6 : List Nat := [0, 0, 3, 7, 0, 0, 48, 112, 255, 511]
theorem laws_eqPieceS.tab6 : rtab .any (opsOf Try.f124 6) = laws_eqPieceS.T6 := by kernel_rfl
theorem laws_eqPieceS.bits6 : waitsOk laws_eqPieceS.T6.2 laws_eqPieceS.B6 = true := by kernel_rfl
set_option maxHeartbeats 8000000 in
set_option maxRecDepth 100000 in
theorem laws_eqPieceS.calls (k : Nat) (A0 : Option Addr) (c0 : Nat) (l0 : List (S105)) (A1 : Option Addr) (c1 : Nat) (l1 : List (S105)) (r : Bool) (w : World) (hr0 : Kd.C k105 w A0 l0.length l0) (hc0 : l0.length ≤ c0) (hr1 : Kd.C k105 w A1 l1.length l1) (hc1 : l1.length ≤ c1) (h : laws_eqPieceS.f k l0 l1 = some r) :
    Calls Try.prog 124 #[.slice A0 l0.length c0, .slice A1 l1.length c1] w fun e w' => e = .returned (.bool r) ∧ Below w.heap.size w w' := by
 have hu105 := Try.underlying105
 have HR0 := Aside0.mk hr0
 have HC0 := Aside0.mk hc0
 clear hr0 hc0
 have HR1 := Aside0.mk hr1
 have HC1 := Aside0.mk hc1
 clear hr1 hc1
 have HB := Aside0.mk (Below.refl w.heap.size w)
 have H : (if (l0.length : Int) = (l1.length : Int) then (laws_eqPieceS.l0 k l0 l1 0) else (some false)) = some r := h
 clear h
 obtain ⟨c3, H⟩ | ⟨c3, H⟩ := ie_ H
 ·have c3b0 : ((l0.length : Int) == (l1.length : Int)) = true := beq_iff_eq.mpr c3
  have c3b1 : ((l0.length : Int) != (l1.length : Int)) = false := bne_eq_false_iff_eq.mpr c3
  have c3b2 : (l0.length == l1.length) = true := by first | simpa using c3 | (simp at c3 ⊢; omega)
  clear c3
  have H' := Aside0.mk H
  clear H
  go_enter Try.func124, Try.ntmps124
  go_wp2
  go_loopg [5] k (fun kq v5 w' => ∃ (x5_1 : Int), v5 = .int .i64 x5_1 ∧ Aside0 (laws_eqPieceS.l0 kq l0 l1 x5_1 = some r) ∧ Aside0 (kq ≤ k) ∧ Aside0 (Below w.heap.size w w'))
  case atStart => exact ⟨(0), sc, H', kk0, ⟨sb⟩⟩
  case round =>
   clear H'
   try clear c3
   try clear c3b0
   try clear c3b1
   try clear c3b2
   obtain ⟨x5_1, rfl, HA, HK1, HB⟩ := hrel
   cases gk with
   | zero => exact absurd HA.out (by simp [laws_eqPieceS.l0])
   | succ k1 =>
    have H := HA.out
    clear HA
    simp only [laws_eqPieceS.l0] at H
    obtain ⟨c4, H⟩ | ⟨c4, H⟩ := ie_ H
    ·have c4b0 := decide_eq_true c4
     clear c4
     obtain ⟨c5b0, H⟩ := id_ H
     obtain ⟨c6b0, H⟩ := id_ H
     obtain ⟨t485, A7, H⟩ := bnd H
     obtain rfl | rfl := tt t485
     ·replace H := ip H
      have H' := Aside0.mk H
      clear H
      try go_wp2
      replace HB := Aside0.mk (below_drew1 HB.out)
      obtain ⟨p483, q483, ad483, A483_2, c483_2, A483_3, c483_3, e483, hw483_0, hw483_1, hw483_2, hw483_3, hx483_0, hx483_1, hx483_2, hx483_3, HC483_2, HR483_2, HC483_3, HR483_3⟩ := aT_T105 HR0 HB x5_1
      cases e483
      obtain ⟨p484, q484, ad484, A484_2, c484_2, A484_3, c484_3, e484, hw484_0, hw484_1, hw484_2, hw484_3, hx484_0, hx484_1, hx484_2, hx484_3, HC484_2, HR484_2, HC484_3, HR484_3⟩ := aT_T105 HR1 HB x5_1
      cases e484
      refine start_ (n := 10) (S := fun w' => w'.cell? (ad483.add ((x5_1).toNat * 4)) = some (.int .i64 ((rd_T105 l0 x5_1).f0.f0)) ∧ w'.cell? ⟨(ad483.add ((x5_1).toNat * 4)).block, (ad483.add ((x5_1).toNat * 4)).off + 1, none⟩ = some (.int .i64 ((rd_T105 l0 x5_1).f0.f1)) ∧ w'.cell? ⟨(ad483.add ((x5_1).toNat * 4)).block, (ad483.add ((x5_1).toNat * 4)).off + 2, none⟩ = some (.slice A483_2 ((rd_T105 l0 x5_1).f1).length c483_2) ∧ w'.cell? ⟨(ad483.add ((x5_1).toNat * 4)).block, (ad483.add ((x5_1).toNat * 4)).off + 3, none⟩ = some (.slice A483_3 ((rd_T105 l0 x5_1).f2).length c483_3) ∧ w'.cell? (ad484.add ((x5_1).toNat * 4)) = some (.int .i64 ((rd_T105 l1 x5_1).f0.f0)) ∧ w'.cell? ⟨(ad484.add ((x5_1).toNat * 4)).block, (ad484.add ((x5_1).toNat * 4)).off + 1, none⟩ = some (.int .i64 ((rd_T105 l1 x5_1).f0.f1)) ∧ w'.cell? ⟨(ad484.add ((x5_1).toNat * 4)).block, (ad484.add ((x5_1).toNat * 4)).off + 2, none⟩ = some (.slice A484_2 ((rd_T105 l1 x5_1).f1).length c484_2) ∧ w'.cell? ⟨(ad484.add ((x5_1).toNat * 4)).block, (ad484.add ((x5_1).toNat * 4)).off + 3, none⟩ = some (.slice A484_3 ((rd_T105 l1 x5_1).f2).length c484_3)) (ds := []) #[false, false, false, false, false, false, false, false, false, false] (by kernel_rfl) rfl rfl ⟨(hb_ HB hw483_0), (hb_ HB hw483_1), (hb_ HB hw483_2), (hb_ HB hw483_3), (hb_ HB hw484_0), (hb_ HB hw484_1), (hb_ HB hw484_2), (hb_ HB hw484_3)⟩ (fun hHeld => ?_); refine with_tabW laws_eqPieceS.tab6 laws_eqPieceS.bits6 (fun HT_ HW_ => ?_)
      generalize wr.drew = w9 at HB HR483_2 HR483_3 HR484_2 HR484_3 hx483_0 hx483_1 hx483_2 hx483_3 hx484_0 hx484_1 hx484_2 hx484_3 hHeld ⊢
      refine put 0 17 #[true, false, false, false, false, false, false, false, false, false] HT_ ?_
      refine put 1 18 #[true, true, false, false, false, false, false, false, false, false] HT_ ?_
      refine put 2 19 #[true, true, true, false, false, false, false, false, false, false] HT_ ?_
      refine put 4 21 #[true, true, true, false, true, false, false, false, false, false] HT_ ?_
      refine put 5 22 #[true, true, true, false, true, true, false, false, false, false] HT_ ?_
      refine put 6 23 #[true, true, true, false, true, true, true, false, false, false] HT_ ?_
      refine tat8 3 20 #[true, true, true, true, true, true, true, false, false, false] HT_ HW_ hHeld ?_
      refine tat8 7 24 #[true, true, true, true, true, true, true, true, false, false] HT_ HW_ hHeld ?_
      refine one_ (i := 8) (N := some 25) #[true, true, true, true, true, true, true, true, true, false] rfl rfl (one_of HT_.out (by kernel_rfl)) (by decide) (fun K hK => ?_)
      refine goes_ Try.func164 (by kernel_rfl) rfl #[.agg #[.int .i64 ((rd_T105 l0 x5_1).f0.f0), .int .i64 ((rd_T105 l0 x5_1).f0.f1), .slice A483_2 ((rd_T105 l0 x5_1).f1).length c483_2, .slice A483_3 ((rd_T105 l0 x5_1).f2).length c483_3], .agg #[.int .i64 ((rd_T105 l1 x5_1).f0.f0), .int .i64 ((rd_T105 l1 x5_1).f0.f1), .slice A484_2 ((rd_T105 l1 x5_1).f1).length c484_2, .slice A484_3 ((rd_T105 l1 x5_1).f2).length c484_3]] (by rfl) rfl rfl sl ?_
      with_reducible refine (laws_eqPiece.calls k1 ((rd_T105 l0 x5_1).f0.f0) ((rd_T105 l0 x5_1).f0.f1) _ _ ((rd_T105 l0 x5_1).f1) _ _ ((rd_T105 l0 x5_1).f2) ((rd_T105 l1 x5_1).f0.f0) ((rd_T105 l1 x5_1).f0.f1) _ _ ((rd_T105 l1 x5_1).f1) _ _ ((rd_T105 l1 x5_1).f2) true _ ?side1 ?side2 ?side3 ?side4 ?side5 ?side6 ?side7 ?side8 A7.out).mono ?_
      (case side1 => exact cb HR483_2)
      (case side2 => exact HC483_2.out)
      (case side3 => exact cb HR483_3)
      (case side4 => exact HC483_3.out)
      (case side5 => exact cb HR484_2)
      (case side6 => exact HC484_2.out)
      (case side7 => exact cb HR484_3)
      (case side8 => exact HC484_3.out)
      rintro e w10 ⟨rfl, hb⟩
      refine ⟨_, rfl, ?_⟩
      replace HB := bs hb
      (try clear hb)
      (try clear hb2)
      (try clear hk)
      (try clear hi)
      refine hK.out _ _ ⟨(hb_ HB hw483_0), (hb_ HB hw483_1), (hb_ HB hw483_2), (hb_ HB hw483_3), (hb_ HB hw484_0), (hb_ HB hw484_1), (hb_ HB hw484_2), (hb_ HB hw484_3)⟩ (fun hHeld => ?_)
      clear hK K
      refine norm_ (a' := ?_) ?_ ?_
      rotate_left
      ·show Act.put _ (some 25) _ = _
       simp only [Act.put, List.setIfInBounds_toArray, List.set_cons_zero, List.set_cons_succ, i64_w, i32_w]
       rfl
      refine put 9 26 #[true, true, true, true, true, true, true, true, true, true] HT_ ?_
      refine done_ (done_of HT_.out (by kernel_rfl)) ?_
      try go_wp2
      go_roundg k1
      case measure => have := HK1.out; omega
      case rel => exact ⟨(wrap64 (x5_1 + 1)), sc, H', kk1, ⟨sb⟩⟩
     ·replace H := im H
      obtain rfl := Option.some.inj H
      try go_wp2
      replace HB := Aside0.mk (below_drew1 HB.out)
      obtain ⟨p483, q483, ad483, A483_2, c483_2, A483_3, c483_3, e483, hw483_0, hw483_1, hw483_2, hw483_3, hx483_0, hx483_1, hx483_2, hx483_3, HC483_2, HR483_2, HC483_3, HR483_3⟩ := aT_T105 HR0 HB x5_1
      cases e483
      obtain ⟨p484, q484, ad484, A484_2, c484_2, A484_3, c484_3, e484, hw484_0, hw484_1, hw484_2, hw484_3, hx484_0, hx484_1, hx484_2, hx484_3, HC484_2, HR484_2, HC484_3, HR484_3⟩ := aT_T105 HR1 HB x5_1
      cases e484
      refine start_ (n := 10) (S := fun w' => w'.cell? (ad483.add ((x5_1).toNat * 4)) = some (.int .i64 ((rd_T105 l0 x5_1).f0.f0)) ∧ w'.cell? ⟨(ad483.add ((x5_1).toNat * 4)).block, (ad483.add ((x5_1).toNat * 4)).off + 1, none⟩ = some (.int .i64 ((rd_T105 l0 x5_1).f0.f1)) ∧ w'.cell? ⟨(ad483.add ((x5_1).toNat * 4)).block, (ad483.add ((x5_1).toNat * 4)).off + 2, none⟩ = some (.slice A483_2 ((rd_T105 l0 x5_1).f1).length c483_2) ∧ w'.cell? ⟨(ad483.add ((x5_1).toNat * 4)).block, (ad483.add ((x5_1).toNat * 4)).off + 3, none⟩ = some (.slice A483_3 ((rd_T105 l0 x5_1).f2).length c483_3) ∧ w'.cell? (ad484.add ((x5_1).toNat * 4)) = some (.int .i64 ((rd_T105 l1 x5_1).f0.f0)) ∧ w'.cell? ⟨(ad484.add ((x5_1).toNat * 4)).block, (ad484.add ((x5_1).toNat * 4)).off + 1, none⟩ = some (.int .i64 ((rd_T105 l1 x5_1).f0.f1)) ∧ w'.cell? ⟨(ad484.add ((x5_1).toNat * 4)).block, (ad484.add ((x5_1).toNat * 4)).off + 2, none⟩ = some (.slice A484_2 ((rd_T105 l1 x5_1).f1).length c484_2) ∧ w'.cell? ⟨(ad484.add ((x5_1).toNat * 4)).block, (ad484.add ((x5_1).toNat * 4)).off + 3, none⟩ = some (.slice A484_3 ((rd_T105 l1 x5_1).f2).length c484_3)) (ds := []) #[false, false, false, false, false, false, false, false, false, false] (by kernel_rfl) rfl rfl ⟨(hb_ HB hw483_0), (hb_ HB hw483_1), (hb_ HB hw483_2), (hb_ HB hw483_3), (hb_ HB hw484_0), (hb_ HB hw484_1), (hb_ HB hw484_2), (hb_ HB hw484_3)⟩ (fun hHeld => ?_); refine with_tabW laws_eqPieceS.tab6 laws_eqPieceS.bits6 (fun HT_ HW_ => ?_)
      generalize wr.drew = w11 at HB HR483_2 HR483_3 HR484_2 HR484_3 hx483_0 hx483_1 hx483_2 hx483_3 hx484_0 hx484_1 hx484_2 hx484_3 hHeld ⊢
      refine put 0 17 #[true, false, false, false, false, false, false, false, false, false] HT_ ?_
      refine put 1 18 #[true, true, false, false, false, false, false, false, false, false] HT_ ?_
      refine put 2 19 #[true, true, true, false, false, false, false, false, false, false] HT_ ?_
      refine put 4 21 #[true, true, true, false, true, false, false, false, false, false] HT_ ?_
      refine put 5 22 #[true, true, true, false, true, true, false, false, false, false] HT_ ?_
      refine put 6 23 #[true, true, true, false, true, true, true, false, false, false] HT_ ?_
      refine tat8 3 20 #[true, true, true, true, true, true, true, false, false, false] HT_ HW_ hHeld ?_
      refine tat8 7 24 #[true, true, true, true, true, true, true, true, false, false] HT_ HW_ hHeld ?_
      refine one_ (i := 8) (N := some 25) #[true, true, true, true, true, true, true, true, true, false] rfl rfl (one_of HT_.out (by kernel_rfl)) (by decide) (fun K hK => ?_)
      refine goes_ Try.func164 (by kernel_rfl) rfl #[.agg #[.int .i64 ((rd_T105 l0 x5_1).f0.f0), .int .i64 ((rd_T105 l0 x5_1).f0.f1), .slice A483_2 ((rd_T105 l0 x5_1).f1).length c483_2, .slice A483_3 ((rd_T105 l0 x5_1).f2).length c483_3], .agg #[.int .i64 ((rd_T105 l1 x5_1).f0.f0), .int .i64 ((rd_T105 l1 x5_1).f0.f1), .slice A484_2 ((rd_T105 l1 x5_1).f1).length c484_2, .slice A484_3 ((rd_T105 l1 x5_1).f2).length c484_3]] (by rfl) rfl rfl sl ?_
      with_reducible refine (laws_eqPiece.calls k1 ((rd_T105 l0 x5_1).f0.f0) ((rd_T105 l0 x5_1).f0.f1) _ _ ((rd_T105 l0 x5_1).f1) _ _ ((rd_T105 l0 x5_1).f2) ((rd_T105 l1 x5_1).f0.f0) ((rd_T105 l1 x5_1).f0.f1) _ _ ((rd_T105 l1 x5_1).f1) _ _ ((rd_T105 l1 x5_1).f2) false _ ?side1 ?side2 ?side3 ?side4 ?side5 ?side6 ?side7 ?side8 A7.out).mono ?_
      (case side1 => exact cb HR483_2)
      (case side2 => exact HC483_2.out)
      (case side3 => exact cb HR483_3)
      (case side4 => exact HC483_3.out)
      (case side5 => exact cb HR484_2)
      (case side6 => exact HC484_2.out)
      (case side7 => exact cb HR484_3)
      (case side8 => exact HC484_3.out)
      rintro e w12 ⟨rfl, hb⟩
      refine ⟨_, rfl, ?_⟩
      replace HB := bs hb
      (try clear hb)
      (try clear hb2)
      (try clear hk)
      (try clear hi)
      refine hK.out _ _ ⟨(hb_ HB hw483_0), (hb_ HB hw483_1), (hb_ HB hw483_2), (hb_ HB hw483_3), (hb_ HB hw484_0), (hb_ HB hw484_1), (hb_ HB hw484_2), (hb_ HB hw484_3)⟩ (fun hHeld => ?_)
      clear hK K
      refine norm_ (a' := ?_) ?_ ?_
      rotate_left
      ·show Act.put _ (some 25) _ = _
       simp only [Act.put, List.setIfInBounds_toArray, List.set_cons_zero, List.set_cons_succ, i64_w, i32_w]
       rfl
      refine put 9 26 #[true, true, true, true, true, true, true, true, true, true] HT_ ?_
      refine done_ (done_of HT_.out (by kernel_rfl)) ?_
      try go_wp2
      go_ret
      exact ⟨se, sb⟩
    ·have c4b0 := decide_eq_false c4
     clear c4
     obtain rfl := Option.some.inj H
     go_wp2
     go_ret
     exact ⟨se, sb⟩
 ·have c3b0 : ((l0.length : Int) == (l1.length : Int)) = false := beq_eq_false_iff_ne.mpr c3
  have c3b1 : ((l0.length : Int) != (l1.length : Int)) = true := bne_iff_ne.mpr c3
  have c3b2 : (l0.length == l1.length) = false := by first | simpa using c3 | (simp at c3 ⊢; omega)
  obtain rfl := Option.some.inj H
  go_enter Try.func124, Try.ntmps124
  go_wp2
  go_ret
  exact ⟨se, sb⟩

/-! ### laws_eqProgram: function 53 -/
def laws_eqProgram.f (k : Nat) (a0_0 : Int) (a0_1 : Int) (a0_2 : Int) (l0_3 : List (S105)) (a1_0 : Int) (a1_1 : Int) (a1_2 : Int) (l1_3 : List (S105)) : Option (Bool) := if a0_0 = a1_0 then (if a0_1 = a1_1 then (if a0_2 = a1_2 then ((laws_eqPieceS.f k l0_3 l1_3).bind fun t488 => (if t488 = true then (some true) else (some false))) else (some false)) else (some false)) else (some false)
theorem laws_eqProgram.mono : ∀ a0 a1 a2 a3 a4 a5 a6 a7 k, LeO (laws_eqProgram.f k a0 a1 a2 a3 a4 a5 a6 a7) (laws_eqProgram.f (k + 1) a0 a1 a2 a3 a4 a5 a6 a7) := by
  intro a0 a1 a2 a3 a4 a5 a6 a7 k
  unfold laws_eqProgram.f
  have m0 := @laws_eqPieceS.mono
  exact mo
set_option maxHeartbeats 8000000 in
set_option maxRecDepth 100000 in
theorem laws_eqProgram.calls (k : Nat) (a0_0 : Int) (a0_1 : Int) (a0_2 : Int) (A0_3 : Option Addr) (c0_3 : Nat) (l0_3 : List (S105)) (a1_0 : Int) (a1_1 : Int) (a1_2 : Int) (A1_3 : Option Addr) (c1_3 : Nat) (l1_3 : List (S105)) (r : Bool) (w : World) (hr0_3 : Kd.C k105 w A0_3 l0_3.length l0_3) (hc0_3 : l0_3.length ≤ c0_3) (hr1_3 : Kd.C k105 w A1_3 l1_3.length l1_3) (hc1_3 : l1_3.length ≤ c1_3) (h : laws_eqProgram.f k a0_0 a0_1 a0_2 l0_3 a1_0 a1_1 a1_2 l1_3 = some r) :
    Calls Try.prog 53 #[.agg #[.int .i64 a0_0, .int .i64 a0_1, .int .i64 a0_2, .slice A0_3 l0_3.length c0_3], .agg #[.int .i64 a1_0, .int .i64 a1_1, .int .i64 a1_2, .slice A1_3 l1_3.length c1_3]] w fun e w' => e = .returned (.bool r) ∧ Below w.heap.size w w' := by
 have hu31 := Try.underlying31
 have HR0_3 := Aside0.mk hr0_3
 have HC0_3 := Aside0.mk hc0_3
 clear hr0_3 hc0_3
 have HR1_3 := Aside0.mk hr1_3
 have HC1_3 := Aside0.mk hc1_3
 clear hr1_3 hc1_3
 have HB := Aside0.mk (Below.refl w.heap.size w)
 have H : (if a0_0 = a1_0 then (if a0_1 = a1_1 then (if a0_2 = a1_2 then ((laws_eqPieceS.f k l0_3 l1_3).bind fun t488 => (if t488 = true then (some true) else (some false))) else (some false)) else (some false)) else (some false)) = some r := h
 clear h
 obtain ⟨c3, H⟩ | ⟨c3, H⟩ := ie_ H
 ·have c3b0 : (a0_0 == a1_0) = true := beq_iff_eq.mpr c3
  have c3b1 : (a0_0 != a1_0) = false := bne_eq_false_iff_eq.mpr c3
  clear c3
  obtain ⟨c4, H⟩ | ⟨c4, H⟩ := ie_ H
  ·have c4b0 : (a0_1 == a1_1) = true := beq_iff_eq.mpr c4
   have c4b1 : (a0_1 != a1_1) = false := bne_eq_false_iff_eq.mpr c4
   clear c4
   obtain ⟨c5, H⟩ | ⟨c5, H⟩ := ie_ H
   ·have c5b0 : (a0_2 == a1_2) = true := beq_iff_eq.mpr c5
    have c5b1 : (a0_2 != a1_2) = false := bne_eq_false_iff_eq.mpr c5
    clear c5
    obtain ⟨t488, A6, H⟩ := bnd H
    obtain rfl | rfl := tt t488
    ·replace H := ip H
     obtain rfl := Option.some.inj H
     go_enter Try.func53, Try.ntmps53
     go_wp2_with (first | ((with_reducible refine gate_dst (N := 2) rfl ?_); refine bx 2 #[.int .i64 a0_0, .int .i64 a0_1, .int .i64 a0_2, .slice A0_3 l0_3.length c0_3] 31 ?_; intro gb486 hg w8 hbox hb; have GW486 := bz w hg; have GE486 := bz w hg; replace HB := bs hb; have BK486 := Aside0.mk hbox; clear hb hbox hg) | ((with_reducible refine gate_dst (N := 3) rfl ?_); refine bx 3 #[.int .i64 a1_0, .int .i64 a1_1, .int .i64 a1_2, .slice A1_3 l1_3.length c1_3] 31 ?_; intro gb487 hg w9 hbox hb; have GW487 := bzw w hg; have GE487 := bzw w hg; replace HB := bsw hb; have BK487 := Aside0.mk hbox; have NB486_487 := nl BK486 hg; have NB487_486 := ng BK486 hg; replace BK486 := bb BK486 hb; clear hb hbox hg; have hnb10 := NB486_487.out; have hnc10 := NB487_486.out; obtain ⟨hcz11_0, hcz11_1, hcz11_2, hcz11_3, hfz11_0, hfz11_1, hfz11_2, hfz11_3⟩ := cc4 BK486; obtain ⟨hcz12_0, hcz12_1, hcz12_2, hcz12_3, hfz12_0, hfz12_1, hfz12_2, hfz12_3⟩ := cc4 BK487) | ((with_reducible refine gate_callee (f := 124) rfl ?_); refine gL (some 24) Try.func124 #[.slice A0_3 l0_3.length c0_3, .slice A1_3 l1_3.length c1_3] ?_; (with_reducible refine (laws_eqPieceS.calls k _ _ l0_3 _ _ l1_3 true _ ?side1 ?side2 ?side3 ?side4 A6.out).mono ?_); (case side1 => exact cb HR0_3); (case side2 => exact HC0_3.out); (case side3 => exact cb HR1_3); (case side4 => exact HC1_3.out); rintro e w13 ⟨rfl, hb⟩; refine ⟨_, rfl, ?_⟩; replace BK486 := bb BK486 hb; replace BK487 := bb BK487 hb; replace HB := bsw hb; (try clear hb); (try clear hb2); (try clear hk); (try clear hi)))
     go_ret
     exact ⟨se, sbw⟩
    ·replace H := im H
     obtain rfl := Option.some.inj H
     go_enter Try.func53, Try.ntmps53
     go_wp2_with (first | ((with_reducible refine gate_dst (N := 2) rfl ?_); refine bx 2 #[.int .i64 a0_0, .int .i64 a0_1, .int .i64 a0_2, .slice A0_3 l0_3.length c0_3] 31 ?_; intro gb486 hg w14 hbox hb; have GW486 := bz w hg; have GE486 := bz w hg; replace HB := bs hb; have BK486 := Aside0.mk hbox; clear hb hbox hg) | ((with_reducible refine gate_dst (N := 3) rfl ?_); refine bx 3 #[.int .i64 a1_0, .int .i64 a1_1, .int .i64 a1_2, .slice A1_3 l1_3.length c1_3] 31 ?_; intro gb487 hg w15 hbox hb; have GW487 := bzw w hg; have GE487 := bzw w hg; replace HB := bsw hb; have BK487 := Aside0.mk hbox; have NB486_487 := nl BK486 hg; have NB487_486 := ng BK486 hg; replace BK486 := bb BK486 hb; clear hb hbox hg; have hnb16 := NB486_487.out; have hnc16 := NB487_486.out; obtain ⟨hcz17_0, hcz17_1, hcz17_2, hcz17_3, hfz17_0, hfz17_1, hfz17_2, hfz17_3⟩ := cc4 BK486; obtain ⟨hcz18_0, hcz18_1, hcz18_2, hcz18_3, hfz18_0, hfz18_1, hfz18_2, hfz18_3⟩ := cc4 BK487) | ((with_reducible refine gate_callee (f := 124) rfl ?_); refine gL (some 24) Try.func124 #[.slice A0_3 l0_3.length c0_3, .slice A1_3 l1_3.length c1_3] ?_; (with_reducible refine (laws_eqPieceS.calls k _ _ l0_3 _ _ l1_3 false _ ?side1 ?side2 ?side3 ?side4 A6.out).mono ?_); (case side1 => exact cb HR0_3); (case side2 => exact HC0_3.out); (case side3 => exact cb HR1_3); (case side4 => exact HC1_3.out); rintro e w19 ⟨rfl, hb⟩; refine ⟨_, rfl, ?_⟩; replace BK486 := bb BK486 hb; replace BK487 := bb BK487 hb; replace HB := bsw hb; (try clear hb); (try clear hb2); (try clear hk); (try clear hi)))
     go_ret
     exact ⟨se, sbw⟩
   ·have c5b0 : (a0_2 == a1_2) = false := beq_eq_false_iff_ne.mpr c5
    have c5b1 : (a0_2 != a1_2) = true := bne_iff_ne.mpr c5
    obtain rfl := Option.some.inj H
    go_enter Try.func53, Try.ntmps53
    go_wp2_with (first | ((with_reducible refine gate_dst (N := 2) rfl ?_); refine bx 2 #[.int .i64 a0_0, .int .i64 a0_1, .int .i64 a0_2, .slice A0_3 l0_3.length c0_3] 31 ?_; intro gb486 hg w20 hbox hb; have GW486 := bz w hg; have GE486 := bz w hg; replace HB := bs hb; have BK486 := Aside0.mk hbox; clear hb hbox hg) | ((with_reducible refine gate_dst (N := 3) rfl ?_); refine bx 3 #[.int .i64 a1_0, .int .i64 a1_1, .int .i64 a1_2, .slice A1_3 l1_3.length c1_3] 31 ?_; intro gb487 hg w21 hbox hb; have GW487 := bzw w hg; have GE487 := bzw w hg; replace HB := bsw hb; have BK487 := Aside0.mk hbox; have NB486_487 := nl BK486 hg; have NB487_486 := ng BK486 hg; replace BK486 := bb BK486 hb; clear hb hbox hg; have hnb22 := NB486_487.out; have hnc22 := NB487_486.out; obtain ⟨hcz23_0, hcz23_1, hcz23_2, hcz23_3, hfz23_0, hfz23_1, hfz23_2, hfz23_3⟩ := cc4 BK486; obtain ⟨hcz24_0, hcz24_1, hcz24_2, hcz24_3, hfz24_0, hfz24_1, hfz24_2, hfz24_3⟩ := cc4 BK487))
    go_ret
    exact ⟨se, sbw⟩
  ·have c4b0 : (a0_1 == a1_1) = false := beq_eq_false_iff_ne.mpr c4
   have c4b1 : (a0_1 != a1_1) = true := bne_iff_ne.mpr c4
   obtain rfl := Option.some.inj H
   go_enter Try.func53, Try.ntmps53
   go_wp2_with (first | ((with_reducible refine gate_dst (N := 2) rfl ?_); refine bx 2 #[.int .i64 a0_0, .int .i64 a0_1, .int .i64 a0_2, .slice A0_3 l0_3.length c0_3] 31 ?_; intro gb486 hg w25 hbox hb; have GW486 := bz w hg; have GE486 := bz w hg; replace HB := bs hb; have BK486 := Aside0.mk hbox; clear hb hbox hg) | ((with_reducible refine gate_dst (N := 3) rfl ?_); refine bx 3 #[.int .i64 a1_0, .int .i64 a1_1, .int .i64 a1_2, .slice A1_3 l1_3.length c1_3] 31 ?_; intro gb487 hg w26 hbox hb; have GW487 := bzw w hg; have GE487 := bzw w hg; replace HB := bsw hb; have BK487 := Aside0.mk hbox; have NB486_487 := nl BK486 hg; have NB487_486 := ng BK486 hg; replace BK486 := bb BK486 hb; clear hb hbox hg; have hnb27 := NB486_487.out; have hnc27 := NB487_486.out; obtain ⟨hcz28_0, hcz28_1, hcz28_2, hcz28_3, hfz28_0, hfz28_1, hfz28_2, hfz28_3⟩ := cc4 BK486; obtain ⟨hcz29_0, hcz29_1, hcz29_2, hcz29_3, hfz29_0, hfz29_1, hfz29_2, hfz29_3⟩ := cc4 BK487))
   go_ret
   exact ⟨se, sbw⟩
 ·have c3b0 : (a0_0 == a1_0) = false := beq_eq_false_iff_ne.mpr c3
  have c3b1 : (a0_0 != a1_0) = true := bne_iff_ne.mpr c3
  obtain rfl := Option.some.inj H
  go_enter Try.func53, Try.ntmps53
  go_wp2_with (first | ((with_reducible refine gate_dst (N := 2) rfl ?_); refine bx 2 #[.int .i64 a0_0, .int .i64 a0_1, .int .i64 a0_2, .slice A0_3 l0_3.length c0_3] 31 ?_; intro gb486 hg w30 hbox hb; have GW486 := bz w hg; have GE486 := bz w hg; replace HB := bs hb; have BK486 := Aside0.mk hbox; clear hb hbox hg) | ((with_reducible refine gate_dst (N := 3) rfl ?_); refine bx 3 #[.int .i64 a1_0, .int .i64 a1_1, .int .i64 a1_2, .slice A1_3 l1_3.length c1_3] 31 ?_; intro gb487 hg w31 hbox hb; have GW487 := bzw w hg; have GE487 := bzw w hg; replace HB := bsw hb; have BK487 := Aside0.mk hbox; have NB486_487 := nl BK486 hg; have NB487_486 := ng BK486 hg; replace BK486 := bb BK486 hb; clear hb hbox hg; have hnb32 := NB486_487.out; have hnc32 := NB487_486.out; obtain ⟨hcz33_0, hcz33_1, hcz33_2, hcz33_3, hfz33_0, hfz33_1, hfz33_2, hfz33_3⟩ := cc4 BK486; obtain ⟨hcz34_0, hcz34_1, hcz34_2, hcz34_3, hfz34_0, hfz34_1, hfz34_2, hfz34_3⟩ := cc4 BK487))
  go_ret
  exact ⟨se, sbw⟩

/-! ### laws_FnExactIsProgram: function 8 -/
def laws_FnExactIsProgram.f (k : Nat) (a0_0 : Int) (a0_1 : Int) (a0_2 : Int) (l0_3 : List (S168)) : Option (Bool) := (laws_szProgram.f k a0_0 a0_1 a0_2 l0_3 1048576).bind fun t490 => (if t490 < 0 then (some true) else ((laws_toProgram.f k a0_0 a0_1 a0_2 l0_3).bind fun bt491 => ((spec_IsProgram.f k bt491.1 bt491.2.1 bt491.2.2.1 bt491.2.2.2).bind fun t497 => ((laws_toProgram.f k a0_0 a0_1 a0_2 l0_3).bind fun bt498 => ((impl_IsProgram.f k bt498.1 bt498.2.1 bt498.2.2.1 bt498.2.2.2).bind fun t505 => (if (t505 != t497) = true then (some false) else ((laws_toProgram.f k a0_0 a0_1 a0_2 l0_3).bind fun bt506 => ((laws_eqProgram.f k bt498.1 bt498.2.1 bt498.2.2.1 bt498.2.2.2 bt506.1 bt506.2.1 bt506.2.2.1 bt506.2.2.2).bind fun t512 => (if t512 = true then (some true) else (some false))))))))))
theorem laws_FnExactIsProgram.mono : ∀ a0 a1 a2 a3 k, LeO (laws_FnExactIsProgram.f k a0 a1 a2 a3) (laws_FnExactIsProgram.f (k + 1) a0 a1 a2 a3) := by
  intro a0 a1 a2 a3 k
  unfold laws_FnExactIsProgram.f
  have m0 := @impl_IsProgram.mono
  have m1 := @laws_eqProgram.mono
  have m2 := @laws_szProgram.mono
  have m3 := @laws_toProgram.mono
  have m4 := @spec_IsProgram.mono
  exact mo
set_option maxHeartbeats 8000000 in
set_option maxRecDepth 100000 in
theorem laws_FnExactIsProgram.calls (k : Nat) (a0_0 : Int) (a0_1 : Int) (a0_2 : Int) (A0_3 : Option Addr) (c0_3 : Nat) (l0_3 : List (S168)) (r : Bool) (w : World) (hr0_3 : Kd.C k168 w A0_3 l0_3.length l0_3) (hc0_3 : l0_3.length ≤ c0_3) (h : laws_FnExactIsProgram.f k a0_0 a0_1 a0_2 l0_3 = some r) :
    Calls Try.prog 8 #[.agg #[.int .i64 a0_0, .int .i64 a0_1, .int .i64 a0_2, .slice A0_3 l0_3.length c0_3]] w fun e w' => e = .returned (.bool r) ∧ Below w.heap.size w w' := by
 have hu69 := Try.underlying69
 have hu31 := Try.underlying31
 have HR0_3 := Aside0.mk hr0_3
 have HC0_3 := Aside0.mk hc0_3
 clear hr0_3 hc0_3
 have HB := Aside0.mk (Below.refl w.heap.size w)
 have H : ((laws_szProgram.f k a0_0 a0_1 a0_2 l0_3 1048576).bind fun t490 => (if t490 < 0 then (some true) else ((laws_toProgram.f k a0_0 a0_1 a0_2 l0_3).bind fun bt491 => ((spec_IsProgram.f k bt491.1 bt491.2.1 bt491.2.2.1 bt491.2.2.2).bind fun t497 => ((laws_toProgram.f k a0_0 a0_1 a0_2 l0_3).bind fun bt498 => ((impl_IsProgram.f k bt498.1 bt498.2.1 bt498.2.2.1 bt498.2.2.2).bind fun t505 => (if (t505 != t497) = true then (some false) else ((laws_toProgram.f k a0_0 a0_1 a0_2 l0_3).bind fun bt506 => ((laws_eqProgram.f k bt498.1 bt498.2.1 bt498.2.2.1 bt498.2.2.2 bt506.1 bt506.2.1 bt506.2.2.1 bt506.2.2.2).bind fun t512 => (if t512 = true then (some true) else (some false))))))))))) = some r := h
 clear h
 obtain ⟨t490, A2, H⟩ := bnd H
 obtain ⟨c3, H⟩ | ⟨c3, H⟩ := ie_ H
 ·have c3b0 := decide_eq_true c3
  clear c3
  obtain rfl := Option.some.inj H
  go_enter Try.func8, Try.ntmps8
  go_wp2_with (first | ((with_reducible refine gate_dst (N := 1) rfl ?_); refine bx 1 #[.int .i64 a0_0, .int .i64 a0_1, .int .i64 a0_2, .slice A0_3 l0_3.length c0_3] 69 ?_; intro gb489 hg w4 hbox hb; have GW489 := bz w hg; have GE489 := bz w hg; replace HB := bs hb; have BK489 := Aside0.mk hbox; clear hb hbox hg; obtain ⟨hcz5_0, hcz5_1, hcz5_2, hcz5_3, hfz5_0, hfz5_1, hfz5_2, hfz5_3⟩ := cc4 BK489) | ((with_reducible refine gate_callee (f := 51) rfl ?_); refine gL (some 9) Try.func51 #[.agg #[.int .i64 a0_0, .int .i64 a0_1, .int .i64 a0_2, .slice A0_3 l0_3.length c0_3], .int .i64 1048576] ?_; (with_reducible refine (laws_szProgram.calls k a0_0 a0_1 a0_2 _ _ l0_3 1048576 t490 _ ?side1 ?side2 A2.out).mono ?_); (case side1 => exact cb HR0_3); (case side2 => exact HC0_3.out); rintro e w6 ⟨rfl, hb⟩; refine ⟨_, rfl, ?_⟩; replace BK489 := bb BK489 hb; replace HB := bsw hb; (try clear hb); (try clear hb2); (try clear hk); (try clear hi)))
  go_ret
  exact ⟨se, sbw⟩
 ·have c3b0 := decide_eq_false c3
  clear c3
  obtain ⟨⟨t491, t492, t493, t494⟩, A7, H⟩ := bnd H
  replace H : ((spec_IsProgram.f k t491 t492 t493 t494).bind fun t497 => ((laws_toProgram.f k a0_0 a0_1 a0_2 l0_3).bind fun bt498 => ((impl_IsProgram.f k bt498.1 bt498.2.1 bt498.2.2.1 bt498.2.2.2).bind fun t505 => (if (t505 != t497) = true then (some false) else ((laws_toProgram.f k a0_0 a0_1 a0_2 l0_3).bind fun bt506 => ((laws_eqProgram.f k bt498.1 bt498.2.1 bt498.2.2.1 bt498.2.2.2 bt506.1 bt506.2.1 bt506.2.2.1 bt506.2.2.2).bind fun t512 => (if t512 = true then (some true) else (some false)))))))) = some r := H
  obtain ⟨t497, A8, H⟩ := bnd H
  obtain ⟨⟨t498, t499, t500, t501⟩, A9, H⟩ := bnd H
  replace H : ((impl_IsProgram.f k t498 t499 t500 t501).bind fun t505 => (if (t505 != t497) = true then (some false) else ((laws_toProgram.f k a0_0 a0_1 a0_2 l0_3).bind fun bt506 => ((laws_eqProgram.f k t498 t499 t500 t501 bt506.1 bt506.2.1 bt506.2.2.1 bt506.2.2.2).bind fun t512 => (if t512 = true then (some true) else (some false)))))) = some r := H
  obtain ⟨t505, A10, H⟩ := bnd H
  obtain ⟨c11, H⟩ | ⟨c11, H⟩ := ie_ H
  ·have c11b0 : (t505 != t497) = true := c11
   (try (have c11b1 : decide (t505 = t497) = false := by simpa using c11))
   (try (have c11b2 : (t505 == t497) = false := by simpa using c11))
   (try (have c11b3 : ¬ (t505 = t497) := by simpa using c11))
   clear c11
   obtain rfl := Option.some.inj H
   go_enter Try.func8, Try.ntmps8
   go_wp2_with (first | ((with_reducible refine gate_dst (N := 1) rfl ?_); refine bx 1 #[.int .i64 a0_0, .int .i64 a0_1, .int .i64 a0_2, .slice A0_3 l0_3.length c0_3] 69 ?_; intro gb489 hg w12 hbox hb; have GW489 := bz w hg; have GE489 := bz w hg; replace HB := bs hb; have BK489 := Aside0.mk hbox; clear hb hbox hg; obtain ⟨hcz13_0, hcz13_1, hcz13_2, hcz13_3, hfz13_0, hfz13_1, hfz13_2, hfz13_3⟩ := cc4 BK489) | ((with_reducible refine gate_callee (f := 51) rfl ?_); refine gL (some 9) Try.func51 #[.agg #[.int .i64 a0_0, .int .i64 a0_1, .int .i64 a0_2, .slice A0_3 l0_3.length c0_3], .int .i64 1048576] ?_; (with_reducible refine (laws_szProgram.calls k a0_0 a0_1 a0_2 _ _ l0_3 1048576 t490 _ ?side1 ?side2 A2.out).mono ?_); (case side1 => exact cb HR0_3); (case side2 => exact HC0_3.out); rintro e w14 ⟨rfl, hb⟩; refine ⟨_, rfl, ?_⟩; replace BK489 := bb BK489 hb; replace HB := bsw hb; (try clear hb); (try clear hb2); (try clear hk); (try clear hi); obtain ⟨hcz15_0, hcz15_1, hcz15_2, hcz15_3, hfz15_0, hfz15_1, hfz15_2, hfz15_3⟩ := cc4 BK489) | ((with_reducible refine gate_callee (f := 52) rfl ?_); refine gL (some 13) Try.func52 #[.agg #[.int .i64 a0_0, .int .i64 a0_1, .int .i64 a0_2, .slice A0_3 l0_3.length c0_3]] ?_; (with_reducible refine (laws_toProgram.calls k a0_0 a0_1 a0_2 _ _ l0_3 t491 t492 t493 t494 _ ?side1 ?side2 A7.out).mono ?_); (case side1 => exact cb HR0_3); (case side2 => exact HC0_3.out); rintro e w16 ⟨v495, rfl, ho0, hb⟩; refine ⟨_, rfl, ?_⟩; have HO496 := Aside0.mk (Kd.R_lower ho0 (below_size (sbw))); replace BK489 := bb BK489 hb; replace HB := bsw hb; (try clear hb); (try clear hb2); (try clear hk); (try clear hi); (try clear ho0); obtain ⟨Ao17, co17, eo17⟩ := Kd.R_slice HO496.out; subst eo17) | ((with_reducible refine gate_callee (f := 40) rfl ?_); refine gL (some 14) Try.func40 #[.agg #[.int .i64 t491, .int .i64 t492, .int .i64 t493, .slice Ao17 t494.length co17]] ?_; (with_reducible refine (spec_IsProgram.calls k t491 t492 t493 _ _ t494 t497 _ ?side1 ?side2 A8.out).mono ?_); (case side1 => exact cr HO496); (case side2 => exact (Kd.R_reads' HO496.out).2.1); rintro e w18 ⟨rfl, hb⟩; refine ⟨_, rfl, ?_⟩; replace HO496 := rb HO496 hb; replace BK489 := bb BK489 hb; replace HB := bsw hb; (try clear hb); (try clear hb2); (try clear hk); (try clear hi); obtain ⟨hcz19_0, hcz19_1, hcz19_2, hcz19_3, hfz19_0, hfz19_1, hfz19_2, hfz19_3⟩ := cc4 BK489) | ((with_reducible refine gate_callee (f := 52) rfl ?_); refine gL (some 16) Try.func52 #[.agg #[.int .i64 a0_0, .int .i64 a0_1, .int .i64 a0_2, .slice A0_3 l0_3.length c0_3]] ?_; (with_reducible refine (laws_toProgram.calls k a0_0 a0_1 a0_2 _ _ l0_3 t498 t499 t500 t501 _ ?side1 ?side2 A9.out).mono ?_); (case side1 => exact cb HR0_3); (case side2 => exact HC0_3.out); rintro e w20 ⟨v502, rfl, ho0, hb⟩; refine ⟨_, rfl, ?_⟩; have HO503 := Aside0.mk (Kd.R_lower (Kd.R_new' ho0 (Kd.R_lt (sr HO496))) (below_size (sbw))); replace HO496 := Aside0.mk (Kd.R_elder' (sr HO496) (Kd.R_base ho0) hb); replace BK489 := bb BK489 hb; replace HB := bsw hb; (try clear hb); (try clear hb2); (try clear hk); (try clear hi); (try clear ho0)) | ((with_reducible refine gate_dst (N := 5) rfl ?_); refine bx 5 #[.int .i64 0, .int .i64 0, .int .i64 0, .slice none 0 0] 31 ?_; intro gb504 hg w21 hbox hb; replace HO496 := rb HO496 hb; replace HO503 := rb HO503 hb; have GW504 := bzw w hg; have GE504 := bzw w hg; replace HB := bsw hb; have BK504 := Aside0.mk hbox; have NB489_504 := nl BK489 hg; have NB504_489 := ng BK489 hg; replace BK489 := bb BK489 hb; clear hb hbox hg; have hnb22 := NB504_489.out; have hnc22 := NB489_504.out; obtain ⟨hcz23_0, hcz23_1, hcz23_2, hcz23_3, hfz23_0, hfz23_1, hfz23_2, hfz23_3⟩ := cc4 BK504; obtain ⟨Ao24, co24, eo24⟩ := Kd.R_slice HO503.out; subst eo24) | ((with_reducible refine gate_callee (f := 36) rfl ?_); refine gL (some 18) Try.func36 #[.agg #[.int .i64 t498, .int .i64 t499, .int .i64 t500, .slice Ao24 t501.length co24]] ?_; (with_reducible refine (impl_IsProgram.calls k t498 t499 t500 _ _ t501 t505 _ ?side1 ?side2 A10.out).mono ?_); (case side1 => refine (Kd.R_reads' (e := 105) (base := w.heap.size) (ok := fun k_ => (True ∧ some k_ ≠ (.slice Ao17 t494.length co17 : Value).ownBlock)) (n := t501.length) (c := co24) ?_).2.2; exact (by (with_reducible repeat (first | apply Kd.R_alloc | apply Kd.R_drewN | apply Kd.R_drew)); exact (Kd.R_mono (Kd.R_far (p := ⟨gb504, 3, none⟩) (h3 HO503 BK504) (fun _ hk => hk.2) (.slice Ao24 t501.length co24)) (fun _ h_ => h_.1)))); (case side2 => exact (Kd.R_reads' HO503.out).2.1); rintro e w25 ⟨rfl, hb⟩; refine ⟨_, rfl, ?_⟩; replace HO496 := Aside0.mk (Kd.R_below (by (with_reducible repeat (first | apply Kd.R_alloc | apply Kd.R_drewN | apply Kd.R_drew)); exact (Kd.R_mono (Kd.R_far (p := ⟨gb504, 3, none⟩) (h3 HO496 BK504) (fun _ hk => hk.2) (.slice Ao24 t501.length co24)) (fun _ h_ => h_.1))) hb); replace HO503 := Aside0.mk (Kd.R_below (by (with_reducible repeat (first | apply Kd.R_alloc | apply Kd.R_drewN | apply Kd.R_drew)); exact (Kd.R_mono (Kd.R_far (p := ⟨gb504, 3, none⟩) (h3 HO503 BK504) (fun _ hk => hk.2) (.slice Ao24 t501.length co24)) (fun _ h_ => h_.1))) hb); replace BK489 := Aside0.mk (blk_below (g := gb489) (o := .cells #[.int .i64 a0_0, .int .i64 a0_1, .int .i64 a0_2, .slice A0_3 l0_3.length c0_3] 69 (0, 0)) (sp BK489) hb); replace BK504 := Aside0.mk (blk_below (g := gb504) (o := .cells #[.int .i64 t498, .int .i64 t499, .int .i64 t500, .slice Ao24 t501.length co24] 31 (0, 0)) (sp BK504) hb); replace HB := bsw hb; (try clear hb); (try clear hb2); (try clear hk); (try clear hi)))
   go_ret
   exact ⟨se, sbw⟩
  ·have c11b0 : (t505 != t497) = false := by simpa using c11
   (try (have c11b1 : decide (t505 = t497) = true := by simpa using c11))
   (try (have c11b2 : (t505 == t497) = true := by simpa using c11))
   clear c11
   obtain ⟨⟨t506, t507, t508, t509⟩, A26, H⟩ := bnd H
   replace H : ((laws_eqProgram.f k t498 t499 t500 t501 t506 t507 t508 t509).bind fun t512 => (if t512 = true then (some true) else (some false))) = some r := H
   obtain ⟨t512, A27, H⟩ := bnd H
   obtain rfl | rfl := tt t512
   ·replace H := ip H
    obtain rfl := Option.some.inj H
    go_enter Try.func8, Try.ntmps8
    try go_wp2_with (first | ((with_reducible refine gate_dst (N := 1) rfl ?_); refine bx 1 #[.int .i64 a0_0, .int .i64 a0_1, .int .i64 a0_2, .slice A0_3 l0_3.length c0_3] 69 ?_; intro gb489 hg w29 hbox hb; have GW489 := bz w hg; have GE489 := bz w hg; replace HB := bs hb; have BK489 := Aside0.mk hbox; clear hb hbox hg; obtain ⟨hcz30_0, hcz30_1, hcz30_2, hcz30_3, hfz30_0, hfz30_1, hfz30_2, hfz30_3⟩ := cc4 BK489) | ((with_reducible refine gate_callee (f := 51) rfl ?_); refine gL (some 9) Try.func51 #[.agg #[.int .i64 a0_0, .int .i64 a0_1, .int .i64 a0_2, .slice A0_3 l0_3.length c0_3], .int .i64 1048576] ?_; (with_reducible refine (laws_szProgram.calls k a0_0 a0_1 a0_2 _ _ l0_3 1048576 t490 _ ?side1 ?side2 A2.out).mono ?_); (case side1 => exact cb HR0_3); (case side2 => exact HC0_3.out); rintro e w31 ⟨rfl, hb⟩; refine ⟨_, rfl, ?_⟩; replace BK489 := bb BK489 hb; replace HB := bsw hb; (try clear hb); (try clear hb2); (try clear hk); (try clear hi); obtain ⟨hcz32_0, hcz32_1, hcz32_2, hcz32_3, hfz32_0, hfz32_1, hfz32_2, hfz32_3⟩ := cc4 BK489) | ((with_reducible refine gate_callee (f := 52) rfl ?_); refine gL (some 13) Try.func52 #[.agg #[.int .i64 a0_0, .int .i64 a0_1, .int .i64 a0_2, .slice A0_3 l0_3.length c0_3]] ?_; (with_reducible refine (laws_toProgram.calls k a0_0 a0_1 a0_2 _ _ l0_3 t491 t492 t493 t494 _ ?side1 ?side2 A7.out).mono ?_); (case side1 => exact cb HR0_3); (case side2 => exact HC0_3.out); rintro e w33 ⟨v495, rfl, ho0, hb⟩; refine ⟨_, rfl, ?_⟩; have HO496 := Aside0.mk (Kd.R_lower ho0 (below_size (sbw))); replace BK489 := bb BK489 hb; replace HB := bsw hb; (try clear hb); (try clear hb2); (try clear hk); (try clear hi); (try clear ho0); obtain ⟨Ao34, co34, eo34⟩ := Kd.R_slice HO496.out; subst eo34) | ((with_reducible refine gate_callee (f := 40) rfl ?_); refine gL (some 14) Try.func40 #[.agg #[.int .i64 t491, .int .i64 t492, .int .i64 t493, .slice Ao34 t494.length co34]] ?_; (with_reducible refine (spec_IsProgram.calls k t491 t492 t493 _ _ t494 t497 _ ?side1 ?side2 A8.out).mono ?_); (case side1 => exact cr HO496); (case side2 => exact (Kd.R_reads' HO496.out).2.1); rintro e w35 ⟨rfl, hb⟩; refine ⟨_, rfl, ?_⟩; replace HO496 := rb HO496 hb; replace BK489 := bb BK489 hb; replace HB := bsw hb; (try clear hb); (try clear hb2); (try clear hk); (try clear hi); obtain ⟨hcz36_0, hcz36_1, hcz36_2, hcz36_3, hfz36_0, hfz36_1, hfz36_2, hfz36_3⟩ := cc4 BK489) | ((with_reducible refine gate_callee (f := 52) rfl ?_); refine gL (some 16) Try.func52 #[.agg #[.int .i64 a0_0, .int .i64 a0_1, .int .i64 a0_2, .slice A0_3 l0_3.length c0_3]] ?_; (with_reducible refine (laws_toProgram.calls k a0_0 a0_1 a0_2 _ _ l0_3 t498 t499 t500 t501 _ ?side1 ?side2 A9.out).mono ?_); (case side1 => exact cb HR0_3); (case side2 => exact HC0_3.out); rintro e w37 ⟨v502, rfl, ho0, hb⟩; refine ⟨_, rfl, ?_⟩; have HO503 := Aside0.mk (Kd.R_lower (Kd.R_new' ho0 (Kd.R_lt (sr HO496))) (below_size (sbw))); replace HO496 := Aside0.mk (Kd.R_elder' (sr HO496) (Kd.R_base ho0) hb); replace BK489 := bb BK489 hb; replace HB := bsw hb; (try clear hb); (try clear hb2); (try clear hk); (try clear hi); (try clear ho0)) | ((with_reducible refine gate_dst (N := 5) rfl ?_); refine bx 5 #[.int .i64 0, .int .i64 0, .int .i64 0, .slice none 0 0] 31 ?_; intro gb504 hg w38 hbox hb; replace HO496 := rb HO496 hb; replace HO503 := rb HO503 hb; have GW504 := bzw w hg; have GE504 := bzw w hg; replace HB := bsw hb; have BK504 := Aside0.mk hbox; have NB489_504 := nl BK489 hg; have NB504_489 := ng BK489 hg; replace BK489 := bb BK489 hb; clear hb hbox hg; have hnb39 := NB504_489.out; have hnc39 := NB489_504.out; obtain ⟨hcz40_0, hcz40_1, hcz40_2, hcz40_3, hfz40_0, hfz40_1, hfz40_2, hfz40_3⟩ := cc4 BK504; obtain ⟨Ao41, co41, eo41⟩ := Kd.R_slice HO503.out; subst eo41) | ((with_reducible refine gate_callee (f := 36) rfl ?_); refine gL (some 18) Try.func36 #[.agg #[.int .i64 t498, .int .i64 t499, .int .i64 t500, .slice Ao41 t501.length co41]] ?_; (with_reducible refine (impl_IsProgram.calls k t498 t499 t500 _ _ t501 t505 _ ?side1 ?side2 A10.out).mono ?_); (case side1 => refine (Kd.R_reads' (e := 105) (base := w.heap.size) (ok := fun k_ => (True ∧ some k_ ≠ (.slice Ao34 t494.length co34 : Value).ownBlock)) (n := t501.length) (c := co41) ?_).2.2; exact (by (with_reducible repeat (first | apply Kd.R_alloc | apply Kd.R_drewN | apply Kd.R_drew)); exact (Kd.R_mono (Kd.R_far (p := ⟨gb504, 3, none⟩) (h3 HO503 BK504) (fun _ hk => hk.2) (.slice Ao41 t501.length co41)) (fun _ h_ => h_.1)))); (case side2 => exact (Kd.R_reads' HO503.out).2.1); rintro e w42 ⟨rfl, hb⟩; refine ⟨_, rfl, ?_⟩; replace HO496 := Aside0.mk (Kd.R_below (by (with_reducible repeat (first | apply Kd.R_alloc | apply Kd.R_drewN | apply Kd.R_drew)); exact (Kd.R_mono (Kd.R_far (p := ⟨gb504, 3, none⟩) (h3 HO496 BK504) (fun _ hk => hk.2) (.slice Ao41 t501.length co41)) (fun _ h_ => h_.1))) hb); replace HO503 := Aside0.mk (Kd.R_below (by (with_reducible repeat (first | apply Kd.R_alloc | apply Kd.R_drewN | apply Kd.R_drew)); exact (Kd.R_mono (Kd.R_far (p := ⟨gb504, 3, none⟩) (h3 HO503 BK504) (fun _ hk => hk.2) (.slice Ao41 t501.length co41)) (fun _ h_ => h_.1))) hb); replace BK489 := Aside0.mk (blk_below (g := gb489) (o := .cells #[.int .i64 a0_0, .int .i64 a0_1, .int .i64 a0_2, .slice A0_3 l0_3.length c0_3] 69 (0, 0)) (sp BK489) hb); replace BK504 := Aside0.mk (blk_below (g := gb504) (o := .cells #[.int .i64 t498, .int .i64 t499, .int .i64 t500, .slice Ao41 t501.length co41] 31 (0, 0)) (sp BK504) hb); replace HB := bsw hb; (try clear hb); (try clear hb2); (try clear hk); (try clear hi)))
    replace HO496 := Aside0.mk (Kd.R_drew HO496.out)
    replace HO503 := Aside0.mk (Kd.R_drew HO503.out)
    replace BK489 := Aside0.mk (blk_drew BK489.out)
    replace BK504 := Aside0.mk (blk_drew BK504.out)
    replace HB := Aside0.mk (below_drew1 HB.out)
    refine start_ (n := 5) (S := fun w' => w'.cell? ⟨gb504, 0, none⟩ = some (.int .i64 t498) ∧ w'.cell? ⟨gb504, 1, none⟩ = some (.int .i64 t499) ∧ w'.cell? ⟨gb504, 2, none⟩ = some (.int .i64 t500) ∧ w'.cell? ⟨gb504, 3, none⟩ = some (.slice Ao41 t501.length co41) ∧ w'.cell? ⟨gb489, 0, none⟩ = some (.int .i64 a0_0) ∧ w'.cell? ⟨gb489, 1, none⟩ = some (.int .i64 a0_1) ∧ w'.cell? ⟨gb489, 2, none⟩ = some (.int .i64 a0_2) ∧ w'.cell? ⟨gb489, 3, none⟩ = some (.slice A0_3 l0_3.length c0_3)) (ds := []) #[false, false, false, false, false] (by kernel_rfl) rfl rfl ⟨bc0 BK504, bc1 BK504, bc2 BK504, bc3 BK504, bc0 BK489, bc1 BK489, bc2 BK489, bc3 BK489⟩ (fun hHeld => ?_)
    generalize w42.drew = w43 at HO496 HO503 BK489 BK504 HB hHeld ⊢
    refine ta8 0 22 #[true, false, false, false, false] hHeld ?_
    refine ta8 1 23 #[true, true, false, false, false] hHeld ?_
    refine one_ (i := 2) (N := some 24) #[true, true, true, false, false] rfl rfl (by kernel_rfl) (by decide) (fun K hK => ?_)
    refine goes_ Try.func52 (by kernel_rfl) rfl #[.agg #[.int .i64 a0_0, .int .i64 a0_1, .int .i64 a0_2, .slice A0_3 l0_3.length c0_3]] (by rfl) rfl rfl sl ?_
    with_reducible refine (laws_toProgram.calls k a0_0 a0_1 a0_2 _ _ l0_3 t506 t507 t508 t509 _ ?side1 ?side2 A26.out).mono ?_
    (case side1 => exact cb HR0_3)
    (case side2 => exact HC0_3.out)
    rintro e w44 ⟨v510, rfl, ho0, hb⟩
    refine ⟨_, rfl, ?_⟩
    have HO511 := Aside0.mk (Kd.R_lower (Kd.R_new' (Kd.R_new' ho0 (Kd.R_lt (sr HO496))) (Kd.R_lt (sr HO503))) (below_size (sbw)))
    replace HO496 := Aside0.mk (Kd.R_elder' (sr HO496) (Kd.R_base ho0) hb)
    replace HO503 := Aside0.mk (Kd.R_elder' (sr HO503) (Kd.R_base ho0) hb)
    replace BK489 := bb BK489 hb
    replace BK504 := bb BK504 hb
    replace HB := bsw hb
    (try clear hb)
    (try clear hb2)
    (try clear hk)
    (try clear hi)
    (try clear ho0)
    obtain ⟨Ao45, co45, eo45⟩ := Kd.R_slice HO511.out
    (first | subst eo45 | (injection eo45 with f1_ f2_ f3_; have f4_ := f1_.symm; have f5_ := f3_.symm; clear f1_ f2_ f3_; subst f4_; subst f5_))
    refine hK.out _ _ ⟨bc0 BK504, bc1 BK504, bc2 BK504, bc3 BK504, bc0 BK489, bc1 BK489, bc2 BK489, bc3 BK489⟩ (fun hHeld => ?_)
    clear hK K
    refine norm_ (a' := ?_) ?_ ?_
    rotate_left
    ·show Act.put _ (some 24) _ = _
     simp only [Act.put, List.setIfInBounds_toArray, List.set_cons_zero, List.set_cons_succ, i64_w, i32_w]
     rfl
    refine one_ (i := 3) (N := some 25) #[true, true, true, true, false] rfl rfl (by kernel_rfl) (by decide) (fun K hK => ?_)
    refine goes_ Try.func53 (by kernel_rfl) rfl #[.agg #[.int .i64 t498, .int .i64 t499, .int .i64 t500, .slice Ao41 t501.length co41], .agg #[.int .i64 t506, .int .i64 t507, .int .i64 t508, .slice Ao45 t509.length co45]] (by rfl) rfl rfl sl ?_
    with_reducible refine (laws_eqProgram.calls k t498 t499 t500 _ _ t501 t506 t507 t508 _ _ t509 true _ ?side1 ?side2 ?side3 ?side4 A27.out).mono ?_
    (case side1 => exact cr HO503)
    (case side2 => exact (Kd.R_reads' HO503.out).2.1)
    (case side3 => exact cr HO511)
    (case side4 => exact (Kd.R_reads' HO511.out).2.1)
    rintro e w46 ⟨rfl, hb⟩
    refine ⟨_, rfl, ?_⟩
    replace HO496 := rb HO496 hb
    replace HO503 := rb HO503 hb
    replace HO511 := rb HO511 hb
    replace BK489 := bb BK489 hb
    replace BK504 := bb BK504 hb
    replace HB := bsw hb
    (try clear hb)
    (try clear hb2)
    (try clear hk)
    (try clear hi)
    refine hK.out _ _ ⟨bc0 BK504, bc1 BK504, bc2 BK504, bc3 BK504, bc0 BK489, bc1 BK489, bc2 BK489, bc3 BK489⟩ (fun hHeld => ?_)
    clear hK K
    refine norm_ (a' := ?_) ?_ ?_
    rotate_left
    ·show Act.put _ (some 25) _ = _
     simp only [Act.put, List.setIfInBounds_toArray, List.set_cons_zero, List.set_cons_succ, i64_w, i32_w]
     rfl
    refine pu 4 26 #[true, true, true, true, true] ?_
    refine done_ (by kernel_rfl) ?_
    try go_wp2
    go_ret
    exact ⟨se, sbw⟩
   ·replace H := im H
    obtain rfl := Option.some.inj H
    go_enter Try.func8, Try.ntmps8
    try go_wp2_with (first | ((with_reducible refine gate_dst (N := 1) rfl ?_); refine bx 1 #[.int .i64 a0_0, .int .i64 a0_1, .int .i64 a0_2, .slice A0_3 l0_3.length c0_3] 69 ?_; intro gb489 hg w47 hbox hb; have GW489 := bz w hg; have GE489 := bz w hg; replace HB := bs hb; have BK489 := Aside0.mk hbox; clear hb hbox hg; obtain ⟨hcz48_0, hcz48_1, hcz48_2, hcz48_3, hfz48_0, hfz48_1, hfz48_2, hfz48_3⟩ := cc4 BK489) | ((with_reducible refine gate_callee (f := 51) rfl ?_); refine gL (some 9) Try.func51 #[.agg #[.int .i64 a0_0, .int .i64 a0_1, .int .i64 a0_2, .slice A0_3 l0_3.length c0_3], .int .i64 1048576] ?_; (with_reducible refine (laws_szProgram.calls k a0_0 a0_1 a0_2 _ _ l0_3 1048576 t490 _ ?side1 ?side2 A2.out).mono ?_); (case side1 => exact cb HR0_3); (case side2 => exact HC0_3.out); rintro e w49 ⟨rfl, hb⟩; refine ⟨_, rfl, ?_⟩; replace BK489 := bb BK489 hb; replace HB := bsw hb; (try clear hb); (try clear hb2); (try clear hk); (try clear hi); obtain ⟨hcz50_0, hcz50_1, hcz50_2, hcz50_3, hfz50_0, hfz50_1, hfz50_2, hfz50_3⟩ := cc4 BK489) | ((with_reducible refine gate_callee (f := 52) rfl ?_); refine gL (some 13) Try.func52 #[.agg #[.int .i64 a0_0, .int .i64 a0_1, .int .i64 a0_2, .slice A0_3 l0_3.length c0_3]] ?_; (with_reducible refine (laws_toProgram.calls k a0_0 a0_1 a0_2 _ _ l0_3 t491 t492 t493 t494 _ ?side1 ?side2 A7.out).mono ?_); (case side1 => exact cb HR0_3); (case side2 => exact HC0_3.out); rintro e w51 ⟨v495, rfl, ho0, hb⟩; refine ⟨_, rfl, ?_⟩; have HO496 := Aside0.mk (Kd.R_lower ho0 (below_size (sbw))); replace BK489 := bb BK489 hb; replace HB := bsw hb; (try clear hb); (try clear hb2); (try clear hk); (try clear hi); (try clear ho0); obtain ⟨Ao52, co52, eo52⟩ := Kd.R_slice HO496.out; subst eo52) | ((with_reducible refine gate_callee (f := 40) rfl ?_); refine gL (some 14) Try.func40 #[.agg #[.int .i64 t491, .int .i64 t492, .int .i64 t493, .slice Ao52 t494.length co52]] ?_; (with_reducible refine (spec_IsProgram.calls k t491 t492 t493 _ _ t494 t497 _ ?side1 ?side2 A8.out).mono ?_); (case side1 => exact cr HO496); (case side2 => exact (Kd.R_reads' HO496.out).2.1); rintro e w53 ⟨rfl, hb⟩; refine ⟨_, rfl, ?_⟩; replace HO496 := rb HO496 hb; replace BK489 := bb BK489 hb; replace HB := bsw hb; (try clear hb); (try clear hb2); (try clear hk); (try clear hi); obtain ⟨hcz54_0, hcz54_1, hcz54_2, hcz54_3, hfz54_0, hfz54_1, hfz54_2, hfz54_3⟩ := cc4 BK489) | ((with_reducible refine gate_callee (f := 52) rfl ?_); refine gL (some 16) Try.func52 #[.agg #[.int .i64 a0_0, .int .i64 a0_1, .int .i64 a0_2, .slice A0_3 l0_3.length c0_3]] ?_; (with_reducible refine (laws_toProgram.calls k a0_0 a0_1 a0_2 _ _ l0_3 t498 t499 t500 t501 _ ?side1 ?side2 A9.out).mono ?_); (case side1 => exact cb HR0_3); (case side2 => exact HC0_3.out); rintro e w55 ⟨v502, rfl, ho0, hb⟩; refine ⟨_, rfl, ?_⟩; have HO503 := Aside0.mk (Kd.R_lower (Kd.R_new' ho0 (Kd.R_lt (sr HO496))) (below_size (sbw))); replace HO496 := Aside0.mk (Kd.R_elder' (sr HO496) (Kd.R_base ho0) hb); replace BK489 := bb BK489 hb; replace HB := bsw hb; (try clear hb); (try clear hb2); (try clear hk); (try clear hi); (try clear ho0)) | ((with_reducible refine gate_dst (N := 5) rfl ?_); refine bx 5 #[.int .i64 0, .int .i64 0, .int .i64 0, .slice none 0 0] 31 ?_; intro gb504 hg w56 hbox hb; replace HO496 := rb HO496 hb; replace HO503 := rb HO503 hb; have GW504 := bzw w hg; have GE504 := bzw w hg; replace HB := bsw hb; have BK504 := Aside0.mk hbox; have NB489_504 := nl BK489 hg; have NB504_489 := ng BK489 hg; replace BK489 := bb BK489 hb; clear hb hbox hg; have hnb57 := NB504_489.out; have hnc57 := NB489_504.out; obtain ⟨hcz58_0, hcz58_1, hcz58_2, hcz58_3, hfz58_0, hfz58_1, hfz58_2, hfz58_3⟩ := cc4 BK504; obtain ⟨Ao59, co59, eo59⟩ := Kd.R_slice HO503.out; subst eo59) | ((with_reducible refine gate_callee (f := 36) rfl ?_); refine gL (some 18) Try.func36 #[.agg #[.int .i64 t498, .int .i64 t499, .int .i64 t500, .slice Ao59 t501.length co59]] ?_; (with_reducible refine (impl_IsProgram.calls k t498 t499 t500 _ _ t501 t505 _ ?side1 ?side2 A10.out).mono ?_); (case side1 => refine (Kd.R_reads' (e := 105) (base := w.heap.size) (ok := fun k_ => (True ∧ some k_ ≠ (.slice Ao52 t494.length co52 : Value).ownBlock)) (n := t501.length) (c := co59) ?_).2.2; exact (by (with_reducible repeat (first | apply Kd.R_alloc | apply Kd.R_drewN | apply Kd.R_drew)); exact (Kd.R_mono (Kd.R_far (p := ⟨gb504, 3, none⟩) (h3 HO503 BK504) (fun _ hk => hk.2) (.slice Ao59 t501.length co59)) (fun _ h_ => h_.1)))); (case side2 => exact (Kd.R_reads' HO503.out).2.1); rintro e w60 ⟨rfl, hb⟩; refine ⟨_, rfl, ?_⟩; replace HO496 := Aside0.mk (Kd.R_below (by (with_reducible repeat (first | apply Kd.R_alloc | apply Kd.R_drewN | apply Kd.R_drew)); exact (Kd.R_mono (Kd.R_far (p := ⟨gb504, 3, none⟩) (h3 HO496 BK504) (fun _ hk => hk.2) (.slice Ao59 t501.length co59)) (fun _ h_ => h_.1))) hb); replace HO503 := Aside0.mk (Kd.R_below (by (with_reducible repeat (first | apply Kd.R_alloc | apply Kd.R_drewN | apply Kd.R_drew)); exact (Kd.R_mono (Kd.R_far (p := ⟨gb504, 3, none⟩) (h3 HO503 BK504) (fun _ hk => hk.2) (.slice Ao59 t501.length co59)) (fun _ h_ => h_.1))) hb); replace BK489 := Aside0.mk (blk_below (g := gb489) (o := .cells #[.int .i64 a0_0, .int .i64 a0_1, .int .i64 a0_2, .slice A0_3 l0_3.length c0_3] 69 (0, 0)) (sp BK489) hb); replace BK504 := Aside0.mk (blk_below (g := gb504) (o := .cells #[.int .i64 t498, .int .i64 t499, .int .i64 t500, .slice Ao59 t501.length co59] 31 (0, 0)) (sp BK504) hb); replace HB := bsw hb; (try clear hb); (try clear hb2); (try clear hk); (try clear hi)))
    replace HO496 := Aside0.mk (Kd.R_drew HO496.out)
    replace HO503 := Aside0.mk (Kd.R_drew HO503.out)
    replace BK489 := Aside0.mk (blk_drew BK489.out)
    replace BK504 := Aside0.mk (blk_drew BK504.out)
    replace HB := Aside0.mk (below_drew1 HB.out)
    refine start_ (n := 5) (S := fun w' => w'.cell? ⟨gb504, 0, none⟩ = some (.int .i64 t498) ∧ w'.cell? ⟨gb504, 1, none⟩ = some (.int .i64 t499) ∧ w'.cell? ⟨gb504, 2, none⟩ = some (.int .i64 t500) ∧ w'.cell? ⟨gb504, 3, none⟩ = some (.slice Ao59 t501.length co59) ∧ w'.cell? ⟨gb489, 0, none⟩ = some (.int .i64 a0_0) ∧ w'.cell? ⟨gb489, 1, none⟩ = some (.int .i64 a0_1) ∧ w'.cell? ⟨gb489, 2, none⟩ = some (.int .i64 a0_2) ∧ w'.cell? ⟨gb489, 3, none⟩ = some (.slice A0_3 l0_3.length c0_3)) (ds := []) #[false, false, false, false, false] (by kernel_rfl) rfl rfl ⟨bc0 BK504, bc1 BK504, bc2 BK504, bc3 BK504, bc0 BK489, bc1 BK489, bc2 BK489, bc3 BK489⟩ (fun hHeld => ?_)
    generalize w60.drew = w61 at HO496 HO503 BK489 BK504 HB hHeld ⊢
    refine ta8 0 22 #[true, false, false, false, false] hHeld ?_
    refine ta8 1 23 #[true, true, false, false, false] hHeld ?_
    refine one_ (i := 2) (N := some 24) #[true, true, true, false, false] rfl rfl (by kernel_rfl) (by decide) (fun K hK => ?_)
    refine goes_ Try.func52 (by kernel_rfl) rfl #[.agg #[.int .i64 a0_0, .int .i64 a0_1, .int .i64 a0_2, .slice A0_3 l0_3.length c0_3]] (by rfl) rfl rfl sl ?_
    with_reducible refine (laws_toProgram.calls k a0_0 a0_1 a0_2 _ _ l0_3 t506 t507 t508 t509 _ ?side1 ?side2 A26.out).mono ?_
    (case side1 => exact cb HR0_3)
    (case side2 => exact HC0_3.out)
    rintro e w62 ⟨v510, rfl, ho0, hb⟩
    refine ⟨_, rfl, ?_⟩
    have HO511 := Aside0.mk (Kd.R_lower (Kd.R_new' (Kd.R_new' ho0 (Kd.R_lt (sr HO496))) (Kd.R_lt (sr HO503))) (below_size (sbw)))
    replace HO496 := Aside0.mk (Kd.R_elder' (sr HO496) (Kd.R_base ho0) hb)
    replace HO503 := Aside0.mk (Kd.R_elder' (sr HO503) (Kd.R_base ho0) hb)
    replace BK489 := bb BK489 hb
    replace BK504 := bb BK504 hb
    replace HB := bsw hb
    (try clear hb)
    (try clear hb2)
    (try clear hk)
    (try clear hi)
    (try clear ho0)
    obtain ⟨Ao63, co63, eo63⟩ := Kd.R_slice HO511.out
    (first | subst eo63 | (injection eo63 with f1_ f2_ f3_; have f4_ := f1_.symm; have f5_ := f3_.symm; clear f1_ f2_ f3_; subst f4_; subst f5_))
    refine hK.out _ _ ⟨bc0 BK504, bc1 BK504, bc2 BK504, bc3 BK504, bc0 BK489, bc1 BK489, bc2 BK489, bc3 BK489⟩ (fun hHeld => ?_)
    clear hK K
    refine norm_ (a' := ?_) ?_ ?_
    rotate_left
    ·show Act.put _ (some 24) _ = _
     simp only [Act.put, List.setIfInBounds_toArray, List.set_cons_zero, List.set_cons_succ, i64_w, i32_w]
     rfl
    refine one_ (i := 3) (N := some 25) #[true, true, true, true, false] rfl rfl (by kernel_rfl) (by decide) (fun K hK => ?_)
    refine goes_ Try.func53 (by kernel_rfl) rfl #[.agg #[.int .i64 t498, .int .i64 t499, .int .i64 t500, .slice Ao59 t501.length co59], .agg #[.int .i64 t506, .int .i64 t507, .int .i64 t508, .slice Ao63 t509.length co63]] (by rfl) rfl rfl sl ?_
    with_reducible refine (laws_eqProgram.calls k t498 t499 t500 _ _ t501 t506 t507 t508 _ _ t509 false _ ?side1 ?side2 ?side3 ?side4 A27.out).mono ?_
    (case side1 => exact cr HO503)
    (case side2 => exact (Kd.R_reads' HO503.out).2.1)
    (case side3 => exact cr HO511)
    (case side4 => exact (Kd.R_reads' HO511.out).2.1)
    rintro e w64 ⟨rfl, hb⟩
    refine ⟨_, rfl, ?_⟩
    replace HO496 := rb HO496 hb
    replace HO503 := rb HO503 hb
    replace HO511 := rb HO511 hb
    replace BK489 := bb BK489 hb
    replace BK504 := bb BK504 hb
    replace HB := bsw hb
    (try clear hb)
    (try clear hb2)
    (try clear hk)
    (try clear hi)
    refine hK.out _ _ ⟨bc0 BK504, bc1 BK504, bc2 BK504, bc3 BK504, bc0 BK489, bc1 BK489, bc2 BK489, bc3 BK489⟩ (fun hHeld => ?_)
    clear hK K
    refine norm_ (a' := ?_) ?_ ?_
    rotate_left
    ·show Act.put _ (some 25) _ = _
     simp only [Act.put, List.setIfInBounds_toArray, List.set_cons_zero, List.set_cons_succ, i64_w, i32_w]
     rfl
    refine pu 4 26 #[true, true, true, true, true] ?_
    refine done_ (by kernel_rfl) ?_
    try go_wp2
    go_ret
    exact ⟨se, sbw⟩

end Go.Proofs.Ytiihaabhjphaeaa.QFnExactIsProgram
