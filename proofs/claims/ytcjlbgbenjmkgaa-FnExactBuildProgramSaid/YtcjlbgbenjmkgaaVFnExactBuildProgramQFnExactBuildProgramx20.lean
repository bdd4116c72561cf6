/- What the Go functions of the law FnExactBuildProgram come to, as Lean functions, and that they do: by a program of the session, out of the kit's printer. Conditions: none. (squeezed). -/
import Derived.Test.YtcjlbgbenjmkgaaVFnExactBuildProgramSq
import Derived.Test.YtcjlbgbenjmkgaaVFnExactBuildProgramQFnExactBuildProgramx0
import Derived.Test.YtcjlbgbenjmkgaaVFnExactBuildProgramQFnExactBuildProgramx19
namespace Go.Proofs.Ytcjlbgbenjmkgaa.QFnExactBuildProgram
open Go.RowKit Go.Proofs.YtcjlbgbenjmkgaaW.PrintWords Go.Proofs.YtcjlbgbenjmkgaaW.PrintLast Go.Proofs.YtcjlbgbenjmkgaaW.PrintMore Go.Proofs.Ytcjlbgbenjmkgaa.Open Go.Proofs.Ytcjlbgbenjmkgaa.Sq
attribute [local go_sem] max2_int min2_int max_two min_two max_three min_three max_four min_four   -- for this text's walks alone
attribute [local go_sem] isSome_set
set_option linter.unusedVariables false
set_option linter.unusedSimpArgs false

/-! ### laws_eqPieceS: function 26 -/
def laws_eqPieceS.l0 : Nat → List (S47) → List (S47) → Int → Option (Bool)
  | 0, _, _, _ => none
  | k + 1, x0, x1, x5 => if x5 < (x0.length : Int) then (if 0 ≤ x5 then (if x5 < (x1.length : Int) then ((laws_eqPiece.f k ((rd_T47 x0 x5).f0.f0) ((rd_T47 x0 x5).f0.f1) ((rd_T47 x0 x5).f1) ((rd_T47 x0 x5).f2) ((rd_T47 x1 x5).f0.f0) ((rd_T47 x1 x5).f0.f1) ((rd_T47 x1 x5).f1) ((rd_T47 x1 x5).f2)).bind fun t542 => (if t542 = true then (laws_eqPieceS.l0 k x0 x1 (wrap64 (x5 + 1))) else (some false))) else (none)) else (none)) else (some true)
def laws_eqPieceS.f (k : Nat) (l0 : List (S47)) (l1 : List (S47)) : Option (Bool) := if (l0.length : Int) = (l1.length : Int) then (laws_eqPieceS.l0 k l0 l1 0) else (some false)
theorem laws_eqPieceS.mono_l : ∀ k, (∀ y0 y1 y2, LeO (laws_eqPieceS.l0 k y0 y1 y2) (laws_eqPieceS.l0 (k + 1) y0 y1 y2))
  | 0 => fun _ _ _ r h => by simp [laws_eqPieceS.l0] at h
  | k + 1 => by
    have ih0 := laws_eqPieceS.mono_l k
    · intro y0 y1 y2
      unfold laws_eqPieceS.l0
      have m0 := @laws_eqPiece.mono
      exact mo
theorem laws_eqPieceS.mono : ∀ a0 a1 k, LeO (laws_eqPieceS.f k a0 a1) (laws_eqPieceS.f (k + 1) a0 a1) := by
  intro a0 a1 k
  have ih0 := laws_eqPieceS.mono_l k
  unfold laws_eqPieceS.f
  have m0 := @laws_eqPiece.mono
  exact mo
def laws_eqPieceS.T6 : Bool × List (List Nat × List Nat) := (true, [([], []), ([], []), ([0, 1], [0, 1]), ([2], [2]), ([], []), ([], []), ([4, 5], [4, 5]), ([6], [6]), ([3, 7], [3, 7]), ([8], [8])])
def laws_eqPieceS.B6 : List Nat := [0, 0, 3, 7, 0, 0, 48, 112, 255, 511]
theorem laws_eqPieceS.tab6 : rtab .any (opsOf Try.f26 6) = laws_eqPieceS.T6 := by kernel_rfl
theorem laws_eqPieceS.bits6 : waitsOk laws_eqPieceS.T6.2 laws_eqPieceS.B6 = true := by kernel_rfl
set_option maxHeartbeats 8000000 in
set_option maxRecDepth 100000 in
theorem laws_eqPieceS.calls (k : Nat) (A0 : Option Addr) (c0 : Nat) (l0 : List (S47)) (A1 : Option Addr) (c1 : Nat) (l1 : List (S47)) (r : Bool) (w : World) (hr0 : Kd.C k47 w A0 l0.length l0) (hc0 : l0.length ≤ c0) (hr1 : Kd.C k47 w A1 l1.length l1) (hc1 : l1.length ≤ c1) (h : laws_eqPieceS.f k l0 l1 = some r) :
    Calls Try.prog 26 #[.slice A0 l0.length c0, .slice A1 l1.length c1] w fun e w' => e = .returned (.bool r) ∧ Below w.heap.size w w' := by
 have hu47 := Try.underlying47
 have HR0 := Aside0.mk hr0
 have HC0 := Aside0.mk hc0
 clear hr0 hc0
 have HR1 := Aside0.mk hr1
 have HC1 := Aside0.mk hc1
 clear hr1 hc1
 have HB := Aside0.mk (Below.refl w.heap.size w)
 have H : (if (l0.length : Int) = (l1.length : Int) then (laws_eqPieceS.l0 k l0 l1 0) else (some false)) = some r := h
 clear h
 obtain ⟨c3, H⟩ | ⟨c3, H⟩ := ie_ H
 ·have c3b0 : ((l0.length : Int) == (l1.length : Int)) = true := beq_iff_eq.mpr c3
  have c3b1 : ((l0.length : Int) != (l1.length : Int)) = false := bne_eq_false_iff_eq.mpr c3
  have c3b2 : (l0.length == l1.length) = true := by first | simpa using c3 | (simp at c3 ⊢; omega)
  clear c3
  have H' := Aside0.mk H
  clear H
  go_enter Try.func26, Try.ntmps26
  go_wp2
  go_loopg [5] k (fun kq v5 w' => ∃ (x5_1 : Int), v5 = .int .i64 x5_1 ∧ Aside0 (laws_eqPieceS.l0 kq l0 l1 x5_1 = some r) ∧ Aside0 (kq ≤ k) ∧ Aside0 (Below w.heap.size w w'))
  case atStart => exact ⟨(0), sc, H', kk0, ⟨sb⟩⟩
  case round =>
   clear H'
   try clear c3
   try clear c3b0
   try clear c3b1
   try clear c3b2
   obtain ⟨x5_1, rfl, HA, HK1, HB⟩ := hrel
   cases gk with
   | zero => exact absurd HA.out (by simp [laws_eqPieceS.l0])
   | succ k1 =>
    have H := HA.out
    clear HA
    simp only [laws_eqPieceS.l0] at H
    obtain ⟨c4, H⟩ | ⟨c4, H⟩ := ie_ H
    ·have c4b0 := decide_eq_true c4
     clear c4
     obtain ⟨c5b0, H⟩ := id_ H
     obtain ⟨c6b0, H⟩ := id_ H
     obtain ⟨t542, A7, H⟩ := bnd H
     obtain rfl | rfl := tt t542
     ·replace H := ip H
      have H' := Aside0.mk H
      clear H
      try go_wp2
      replace HB := Aside0.mk (below_drew1 HB.out)
      obtain ⟨p540, q540, ad540, A540_2, c540_2, A540_3, c540_3, e540, hw540_0, hw540_1, hw540_2, hw540_3, hx540_0, hx540_1, hx540_2, hx540_3, HC540_2, HR540_2, HC540_3, HR540_3⟩ := aT_T47 HR0 HB x5_1
      cases e540
      obtain ⟨p541, q541, ad541, A541_2, c541_2, A541_3, c541_3, e541, hw541_0, hw541_1, hw541_2, hw541_3, hx541_0, hx541_1, hx541_2, hx541_3, HC541_2, HR541_2, HC541_3, HR541_3⟩ := aT_T47 HR1 HB x5_1
      cases e541
      refine start_ (n := 10) (S := fun w' => w'.cell? (ad540.add ((x5_1).toNat * 4)) = some (.int .i64 ((rd_T47 l0 x5_1).f0.f0)) ∧ w'.cell? ⟨(ad540.add ((x5_1).toNat * 4)).block, (ad540.add ((x5_1).toNat * 4)).off + 1, none⟩ = some (.int .i64 ((rd_T47 l0 x5_1).f0.f1)) ∧ w'.cell? ⟨(ad540.add ((x5_1).toNat * 4)).block, (ad540.add ((x5_1).toNat * 4)).off + 2, none⟩ = some (.slice A540_2 ((rd_T47 l0 x5_1).f1).length c540_2) ∧ w'.cell? ⟨(ad540.add ((x5_1).toNat * 4)).block, (ad540.add ((x5_1).toNat * 4)).off + 3, none⟩ = some (.slice A540_3 ((rd_T47 l0 x5_1).f2).length c540_3) ∧ w'.cell? (ad541.add ((x5_1).toNat * 4)) = some (.int .i64 ((rd_T47 l1 x5_1).f0.f0)) ∧ w'.cell? ⟨(ad541.add ((x5_1).toNat * 4)).block, (ad541.add ((x5_1).toNat * 4)).off + 1, none⟩ = some (.int .i64 ((rd_T47 l1 x5_1).f0.f1)) ∧ w'.cell? ⟨(ad541.add ((x5_1).toNat * 4)).block, (ad541.add ((x5_1).toNat * 4)).off + 2, none⟩ = some (.slice A541_2 ((rd_T47 l1 x5_1).f1).length c541_2) ∧ w'.cell? ⟨(ad541.add ((x5_1).toNat * 4)).block, (ad541.add ((x5_1).toNat * 4)).off + 3, none⟩ = some (.slice A541_3 ((rd_T47 l1 x5_1).f2).length c541_3)) (ds := []) #[false, false, false, false, false, false, false, false, false, false] (by kernel_rfl) rfl rfl ⟨(hb_ HB hw540_0), (hb_ HB hw540_1), (hb_ HB hw540_2), (hb_ HB hw540_3), (hb_ HB hw541_0), (hb_ HB hw541_1), (hb_ HB hw541_2), (hb_ HB hw541_3)⟩ (fun hHeld => ?_); refine with_tabW laws_eqPieceS.tab6 laws_eqPieceS.bits6 (fun HT_ HW_ => ?_)
      generalize wr.drew = w9 at HB HR540_2 HR540_3 HR541_2 HR541_3 hx540_0 hx540_1 hx540_2 hx540_3 hx541_0 hx541_1 hx541_2 hx541_3 hHeld ⊢
      refine put 0 17 #[true, false, false, false, false, false, false, false, false, false] HT_ ?_
      refine put 1 18 #[true, true, false, false, false, false, false, false, false, false] HT_ ?_
      refine put 2 19 #[true, true, true, false, false, false, false, false, false, false] HT_ ?_
      refine put 4 21 #[true, true, true, false, true, false, false, false, false, false] HT_ ?_
      refine put 5 22 #[true, true, true, false, true, true, false, false, false, false] HT_ ?_
      refine put 6 23 #[true, true, true, false, true, true, true, false, false, false] HT_ ?_
      refine tat8 3 20 #[true, true, true, true, true, true, true, false, false, false] HT_ HW_ hHeld ?_
      refine tat8 7 24 #[true, true, true, true, true, true, true, true, false, false] HT_ HW_ hHeld ?_
      refine one_ (i := 8) (N := some 25) #[true, true, true, true, true, true, true, true, true, false] rfl rfl (one_of HT_.out (by kernel_rfl)) (by decide) (fun K hK => ?_)
      refine goes_ Try.func46 (by kernel_rfl) rfl #[.agg #[.int .i64 ((rd_T47 l0 x5_1).f0.f0), .int .i64 ((rd_T47 l0 x5_1).f0.f1), .slice A540_2 ((rd_T47 l0 x5_1).f1).length c540_2, .slice A540_3 ((rd_T47 l0 x5_1).f2).length c540_3], .agg #[.int .i64 ((rd_T47 l1 x5_1).f0.f0), .int .i64 ((rd_T47 l1 x5_1).f0.f1), .slice A541_2 ((rd_T47 l1 x5_1).f1).length c541_2, .slice A541_3 ((rd_T47 l1 x5_1).f2).length c541_3]] (by rfl) rfl rfl sl ?_
      with_reducible refine (laws_eqPiece.calls k1 ((rd_T47 l0 x5_1).f0.f0) ((rd_T47 l0 x5_1).f0.f1) _ _ ((rd_T47 l0 x5_1).f1) _ _ ((rd_T47 l0 x5_1).f2) ((rd_T47 l1 x5_1).f0.f0) ((rd_T47 l1 x5_1).f0.f1) _ _ ((rd_T47 l1 x5_1).f1) _ _ ((rd_T47 l1 x5_1).f2) true _ ?side1 ?side2 ?side3 ?side4 ?side5 ?side6 ?side7 ?side8 A7.out).mono ?_
      (case side1 => exact cb HR540_2)
      (case side2 => exact HC540_2.out)
      (case side3 => exact cb HR540_3)
      (case side4 => exact HC540_3.out)
      (case side5 => exact cb HR541_2)
      (case side6 => exact HC541_2.out)
      (case side7 => exact cb HR541_3)
      (case side8 => exact HC541_3.out)
      rintro e w10 ⟨rfl, hb⟩
      refine ⟨_, rfl, ?_⟩
      replace HB := bs hb
      (try clear hb)
      (try clear hb2)
      (try clear hk)
      (try clear hi)
      refine hK.out _ _ ⟨(hb_ HB hw540_0), (hb_ HB hw540_1), (hb_ HB hw540_2), (hb_ HB hw540_3), (hb_ HB hw541_0), (hb_ HB hw541_1), (hb_ HB hw541_2), (hb_ HB hw541_3)⟩ (fun hHeld => ?_)
      clear hK K
      refine norm_ (a' := ?_) ?_ ?_
      rotate_left
      ·show Act.put _ (some 25) _ = _
       simp only [Act.put, List.setIfInBounds_toArray, List.set_cons_zero, List.set_cons_succ, i64_w, i32_w]
       rfl
      refine put 9 26 #[true, true, true, true, true, true, true, true, true, true] HT_ ?_
      refine done_ (done_of HT_.out (by kernel_rfl)) ?_
      try go_wp2
      go_roundg k1
      case measure => have := HK1.out; omega
      case rel => exact ⟨(wrap64 (x5_1 + 1)), sc, H', kk1, ⟨sb⟩⟩
     ·replace H := im H
      obtain rfl := Option.some.inj H
      try go_wp2
      replace HB := Aside0.mk (below_drew1 HB.out)
      obtain ⟨p540, q540, ad540, A540_2, c540_2, A540_3, c540_3, e540, hw540_0, hw540_1, hw540_2, hw540_3, hx540_0, hx540_1, hx540_2, hx540_3, HC540_2, HR540_2, HC540_3, HR540_3⟩ := aT_T47 HR0 HB x5_1
      cases e540
      obtain ⟨p541, q541, ad541, A541_2, c541_2, A541_3, c541_3, e541, hw541_0, hw541_1, hw541_2, hw541_3, hx541_0, hx541_1, hx541_2, hx541_3, HC541_2, HR541_2, HC541_3, HR541_3⟩ := aT_T47 HR1 HB x5_1
      cases e541
      refine start_ (n := 10) (S := fun w' => w'.cell? (ad540.add ((x5_1).toNat * 4)) = some (.int .i64 ((rd_T47 l0 x5_1).f0.f0)) ∧ w'.cell? ⟨(ad540.add ((x5_1).toNat * 4)).block, (ad540.add ((x5_1).toNat * 4)).off + 1, none⟩ = some (.int .i64 ((rd_T47 l0 x5_1).f0.f1)) ∧ w'.cell? ⟨(ad540.add ((x5_1).toNat * 4)).block, (ad540.add ((x5_1).toNat * 4)).off + 2, none⟩ = some (.slice A540_2 ((rd_T47 l0 x5_1).f1).length c540_2) ∧ w'.cell? ⟨(ad540.add ((x5_1).toNat * 4)).block, (ad540.add ((x5_1).toNat * 4)).off + 3, none⟩ = some (.slice A540_3 ((rd_T47 l0 x5_1).f2).length c540_3) ∧ w'.cell? (ad541.add ((x5_1).toNat * 4)) = some (.int .i64 ((rd_T47 l1 x5_1).f0.f0)) ∧ w'.cell? ⟨(ad541.add ((x5_1).toNat * 4)).block, (ad541.add ((x5_1).toNat * 4)).off + 1, none⟩ = some (.int .i64 ((rd_T47 l1 x5_1).f0.f1)) ∧ w'.cell? ⟨(ad541.add ((x5_1).toNat * 4)).block, (ad541.add ((x5_1).toNat * 4)).off + 2, none⟩ = some (.slice A541_2 ((rd_T47 l1 x5_1).f1).length c541_2) ∧ w'.cell? ⟨(ad541.add ((x5_1).toNat * 4)).block, (ad541.add ((x5_1).toNat * 4)).off + 3, none⟩ = some (.slice A541_3 ((rd_T47 l1 x5_1).f2).length c541_3)) (ds := []) #[false, false, false, false, false, false, false, false, false, false] (by kernel_rfl) rfl rfl ⟨(hb_ HB hw540_0), (hb_ HB hw540_1), (hb_ HB hw540_2), (hb_ HB hw540_3), (hb_ HB hw541_0), (hb_ HB hw541_1), (hb_ HB hw541_2), (hb_ HB hw541_3)⟩ (fun hHeld => ?_); refine with_tabW laws_eqPieceS.tab6 laws_eqPieceS.bits6 (fun HT_ HW_ => ?_)
      generalize wr.drew = w11 at HB HR540_2 HR540_3 HR541_2 HR541_3 hx540_0 hx540_1 hx540_2 hx540_3 hx541_0 hx541_1 hx541_2 hx541_3 hHeld ⊢
      refine put 0 17 #[true, false, false, false, false, false, false, false, false, false] HT_ ?_
      refine put 1 18 #[true, true, false, false, false, false, false, false, false, false] HT_ ?_
      refine put 2 19 #[true, true, true, false, false, false, false, false, false, false] HT_ ?_
      refine put 4 21 #[true, true, true, false, true, false, false, false, false, false] HT_ ?_
      refine put 5 22 #[true, true, true, false, true, true, false, false, false, false] HT_ ?_
      refine put 6 23 #[true, true, true, false, true, true, true, false, false, false] HT_ ?_
      refine tat8 3 20 #[true, true, true, true, true, true, true, false, false, false] HT_ HW_ hHeld ?_
      refine tat8 7 24 #[true, true, true, true, true, true, true, true, false, false] HT_ HW_ hHeld ?_
      refine one_ (i := 8) (N := some 25) #[true, true, true, true, true, true, true, true, true, false] rfl rfl (one_of HT_.out (by kernel_rfl)) (by decide) (fun K hK => ?_)
      refine goes_ Try.func46 (by kernel_rfl) rfl #[.agg #[.int .i64 ((rd_T47 l0 x5_1).f0.f0), .int .i64 ((rd_T47 l0 x5_1).f0.f1), .slice A540_2 ((rd_T47 l0 x5_1).f1).length c540_2, .slice A540_3 ((rd_T47 l0 x5_1).f2).length c540_3], .agg #[.int .i64 ((rd_T47 l1 x5_1).f0.f0), .int .i64 ((rd_T47 l1 x5_1).f0.f1), .slice A541_2 ((rd_T47 l1 x5_1).f1).length c541_2, .slice A541_3 ((rd_T47 l1 x5_1).f2).length c541_3]] (by rfl) rfl rfl sl ?_
      with_reducible refine (laws_eqPiece.calls k1 ((rd_T47 l0 x5_1).f0.f0) ((rd_T47 l0 x5_1).f0.f1) _ _ ((rd_T47 l0 x5_1).f1) _ _ ((rd_T47 l0 x5_1).f2) ((rd_T47 l1 x5_1).f0.f0) ((rd_T47 l1 x5_1).f0.f1) _ _ ((rd_T47 l1 x5_1).f1) _ _ ((rd_T47 l1 x5_1).f2) false _ ?side1 ?side2 ?side3 ?side4 ?side5 ?side6 ?side7 ?side8 A7.out).mono ?_
      (case side1 => exact cb HR540_2)
      (case side2 => exact HC540_2.out)
      (case side3 => exact cb HR540_3)
      (case side4 => exact HC540_3.out)
      (case side5 => exact cb HR541_2)
      (case side6 => exact HC541_2.out)
      (case side7 => exact cb HR541_3)
      (case side8 => exact HC541_3.out)
      rintro e w12 ⟨rfl, hb⟩
      refine ⟨_, rfl, ?_⟩
      replace HB := bs hb
      (try clear hb)
      (try clear hb2)
      (try clear hk)
      (try clear hi)
      refine hK.out _ _ ⟨(hb_ HB hw540_0), (hb_ HB hw540_1), (hb_ HB hw540_2), (hb_ HB hw540_3), (hb_ HB hw541_0), (hb_ HB hw541_1), (hb_ HB hw541_2), (hb_ HB hw541_3)⟩ (fun hHeld => ?_)
      clear hK K
      refine norm_ (a' := ?_) ?_ ?_
      rotate_left
      ·show Act.put _ (some 25) _ = _
       simp only [Act.put, List.setIfInBounds_toArray, List.set_cons_zero, List.set_cons_succ, i64_w, i32_w]
       rfl
      refine put 9 26 #[true, true, true, true, true, true, true, true, true, true] HT_ ?_
      refine done_ (done_of HT_.out (by kernel_rfl)) ?_
      try go_wp2
      go_ret
      exact ⟨se, sb⟩
    ·have c4b0 := decide_eq_false c4
     clear c4
     obtain rfl := Option.some.inj H
     go_wp2
     go_ret
     exact ⟨se, sb⟩
 ·have c3b0 : ((l0.length : Int) == (l1.length : Int)) = false := beq_eq_false_iff_ne.mpr c3
  have c3b1 : ((l0.length : Int) != (l1.length : Int)) = true := bne_iff_ne.mpr c3
  have c3b2 : (l0.length == l1.length) = false := by first | simpa using c3 | (simp at c3 ⊢; omega)
  obtain rfl := Option.some.inj H
  go_enter Try.func26, Try.ntmps26
  go_wp2
  go_ret
  exact ⟨se, sb⟩

/-! ### laws_eqProgram: function 8 -/
def laws_eqProgram.f (k : Nat) (a0_0 : Int) (a0_1 : Int) (a0_2 : Int) (l0_3 : List (S47)) (a1_0 : Int) (a1_1 : Int) (a1_2 : Int) (l1_3 : List (S47)) : Option (Bool) := if a0_0 = a1_0 then (if a0_1 = a1_1 then (if a0_2 = a1_2 then ((laws_eqPieceS.f k l0_3 l1_3).bind fun t545 => (if t545 = true then (some true) else (some false))) else (some false)) else (some false)) else (some false)
theorem laws_eqProgram.mono : ∀ a0 a1 a2 a3 a4 a5 a6 a7 k, LeO (laws_eqProgram.f k a0 a1 a2 a3 a4 a5 a6 a7) (laws_eqProgram.f (k + 1) a0 a1 a2 a3 a4 a5 a6 a7) := by
  intro a0 a1 a2 a3 a4 a5 a6 a7 k
  unfold laws_eqProgram.f
  have m0 := @laws_eqPieceS.mono
  exact mo
set_option maxHeartbeats 8000000 in
set_option maxRecDepth 100000 in
theorem laws_eqProgram.calls (k : Nat) (a0_0 : Int) (a0_1 : Int) (a0_2 : Int) (A0_3 : Option Addr) (c0_3 : Nat) (l0_3 : List (S47)) (a1_0 : Int) (a1_1 : Int) (a1_2 : Int) (A1_3 : Option Addr) (c1_3 : Nat) (l1_3 : List (S47)) (r : Bool) (w : World) (hr0_3 : Kd.C k47 w A0_3 l0_3.length l0_3) (hc0_3 : l0_3.length ≤ c0_3) (hr1_3 : Kd.C k47 w A1_3 l1_3.length l1_3) (hc1_3 : l1_3.length ≤ c1_3) (h : laws_eqProgram.f k a0_0 a0_1 a0_2 l0_3 a1_0 a1_1 a1_2 l1_3 = some r) :
    Calls Try.prog 8 #[.agg #[.int .i64 a0_0, .int .i64 a0_1, .int .i64 a0_2, .slice A0_3 l0_3.length c0_3], .agg #[.int .i64 a1_0, .int .i64 a1_1, .int .i64 a1_2, .slice A1_3 l1_3.length c1_3]] w fun e w' => e = .returned (.bool r) ∧ Below w.heap.size w w' := by
 have hu26 := Try.underlying26
 have HR0_3 := Aside0.mk hr0_3
 have HC0_3 := Aside0.mk hc0_3
 clear hr0_3 hc0_3
 have HR1_3 := Aside0.mk hr1_3
 have HC1_3 := Aside0.mk hc1_3
 clear hr1_3 hc1_3
 have HB := Aside0.mk (Below.refl w.heap.size w)
 have H : (if a0_0 = a1_0 then (if a0_1 = a1_1 then (if a0_2 = a1_2 then ((laws_eqPieceS.f k l0_3 l1_3).bind fun t545 => (if t545 = true then (some true) else (some false))) else (some false)) else (some false)) else (some false)) = some r := h
 clear h
 obtain ⟨c3, H⟩ | ⟨c3, H⟩ := ie_ H
 ·have c3b0 : (a0_0 == a1_0) = true := beq_iff_eq.mpr c3
  have c3b1 : (a0_0 != a1_0) = false := bne_eq_false_iff_eq.mpr c3
  clear c3
  obtain ⟨c4, H⟩ | ⟨c4, H⟩ := ie_ H
  ·have c4b0 : (a0_1 == a1_1) = true := beq_iff_eq.mpr c4
   have c4b1 : (a0_1 != a1_1) = false := bne_eq_false_iff_eq.mpr c4
   clear c4
   obtain ⟨c5, H⟩ | ⟨c5, H⟩ := ie_ H
   ·have c5b0 : (a0_2 == a1_2) = true := beq_iff_eq.mpr c5
    have c5b1 : (a0_2 != a1_2) = false := bne_eq_false_iff_eq.mpr c5
    clear c5
    obtain ⟨t545, A6, H⟩ := bnd H
    obtain rfl | rfl := tt t545
    ·replace H := ip H
     obtain rfl := Option.some.inj H
     go_enter Try.func8, Try.ntmps8
     go_wp2_with (first | ((with_reducible refine gate_dst (N := 2) rfl ?_); refine bx 2 #[.int .i64 a0_0, .int .i64 a0_1, .int .i64 a0_2, .slice A0_3 l0_3.length c0_3] 26 ?_; intro gb543 hg w8 hbox hb; have GW543 := bz w hg; have GE543 := bz w hg; replace HB := bs hb; have BK543 := Aside0.mk hbox; clear hb hbox hg) | ((with_reducible refine gate_dst (N := 3) rfl ?_); refine bx 3 #[.int .i64 a1_0, .int .i64 a1_1, .int .i64 a1_2, .slice A1_3 l1_3.length c1_3] 26 ?_; intro gb544 hg w9 hbox hb; have GW544 := bzw w hg; have GE544 := bzw w hg; replace HB := bsw hb; have BK544 := Aside0.mk hbox; have NB543_544 := nl BK543 hg; have NB544_543 := ng BK543 hg; replace BK543 := bb BK543 hb; clear hb hbox hg; have hnb10 := NB543_544.out; have hnc10 := NB544_543.out; obtain ⟨hcz11_0, hcz11_1, hcz11_2, hcz11_3, hfz11_0, hfz11_1, hfz11_2, hfz11_3⟩ := cc4 BK543; obtain ⟨hcz12_0, hcz12_1, hcz12_2, hcz12_3, hfz12_0, hfz12_1, hfz12_2, hfz12_3⟩ := cc4 BK544) | ((with_reducible refine gate_callee (f := 26) rfl ?_); refine gL (some 24) Try.func26 #[.slice A0_3 l0_3.length c0_3, .slice A1_3 l1_3.length c1_3] ?_; (with_reducible refine (laws_eqPieceS.calls k _ _ l0_3 _ _ l1_3 true _ ?side1 ?side2 ?side3 ?side4 A6.out).mono ?_); (case side1 => exact cb HR0_3); (case side2 => exact HC0_3.out); (case side3 => exact cb HR1_3); (case side4 => exact HC1_3.out); rintro e w13 ⟨rfl, hb⟩; refine ⟨_, rfl, ?_⟩; replace BK543 := bb BK543 hb; replace BK544 := bb BK544 hb; replace HB := bsw hb; (try clear hb); (try clear hb2); (try clear hk); (try clear hi)))
     go_ret
     exact ⟨se, sbw⟩
    ·replace H := im H
     obtain rfl := Option.some.inj H
     go_enter Try.func8, Try.ntmps8
     go_wp2_with (first | ((with_reducible refine gate_dst (N := 2) rfl ?_); refine bx 2 #[.int .i64 a0_0, .int .i64 a0_1, .int .i64 a0_2, .slice A0_3 l0_3.length c0_3] 26 ?_; intro gb543 hg w14 hbox hb; have GW543 := bz w hg; have GE543 := bz w hg; replace HB := bs hb; have BK543 := Aside0.mk hbox; clear hb hbox hg) | ((with_reducible refine gate_dst (N := 3) rfl ?_); refine bx 3 #[.int .i64 a1_0, .int .i64 a1_1, .int .i64 a1_2, .slice A1_3 l1_3.length c1_3] 26 ?_; intro gb544 hg w15 hbox hb; have GW544 := bzw w hg; have GE544 := bzw w hg; replace HB := bsw hb; have BK544 := Aside0.mk hbox; have NB543_544 := nl BK543 hg; have NB544_543 := ng BK543 hg; replace BK543 := bb BK543 hb; clear hb hbox hg; have hnb16 := NB543_544.out; have hnc16 := NB544_543.out; obtain ⟨hcz17_0, hcz17_1, hcz17_2, hcz17_3, hfz17_0, hfz17_1, hfz17_2, hfz17_3⟩ := cc4 BK543; obtain ⟨hcz18_0, hcz18_1, hcz18_2, hcz18_3, hfz18_0, hfz18_1, hfz18_2, hfz18_3⟩ := cc4 BK544) | ((with_reducible refine gate_callee (f := 26) rfl ?_); refine gL (some 24) Try.func26 #[.slice A0_3 l0_3.length c0_3, .slice A1_3 l1_3.length c1_3] ?_; (with_reducible refine (laws_eqPieceS.calls k _ _ l0_3 _ _ l1_3 false _ ?side1 ?side2 ?side3 ?side4 A6.out).mono ?_); (case side1 => exact cb HR0_3); (case side2 => exact HC0_3.out); (case side3 => exact cb HR1_3); (case side4 => exact HC1_3.out); rintro e w19 ⟨rfl, hb⟩; refine ⟨_, rfl, ?_⟩; replace BK543 := bb BK543 hb; replace BK544 := bb BK544 hb; replace HB := bsw hb; (try clear hb); (try clear hb2); (try clear hk); (try clear hi)))
     go_ret
     exact ⟨se, sbw⟩
   ·have c5b0 : (a0_2 == a1_2) = false := beq_eq_false_iff_ne.mpr c5
    have c5b1 : (a0_2 != a1_2) = true := bne_iff_ne.mpr c5
    obtain rfl := Option.some.inj H
    go_enter Try.func8, Try.ntmps8
    go_wp2_with (first | ((with_reducible refine gate_dst (N := 2) rfl ?_); refine bx 2 #[.int .i64 a0_0, .int .i64 a0_1, .int .i64 a0_2, .slice A0_3 l0_3.length c0_3] 26 ?_; intro gb543 hg w20 hbox hb; have GW543 := bz w hg; have GE543 := bz w hg; replace HB := bs hb; have BK543 := Aside0.mk hbox; clear hb hbox hg) | ((with_reducible refine gate_dst (N := 3) rfl ?_); refine bx 3 #[.int .i64 a1_0, .int .i64 a1_1, .int .i64 a1_2, .slice A1_3 l1_3.length c1_3] 26 ?_; intro gb544 hg w21 hbox hb; have GW544 := bzw w hg; have GE544 := bzw w hg; replace HB := bsw hb; have BK544 := Aside0.mk hbox; have NB543_544 := nl BK543 hg; have NB544_543 := ng BK543 hg; replace BK543 := bb BK543 hb; clear hb hbox hg; have hnb22 := NB543_544.out; have hnc22 := NB544_543.out; obtain ⟨hcz23_0, hcz23_1, hcz23_2, hcz23_3, hfz23_0, hfz23_1, hfz23_2, hfz23_3⟩ := cc4 BK543; obtain ⟨hcz24_0, hcz24_1, hcz24_2, hcz24_3, hfz24_0, hfz24_1, hfz24_2, hfz24_3⟩ := cc4 BK544))
    go_ret
    exact ⟨se, sbw⟩
  ·have c4b0 : (a0_1 == a1_1) = false := beq_eq_false_iff_ne.mpr c4
   have c4b1 : (a0_1 != a1_1) = true := bne_iff_ne.mpr c4
   obtain rfl := Option.some.inj H
   go_enter Try.func8, Try.ntmps8
   go_wp2_with (first | ((with_reducible refine gate_dst (N := 2) rfl ?_); refine bx 2 #[.int .i64 a0_0, .int .i64 a0_1, .int .i64 a0_2, .slice A0_3 l0_3.length c0_3] 26 ?_; intro gb543 hg w25 hbox hb; have GW543 := bz w hg; have GE543 := bz w hg; replace HB := bs hb; have BK543 := Aside0.mk hbox; clear hb hbox hg) | ((with_reducible refine gate_dst (N := 3) rfl ?_); refine bx 3 #[.int .i64 a1_0, .int .i64 a1_1, .int .i64 a1_2, .slice A1_3 l1_3.length c1_3] 26 ?_; intro gb544 hg w26 hbox hb; have GW544 := bzw w hg; have GE544 := bzw w hg; replace HB := bsw hb; have BK544 := Aside0.mk hbox; have NB543_544 := nl BK543 hg; have NB544_543 := ng BK543 hg; replace BK543 := bb BK543 hb; clear hb hbox hg; have hnb27 := NB543_544.out; have hnc27 := NB544_543.out; obtain ⟨hcz28_0, hcz28_1, hcz28_2, hcz28_3, hfz28_0, hfz28_1, hfz28_2, hfz28_3⟩ := cc4 BK543; obtain ⟨hcz29_0, hcz29_1, hcz29_2, hcz29_3, hfz29_0, hfz29_1, hfz29_2, hfz29_3⟩ := cc4 BK544))
   go_ret
   exact ⟨se, sbw⟩
 ·have c3b0 : (a0_0 == a1_0) = false := beq_eq_false_iff_ne.mpr c3
  have c3b1 : (a0_0 != a1_0) = true := bne_iff_ne.mpr c3
  obtain rfl := Option.some.inj H
  go_enter Try.func8, Try.ntmps8
  go_wp2_with (first | ((with_reducible refine gate_dst (N := 2) rfl ?_); refine bx 2 #[.int .i64 a0_0, .int .i64 a0_1, .int .i64 a0_2, .slice A0_3 l0_3.length c0_3] 26 ?_; intro gb543 hg w30 hbox hb; have GW543 := bz w hg; have GE543 := bz w hg; replace HB := bs hb; have BK543 := Aside0.mk hbox; clear hb hbox hg) | ((with_reducible refine gate_dst (N := 3) rfl ?_); refine bx 3 #[.int .i64 a1_0, .int .i64 a1_1, .int .i64 a1_2, .slice A1_3 l1_3.length c1_3] 26 ?_; intro gb544 hg w31 hbox hb; have GW544 := bzw w hg; have GE544 := bzw w hg; replace HB := bsw hb; have BK544 := Aside0.mk hbox; have NB543_544 := nl BK543 hg; have NB544_543 := ng BK543 hg; replace BK543 := bb BK543 hb; clear hb hbox hg; have hnb32 := NB543_544.out; have hnc32 := NB544_543.out; obtain ⟨hcz33_0, hcz33_1, hcz33_2, hcz33_3, hfz33_0, hfz33_1, hfz33_2, hfz33_3⟩ := cc4 BK543; obtain ⟨hcz34_0, hcz34_1, hcz34_2, hcz34_3, hfz34_0, hfz34_1, hfz34_2, hfz34_3⟩ := cc4 BK544))
  go_ret
  exact ⟨se, sbw⟩

/-! ### laws_eqContact: function 27 -/
def laws_eqContact.f (a0_0 : Int) (a0_1 : Int) (a0_2 : Int) (a0_3 : Int) (a1_0 : Int) (a1_1 : Int) (a1_2 : Int) (a1_3 : Int) : Option (Bool) := if a0_0 = a1_0 then (if a0_1 = a1_1 then (if a0_2 = a1_2 then (if a0_3 = a1_3 then (some true) else (some false)) else (some false)) else (some false)) else (some false)
set_option maxHeartbeats 8000000 in
set_option maxRecDepth 100000 in
theorem laws_eqContact.calls (a0_0 : Int) (a0_1 : Int) (a0_2 : Int) (a0_3 : Int) (a1_0 : Int) (a1_1 : Int) (a1_2 : Int) (a1_3 : Int) (r : Bool) (w : World) (h : laws_eqContact.f a0_0 a0_1 a0_2 a0_3 a1_0 a1_1 a1_2 a1_3 = some r) :
    Calls Try.prog 27 #[.agg #[.int .i64 a0_0, .int .i64 a0_1, .int .i64 a0_2, .int .i64 a0_3], .agg #[.int .i64 a1_0, .int .i64 a1_1, .int .i64 a1_2, .int .i64 a1_3]] w fun e w' => e = .returned (.bool r) ∧ Below w.heap.size w w' := by
 have hu49 := Try.underlying49
 have HB := Aside0.mk (Below.refl w.heap.size w)
 have H : (if a0_0 = a1_0 then (if a0_1 = a1_1 then (if a0_2 = a1_2 then (if a0_3 = a1_3 then (some true) else (some false)) else (some false)) else (some false)) else (some false)) = some r := h
 clear h
 obtain ⟨c3, H⟩ | ⟨c3, H⟩ := ie_ H
 ·have c3b0 : (a0_0 == a1_0) = true := beq_iff_eq.mpr c3
  have c3b1 : (a0_0 != a1_0) = false := bne_eq_false_iff_eq.mpr c3
  clear c3
  obtain ⟨c4, H⟩ | ⟨c4, H⟩ := ie_ H
  ·have c4b0 : (a0_1 == a1_1) = true := beq_iff_eq.mpr c4
   have c4b1 : (a0_1 != a1_1) = false := bne_eq_false_iff_eq.mpr c4
   clear c4
   obtain ⟨c5, H⟩ | ⟨c5, H⟩ := ie_ H
   ·have c5b0 : (a0_2 == a1_2) = true := beq_iff_eq.mpr c5
    have c5b1 : (a0_2 != a1_2) = false := bne_eq_false_iff_eq.mpr c5
    clear c5
    obtain ⟨c6, H⟩ | ⟨c6, H⟩ := ie_ H
    ·have c6b0 : (a0_3 == a1_3) = true := beq_iff_eq.mpr c6
     have c6b1 : (a0_3 != a1_3) = false := bne_eq_false_iff_eq.mpr c6
     clear c6
     obtain rfl := Option.some.inj H
     go_enter Try.func27, Try.ntmps27
     go_wp2_with (first | ((with_reducible refine gate_dst (N := 2) rfl ?_); refine bx 2 #[.int .i64 a0_0, .int .i64 a0_1, .int .i64 a0_2, .int .i64 a0_3] 49 ?_; intro gb546 hg w7 hbox hb; have GW546 := bz w hg; have GE546 := bz w hg; replace HB := bs hb; have BK546 := Aside0.mk hbox; clear hb hbox hg) | ((with_reducible refine gate_dst (N := 3) rfl ?_); refine bx 3 #[.int .i64 a1_0, .int .i64 a1_1, .int .i64 a1_2, .int .i64 a1_3] 49 ?_; intro gb547 hg w8 hbox hb; have GW547 := bzw w hg; have GE547 := bzw w hg; replace HB := bsw hb; have BK547 := Aside0.mk hbox; have NB546_547 := nl BK546 hg; have NB547_546 := ng BK546 hg; replace BK546 := bb BK546 hb; clear hb hbox hg; have hnb9 := NB546_547.out; have hnc9 := NB547_546.out; obtain ⟨hcz10_0, hcz10_1, hcz10_2, hcz10_3, hfz10_0, hfz10_1, hfz10_2, hfz10_3⟩ := cc4 BK546; obtain ⟨hcz11_0, hcz11_1, hcz11_2, hcz11_3, hfz11_0, hfz11_1, hfz11_2, hfz11_3⟩ := cc4 BK547))
     go_ret
     exact ⟨se, sbw⟩
    ·have c6b0 : (a0_3 == a1_3) = false := beq_eq_false_iff_ne.mpr c6
     have c6b1 : (a0_3 != a1_3) = true := bne_iff_ne.mpr c6
     obtain rfl := Option.some.inj H
     go_enter Try.func27, Try.ntmps27
     go_wp2_with (first | ((with_reducible refine gate_dst (N := 2) rfl ?_); refine bx 2 #[.int .i64 a0_0, .int .i64 a0_1, .int .i64 a0_2, .int .i64 a0_3] 49 ?_; intro gb546 hg w12 hbox hb; have GW546 := bz w hg; have GE546 := bz w hg; replace HB := bs hb; have BK546 := Aside0.mk hbox; clear hb hbox hg) | ((with_reducible refine gate_dst (N := 3) rfl ?_); refine bx 3 #[.int .i64 a1_0, .int .i64 a1_1, .int .i64 a1_2, .int .i64 a1_3] 49 ?_; intro gb547 hg w13 hbox hb; have GW547 := bzw w hg; have GE547 := bzw w hg; replace HB := bsw hb; have BK547 := Aside0.mk hbox; have NB546_547 := nl BK546 hg; have NB547_546 := ng BK546 hg; replace BK546 := bb BK546 hb; clear hb hbox hg; have hnb14 := NB546_547.out; have hnc14 := NB547_546.out; obtain ⟨hcz15_0, hcz15_1, hcz15_2, hcz15_3, hfz15_0, hfz15_1, hfz15_2, hfz15_3⟩ := cc4 BK546; obtain ⟨hcz16_0, hcz16_1, hcz16_2, hcz16_3, hfz16_0, hfz16_1, hfz16_2, hfz16_3⟩ := cc4 BK547))
     go_ret
     exact ⟨se, sbw⟩
   ·have c5b0 : (a0_2 == a1_2) = false := beq_eq_false_iff_ne.mpr c5
    have c5b1 : (a0_2 != a1_2) = true := bne_iff_ne.mpr c5
    obtain rfl := Option.some.inj H
    go_enter Try.func27, Try.ntmps27
    go_wp2_with (first | ((with_reducible refine gate_dst (N := 2) rfl ?_); refine bx 2 #[.int .i64 a0_0, .int .i64 a0_1, .int .i64 a0_2, .int .i64 a0_3] 49 ?_; intro gb546 hg w17 hbox hb; have GW546 := bz w hg; have GE546 := bz w hg; replace HB := bs hb; have BK546 := Aside0.mk hbox; clear hb hbox hg) | ((with_reducible refine gate_dst (N := 3) rfl ?_); refine bx 3 #[.int .i64 a1_0, .int .i64 a1_1, .int .i64 a1_2, .int .i64 a1_3] 49 ?_; intro gb547 hg w18 hbox hb; have GW547 := bzw w hg; have GE547 := bzw w hg; replace HB := bsw hb; have BK547 := Aside0.mk hbox; have NB546_547 := nl BK546 hg; have NB547_546 := ng BK546 hg; replace BK546 := bb BK546 hb; clear hb hbox hg; have hnb19 := NB546_547.out; have hnc19 := NB547_546.out; obtain ⟨hcz20_0, hcz20_1, hcz20_2, hcz20_3, hfz20_0, hfz20_1, hfz20_2, hfz20_3⟩ := cc4 BK546; obtain ⟨hcz21_0, hcz21_1, hcz21_2, hcz21_3, hfz21_0, hfz21_1, hfz21_2, hfz21_3⟩ := cc4 BK547))
    go_ret
    exact ⟨se, sbw⟩
  ·have c4b0 : (a0_1 == a1_1) = false := beq_eq_false_iff_ne.mpr c4
   have c4b1 : (a0_1 != a1_1) = true := bne_iff_ne.mpr c4
   obtain rfl := Option.some.inj H
   go_enter Try.func27, Try.ntmps27
   go_wp2_with (first | ((with_reducible refine gate_dst (N := 2) rfl ?_); refine bx 2 #[.int .i64 a0_0, .int .i64 a0_1, .int .i64 a0_2, .int .i64 a0_3] 49 ?_; intro gb546 hg w22 hbox hb; have GW546 := bz w hg; have GE546 := bz w hg; replace HB := bs hb; have BK546 := Aside0.mk hbox; clear hb hbox hg) | ((with_reducible refine gate_dst (N := 3) rfl ?_); refine bx 3 #[.int .i64 a1_0, .int .i64 a1_1, .int .i64 a1_2, .int .i64 a1_3] 49 ?_; intro gb547 hg w23 hbox hb; have GW547 := bzw w hg; have GE547 := bzw w hg; replace HB := bsw hb; have BK547 := Aside0.mk hbox; have NB546_547 := nl BK546 hg; have NB547_546 := ng BK546 hg; replace BK546 := bb BK546 hb; clear hb hbox hg; have hnb24 := NB546_547.out; have hnc24 := NB547_546.out; obtain ⟨hcz25_0, hcz25_1, hcz25_2, hcz25_3, hfz25_0, hfz25_1, hfz25_2, hfz25_3⟩ := cc4 BK546; obtain ⟨hcz26_0, hcz26_1, hcz26_2, hcz26_3, hfz26_0, hfz26_1, hfz26_2, hfz26_3⟩ := cc4 BK547))
   go_ret
   exact ⟨se, sbw⟩
 ·have c3b0 : (a0_0 == a1_0) = false := beq_eq_false_iff_ne.mpr c3
  have c3b1 : (a0_0 != a1_0) = true := bne_iff_ne.mpr c3
  obtain rfl := Option.some.inj H
  go_enter Try.func27, Try.ntmps27
  go_wp2_with (first | ((with_reducible refine gate_dst (N := 2) rfl ?_); refine bx 2 #[.int .i64 a0_0, .int .i64 a0_1, .int .i64 a0_2, .int .i64 a0_3] 49 ?_; intro gb546 hg w27 hbox hb; have GW546 := bz w hg; have GE546 := bz w hg; replace HB := bs hb; have BK546 := Aside0.mk hbox; clear hb hbox hg) | ((with_reducible refine gate_dst (N := 3) rfl ?_); refine bx 3 #[.int .i64 a1_0, .int .i64 a1_1, .int .i64 a1_2, .int .i64 a1_3] 49 ?_; intro gb547 hg w28 hbox hb; have GW547 := bzw w hg; have GE547 := bzw w hg; replace HB := bsw hb; have BK547 := Aside0.mk hbox; have NB546_547 := nl BK546 hg; have NB547_546 := ng BK546 hg; replace BK546 := bb BK546 hb; clear hb hbox hg; have hnb29 := NB546_547.out; have hnc29 := NB547_546.out; obtain ⟨hcz30_0, hcz30_1, hcz30_2, hcz30_3, hfz30_0, hfz30_1, hfz30_2, hfz30_3⟩ := cc4 BK546; obtain ⟨hcz31_0, hcz31_1, hcz31_2, hcz31_3, hfz31_0, hfz31_1, hfz31_2, hfz31_3⟩ := cc4 BK547))
  go_ret
  exact ⟨se, sbw⟩

end Go.Proofs.Ytcjlbgbenjmkgaa.QFnExactBuildProgram
