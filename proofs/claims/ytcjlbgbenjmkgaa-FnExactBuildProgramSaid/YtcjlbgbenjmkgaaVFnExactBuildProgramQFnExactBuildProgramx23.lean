/- What the Go functions of the law FnExactBuildProgram come to, as Lean functions, and that they do: by a program of the session, out of the kit's printer. Conditions: none. (squeezed). -/
import Derived.Test.YtcjlbgbenjmkgaaVFnExactBuildProgramSq
import Derived.Test.YtcjlbgbenjmkgaaVFnExactBuildProgramQFnExactBuildProgramx0
import Derived.Test.YtcjlbgbenjmkgaaVFnExactBuildProgramQFnExactBuildProgramx22
namespace Go.Proofs.Ytcjlbgbenjmkgaa.QFnExactBuildProgram
open Go.RowKit Go.Proofs.YtcjlbgbenjmkgaaW.PrintWords Go.Proofs.YtcjlbgbenjmkgaaW.PrintLast Go.Proofs.YtcjlbgbenjmkgaaW.PrintMore Go.Proofs.Ytcjlbgbenjmkgaa.Open Go.Proofs.Ytcjlbgbenjmkgaa.Sq
attribute [local go_sem] max2_int min2_int max_two min_two max_three min_three max_four min_four   -- for this text's walks alone
attribute [local go_sem] isSome_set
set_option linter.unusedVariables false
set_option linter.unusedSimpArgs false

/-! ### laws_heldPieceS: function 29 -/
def laws_heldPieceS.l0 : Nat → List (S47) → Int → Int → Option (Int)
  | 0, _, _, _ => none
  | k + 1, x0, x1, x5 => if x5 < (x0.length : Int) then (if 0 ≤ x5 then (if ((rd_T47 x0 x5).f0.f0) = x1 then (if ((rd_T47 x0 x5).f0.f1) = (wrap64 (x1 + 1)) then ((laws_heldLinkS.f k ((rd_T47 x0 x5).f1) (wrap64 ((wrap64 (x1 + 1)) + 1))).bind fun t569 => (if t569 < 0 then (some (-1)) else ((laws_heldTableS.f k ((rd_T47 x0 x5).f2) t569).bind fun t571 => (if t571 < 0 then (some (-1)) else (laws_heldPieceS.l0 k x0 t571 (wrap64 (x5 + 1))))))) else (some (-1))) else (some (-1))) else (none)) else (some x1)
def laws_heldPieceS.f (k : Nat) (l0 : List (S47)) (a1 : Int) : Option (Int) := laws_heldPieceS.l0 k l0 a1 0
theorem laws_heldPieceS.mono_l : ∀ k, (∀ y0 y1 y2, LeO (laws_heldPieceS.l0 k y0 y1 y2) (laws_heldPieceS.l0 (k + 1) y0 y1 y2))
  | 0 => fun _ _ _ r h => by simp [laws_heldPieceS.l0] at h
  | k + 1 => by
    have ih0 := laws_heldPieceS.mono_l k
    · intro y0 y1 y2
      unfold laws_heldPieceS.l0
      have m0 := @laws_heldLinkS.mono
      have m1 := @laws_heldTableS.mono
      exact mo
theorem laws_heldPieceS.mono : ∀ a0 a1 k, LeO (laws_heldPieceS.f k a0 a1) (laws_heldPieceS.f (k + 1) a0 a1) := by
  intro a0 a1 k
  have ih0 := laws_heldPieceS.mono_l k
  unfold laws_heldPieceS.f
  have m0 := @laws_heldLinkS.mono
  have m1 := @laws_heldTableS.mono
  exact mo
set_option maxHeartbeats 8000000 in
set_option maxRecDepth 100000 in
theorem laws_heldPieceS.calls (k : Nat) (A0 : Option Addr) (c0 : Nat) (l0 : List (S47)) (a1 : Int) (r : Int) (w : World) (hr0 : Kd.C k47 w A0 l0.length l0) (hc0 : l0.length ≤ c0) (h : laws_heldPieceS.f k l0 a1 = some r) :
    Calls Try.prog 29 #[.slice A0 l0.length c0, .int .i64 a1] w fun e w' => e = .returned (.int .i64 r) ∧ Drawn0 w w' := by
 have HR0 := Aside0.mk hr0
 have HC0 := Aside0.mk hc0
 clear hr0 hc0
 have H : (laws_heldPieceS.l0 k l0 a1 0) = some r := h
 clear h
 have H' := Aside0.mk H
 clear H
 go_enter Try.func29, Try.ntmps29
 go_wp2
 go_loopg [1, 5] k (fun kq v1 v5 w' => ∃ (x1_1 : Int) (x5_1 : Int), v1 = .int .i64 x1_1 ∧ v5 = .int .i64 x5_1 ∧ Aside0 (laws_heldPieceS.l0 kq l0 x1_1 x5_1 = some r) ∧ Aside0 (kq ≤ k) ∧ Drawn0 w w')
 case atStart => exact ⟨(a1), (0), sc, sc, H', kk0, sd⟩
 case round =>
  clear H'
  obtain ⟨x1_1, x5_1, rfl, rfl, HA, HK1, ⟨m1, rfl⟩⟩ := hrel
  cases gk with
  | zero => exact absurd HA.out (by simp [laws_heldPieceS.l0])
  | succ k1 =>
   have H := HA.out
   clear HA
   simp only [laws_heldPieceS.l0] at H
   obtain ⟨c3, H⟩ | ⟨c3, H⟩ := ie_ H
   ·have c3b0 := decide_eq_true c3
    clear c3
    obtain ⟨c4b0, H⟩ := id_ H
    obtain ⟨c5, H⟩ | ⟨c5, H⟩ := ie_ H
    ·have c5b0 : (((rd_T47 l0 x5_1).f0.f0) == x1_1) = true := beq_iff_eq.mpr c5
     have c5b1 : (((rd_T47 l0 x5_1).f0.f0) != x1_1) = false := bne_eq_false_iff_eq.mpr c5
     clear c5
     obtain ⟨c6, H⟩ | ⟨c6, H⟩ := ie_ H
     ·have c6b0 : (((rd_T47 l0 x5_1).f0.f1) == (wrap64 (x1_1 + 1))) = true := beq_iff_eq.mpr c6
      have c6b1 : (((rd_T47 l0 x5_1).f0.f1) != (wrap64 (x1_1 + 1))) = false := bne_eq_false_iff_eq.mpr c6
      clear c6
      obtain ⟨t569, A7, H⟩ := bnd H
      obtain ⟨c8, H⟩ | ⟨c8, H⟩ := ie_ H
      ·have c8b0 := decide_eq_true c8
       clear c8
       obtain rfl := Option.some.inj H
       have p566 : 0 ≤ (x5_1 : Int) := sa
       have q566 : x5_1 < (l0.length : Int) := sa
       obtain ⟨ad566, A566_2, c566_2, A566_3, c566_3, e566, hx566_0, hx566_1, hx566_2, hx566_3, hl566_2, hi566_2, hl566_3, hi566_3⟩ := at_T47 HR0.out x5_1 p566 q566
       cases e566
       have HR566_2 := Aside0.mk hi566_2
       have HC566_2 := Aside0.mk hl566_2
       clear hi566_2 hl566_2
       have HR566_3 := Aside0.mk hi566_3
       have HC566_3 := Aside0.mk hl566_3
       clear hi566_3 hl566_3
       replace p566 := eq_true p566
       replace q566 := eq_true q566
       have p567 : 0 ≤ (x5_1 : Int) := sa
       have q567 : x5_1 < (l0.length : Int) := sa
       obtain ⟨ad567, A567_2, c567_2, A567_3, c567_3, e567, hx567_0, hx567_1, hx567_2, hx567_3, hl567_2, hi567_2, hl567_3, hi567_3⟩ := at_T47 HR0.out x5_1 p567 q567
       obtain rfl : ad566 = ad567 := (by injection e567)
       have HR567_2 := Aside0.mk hi567_2
       have HC567_2 := Aside0.mk hl567_2
       clear hi567_2 hl567_2
       have HR567_3 := Aside0.mk hi567_3
       have HC567_3 := Aside0.mk hl567_3
       clear hi567_3 hl567_3
       replace p567 := eq_true p567
       replace q567 := eq_true q567
       have ea_ := Option.some.inj (hx566_2.symm.trans hx567_2)
       injection ea_ with ea_ en_ ec_
       subst ea_
       subst ec_
       clear en_
       have ea_ := Option.some.inj (hx566_3.symm.trans hx567_3)
       injection ea_ with ea_ en_ ec_
       subst ea_
       subst ec_
       clear en_
       have p568 : 0 ≤ (x5_1 : Int) := sa
       have q568 : x5_1 < (l0.length : Int) := sa
       obtain ⟨ad568, A568_2, c568_2, A568_3, c568_3, e568, hx568_0, hx568_1, hx568_2, hx568_3, hl568_2, hi568_2, hl568_3, hi568_3⟩ := at_T47 HR0.out x5_1 p568 q568
       obtain rfl : ad566 = ad568 := (by injection e568)
       have HR568_2 := Aside0.mk hi568_2
       have HC568_2 := Aside0.mk hl568_2
       clear hi568_2 hl568_2
       have HR568_3 := Aside0.mk hi568_3
       have HC568_3 := Aside0.mk hl568_3
       clear hi568_3 hl568_3
       replace p568 := eq_true p568
       replace q568 := eq_true q568
       have ea_ := Option.some.inj (hx566_2.symm.trans hx568_2)
       injection ea_ with ea_ en_ ec_
       subst ea_
       subst ec_
       clear en_
       have ea_ := Option.some.inj (hx566_3.symm.trans hx568_3)
       injection ea_ with ea_ en_ ec_
       subst ea_
       subst ec_
       clear en_
       go_wp2_with (first | ((with_reducible refine gate_callee (f := 49) rfl ?_); refine gL (some 38) Try.func49 #[.slice A566_2 ((rd_T47 l0 x5_1).f1).length c566_2, .int .i64 (wrap64 ((wrap64 (x1_1 + 1)) + 1))] ?_; (with_reducible refine (laws_heldLinkS.calls k1 _ _ ((rd_T47 l0 x5_1).f1) (wrap64 ((wrap64 (x1_1 + 1)) + 1)) t569 _ ?side1 ?side2 A7.out).mono ?_); (case side1 => repeat (first | exact HR568_2.out | (with_reducible refine Kd.C_alloc ?_ _) | (with_reducible refine Kd.C_drewN ?_ _) | (with_reducible refine Kd.C_drew ?_))); (case side2 => exact HC568_2.out); rintro e w' ⟨rfl, ⟨nd, rfl⟩⟩; refine ⟨_, rfl, ?_⟩))
       go_ret
       exact ⟨sc, sd⟩
      ·have c8b0 := decide_eq_false c8
       clear c8
       obtain ⟨t571, A9, H⟩ := bnd H
       obtain ⟨c10, H⟩ | ⟨c10, H⟩ := ie_ H
       ·have c10b0 := decide_eq_true c10
        clear c10
        obtain rfl := Option.some.inj H
        have p566 : 0 ≤ (x5_1 : Int) := sa
        have q566 : x5_1 < (l0.length : Int) := sa
        obtain ⟨ad566, A566_2, c566_2, A566_3, c566_3, e566, hx566_0, hx566_1, hx566_2, hx566_3, hl566_2, hi566_2, hl566_3, hi566_3⟩ := at_T47 HR0.out x5_1 p566 q566
        cases e566
        have HR566_2 := Aside0.mk hi566_2
        have HC566_2 := Aside0.mk hl566_2
        clear hi566_2 hl566_2
        have HR566_3 := Aside0.mk hi566_3
        have HC566_3 := Aside0.mk hl566_3
        clear hi566_3 hl566_3
        replace p566 := eq_true p566
        replace q566 := eq_true q566
        have p567 : 0 ≤ (x5_1 : Int) := sa
        have q567 : x5_1 < (l0.length : Int) := sa
        obtain ⟨ad567, A567_2, c567_2, A567_3, c567_3, e567, hx567_0, hx567_1, hx567_2, hx567_3, hl567_2, hi567_2, hl567_3, hi567_3⟩ := at_T47 HR0.out x5_1 p567 q567
        obtain rfl : ad566 = ad567 := (by injection e567)
        have HR567_2 := Aside0.mk hi567_2
        have HC567_2 := Aside0.mk hl567_2
        clear hi567_2 hl567_2
        have HR567_3 := Aside0.mk hi567_3
        have HC567_3 := Aside0.mk hl567_3
        clear hi567_3 hl567_3
        replace p567 := eq_true p567
        replace q567 := eq_true q567
        have ea_ := Option.some.inj (hx566_2.symm.trans hx567_2)
        injection ea_ with ea_ en_ ec_
        subst ea_
        subst ec_
        clear en_
        have ea_ := Option.some.inj (hx566_3.symm.trans hx567_3)
        injection ea_ with ea_ en_ ec_
        subst ea_
        subst ec_
        clear en_
        have p568 : 0 ≤ (x5_1 : Int) := sa
        have q568 : x5_1 < (l0.length : Int) := sa
        obtain ⟨ad568, A568_2, c568_2, A568_3, c568_3, e568, hx568_0, hx568_1, hx568_2, hx568_3, hl568_2, hi568_2, hl568_3, hi568_3⟩ := at_T47 HR0.out x5_1 p568 q568
        obtain rfl : ad566 = ad568 := (by injection e568)
        have HR568_2 := Aside0.mk hi568_2
        have HC568_2 := Aside0.mk hl568_2
        clear hi568_2 hl568_2
        have HR568_3 := Aside0.mk hi568_3
        have HC568_3 := Aside0.mk hl568_3
        clear hi568_3 hl568_3
        replace p568 := eq_true p568
        replace q568 := eq_true q568
        have ea_ := Option.some.inj (hx566_2.symm.trans hx568_2)
        injection ea_ with ea_ en_ ec_
        subst ea_
        subst ec_
        clear en_
        have ea_ := Option.some.inj (hx566_3.symm.trans hx568_3)
        injection ea_ with ea_ en_ ec_
        subst ea_
        subst ec_
        clear en_
        go_wp2_with (first | ((with_reducible refine gate_callee (f := 49) rfl ?_); refine gL (some 38) Try.func49 #[.slice A566_2 ((rd_T47 l0 x5_1).f1).length c566_2, .int .i64 (wrap64 ((wrap64 (x1_1 + 1)) + 1))] ?_; (with_reducible refine (laws_heldLinkS.calls k1 _ _ ((rd_T47 l0 x5_1).f1) (wrap64 ((wrap64 (x1_1 + 1)) + 1)) t569 _ ?side1 ?side2 A7.out).mono ?_); (case side1 => repeat (first | exact HR568_2.out | (with_reducible refine Kd.C_alloc ?_ _) | (with_reducible refine Kd.C_drewN ?_ _) | (with_reducible refine Kd.C_drew ?_))); (case side2 => exact HC568_2.out); rintro e w' ⟨rfl, ⟨nd, rfl⟩⟩; refine ⟨_, rfl, ?_⟩; have p570 : 0 ≤ (x5_1 : Int) := sa; have q570 : x5_1 < (l0.length : Int) := sa; obtain ⟨ad570, A570_2, c570_2, A570_3, c570_3, e570, hx570_0, hx570_1, hx570_2, hx570_3, hl570_2, hi570_2, hl570_3, hi570_3⟩ := at_T47 HR0.out x5_1 p570 q570; obtain rfl : ad566 = ad570 := (by injection e570); have HR570_2 := Aside0.mk hi570_2; have HC570_2 := Aside0.mk hl570_2; clear hi570_2 hl570_2; have HR570_3 := Aside0.mk hi570_3; have HC570_3 := Aside0.mk hl570_3; clear hi570_3 hl570_3; replace p570 := eq_true p570; replace q570 := eq_true q570; have ea_ := Option.some.inj (hx566_2.symm.trans hx570_2); injection ea_ with ea_ en_ ec_; subst ea_; subst ec_; clear en_; have ea_ := Option.some.inj (hx566_3.symm.trans hx570_3); injection ea_ with ea_ en_ ec_; subst ea_; subst ec_; clear en_) | ((with_reducible refine gate_callee (f := 50) rfl ?_); refine gL (some 47) Try.func50 #[.slice A566_3 ((rd_T47 l0 x5_1).f2).length c566_3, .int .i64 t569] ?_; (with_reducible refine (laws_heldTableS.calls k1 _ _ ((rd_T47 l0 x5_1).f2) t569 t571 _ ?side1 ?side2 A9.out).mono ?_); (case side1 => repeat (first | exact HR570_3.out | (with_reducible refine Kd.C_alloc ?_ _) | (with_reducible refine Kd.C_drewN ?_ _) | (with_reducible refine Kd.C_drew ?_))); (case side2 => exact HC570_3.out); rintro e w' ⟨rfl, ⟨nd, rfl⟩⟩; refine ⟨_, rfl, ?_⟩))
        go_ret
        exact ⟨sc, sd⟩
       ·have c10b0 := decide_eq_false c10
        clear c10
        have H' := Aside0.mk H
        clear H
        have p566 : 0 ≤ (x5_1 : Int) := sa
        have q566 : x5_1 < (l0.length : Int) := sa
        obtain ⟨ad566, A566_2, c566_2, A566_3, c566_3, e566, hx566_0, hx566_1, hx566_2, hx566_3, hl566_2, hi566_2, hl566_3, hi566_3⟩ := at_T47 HR0.out x5_1 p566 q566
        cases e566
        have HR566_2 := Aside0.mk hi566_2
        have HC566_2 := Aside0.mk hl566_2
        clear hi566_2 hl566_2
        have HR566_3 := Aside0.mk hi566_3
        have HC566_3 := Aside0.mk hl566_3
        clear hi566_3 hl566_3
        replace p566 := eq_true p566
        replace q566 := eq_true q566
        have p567 : 0 ≤ (x5_1 : Int) := sa
        have q567 : x5_1 < (l0.length : Int) := sa
        obtain ⟨ad567, A567_2, c567_2, A567_3, c567_3, e567, hx567_0, hx567_1, hx567_2, hx567_3, hl567_2, hi567_2, hl567_3, hi567_3⟩ := at_T47 HR0.out x5_1 p567 q567
        obtain rfl : ad566 = ad567 := (by injection e567)
        have HR567_2 := Aside0.mk hi567_2
        have HC567_2 := Aside0.mk hl567_2
        clear hi567_2 hl567_2
        have HR567_3 := Aside0.mk hi567_3
        have HC567_3 := Aside0.mk hl567_3
        clear hi567_3 hl567_3
        replace p567 := eq_true p567
        replace q567 := eq_true q567
        have ea_ := Option.some.inj (hx566_2.symm.trans hx567_2)
        injection ea_ with ea_ en_ ec_
        subst ea_
        subst ec_
        clear en_
        have ea_ := Option.some.inj (hx566_3.symm.trans hx567_3)
        injection ea_ with ea_ en_ ec_
        subst ea_
        subst ec_
        clear en_
        have p568 : 0 ≤ (x5_1 : Int) := sa
        have q568 : x5_1 < (l0.length : Int) := sa
        obtain ⟨ad568, A568_2, c568_2, A568_3, c568_3, e568, hx568_0, hx568_1, hx568_2, hx568_3, hl568_2, hi568_2, hl568_3, hi568_3⟩ := at_T47 HR0.out x5_1 p568 q568
        obtain rfl : ad566 = ad568 := (by injection e568)
        have HR568_2 := Aside0.mk hi568_2
        have HC568_2 := Aside0.mk hl568_2
        clear hi568_2 hl568_2
        have HR568_3 := Aside0.mk hi568_3
        have HC568_3 := Aside0.mk hl568_3
        clear hi568_3 hl568_3
        replace p568 := eq_true p568
        replace q568 := eq_true q568
        have ea_ := Option.some.inj (hx566_2.symm.trans hx568_2)
        injection ea_ with ea_ en_ ec_
        subst ea_
        subst ec_
        clear en_
        have ea_ := Option.some.inj (hx566_3.symm.trans hx568_3)
        injection ea_ with ea_ en_ ec_
        subst ea_
        subst ec_
        clear en_
        go_wp2_with (first | ((with_reducible refine gate_callee (f := 49) rfl ?_); refine gL (some 38) Try.func49 #[.slice A566_2 ((rd_T47 l0 x5_1).f1).length c566_2, .int .i64 (wrap64 ((wrap64 (x1_1 + 1)) + 1))] ?_; (with_reducible refine (laws_heldLinkS.calls k1 _ _ ((rd_T47 l0 x5_1).f1) (wrap64 ((wrap64 (x1_1 + 1)) + 1)) t569 _ ?side1 ?side2 A7.out).mono ?_); (case side1 => repeat (first | exact HR568_2.out | (with_reducible refine Kd.C_alloc ?_ _) | (with_reducible refine Kd.C_drewN ?_ _) | (with_reducible refine Kd.C_drew ?_))); (case side2 => exact HC568_2.out); rintro e w' ⟨rfl, ⟨nd, rfl⟩⟩; refine ⟨_, rfl, ?_⟩; have p570 : 0 ≤ (x5_1 : Int) := sa; have q570 : x5_1 < (l0.length : Int) := sa; obtain ⟨ad570, A570_2, c570_2, A570_3, c570_3, e570, hx570_0, hx570_1, hx570_2, hx570_3, hl570_2, hi570_2, hl570_3, hi570_3⟩ := at_T47 HR0.out x5_1 p570 q570; obtain rfl : ad566 = ad570 := (by injection e570); have HR570_2 := Aside0.mk hi570_2; have HC570_2 := Aside0.mk hl570_2; clear hi570_2 hl570_2; have HR570_3 := Aside0.mk hi570_3; have HC570_3 := Aside0.mk hl570_3; clear hi570_3 hl570_3; replace p570 := eq_true p570; replace q570 := eq_true q570; have ea_ := Option.some.inj (hx566_2.symm.trans hx570_2); injection ea_ with ea_ en_ ec_; subst ea_; subst ec_; clear en_; have ea_ := Option.some.inj (hx566_3.symm.trans hx570_3); injection ea_ with ea_ en_ ec_; subst ea_; subst ec_; clear en_) | ((with_reducible refine gate_callee (f := 50) rfl ?_); refine gL (some 47) Try.func50 #[.slice A566_3 ((rd_T47 l0 x5_1).f2).length c566_3, .int .i64 t569] ?_; (with_reducible refine (laws_heldTableS.calls k1 _ _ ((rd_T47 l0 x5_1).f2) t569 t571 _ ?side1 ?side2 A9.out).mono ?_); (case side1 => repeat (first | exact HR570_3.out | (with_reducible refine Kd.C_alloc ?_ _) | (with_reducible refine Kd.C_drewN ?_ _) | (with_reducible refine Kd.C_drew ?_))); (case side2 => exact HC570_3.out); rintro e w' ⟨rfl, ⟨nd, rfl⟩⟩; refine ⟨_, rfl, ?_⟩))
        go_roundg k1
        case measure => have := HK1.out; omega
        case rel => exact ⟨(t571), (wrap64 (x5_1 + 1)), sc, sc, H', kk1, sd⟩
     ·have c6b0 : (((rd_T47 l0 x5_1).f0.f1) == (wrap64 (x1_1 + 1))) = false := beq_eq_false_iff_ne.mpr c6
      have c6b1 : (((rd_T47 l0 x5_1).f0.f1) != (wrap64 (x1_1 + 1))) = true := bne_iff_ne.mpr c6
      obtain rfl := Option.some.inj H
      have p566 : 0 ≤ (x5_1 : Int) := sa
      have q566 : x5_1 < (l0.length : Int) := sa
      obtain ⟨ad566, A566_2, c566_2, A566_3, c566_3, e566, hx566_0, hx566_1, hx566_2, hx566_3, hl566_2, hi566_2, hl566_3, hi566_3⟩ := at_T47 HR0.out x5_1 p566 q566
      cases e566
      have HR566_2 := Aside0.mk hi566_2
      have HC566_2 := Aside0.mk hl566_2
      clear hi566_2 hl566_2
      have HR566_3 := Aside0.mk hi566_3
      have HC566_3 := Aside0.mk hl566_3
      clear hi566_3 hl566_3
      replace p566 := eq_true p566
      replace q566 := eq_true q566
      have p567 : 0 ≤ (x5_1 : Int) := sa
      have q567 : x5_1 < (l0.length : Int) := sa
      obtain ⟨ad567, A567_2, c567_2, A567_3, c567_3, e567, hx567_0, hx567_1, hx567_2, hx567_3, hl567_2, hi567_2, hl567_3, hi567_3⟩ := at_T47 HR0.out x5_1 p567 q567
      obtain rfl : ad566 = ad567 := (by injection e567)
      have HR567_2 := Aside0.mk hi567_2
      have HC567_2 := Aside0.mk hl567_2
      clear hi567_2 hl567_2
      have HR567_3 := Aside0.mk hi567_3
      have HC567_3 := Aside0.mk hl567_3
      clear hi567_3 hl567_3
      replace p567 := eq_true p567
      replace q567 := eq_true q567
      have ea_ := Option.some.inj (hx566_2.symm.trans hx567_2)
      injection ea_ with ea_ en_ ec_
      subst ea_
      subst ec_
      clear en_
      have ea_ := Option.some.inj (hx566_3.symm.trans hx567_3)
      injection ea_ with ea_ en_ ec_
      subst ea_
      subst ec_
      clear en_
      go_wp2
      go_ret
      exact ⟨sc, sd⟩
    ·have c5b0 : (((rd_T47 l0 x5_1).f0.f0) == x1_1) = false := beq_eq_false_iff_ne.mpr c5
     have c5b1 : (((rd_T47 l0 x5_1).f0.f0) != x1_1) = true := bne_iff_ne.mpr c5
     obtain rfl := Option.some.inj H
     have p566 : 0 ≤ (x5_1 : Int) := sa
     have q566 : x5_1 < (l0.length : Int) := sa
     obtain ⟨ad566, A566_2, c566_2, A566_3, c566_3, e566, hx566_0, hx566_1, hx566_2, hx566_3, hl566_2, hi566_2, hl566_3, hi566_3⟩ := at_T47 HR0.out x5_1 p566 q566
     cases e566
     have HR566_2 := Aside0.mk hi566_2
     have HC566_2 := Aside0.mk hl566_2
     clear hi566_2 hl566_2
     have HR566_3 := Aside0.mk hi566_3
     have HC566_3 := Aside0.mk hl566_3
     clear hi566_3 hl566_3
     replace p566 := eq_true p566
     replace q566 := eq_true q566
     go_wp2
     go_ret
     exact ⟨sc, sd⟩
   ·have c3b0 := decide_eq_false c3
    clear c3
    obtain rfl := Option.some.inj H
    go_wp2
    go_ret
    exact ⟨sc, sd⟩

/-! ### laws_heldProgram: function 12 -/
def laws_heldProgram.f (k : Nat) (a0_0 : Int) (a0_1 : Int) (a0_2 : Int) (l0_3 : List (S47)) (a1 : Int) : Option (Int) := (laws_heldPieceS.f k l0_3 a1).bind fun t573 => (if t573 < 0 then (some (-1)) else (some t573))
theorem laws_heldProgram.mono : ∀ a0 a1 a2 a3 a4 k, LeO (laws_heldProgram.f k a0 a1 a2 a3 a4) (laws_heldProgram.f (k + 1) a0 a1 a2 a3 a4) := by
  intro a0 a1 a2 a3 a4 k
  unfold laws_heldProgram.f
  have m0 := @laws_heldPieceS.mono
  exact mo
set_option maxHeartbeats 8000000 in
set_option maxRecDepth 100000 in
theorem laws_heldProgram.calls (k : Nat) (a0_0 : Int) (a0_1 : Int) (a0_2 : Int) (A0_3 : Option Addr) (c0_3 : Nat) (l0_3 : List (S47)) (a1 : Int) (r : Int) (w : World) (hr0_3 : Kd.C k47 w A0_3 l0_3.length l0_3) (hc0_3 : l0_3.length ≤ c0_3) (h : laws_heldProgram.f k a0_0 a0_1 a0_2 l0_3 a1 = some r) :
    Calls Try.prog 12 #[.agg #[.int .i64 a0_0, .int .i64 a0_1, .int .i64 a0_2, .slice A0_3 l0_3.length c0_3], .int .i64 a1] w fun e w' => e = .returned (.int .i64 r) ∧ Below w.heap.size w w' := by
 have hu26 := Try.underlying26
 have HR0_3 := Aside0.mk hr0_3
 have HC0_3 := Aside0.mk hc0_3
 clear hr0_3 hc0_3
 have HB := Aside0.mk (Below.refl w.heap.size w)
 have H : ((laws_heldPieceS.f k l0_3 a1).bind fun t573 => (if t573 < 0 then (some (-1)) else (some t573))) = some r := h
 clear h
 obtain ⟨t573, A3, H⟩ := bnd H
 obtain ⟨c4, H⟩ | ⟨c4, H⟩ := ie_ H
 ·have c4b0 := decide_eq_true c4
  clear c4
  obtain rfl := Option.some.inj H
  go_enter Try.func12, Try.ntmps12
  go_wp2_with (first | ((with_reducible refine gate_dst (N := 2) rfl ?_); refine bx 2 #[.int .i64 a0_0, .int .i64 a0_1, .int .i64 a0_2, .slice A0_3 l0_3.length c0_3] 26 ?_; intro gb572 hg w5 hbox hb; have GW572 := bz w hg; have GE572 := bz w hg; replace HB := bs hb; have BK572 := Aside0.mk hbox; clear hb hbox hg; obtain ⟨hcz6_0, hcz6_1, hcz6_2, hcz6_3, hfz6_0, hfz6_1, hfz6_2, hfz6_3⟩ := cc4 BK572) | ((with_reducible refine gate_callee (f := 29) rfl ?_); refine gL (some 8) Try.func29 #[.slice A0_3 l0_3.length c0_3, .int .i64 a1] ?_; (with_reducible refine (laws_heldPieceS.calls k _ _ l0_3 a1 t573 _ ?side1 ?side2 A3.out).mono ?_); (case side1 => exact cb HR0_3); (case side2 => exact HC0_3.out); rintro e w' ⟨rfl, ⟨nd, rfl⟩⟩; refine ⟨_, rfl, ?_⟩))
  go_ret
  exact ⟨se, sbw⟩
 ·have c4b0 := decide_eq_false c4
  clear c4
  obtain rfl := Option.some.inj H
  go_enter Try.func12, Try.ntmps12
  go_wp2_with (first | ((with_reducible refine gate_dst (N := 2) rfl ?_); refine bx 2 #[.int .i64 a0_0, .int .i64 a0_1, .int .i64 a0_2, .slice A0_3 l0_3.length c0_3] 26 ?_; intro gb572 hg w7 hbox hb; have GW572 := bz w hg; have GE572 := bz w hg; replace HB := bs hb; have BK572 := Aside0.mk hbox; clear hb hbox hg; obtain ⟨hcz8_0, hcz8_1, hcz8_2, hcz8_3, hfz8_0, hfz8_1, hfz8_2, hfz8_3⟩ := cc4 BK572) | ((with_reducible refine gate_callee (f := 29) rfl ?_); refine gL (some 8) Try.func29 #[.slice A0_3 l0_3.length c0_3, .int .i64 a1] ?_; (with_reducible refine (laws_heldPieceS.calls k _ _ l0_3 a1 t573 _ ?side1 ?side2 A3.out).mono ?_); (case side1 => exact cb HR0_3); (case side2 => exact HC0_3.out); rintro e w' ⟨rfl, ⟨nd, rfl⟩⟩; refine ⟨_, rfl, ?_⟩))
  go_ret
  exact ⟨se, sbw⟩

-- NOT PRINTED: function 3 (laws_FnExactBuildProgram)

end Go.Proofs.Ytcjlbgbenjmkgaa.QFnExactBuildProgram
