/- What the Go functions of the law FnExactUseSpans come to, as Lean functions, and that they do: by a program of the session, out of the kit's printer. Conditions: none. (squeezed). -/
import Derived.Test.YtlakjlolahjphaaSq
import Derived.Test.YtlakjlolahjphaaQFnExactUseSpansx0
import Derived.Test.YtlakjlolahjphaaQFnExactUseSpansx4
namespace Go.Proofs.Ytlakjlolahjphaa.QFnExactUseSpans
open Go.RowKit Go.Proofs.YtlakjlolahjphaaW.PrintWords Go.Proofs.YtlakjlolahjphaaW.PrintLast Go.Proofs.YtlakjlolahjphaaW.PrintMore Go.Proofs.Ytlakjlolahjphaa.Open Go.Proofs.Ytlakjlolahjphaa.Sq
attribute [local go_sem] max2_int min2_int max_two min_two max_three min_three max_four min_four   -- for this text's walks alone
attribute [local go_sem] isSome_set
set_option linter.unusedVariables false
set_option linter.unusedSimpArgs false

/-! ### laws_eqPieceS: function 70 -/
def laws_eqPieceS.l0 : Nat → List (S106) → List (S106) → Int → Option (Bool)
  | 0, _, _, _ => none
  | k + 1, x0, x1, x5 => if x5 < (x0.length : Int) then (if 0 ≤ x5 then (if x5 < (x1.length : Int) then ((laws_eqPiece.f k ((rd_T106 x0 x5).f0.f0) ((rd_T106 x0 x5).f0.f1) ((rd_T106 x0 x5).f1) ((rd_T106 x0 x5).f2) ((rd_T106 x1 x5).f0.f0) ((rd_T106 x1 x5).f0.f1) ((rd_T106 x1 x5).f1) ((rd_T106 x1 x5).f2)).bind fun t205 => (if t205 = true then (laws_eqPieceS.l0 k x0 x1 (wrap64 (x5 + 1))) else (some false))) else (none)) else (none)) else (some true)
def laws_eqPieceS.f (k : Nat) (l0 : List (S106)) (l1 : List (S106)) : Option (Bool) := if (l0.length : Int) = (l1.length : Int) then (laws_eqPieceS.l0 k l0 l1 0) else (some false)
theorem laws_eqPieceS.mono_l : ∀ k, (∀ y0 y1 y2, LeO (laws_eqPieceS.l0 k y0 y1 y2) (laws_eqPieceS.l0 (k + 1) y0 y1 y2))
  | 0 => fun _ _ _ r h => by simp [laws_eqPieceS.l0] at h
  | k + 1 => by
    have ih0 := laws_eqPieceS.mono_l k
    · intro y0 y1 y2
      unfold laws_eqPieceS.l0
      have m0 := @laws_eqPiece.mono
      exact mo
theorem laws_eqPieceS.mono : ∀ a0 a1 k, LeO (laws_eqPieceS.f k a0 a1) (laws_eqPieceS.f (k + 1) a0 a1) := by
  intro a0 a1 k
  have ih0 := laws_eqPieceS.mono_l k
  unfold laws_eqPieceS.f
  have m0 := @laws_eqPiece.mono
  exact mo
def laws_eqPieceS.T6 : Bool × List (List Nat × List Nat) := (true, [([], []), ([], []), ([0, 1], [0, 1]), ([2], [2]), ([], []), ([], []), ([4, 5], [4, 5]), ([6], [6]), ([3, 7], [3, 7]), ([8], [8])])
def laws_eqPieceS.B6 : List Nat := [0, 0, 3, 7, 0, 0, 48, 112, 255, 511]
theorem laws_eqPieceS.tab6 : rtab .any (opsOf Try.f70 6) = laws_eqPieceS.T6 := by kernel_rfl
theorem laws_eqPieceS.bits6 : waitsOk laws_eqPieceS.T6.2 laws_eqPieceS.B6 = true := by kernel_rfl
set_option maxHeartbeats 8000000 in
set_option maxRecDepth 100000 in
theorem laws_eqPieceS.calls (k : Nat) (A0 : Option Addr) (c0 : Nat) (l0 : List (S106)) (A1 : Option Addr) (c1 : Nat) (l1 : List (S106)) (r : Bool) (w : World) (hr0 : Kd.C k106 w A0 l0.length l0) (hc0 : l0.length ≤ c0) (hr1 : Kd.C k106 w A1 l1.length l1) (hc1 : l1.length ≤ c1) (h : laws_eqPieceS.f k l0 l1 = some r) :
    Calls Try.prog 70 #[.slice A0 l0.length c0, .slice A1 l1.length c1] w fun e w' => e = .returned (.bool r) ∧ Below w.heap.size w w' := by
 have hu106 := Try.underlying106
 have HR0 := Aside0.mk hr0
 have HC0 := Aside0.mk hc0
 clear hr0 hc0
 have HR1 := Aside0.mk hr1
 have HC1 := Aside0.mk hc1
 clear hr1 hc1
 have HB := Aside0.mk (Below.refl w.heap.size w)
 have H : (if (l0.length : Int) = (l1.length : Int) then (laws_eqPieceS.l0 k l0 l1 0) else (some false)) = some r := h
 clear h
 obtain ⟨c3, H⟩ | ⟨c3, H⟩ := ie_ H
 ·have c3b0 : ((l0.length : Int) == (l1.length : Int)) = true := beq_iff_eq.mpr c3
  have c3b1 : ((l0.length : Int) != (l1.length : Int)) = false := bne_eq_false_iff_eq.mpr c3
  have c3b2 : (l0.length == l1.length) = true := by first | simpa using c3 | (simp at c3 ⊢; omega)
  clear c3
  have H' := Aside0.mk H
  clear H
  go_enter Try.func70, Try.ntmps70
  go_wp2
  go_loopg [5] k (fun kq v5 w' => ∃ (x5_1 : Int), v5 = .int .i64 x5_1 ∧ Aside0 (laws_eqPieceS.l0 kq l0 l1 x5_1 = some r) ∧ Aside0 (kq ≤ k) ∧ Aside0 (Below w.heap.size w w'))
  case atStart => exact ⟨(0), sc, H', kk0, ⟨sb⟩⟩
  case round =>
   clear H'
   try clear c3
   try clear c3b0
   try clear c3b1
   try clear c3b2
   obtain ⟨x5_1, rfl, HA, HK1, HB⟩ := hrel
   cases gk with
   | zero => exact absurd HA.out (by simp [laws_eqPieceS.l0])
   | succ k1 =>
    have H := HA.out
    clear HA
    simp only [laws_eqPieceS.l0] at H
    obtain ⟨c4, H⟩ | ⟨c4, H⟩ := ie_ H
    ·have c4b0 := decide_eq_true c4
     clear c4
     obtain ⟨c5b0, H⟩ := id_ H
     obtain ⟨c6b0, H⟩ := id_ H
     obtain ⟨t205, A7, H⟩ := bnd H
     obtain rfl | rfl := tt t205
     ·replace H := ip H
      have H' := Aside0.mk H
      clear H
      try go_wp2
      replace HB := Aside0.mk (below_drew1 HB.out)
      obtain ⟨p203, q203, ad203, A203_2, c203_2, A203_3, c203_3, e203, hw203_0, hw203_1, hw203_2, hw203_3, hx203_0, hx203_1, hx203_2, hx203_3, HC203_2, HR203_2, HC203_3, HR203_3⟩ := aT_T106 HR0 HB x5_1
      cases e203
      obtain ⟨p204, q204, ad204, A204_2, c204_2, A204_3, c204_3, e204, hw204_0, hw204_1, hw204_2, hw204_3, hx204_0, hx204_1, hx204_2, hx204_3, HC204_2, HR204_2, HC204_3, HR204_3⟩ := aT_T106 HR1 HB x5_1
      cases e204
      refine start_ (n := 10) (S := fun w' => w'.cell? (ad203.add ((x5_1).toNat * 4)) = some (.int .i64 ((rd_T106 l0 x5_1).f0.f0)) ∧ w'.cell? ⟨(ad203.add ((x5_1).toNat * 4)).block, (ad203.add ((x5_1).toNat * 4)).off + 1, none⟩ = some (.int .i64 ((rd_T106 l0 x5_1).f0.f1)) ∧ w'.cell? ⟨(ad203.add ((x5_1).toNat * 4)).block, (ad203.add ((x5_1).toNat * 4)).off + 2, none⟩ = some (.slice A203_2 ((rd_T106 l0 x5_1).f1).length c203_2) ∧ w'.cell? ⟨(ad203.add ((x5_1).toNat * 4)).block, (ad203.add ((x5_1).toNat * 4)).off + 3, none⟩ = some (.slice A203_3 ((rd_T106 l0 x5_1).f2).length c203_3) ∧ w'.cell? (ad204.add ((x5_1).toNat * 4)) = some (.int .i64 ((rd_T106 l1 x5_1).f0.f0)) ∧ w'.cell? ⟨(ad204.add ((x5_1).toNat * 4)).block, (ad204.add ((x5_1).toNat * 4)).off + 1, none⟩ = some (.int .i64 ((rd_T106 l1 x5_1).f0.f1)) ∧ w'.cell? ⟨(ad204.add ((x5_1).toNat * 4)).block, (ad204.add ((x5_1).toNat * 4)).off + 2, none⟩ = some (.slice A204_2 ((rd_T106 l1 x5_1).f1).length c204_2) ∧ w'.cell? ⟨(ad204.add ((x5_1).toNat * 4)).block, (ad204.add ((x5_1).toNat * 4)).off + 3, none⟩ = some (.slice A204_3 ((rd_T106 l1 x5_1).f2).length c204_3)) (ds := []) #[false, false, false, false, false, false, false, false, false, false] (by kernel_rfl) rfl rfl ⟨(hb_ HB hw203_0), (hb_ HB hw203_1), (hb_ HB hw203_2), (hb_ HB hw203_3), (hb_ HB hw204_0), (hb_ HB hw204_1), (hb_ HB hw204_2), (hb_ HB hw204_3)⟩ (fun hHeld => ?_); refine with_tabW laws_eqPieceS.tab6 laws_eqPieceS.bits6 (fun HT_ HW_ => ?_)
      generalize wr.drew = w9 at HB HR203_2 HR203_3 HR204_2 HR204_3 hx203_0 hx203_1 hx203_2 hx203_3 hx204_0 hx204_1 hx204_2 hx204_3 hHeld ⊢
      refine put 0 17 #[true, false, false, false, false, false, false, false, false, false] HT_ ?_
      refine put 1 18 #[true, true, false, false, false, false, false, false, false, false] HT_ ?_
      refine put 2 19 #[true, true, true, false, false, false, false, false, false, false] HT_ ?_
      refine put 4 21 #[true, true, true, false, true, false, false, false, false, false] HT_ ?_
      refine put 5 22 #[true, true, true, false, true, true, false, false, false, false] HT_ ?_
      refine put 6 23 #[true, true, true, false, true, true, true, false, false, false] HT_ ?_
      refine tat8 3 20 #[true, true, true, true, true, true, true, false, false, false] HT_ HW_ hHeld ?_
      refine tat8 7 24 #[true, true, true, true, true, true, true, true, false, false] HT_ HW_ hHeld ?_
      refine one_ (i := 8) (N := some 25) #[true, true, true, true, true, true, true, true, true, false] rfl rfl (one_of HT_.out (by kernel_rfl)) (by decide) (fun K hK => ?_)
      refine goes_ Try.func131 (by kernel_rfl) rfl #[.agg #[.int .i64 ((rd_T106 l0 x5_1).f0.f0), .int .i64 ((rd_T106 l0 x5_1).f0.f1), .slice A203_2 ((rd_T106 l0 x5_1).f1).length c203_2, .slice A203_3 ((rd_T106 l0 x5_1).f2).length c203_3], .agg #[.int .i64 ((rd_T106 l1 x5_1).f0.f0), .int .i64 ((rd_T106 l1 x5_1).f0.f1), .slice A204_2 ((rd_T106 l1 x5_1).f1).length c204_2, .slice A204_3 ((rd_T106 l1 x5_1).f2).length c204_3]] (by rfl) rfl rfl sl ?_
      with_reducible refine (laws_eqPiece.calls k1 ((rd_T106 l0 x5_1).f0.f0) ((rd_T106 l0 x5_1).f0.f1) _ _ ((rd_T106 l0 x5_1).f1) _ _ ((rd_T106 l0 x5_1).f2) ((rd_T106 l1 x5_1).f0.f0) ((rd_T106 l1 x5_1).f0.f1) _ _ ((rd_T106 l1 x5_1).f1) _ _ ((rd_T106 l1 x5_1).f2) true _ ?side1 ?side2 ?side3 ?side4 ?side5 ?side6 ?side7 ?side8 A7.out).mono ?_
      (case side1 => exact cb HR203_2)
      (case side2 => exact HC203_2.out)
      (case side3 => exact cb HR203_3)
      (case side4 => exact HC203_3.out)
      (case side5 => exact cb HR204_2)
      (case side6 => exact HC204_2.out)
      (case side7 => exact cb HR204_3)
      (case side8 => exact HC204_3.out)
      rintro e w10 ⟨rfl, hb⟩
      refine ⟨_, rfl, ?_⟩
      replace HB := bs hb
      (try clear hb)
      (try clear hb2)
      (try clear hk)
      (try clear hi)
      refine hK.out _ _ ⟨(hb_ HB hw203_0), (hb_ HB hw203_1), (hb_ HB hw203_2), (hb_ HB hw203_3), (hb_ HB hw204_0), (hb_ HB hw204_1), (hb_ HB hw204_2), (hb_ HB hw204_3)⟩ (fun hHeld => ?_)
      clear hK K
      refine norm_ (a' := ?_) ?_ ?_
      rotate_left
      ·show Act.put _ (some 25) _ = _
       simp only [Act.put, List.setIfInBounds_toArray, List.set_cons_zero, List.set_cons_succ, i64_w, i32_w]
       rfl
      refine put 9 26 #[true, true, true, true, true, true, true, true, true, true] HT_ ?_
      refine done_ (done_of HT_.out (by kernel_rfl)) ?_
      try go_wp2
      go_roundg k1
      case measure => have := HK1.out; omega
      case rel => exact ⟨(wrap64 (x5_1 + 1)), sc, H', kk1, ⟨sb⟩⟩
     ·replace H := im H
      obtain rfl := Option.some.inj H
      try go_wp2
      replace HB := Aside0.mk (below_drew1 HB.out)
      obtain ⟨p203, q203, ad203, A203_2, c203_2, A203_3, c203_3, e203, hw203_0, hw203_1, hw203_2, hw203_3, hx203_0, hx203_1, hx203_2, hx203_3, HC203_2, HR203_2, HC203_3, HR203_3⟩ := aT_T106 HR0 HB x5_1
      cases e203
      obtain ⟨p204, q204, ad204, A204_2, c204_2, A204_3, c204_3, e204, hw204_0, hw204_1, hw204_2, hw204_3, hx204_0, hx204_1, hx204_2, hx204_3, HC204_2, HR204_2, HC204_3, HR204_3⟩ := aT_T106 HR1 HB x5_1
      cases e204
      refine start_ (n := 10) (S := fun w' => w'.cell? (ad203.add ((x5_1).toNat * 4)) = some (.int .i64 ((rd_T106 l0 x5_1).f0.f0)) ∧ w'.cell? ⟨(ad203.add ((x5_1).toNat * 4)).block, (ad203.add ((x5_1).toNat * 4)).off + 1, none⟩ = some (.int .i64 ((rd_T106 l0 x5_1).f0.f1)) ∧ w'.cell? ⟨(ad203.add ((x5_1).toNat * 4)).block, (ad203.add ((x5_1).toNat * 4)).off + 2, none⟩ = some (.slice A203_2 ((rd_T106 l0 x5_1).f1).length c203_2) ∧ w'.cell? ⟨(ad203.add ((x5_1).toNat * 4)).block, (ad203.add ((x5_1).toNat * 4)).off + 3, none⟩ = some (.slice A203_3 ((rd_T106 l0 x5_1).f2).length c203_3) ∧ w'.cell? (ad204.add ((x5_1).toNat * 4)) = some (.int .i64 ((rd_T106 l1 x5_1).f0.f0)) ∧ w'.cell? ⟨(ad204.add ((x5_1).toNat * 4)).block, (ad204.add ((x5_1).toNat * 4)).off + 1, none⟩ = some (.int .i64 ((rd_T106 l1 x5_1).f0.f1)) ∧ w'.cell? ⟨(ad204.add ((x5_1).toNat * 4)).block, (ad204.add ((x5_1).toNat * 4)).off + 2, none⟩ = some (.slice A204_2 ((rd_T106 l1 x5_1).f1).length c204_2) ∧ w'.cell? ⟨(ad204.add ((x5_1).toNat * 4)).block, (ad204.add ((x5_1).toNat * 4)).off + 3, none⟩ = some (.slice A204_3 ((rd_T106 l1 x5_1).f2).length c204_3)) (ds := []) #[false, false, false, false, false, false, false, false, false, false] (by kernel_rfl) rfl rfl ⟨(hb_ HB hw203_0), (hb_ HB hw203_1), (hb_ HB hw203_2), (hb_ HB hw203_3), (hb_ HB hw204_0), (hb_ HB hw204_1), (hb_ HB hw204_2), (hb_ HB hw204_3)⟩ (fun hHeld => ?_); refine with_tabW laws_eqPieceS.tab6 laws_eqPieceS.bits6 (fun HT_ HW_ => ?_)
      generalize wr.drew = w11 at HB HR203_2 HR203_3 HR204_2 HR204_3 hx203_0 hx203_1 hx203_2 hx203_3 hx204_0 hx204_1 hx204_2 hx204_3 hHeld ⊢
      refine put 0 17 #[true, false, false, false, false, false, false, false, false, false] HT_ ?_
      refine put 1 18 #[true, true, false, false, false, false, false, false, false, false] HT_ ?_
      refine put 2 19 #[true, true, true, false, false, false, false, false, false, false] HT_ ?_
      refine put 4 21 #[true, true, true, false, true, false, false, false, false, false] HT_ ?_
      refine put 5 22 #[true, true, true, false, true, true, false, false, false, false] HT_ ?_
      refine put 6 23 #[true, true, true, false, true, true, true, false, false, false] HT_ ?_
      refine tat8 3 20 #[true, true, true, true, true, true, true, false, false, false] HT_ HW_ hHeld ?_
      refine tat8 7 24 #[true, true, true, true, true, true, true, true, false, false] HT_ HW_ hHeld ?_
      refine one_ (i := 8) (N := some 25) #[true, true, true, true, true, true, true, true, true, false] rfl rfl (one_of HT_.out (by kernel_rfl)) (by decide) (fun K hK => ?_)
      refine goes_ Try.func131 (by kernel_rfl) rfl #[.agg #[.int .i64 ((rd_T106 l0 x5_1).f0.f0), .int .i64 ((rd_T106 l0 x5_1).f0.f1), .slice A203_2 ((rd_T106 l0 x5_1).f1).length c203_2, .slice A203_3 ((rd_T106 l0 x5_1).f2).length c203_3], .agg #[.int .i64 ((rd_T106 l1 x5_1).f0.f0), .int .i64 ((rd_T106 l1 x5_1).f0.f1), .slice A204_2 ((rd_T106 l1 x5_1).f1).length c204_2, .slice A204_3 ((rd_T106 l1 x5_1).f2).length c204_3]] (by rfl) rfl rfl sl ?_
      with_reducible refine (laws_eqPiece.calls k1 ((rd_T106 l0 x5_1).f0.f0) ((rd_T106 l0 x5_1).f0.f1) _ _ ((rd_T106 l0 x5_1).f1) _ _ ((rd_T106 l0 x5_1).f2) ((rd_T106 l1 x5_1).f0.f0) ((rd_T106 l1 x5_1).f0.f1) _ _ ((rd_T106 l1 x5_1).f1) _ _ ((rd_T106 l1 x5_1).f2) false _ ?side1 ?side2 ?side3 ?side4 ?side5 ?side6 ?side7 ?side8 A7.out).mono ?_
      (case side1 => exact cb HR203_2)
      (case side2 => exact HC203_2.out)
      (case side3 => exact cb HR203_3)
      (case side4 => exact HC203_3.out)
      (case side5 => exact cb HR204_2)
      (case side6 => exact HC204_2.out)
      (case side7 => exact cb HR204_3)
      (case side8 => exact HC204_3.out)
      rintro e w12 ⟨rfl, hb⟩
      refine ⟨_, rfl, ?_⟩
      replace HB := bs hb
      (try clear hb)
      (try clear hb2)
      (try clear hk)
      (try clear hi)
      refine hK.out _ _ ⟨(hb_ HB hw203_0), (hb_ HB hw203_1), (hb_ HB hw203_2), (hb_ HB hw203_3), (hb_ HB hw204_0), (hb_ HB hw204_1), (hb_ HB hw204_2), (hb_ HB hw204_3)⟩ (fun hHeld => ?_)
      clear hK K
      refine norm_ (a' := ?_) ?_ ?_
      rotate_left
      ·show Act.put _ (some 25) _ = _
       simp only [Act.put, List.setIfInBounds_toArray, List.set_cons_zero, List.set_cons_succ, i64_w, i32_w]
       rfl
      refine put 9 26 #[true, true, true, true, true, true, true, true, true, true] HT_ ?_
      refine done_ (done_of HT_.out (by kernel_rfl)) ?_
      try go_wp2
      go_ret
      exact ⟨se, sb⟩
    ·have c4b0 := decide_eq_false c4
     clear c4
     obtain rfl := Option.some.inj H
     go_wp2
     go_ret
     exact ⟨se, sb⟩
 ·have c3b0 : ((l0.length : Int) == (l1.length : Int)) = false := beq_eq_false_iff_ne.mpr c3
  have c3b1 : ((l0.length : Int) != (l1.length : Int)) = true := bne_iff_ne.mpr c3
  have c3b2 : (l0.length == l1.length) = false := by first | simpa using c3 | (simp at c3 ⊢; omega)
  obtain rfl := Option.some.inj H
  go_enter Try.func70, Try.ntmps70
  go_wp2
  go_ret
  exact ⟨se, sb⟩

/-! ### laws_eqProgram: function 18 -/
def laws_eqProgram.f (k : Nat) (a0_0 : Int) (a0_1 : Int) (a0_2 : Int) (l0_3 : List (S106)) (a1_0 : Int) (a1_1 : Int) (a1_2 : Int) (l1_3 : List (S106)) : Option (Bool) := if a0_0 = a1_0 then (if a0_1 = a1_1 then (if a0_2 = a1_2 then ((laws_eqPieceS.f k l0_3 l1_3).bind fun t208 => (if t208 = true then (some true) else (some false))) else (some false)) else (some false)) else (some false)
theorem laws_eqProgram.mono : ∀ a0 a1 a2 a3 a4 a5 a6 a7 k, LeO (laws_eqProgram.f k a0 a1 a2 a3 a4 a5 a6 a7) (laws_eqProgram.f (k + 1) a0 a1 a2 a3 a4 a5 a6 a7) := by
  intro a0 a1 a2 a3 a4 a5 a6 a7 k
  unfold laws_eqProgram.f
  have m0 := @laws_eqPieceS.mono
  exact mo
set_option maxHeartbeats 8000000 in
set_option maxRecDepth 100000 in
theorem laws_eqProgram.calls (k : Nat) (a0_0 : Int) (a0_1 : Int) (a0_2 : Int) (A0_3 : Option Addr) (c0_3 : Nat) (l0_3 : List (S106)) (a1_0 : Int) (a1_1 : Int) (a1_2 : Int) (A1_3 : Option Addr) (c1_3 : Nat) (l1_3 : List (S106)) (r : Bool) (w : World) (hr0_3 : Kd.C k106 w A0_3 l0_3.length l0_3) (hc0_3 : l0_3.length ≤ c0_3) (hr1_3 : Kd.C k106 w A1_3 l1_3.length l1_3) (hc1_3 : l1_3.length ≤ c1_3) (h : laws_eqProgram.f k a0_0 a0_1 a0_2 l0_3 a1_0 a1_1 a1_2 l1_3 = some r) :
    Calls Try.prog 18 #[.agg #[.int .i64 a0_0, .int .i64 a0_1, .int .i64 a0_2, .slice A0_3 l0_3.length c0_3], .agg #[.int .i64 a1_0, .int .i64 a1_1, .int .i64 a1_2, .slice A1_3 l1_3.length c1_3]] w fun e w' => e = .returned (.bool r) ∧ Below w.heap.size w w' := by
 have hu29 := Try.underlying29
 have HR0_3 := Aside0.mk hr0_3
 have HC0_3 := Aside0.mk hc0_3
 clear hr0_3 hc0_3
 have HR1_3 := Aside0.mk hr1_3
 have HC1_3 := Aside0.mk hc1_3
 clear hr1_3 hc1_3
 have HB := Aside0.mk (Below.refl w.heap.size w)
 have H : (if a0_0 = a1_0 then (if a0_1 = a1_1 then (if a0_2 = a1_2 then ((laws_eqPieceS.f k l0_3 l1_3).bind fun t208 => (if t208 = true then (some true) else (some false))) else (some false)) else (some false)) else (some false)) = some r := h
 clear h
 obtain ⟨c3, H⟩ | ⟨c3, H⟩ := ie_ H
 ·have c3b0 : (a0_0 == a1_0) = true := beq_iff_eq.mpr c3
  have c3b1 : (a0_0 != a1_0) = false := bne_eq_false_iff_eq.mpr c3
  clear c3
  obtain ⟨c4, H⟩ | ⟨c4, H⟩ := ie_ H
  ·have c4b0 : (a0_1 == a1_1) = true := beq_iff_eq.mpr c4
   have c4b1 : (a0_1 != a1_1) = false := bne_eq_false_iff_eq.mpr c4
   clear c4
   obtain ⟨c5, H⟩ | ⟨c5, H⟩ := ie_ H
   ·have c5b0 : (a0_2 == a1_2) = true := beq_iff_eq.mpr c5
    have c5b1 : (a0_2 != a1_2) = false := bne_eq_false_iff_eq.mpr c5
    clear c5
    obtain ⟨t208, A6, H⟩ := bnd H
    obtain rfl | rfl := tt t208
    ·replace H := ip H
     obtain rfl := Option.some.inj H
     go_enter Try.func18, Try.ntmps18
     go_wp2_with (first | ((with_reducible refine gate_dst (N := 2) rfl ?_); refine bx 2 #[.int .i64 a0_0, .int .i64 a0_1, .int .i64 a0_2, .slice A0_3 l0_3.length c0_3] 29 ?_; intro gb206 hg w8 hbox hb; have BK206 := Aside0.mk hbox; have GW206 := bz w hg; have GE206 := bz w hg; replace HB := bs hb; clear hb hbox hg) | ((with_reducible refine gate_dst (N := 3) rfl ?_); refine bx 3 #[.int .i64 a1_0, .int .i64 a1_1, .int .i64 a1_2, .slice A1_3 l1_3.length c1_3] 29 ?_; intro gb207 hg w9 hbox hb; have BK207 := Aside0.mk hbox; have GW207 := bzw w hg; have GE207 := bzw w hg; replace HB := bsw hb; have NB206_207 := nl BK206 hg; have NB207_206 := ng BK206 hg; replace BK206 := bb BK206 hb; clear hb hbox hg; have hnb10 := NB206_207.out; have hnc10 := NB207_206.out; obtain ⟨hcz11_0, hcz11_1, hcz11_2, hcz11_3, hfz11_0, hfz11_1, hfz11_2, hfz11_3⟩ := cc4 BK206; obtain ⟨hcz12_0, hcz12_1, hcz12_2, hcz12_3, hfz12_0, hfz12_1, hfz12_2, hfz12_3⟩ := cc4 BK207) | ((with_reducible refine gate_callee (f := 70) rfl ?_); refine gL (some 24) Try.func70 #[.slice A0_3 l0_3.length c0_3, .slice A1_3 l1_3.length c1_3] ?_; (with_reducible refine (laws_eqPieceS.calls k _ _ l0_3 _ _ l1_3 true _ ?side1 ?side2 ?side3 ?side4 A6.out).mono ?_); (case side1 => exact cb HR0_3); (case side2 => exact HC0_3.out); (case side3 => exact cb HR1_3); (case side4 => exact HC1_3.out); rintro e w13 ⟨rfl, hb⟩; refine ⟨_, rfl, ?_⟩; replace BK206 := bb BK206 hb; replace BK207 := bb BK207 hb; replace HB := bsw hb; (try clear hb); (try clear hb2); (try clear hk); (try clear hi)))
     go_ret
     exact ⟨se, sbw⟩
    ·replace H := im H
     obtain rfl := Option.some.inj H
     go_enter Try.func18, Try.ntmps18
     go_wp2_with (first | ((with_reducible refine gate_dst (N := 2) rfl ?_); refine bx 2 #[.int .i64 a0_0, .int .i64 a0_1, .int .i64 a0_2, .slice A0_3 l0_3.length c0_3] 29 ?_; intro gb206 hg w14 hbox hb; have BK206 := Aside0.mk hbox; have GW206 := bz w hg; have GE206 := bz w hg; replace HB := bs hb; clear hb hbox hg) | ((with_reducible refine gate_dst (N := 3) rfl ?_); refine bx 3 #[.int .i64 a1_0, .int .i64 a1_1, .int .i64 a1_2, .slice A1_3 l1_3.length c1_3] 29 ?_; intro gb207 hg w15 hbox hb; have BK207 := Aside0.mk hbox; have GW207 := bzw w hg; have GE207 := bzw w hg; replace HB := bsw hb; have NB206_207 := nl BK206 hg; have NB207_206 := ng BK206 hg; replace BK206 := bb BK206 hb; clear hb hbox hg; have hnb16 := NB206_207.out; have hnc16 := NB207_206.out; obtain ⟨hcz17_0, hcz17_1, hcz17_2, hcz17_3, hfz17_0, hfz17_1, hfz17_2, hfz17_3⟩ := cc4 BK206; obtain ⟨hcz18_0, hcz18_1, hcz18_2, hcz18_3, hfz18_0, hfz18_1, hfz18_2, hfz18_3⟩ := cc4 BK207) | ((with_reducible refine gate_callee (f := 70) rfl ?_); refine gL (some 24) Try.func70 #[.slice A0_3 l0_3.length c0_3, .slice A1_3 l1_3.length c1_3] ?_; (with_reducible refine (laws_eqPieceS.calls k _ _ l0_3 _ _ l1_3 false _ ?side1 ?side2 ?side3 ?side4 A6.out).mono ?_); (case side1 => exact cb HR0_3); (case side2 => exact HC0_3.out); (case side3 => exact cb HR1_3); (case side4 => exact HC1_3.out); rintro e w19 ⟨rfl, hb⟩; refine ⟨_, rfl, ?_⟩; replace BK206 := bb BK206 hb; replace BK207 := bb BK207 hb; replace HB := bsw hb; (try clear hb); (try clear hb2); (try clear hk); (try clear hi)))
     go_ret
     exact ⟨se, sbw⟩
   ·have c5b0 : (a0_2 == a1_2) = false := beq_eq_false_iff_ne.mpr c5
    have c5b1 : (a0_2 != a1_2) = true := bne_iff_ne.mpr c5
    obtain rfl := Option.some.inj H
    go_enter Try.func18, Try.ntmps18
    go_wp2_with (first | ((with_reducible refine gate_dst (N := 2) rfl ?_); refine bx 2 #[.int .i64 a0_0, .int .i64 a0_1, .int .i64 a0_2, .slice A0_3 l0_3.length c0_3] 29 ?_; intro gb206 hg w20 hbox hb; have BK206 := Aside0.mk hbox; have GW206 := bz w hg; have GE206 := bz w hg; replace HB := bs hb; clear hb hbox hg) | ((with_reducible refine gate_dst (N := 3) rfl ?_); refine bx 3 #[.int .i64 a1_0, .int .i64 a1_1, .int .i64 a1_2, .slice A1_3 l1_3.length c1_3] 29 ?_; intro gb207 hg w21 hbox hb; have BK207 := Aside0.mk hbox; have GW207 := bzw w hg; have GE207 := bzw w hg; replace HB := bsw hb; have NB206_207 := nl BK206 hg; have NB207_206 := ng BK206 hg; replace BK206 := bb BK206 hb; clear hb hbox hg; have hnb22 := NB206_207.out; have hnc22 := NB207_206.out; obtain ⟨hcz23_0, hcz23_1, hcz23_2, hcz23_3, hfz23_0, hfz23_1, hfz23_2, hfz23_3⟩ := cc4 BK206; obtain ⟨hcz24_0, hcz24_1, hcz24_2, hcz24_3, hfz24_0, hfz24_1, hfz24_2, hfz24_3⟩ := cc4 BK207))
    go_ret
    exact ⟨se, sbw⟩
  ·have c4b0 : (a0_1 == a1_1) = false := beq_eq_false_iff_ne.mpr c4
   have c4b1 : (a0_1 != a1_1) = true := bne_iff_ne.mpr c4
   obtain rfl := Option.some.inj H
   go_enter Try.func18, Try.ntmps18
   go_wp2_with (first | ((with_reducible refine gate_dst (N := 2) rfl ?_); refine bx 2 #[.int .i64 a0_0, .int .i64 a0_1, .int .i64 a0_2, .slice A0_3 l0_3.length c0_3] 29 ?_; intro gb206 hg w25 hbox hb; have BK206 := Aside0.mk hbox; have GW206 := bz w hg; have GE206 := bz w hg; replace HB := bs hb; clear hb hbox hg) | ((with_reducible refine gate_dst (N := 3) rfl ?_); refine bx 3 #[.int .i64 a1_0, .int .i64 a1_1, .int .i64 a1_2, .slice A1_3 l1_3.length c1_3] 29 ?_; intro gb207 hg w26 hbox hb; have BK207 := Aside0.mk hbox; have GW207 := bzw w hg; have GE207 := bzw w hg; replace HB := bsw hb; have NB206_207 := nl BK206 hg; have NB207_206 := ng BK206 hg; replace BK206 := bb BK206 hb; clear hb hbox hg; have hnb27 := NB206_207.out; have hnc27 := NB207_206.out; obtain ⟨hcz28_0, hcz28_1, hcz28_2, hcz28_3, hfz28_0, hfz28_1, hfz28_2, hfz28_3⟩ := cc4 BK206; obtain ⟨hcz29_0, hcz29_1, hcz29_2, hcz29_3, hfz29_0, hfz29_1, hfz29_2, hfz29_3⟩ := cc4 BK207))
   go_ret
   exact ⟨se, sbw⟩
 ·have c3b0 : (a0_0 == a1_0) = false := beq_eq_false_iff_ne.mpr c3
  have c3b1 : (a0_0 != a1_0) = true := bne_iff_ne.mpr c3
  obtain rfl := Option.some.inj H
  go_enter Try.func18, Try.ntmps18
  go_wp2_with (first | ((with_reducible refine gate_dst (N := 2) rfl ?_); refine bx 2 #[.int .i64 a0_0, .int .i64 a0_1, .int .i64 a0_2, .slice A0_3 l0_3.length c0_3] 29 ?_; intro gb206 hg w30 hbox hb; have BK206 := Aside0.mk hbox; have GW206 := bz w hg; have GE206 := bz w hg; replace HB := bs hb; clear hb hbox hg) | ((with_reducible refine gate_dst (N := 3) rfl ?_); refine bx 3 #[.int .i64 a1_0, .int .i64 a1_1, .int .i64 a1_2, .slice A1_3 l1_3.length c1_3] 29 ?_; intro gb207 hg w31 hbox hb; have BK207 := Aside0.mk hbox; have GW207 := bzw w hg; have GE207 := bzw w hg; replace HB := bsw hb; have NB206_207 := nl BK206 hg; have NB207_206 := ng BK206 hg; replace BK206 := bb BK206 hb; clear hb hbox hg; have hnb32 := NB206_207.out; have hnc32 := NB207_206.out; obtain ⟨hcz33_0, hcz33_1, hcz33_2, hcz33_3, hfz33_0, hfz33_1, hfz33_2, hfz33_3⟩ := cc4 BK206; obtain ⟨hcz34_0, hcz34_1, hcz34_2, hcz34_3, hfz34_0, hfz34_1, hfz34_2, hfz34_3⟩ := cc4 BK207))
  go_ret
  exact ⟨se, sbw⟩

/-! ### spec_l1In: function 63 -/
def spec_l1In.f (a0 : Int) (a1 : Int) (a2 : Int) : Option (Bool) := if a0 ≥ a1 then (some (decide (a0 ≤ a2))) else (some false)
set_option maxHeartbeats 8000000 in
set_option maxRecDepth 100000 in
theorem spec_l1In.calls (a0 : Int) (a1 : Int) (a2 : Int) (r : Bool) (w : World) (h : spec_l1In.f a0 a1 a2 = some r) :
    Calls Try.prog 63 #[.int .i64 a0, .int .i64 a1, .int .i64 a2] w fun e w' => e = .returned (.bool r) ∧ Drawn0 w w' := by
 have H : (if a0 ≥ a1 then (some (decide (a0 ≤ a2))) else (some false)) = some r := h
 clear h
 obtain ⟨c4, H⟩ | ⟨c4, H⟩ := ie_ H
 ·have c4b0 := decide_eq_true c4
  clear c4
  obtain rfl := Option.some.inj H
  go_enter Try.func63, Try.ntmps63
  go_wp2
  go_ret
  exact ⟨sc, sd⟩
 ·have c4b0 := decide_eq_false c4
  clear c4
  obtain rfl := Option.some.inj H
  go_enter Try.func63, Try.ntmps63
  go_wp2
  go_ret
  exact ⟨sc, sd⟩

/-! ### spec_IsSpan: function 143 -/
def spec_IsSpan.f (a0_0 : Int) (a0_1 : Int) : Option (Bool) := if a0_0 ≥ 0 then (if a0_1 ≤ 1000 then (some (decide (a0_0 < a0_1))) else (some false)) else (some false)
set_option maxHeartbeats 8000000 in
set_option maxRecDepth 100000 in
theorem spec_IsSpan.calls (a0_0 : Int) (a0_1 : Int) (r : Bool) (w : World) (h : spec_IsSpan.f a0_0 a0_1 = some r) :
    Calls Try.prog 143 #[.agg #[.int .i64 a0_0, .int .i64 a0_1]] w fun e w' => e = .returned (.bool r) ∧ Below w.heap.size w w' := by
 have hu91 := Try.underlying91
 have HB := Aside0.mk (Below.refl w.heap.size w)
 have H : (if a0_0 ≥ 0 then (if a0_1 ≤ 1000 then (some (decide (a0_0 < a0_1))) else (some false)) else (some false)) = some r := h
 clear h
 obtain ⟨c2, H⟩ | ⟨c2, H⟩ := ie_ H
 ·have c2b0 := decide_eq_true c2
  clear c2
  obtain ⟨c3, H⟩ | ⟨c3, H⟩ := ie_ H
  ·have c3b0 := decide_eq_true c3
   clear c3
   obtain rfl := Option.some.inj H
   go_enter Try.func143, Try.ntmps143
   go_wp2_with (first | ((with_reducible refine gate_dst (N := 1) rfl ?_); refine bx 1 #[.int .i64 a0_0, .int .i64 a0_1] 91 ?_; intro gb209 hg w4 hbox hb; have BK209 := Aside0.mk hbox; have GW209 := bz w hg; have GE209 := bz w hg; replace HB := bs hb; clear hb hbox hg; obtain ⟨hcz5_0, hcz5_1, hfz5_0, hfz5_1⟩ := cc2 BK209))
   go_ret
   exact ⟨se, sbw⟩
  ·have c3b0 := decide_eq_false c3
   clear c3
   obtain rfl := Option.some.inj H
   go_enter Try.func143, Try.ntmps143
   go_wp2_with (first | ((with_reducible refine gate_dst (N := 1) rfl ?_); refine bx 1 #[.int .i64 a0_0, .int .i64 a0_1] 91 ?_; intro gb209 hg w6 hbox hb; have BK209 := Aside0.mk hbox; have GW209 := bz w hg; have GE209 := bz w hg; replace HB := bs hb; clear hb hbox hg; obtain ⟨hcz7_0, hcz7_1, hfz7_0, hfz7_1⟩ := cc2 BK209))
   go_ret
   exact ⟨se, sbw⟩
 ·have c2b0 := decide_eq_false c2
  clear c2
  obtain rfl := Option.some.inj H
  go_enter Try.func143, Try.ntmps143
  go_wp2_with (first | ((with_reducible refine gate_dst (N := 1) rfl ?_); refine bx 1 #[.int .i64 a0_0, .int .i64 a0_1] 91 ?_; intro gb209 hg w8 hbox hb; have BK209 := Aside0.mk hbox; have GW209 := bz w hg; have GE209 := bz w hg; replace HB := bs hb; clear hb hbox hg; obtain ⟨hcz9_0, hcz9_1, hfz9_0, hfz9_1⟩ := cc2 BK209))
  go_ret
  exact ⟨se, sbw⟩

/-! ### spec_InSpan: function 147 -/
def spec_InSpan.f (a0_0 : Int) (a0_1 : Int) (a1 : Int) : Option (Bool) := (spec_IsSpan.f a0_0 a0_1).bind fun t211 => (if t211 = true then (if a0_0 ≤ a1 then (some (decide (a1 < a0_1))) else (some false)) else (some false))
set_option maxHeartbeats 8000000 in
set_option maxRecDepth 100000 in
theorem spec_InSpan.calls (a0_0 : Int) (a0_1 : Int) (a1 : Int) (r : Bool) (w : World) (h : spec_InSpan.f a0_0 a0_1 a1 = some r) :
    Calls Try.prog 147 #[.agg #[.int .i64 a0_0, .int .i64 a0_1], .int .i64 a1] w fun e w' => e = .returned (.bool r) ∧ Below w.heap.size w w' := by
 have hu91 := Try.underlying91
 have HB := Aside0.mk (Below.refl w.heap.size w)
 have H : ((spec_IsSpan.f a0_0 a0_1).bind fun t211 => (if t211 = true then (if a0_0 ≤ a1 then (some (decide (a1 < a0_1))) else (some false)) else (some false))) = some r := h
 clear h
 obtain ⟨t211, A3, H⟩ := bnd H
 obtain rfl | rfl := tt t211
 ·replace H := ip H
  obtain ⟨c5, H⟩ | ⟨c5, H⟩ := ie_ H
  ·have c5b0 := decide_eq_true c5
   clear c5
   obtain rfl := Option.some.inj H
   go_enter Try.func147, Try.ntmps147
   go_wp2_with (first | ((with_reducible refine gate_dst (N := 2) rfl ?_); refine bx 2 #[.int .i64 a0_0, .int .i64 a0_1] 91 ?_; intro gb210 hg w6 hbox hb; have BK210 := Aside0.mk hbox; have GW210 := bz w hg; have GE210 := bz w hg; replace HB := bs hb; clear hb hbox hg; obtain ⟨hcz7_0, hcz7_1, hfz7_0, hfz7_1⟩ := cc2 BK210) | ((with_reducible refine gate_callee (f := 143) rfl ?_); refine gL (some 6) Try.func143 #[.agg #[.int .i64 a0_0, .int .i64 a0_1]] ?_; (with_reducible refine (spec_IsSpan.calls a0_0 a0_1 true _ A3.out).mono ?_); rintro e w8 ⟨rfl, hb⟩; refine ⟨_, rfl, ?_⟩; replace BK210 := bb BK210 hb; replace HB := bsw hb; (try clear hb); (try clear hb2); (try clear hk); (try clear hi); obtain ⟨hcz9_0, hcz9_1, hfz9_0, hfz9_1⟩ := cc2 BK210))
   go_ret
   exact ⟨se, sbw⟩
  ·have c5b0 := decide_eq_false c5
   clear c5
   obtain rfl := Option.some.inj H
   go_enter Try.func147, Try.ntmps147
   go_wp2_with (first | ((with_reducible refine gate_dst (N := 2) rfl ?_); refine bx 2 #[.int .i64 a0_0, .int .i64 a0_1] 91 ?_; intro gb210 hg w10 hbox hb; have BK210 := Aside0.mk hbox; have GW210 := bz w hg; have GE210 := bz w hg; replace HB := bs hb; clear hb hbox hg; obtain ⟨hcz11_0, hcz11_1, hfz11_0, hfz11_1⟩ := cc2 BK210) | ((with_reducible refine gate_callee (f := 143) rfl ?_); refine gL (some 6) Try.func143 #[.agg #[.int .i64 a0_0, .int .i64 a0_1]] ?_; (with_reducible refine (spec_IsSpan.calls a0_0 a0_1 true _ A3.out).mono ?_); rintro e w12 ⟨rfl, hb⟩; refine ⟨_, rfl, ?_⟩; replace BK210 := bb BK210 hb; replace HB := bsw hb; (try clear hb); (try clear hb2); (try clear hk); (try clear hi); obtain ⟨hcz13_0, hcz13_1, hfz13_0, hfz13_1⟩ := cc2 BK210))
   go_ret
   exact ⟨se, sbw⟩
 ·replace H := im H
  obtain rfl := Option.some.inj H
  go_enter Try.func147, Try.ntmps147
  go_wp2_with (first | ((with_reducible refine gate_dst (N := 2) rfl ?_); refine bx 2 #[.int .i64 a0_0, .int .i64 a0_1] 91 ?_; intro gb210 hg w14 hbox hb; have BK210 := Aside0.mk hbox; have GW210 := bz w hg; have GE210 := bz w hg; replace HB := bs hb; clear hb hbox hg; obtain ⟨hcz15_0, hcz15_1, hfz15_0, hfz15_1⟩ := cc2 BK210) | ((with_reducible refine gate_callee (f := 143) rfl ?_); refine gL (some 6) Try.func143 #[.agg #[.int .i64 a0_0, .int .i64 a0_1]] ?_; (with_reducible refine (spec_IsSpan.calls a0_0 a0_1 false _ A3.out).mono ?_); rintro e w16 ⟨rfl, hb⟩; refine ⟨_, rfl, ?_⟩; replace BK210 := bb BK210 hb; replace HB := bsw hb; (try clear hb); (try clear hb2); (try clear hk); (try clear hi)))
  go_ret
  exact ⟨se, sbw⟩

/-! ### spec_PieceAt: function 103 -/
def spec_PieceAt.l0 : Nat → Int → Int → Int → Int → Int → List (S106) → Option (Int)
  | 0, _, _, _, _, _, _ => none
  | k + 1, x1, x5, x213000, x213001, x213002, x213003 => if x5 < (x213003.length : Int) then (if 0 ≤ x5 then ((spec_InSpan.f ((rd_T106 x213003 x5).f0.f0) ((rd_T106 x213003 x5).f0.f1) x1).bind fun t214 => (if t214 = true then (some x5) else (spec_PieceAt.l0 k x1 (wrap64 (x5 + 1)) x213000 x213001 x213002 x213003))) else (none)) else (some (-1))
def spec_PieceAt.f (k : Nat) (a0_0 : Int) (a0_1 : Int) (a0_2 : Int) (l0_3 : List (S106)) (a1 : Int) : Option (Int) := spec_PieceAt.l0 k a1 0 a0_0 a0_1 a0_2 l0_3
theorem spec_PieceAt.mono_l : ∀ k, (∀ y0 y1 y2 y3 y4 y5, LeO (spec_PieceAt.l0 k y0 y1 y2 y3 y4 y5) (spec_PieceAt.l0 (k + 1) y0 y1 y2 y3 y4 y5))
  | 0 => fun _ _ _ _ _ _ r h => by simp [spec_PieceAt.l0] at h
  | k + 1 => by
    have ih0 := spec_PieceAt.mono_l k
    · intro y0 y1 y2 y3 y4 y5
      unfold spec_PieceAt.l0
      exact mo
theorem spec_PieceAt.mono : ∀ a0 a1 a2 a3 a4 k, LeO (spec_PieceAt.f k a0 a1 a2 a3 a4) (spec_PieceAt.f (k + 1) a0 a1 a2 a3 a4) := by
  intro a0 a1 a2 a3 a4 k
  have ih0 := spec_PieceAt.mono_l k
  unfold spec_PieceAt.f
  exact mo
set_option maxHeartbeats 8000000 in
set_option maxRecDepth 100000 in
theorem spec_PieceAt.calls (k : Nat) (a0_0 : Int) (a0_1 : Int) (a0_2 : Int) (A0_3 : Option Addr) (c0_3 : Nat) (l0_3 : List (S106)) (a1 : Int) (r : Int) (w : World) (hr0_3 : Kd.C k106 w A0_3 l0_3.length l0_3) (hc0_3 : l0_3.length ≤ c0_3) (h : spec_PieceAt.f k a0_0 a0_1 a0_2 l0_3 a1 = some r) :
    Calls Try.prog 103 #[.agg #[.int .i64 a0_0, .int .i64 a0_1, .int .i64 a0_2, .slice A0_3 l0_3.length c0_3], .int .i64 a1] w fun e w' => e = .returned (.int .i64 r) ∧ Below w.heap.size w w' := by
 have hu29 := Try.underlying29
 have hu91 := Try.underlying91
 have HR0_3 := Aside0.mk hr0_3
 have HC0_3 := Aside0.mk hc0_3
 clear hr0_3 hc0_3
 have HB := Aside0.mk (Below.refl w.heap.size w)
 have H : (spec_PieceAt.l0 k a1 0 a0_0 a0_1 a0_2 l0_3) = some r := h
 clear h
 have H' := Aside0.mk H
 clear H
 go_enter Try.func103, Try.ntmps103
 go_wp2_with (first | ((with_reducible refine gate_dst (N := 2) rfl ?_); refine bx 2 #[.int .i64 a0_0, .int .i64 a0_1, .int .i64 a0_2, .slice A0_3 l0_3.length c0_3] 29 ?_; intro gb212 hg w3 hbox hb; have BK212 := Aside0.mk hbox; have GW212 := bz w hg; have GE212 := bz w hg; replace HB := bs hb; clear hb hbox hg))
 go_loopg [5] k (fun kq v5 w' => ∃ (x5_1 : Int), v5 = .int .i64 x5_1 ∧ Aside0 (spec_PieceAt.l0 kq a1 x5_1 a0_0 a0_1 a0_2 l0_3 = some r) ∧ Aside0 (kq ≤ k) ∧ Aside0 (w'.heap[gb212]? = some (.cells #[.int .i64 a0_0, .int .i64 a0_1, .int .i64 a0_2, (.slice A0_3 l0_3.length c0_3)] 29 (0, 0))) ∧ Aside0 (Below w.heap.size w w'))
 case atStart => exact ⟨(0), sc, H', kk0, ⟨sk BK212⟩, ⟨sbw⟩⟩
 case round =>
  clear H'
  obtain ⟨x5_1, rfl, HA, HK1, BK212, HB⟩ := hrel
  cases gk with
  | zero => exact absurd HA.out (by simp [spec_PieceAt.l0])
  | succ k1 =>
   have H := HA.out
   clear HA
   simp only [spec_PieceAt.l0] at H
   obtain ⟨c4, H⟩ | ⟨c4, H⟩ := ie_ H
   ·have c4b0 := decide_eq_true c4
    clear c4
    obtain ⟨c5b0, H⟩ := id_ H
    obtain ⟨t214, A6, H⟩ := bnd H
    obtain rfl | rfl := tt t214
    ·replace H := ip H
     obtain rfl := Option.some.inj H
     obtain ⟨hcz8_0, hcz8_1, hcz8_2, hcz8_3, hfz8_0, hfz8_1, hfz8_2, hfz8_3⟩ := cc4 BK212
     obtain ⟨p213, q213, ad213, A213_2, c213_2, A213_3, c213_3, e213, _, _, _, _, hx213_0, hx213_1, hx213_2, hx213_3, HC213_2, HR213_2, HC213_3, HR213_3⟩ := aT_T106 HR0_3 HB x5_1
     cases e213
     go_wp2_with (first | ((with_reducible refine gate_callee (f := 147) rfl ?_); refine gL (some 20) Try.func147 #[.agg #[.int .i64 ((rd_T106 l0_3 x5_1).f0.f0), .int .i64 ((rd_T106 l0_3 x5_1).f0.f1)], .int .i64 a1] ?_; (with_reducible refine (spec_InSpan.calls ((rd_T106 l0_3 x5_1).f0.f0) ((rd_T106 l0_3 x5_1).f0.f1) a1 true _ A6.out).mono ?_); rintro e w9 ⟨rfl, hb⟩; refine ⟨_, rfl, ?_⟩; replace BK212 := bb BK212 hb; replace HB := bsw hb; (try clear hb); (try clear hb2); (try clear hk); (try clear hi)))
     go_ret
     exact ⟨se, sbw⟩
    ·replace H := im H
     have H' := Aside0.mk H
     clear H
     obtain ⟨hcz10_0, hcz10_1, hcz10_2, hcz10_3, hfz10_0, hfz10_1, hfz10_2, hfz10_3⟩ := cc4 BK212
     obtain ⟨p213, q213, ad213, A213_2, c213_2, A213_3, c213_3, e213, _, _, _, _, hx213_0, hx213_1, hx213_2, hx213_3, HC213_2, HR213_2, HC213_3, HR213_3⟩ := aT_T106 HR0_3 HB x5_1
     cases e213
     go_wp2_with (first | ((with_reducible refine gate_callee (f := 147) rfl ?_); refine gL (some 20) Try.func147 #[.agg #[.int .i64 ((rd_T106 l0_3 x5_1).f0.f0), .int .i64 ((rd_T106 l0_3 x5_1).f0.f1)], .int .i64 a1] ?_; (with_reducible refine (spec_InSpan.calls ((rd_T106 l0_3 x5_1).f0.f0) ((rd_T106 l0_3 x5_1).f0.f1) a1 false _ A6.out).mono ?_); rintro e w11 ⟨rfl, hb⟩; refine ⟨_, rfl, ?_⟩; replace BK212 := bb BK212 hb; replace HB := bsw hb; (try clear hb); (try clear hb2); (try clear hk); (try clear hi)))
     go_roundg k1
     case measure => have := HK1.out; omega
     case rel => exact ⟨(wrap64 (x5_1 + 1)), sc, H', kk1, ⟨sk BK212⟩, ⟨sbw⟩⟩
   ·have c4b0 := decide_eq_false c4
    clear c4
    obtain rfl := Option.some.inj H
    obtain ⟨hcz12_0, hcz12_1, hcz12_2, hcz12_3, hfz12_0, hfz12_1, hfz12_2, hfz12_3⟩ := cc4 BK212
    go_wp2
    go_ret
    exact ⟨se, sbw⟩

end Go.Proofs.Ytlakjlolahjphaa.QFnExactUseSpans
