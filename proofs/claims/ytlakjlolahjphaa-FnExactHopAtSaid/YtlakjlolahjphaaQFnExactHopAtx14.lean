/- What the Go functions of the law FnExactHopAt come to, as Lean functions, and that they do: by a program of the session, out of the kit's printer. Conditions: none. (squeezed). -/
import Derived.Test.YtlakjlolahjphaaSq
import Derived.Test.YtlakjlolahjphaaQFnExactHopAtx0
import Derived.Test.YtlakjlolahjphaaQFnExactHopAtx1
import Derived.Test.YtlakjlolahjphaaQFnExactHopAtx7
import Derived.Test.YtlakjlolahjphaaQFnExactHopAtx11
import Derived.Test.YtlakjlolahjphaaQFnExactHopAtx13
namespace Go.Proofs.Ytlakjlolahjphaa.QFnExactHopAt
open Go.RowKit Go.Proofs.YtlakjlolahjphaaW.PrintWords Go.Proofs.YtlakjlolahjphaaW.PrintLast Go.Proofs.YtlakjlolahjphaaW.PrintMore Go.Proofs.Ytlakjlolahjphaa.Open Go.Proofs.Ytlakjlolahjphaa.Sq
attribute [local go_sem] max2_int min2_int max_two min_two max_three min_three max_four min_four   -- for this text's walks alone
attribute [local go_sem] isSome_set
set_option linter.unusedVariables false
set_option linter.unusedSimpArgs false

/-! ### laws_eqPieceS: function 70 -/
def laws_eqPieceS.l0 : Nat → List (S106) → List (S106) → Int → Option (Bool)
  | 0, _, _, _ => none
  | k + 1, x0, x1, x5 => if x5 < (x0.length : Int) then (if 0 ≤ x5 then (if x5 < (x1.length : Int) then ((laws_eqPiece.f k ((rd_T106 x0 x5).f0.f0) ((rd_T106 x0 x5).f0.f1) ((rd_T106 x0 x5).f1) ((rd_T106 x0 x5).f2) ((rd_T106 x1 x5).f0.f0) ((rd_T106 x1 x5).f0.f1) ((rd_T106 x1 x5).f1) ((rd_T106 x1 x5).f2)).bind fun t410 => (if t410 = true then (laws_eqPieceS.l0 k x0 x1 (wrap64 (x5 + 1))) else (some false))) else (none)) else (none)) else (some true)
def laws_eqPieceS.f (k : Nat) (l0 : List (S106)) (l1 : List (S106)) : Option (Bool) := if (l0.length : Int) = (l1.length : Int) then (laws_eqPieceS.l0 k l0 l1 0) else (some false)
theorem laws_eqPieceS.mono_l : ∀ k, (∀ y0 y1 y2, LeO (laws_eqPieceS.l0 k y0 y1 y2) (laws_eqPieceS.l0 (k + 1) y0 y1 y2))
  | 0 => fun _ _ _ r h => by simp [laws_eqPieceS.l0] at h
  | k + 1 => by
    have ih0 := laws_eqPieceS.mono_l k
    · intro y0 y1 y2
      unfold laws_eqPieceS.l0
      have m0 := @laws_eqPiece.mono
      exact mo
theorem laws_eqPieceS.mono : ∀ a0 a1 k, LeO (laws_eqPieceS.f k a0 a1) (laws_eqPieceS.f (k + 1) a0 a1) := by
  intro a0 a1 k
  have ih0 := laws_eqPieceS.mono_l k
  unfold laws_eqPieceS.f
  have m0 := @laws_eqPiece.mono
  exact mo
def laws_eqPieceS.T6 : Bool × List (List Nat × List Nat) := (true, [([], []), ([], []), ([0, 1], [0, 1]), ([2], [2]), ([], []), ([], []), ([4, 5], [4, 5]), ([6], [6]), ([3, 7], [3, 7]), ([8], [8])])
def laws_eqPieceS.B6 : List Nat := [0, 0, 3, 7, 0, 0, 48, 112, 255, 511]
theorem laws_eqPieceS.tab6 : rtab .any (opsOf Try.f70 6) = laws_eqPieceS.T6 := by kernel_rfl
theorem laws_eqPieceS.bits6 : waitsOk laws_eqPieceS.T6.2 laws_eqPieceS.B6 = true := by kernel_rfl
set_option maxHeartbeats 8000000 in
set_option maxRecDepth 100000 in
theorem laws_eqPieceS.calls (k : Nat) (A0 : Option Addr) (c0 : Nat) (l0 : List (S106)) (A1 : Option Addr) (c1 : Nat) (l1 : List (S106)) (r : Bool) (w : World) (hr0 : Kd.C k106 w A0 l0.length l0) (hc0 : l0.length ≤ c0) (hr1 : Kd.C k106 w A1 l1.length l1) (hc1 : l1.length ≤ c1) (h : laws_eqPieceS.f k l0 l1 = some r) :
    Calls Try.prog 70 #[.slice A0 l0.length c0, .slice A1 l1.length c1] w fun e w' => e = .returned (.bool r) ∧ Below w.heap.size w w' := by
 have hu106 := Try.underlying106
 have HR0 := Aside0.mk hr0
 have HC0 := Aside0.mk hc0
 clear hr0 hc0
 have HR1 := Aside0.mk hr1
 have HC1 := Aside0.mk hc1
 clear hr1 hc1
 have HB := Aside0.mk (Below.refl w.heap.size w)
 have H : (if (l0.length : Int) = (l1.length : Int) then (laws_eqPieceS.l0 k l0 l1 0) else (some false)) = some r := h
 clear h
 obtain ⟨c3, H⟩ | ⟨c3, H⟩ := ie_ H
 ·have c3b0 : ((l0.length : Int) == (l1.length : Int)) = true := beq_iff_eq.mpr c3
  have c3b1 : ((l0.length : Int) != (l1.length : Int)) = false := bne_eq_false_iff_eq.mpr c3
  have c3b2 : (l0.length == l1.length) = true := by first | simpa using c3 | (simp at c3 ⊢; omega)
  clear c3
  have H' := Aside0.mk H
  clear H
  go_enter Try.func70, Try.ntmps70
  go_wp2
  go_loopg [5] k (fun kq v5 w' => ∃ (x5_1 : Int), v5 = .int .i64 x5_1 ∧ Aside0 (laws_eqPieceS.l0 kq l0 l1 x5_1 = some r) ∧ Aside0 (kq ≤ k) ∧ Aside0 (Below w.heap.size w w'))
  case atStart => exact ⟨(0), sc, H', kk0, ⟨sb⟩⟩
  case round =>
   clear H'
   try clear c3
   try clear c3b0
   try clear c3b1
   try clear c3b2
   obtain ⟨x5_1, rfl, HA, HK1, HB⟩ := hrel
   cases gk with
   | zero => exact absurd HA.out (by simp [laws_eqPieceS.l0])
   | succ k1 =>
    have H := HA.out
    clear HA
    simp only [laws_eqPieceS.l0] at H
    obtain ⟨c4, H⟩ | ⟨c4, H⟩ := ie_ H
    ·have c4b0 := decide_eq_true c4
     clear c4
     obtain ⟨c5b0, H⟩ := id_ H
     obtain ⟨c6b0, H⟩ := id_ H
     obtain ⟨t410, A7, H⟩ := bnd H
     obtain rfl | rfl := tt t410
     ·replace H := ip H
      have H' := Aside0.mk H
      clear H
      try go_wp2
      replace HB := Aside0.mk (below_drew1 HB.out)
      obtain ⟨p408, q408, ad408, A408_2, c408_2, A408_3, c408_3, e408, hw408_0, hw408_1, hw408_2, hw408_3, hx408_0, hx408_1, hx408_2, hx408_3, HC408_2, HR408_2, HC408_3, HR408_3⟩ := aT_T106 HR0 HB x5_1
      cases e408
      obtain ⟨p409, q409, ad409, A409_2, c409_2, A409_3, c409_3, e409, hw409_0, hw409_1, hw409_2, hw409_3, hx409_0, hx409_1, hx409_2, hx409_3, HC409_2, HR409_2, HC409_3, HR409_3⟩ := aT_T106 HR1 HB x5_1
      cases e409
      refine start_ (n := 10) (S := fun w' => w'.cell? (ad408.add ((x5_1).toNat * 4)) = some (.int .i64 ((rd_T106 l0 x5_1).f0.f0)) ∧ w'.cell? ⟨(ad408.add ((x5_1).toNat * 4)).block, (ad408.add ((x5_1).toNat * 4)).off + 1, none⟩ = some (.int .i64 ((rd_T106 l0 x5_1).f0.f1)) ∧ w'.cell? ⟨(ad408.add ((x5_1).toNat * 4)).block, (ad408.add ((x5_1).toNat * 4)).off + 2, none⟩ = some (.slice A408_2 ((rd_T106 l0 x5_1).f1).length c408_2) ∧ w'.cell? ⟨(ad408.add ((x5_1).toNat * 4)).block, (ad408.add ((x5_1).toNat * 4)).off + 3, none⟩ = some (.slice A408_3 ((rd_T106 l0 x5_1).f2).length c408_3) ∧ w'.cell? (ad409.add ((x5_1).toNat * 4)) = some (.int .i64 ((rd_T106 l1 x5_1).f0.f0)) ∧ w'.cell? ⟨(ad409.add ((x5_1).toNat * 4)).block, (ad409.add ((x5_1).toNat * 4)).off + 1, none⟩ = some (.int .i64 ((rd_T106 l1 x5_1).f0.f1)) ∧ w'.cell? ⟨(ad409.add ((x5_1).toNat * 4)).block, (ad409.add ((x5_1).toNat * 4)).off + 2, none⟩ = some (.slice A409_2 ((rd_T106 l1 x5_1).f1).length c409_2) ∧ w'.cell? ⟨(ad409.add ((x5_1).toNat * 4)).block, (ad409.add ((x5_1).toNat * 4)).off + 3, none⟩ = some (.slice A409_3 ((rd_T106 l1 x5_1).f2).length c409_3)) (ds := []) #[false, false, false, false, false, false, false, false, false, false] (by kernel_rfl) rfl rfl ⟨(hb_ HB hw408_0), (hb_ HB hw408_1), (hb_ HB hw408_2), (hb_ HB hw408_3), (hb_ HB hw409_0), (hb_ HB hw409_1), (hb_ HB hw409_2), (hb_ HB hw409_3)⟩ (fun hHeld => ?_); refine with_tabW laws_eqPieceS.tab6 laws_eqPieceS.bits6 (fun HT_ HW_ => ?_)
      generalize wr.drew = w9 at HB HR408_2 HR408_3 HR409_2 HR409_3 hx408_0 hx408_1 hx408_2 hx408_3 hx409_0 hx409_1 hx409_2 hx409_3 hHeld ⊢
      refine put 0 17 #[true, false, false, false, false, false, false, false, false, false] HT_ ?_
      refine put 1 18 #[true, true, false, false, false, false, false, false, false, false] HT_ ?_
      refine put 2 19 #[true, true, true, false, false, false, false, false, false, false] HT_ ?_
      refine put 4 21 #[true, true, true, false, true, false, false, false, false, false] HT_ ?_
      refine put 5 22 #[true, true, true, false, true, true, false, false, false, false] HT_ ?_
      refine put 6 23 #[true, true, true, false, true, true, true, false, false, false] HT_ ?_
      refine tat8 3 20 #[true, true, true, true, true, true, true, false, false, false] HT_ HW_ hHeld ?_
      refine tat8 7 24 #[true, true, true, true, true, true, true, true, false, false] HT_ HW_ hHeld ?_
      refine one_ (i := 8) (N := some 25) #[true, true, true, true, true, true, true, true, true, false] rfl rfl (one_of HT_.out (by kernel_rfl)) (by decide) (fun K hK => ?_)
      refine goes_ Try.func131 (by kernel_rfl) rfl #[.agg #[.int .i64 ((rd_T106 l0 x5_1).f0.f0), .int .i64 ((rd_T106 l0 x5_1).f0.f1), .slice A408_2 ((rd_T106 l0 x5_1).f1).length c408_2, .slice A408_3 ((rd_T106 l0 x5_1).f2).length c408_3], .agg #[.int .i64 ((rd_T106 l1 x5_1).f0.f0), .int .i64 ((rd_T106 l1 x5_1).f0.f1), .slice A409_2 ((rd_T106 l1 x5_1).f1).length c409_2, .slice A409_3 ((rd_T106 l1 x5_1).f2).length c409_3]] (by rfl) rfl rfl sl ?_
      with_reducible refine (laws_eqPiece.calls k1 ((rd_T106 l0 x5_1).f0.f0) ((rd_T106 l0 x5_1).f0.f1) _ _ ((rd_T106 l0 x5_1).f1) _ _ ((rd_T106 l0 x5_1).f2) ((rd_T106 l1 x5_1).f0.f0) ((rd_T106 l1 x5_1).f0.f1) _ _ ((rd_T106 l1 x5_1).f1) _ _ ((rd_T106 l1 x5_1).f2) true _ ?side1 ?side2 ?side3 ?side4 ?side5 ?side6 ?side7 ?side8 A7.out).mono ?_
      (case side1 => exact cb HR408_2)
      (case side2 => exact HC408_2.out)
      (case side3 => exact cb HR408_3)
      (case side4 => exact HC408_3.out)
      (case side5 => exact cb HR409_2)
      (case side6 => exact HC409_2.out)
      (case side7 => exact cb HR409_3)
      (case side8 => exact HC409_3.out)
      rintro e w10 ⟨rfl, hb⟩
      refine ⟨_, rfl, ?_⟩
      replace HB := bs hb
      (try clear hb)
      (try clear hb2)
      (try clear hk)
      (try clear hi)
      refine hK.out _ _ ⟨(hb_ HB hw408_0), (hb_ HB hw408_1), (hb_ HB hw408_2), (hb_ HB hw408_3), (hb_ HB hw409_0), (hb_ HB hw409_1), (hb_ HB hw409_2), (hb_ HB hw409_3)⟩ (fun hHeld => ?_)
      clear hK K
      refine norm_ (a' := ?_) ?_ ?_
      rotate_left
      ·show Act.put _ (some 25) _ = _
       simp only [Act.put, List.setIfInBounds_toArray, List.set_cons_zero, List.set_cons_succ, i64_w, i32_w]
       rfl
      refine put 9 26 #[true, true, true, true, true, true, true, true, true, true] HT_ ?_
      refine done_ (done_of HT_.out (by kernel_rfl)) ?_
      try go_wp2
      go_roundg k1
      case measure => have := HK1.out; omega
      case rel => exact ⟨(wrap64 (x5_1 + 1)), sc, H', kk1, ⟨sb⟩⟩
     ·replace H := im H
      obtain rfl := Option.some.inj H
      try go_wp2
      replace HB := Aside0.mk (below_drew1 HB.out)
      obtain ⟨p408, q408, ad408, A408_2, c408_2, A408_3, c408_3, e408, hw408_0, hw408_1, hw408_2, hw408_3, hx408_0, hx408_1, hx408_2, hx408_3, HC408_2, HR408_2, HC408_3, HR408_3⟩ := aT_T106 HR0 HB x5_1
      cases e408
      obtain ⟨p409, q409, ad409, A409_2, c409_2, A409_3, c409_3, e409, hw409_0, hw409_1, hw409_2, hw409_3, hx409_0, hx409_1, hx409_2, hx409_3, HC409_2, HR409_2, HC409_3, HR409_3⟩ := aT_T106 HR1 HB x5_1
      cases e409
      refine start_ (n := 10) (S := fun w' => w'.cell? (ad408.add ((x5_1).toNat * 4)) = some (.int .i64 ((rd_T106 l0 x5_1).f0.f0)) ∧ w'.cell? ⟨(ad408.add ((x5_1).toNat * 4)).block, (ad408.add ((x5_1).toNat * 4)).off + 1, none⟩ = some (.int .i64 ((rd_T106 l0 x5_1).f0.f1)) ∧ w'.cell? ⟨(ad408.add ((x5_1).toNat * 4)).block, (ad408.add ((x5_1).toNat * 4)).off + 2, none⟩ = some (.slice A408_2 ((rd_T106 l0 x5_1).f1).length c408_2) ∧ w'.cell? ⟨(ad408.add ((x5_1).toNat * 4)).block, (ad408.add ((x5_1).toNat * 4)).off + 3, none⟩ = some (.slice A408_3 ((rd_T106 l0 x5_1).f2).length c408_3) ∧ w'.cell? (ad409.add ((x5_1).toNat * 4)) = some (.int .i64 ((rd_T106 l1 x5_1).f0.f0)) ∧ w'.cell? ⟨(ad409.add ((x5_1).toNat * 4)).block, (ad409.add ((x5_1).toNat * 4)).off + 1, none⟩ = some (.int .i64 ((rd_T106 l1 x5_1).f0.f1)) ∧ w'.cell? ⟨(ad409.add ((x5_1).toNat * 4)).block, (ad409.add ((x5_1).toNat * 4)).off + 2, none⟩ = some (.slice A409_2 ((rd_T106 l1 x5_1).f1).length c409_2) ∧ w'.cell? ⟨(ad409.add ((x5_1).toNat * 4)).block, (ad409.add ((x5_1).toNat * 4)).off + 3, none⟩ = some (.slice A409_3 ((rd_T106 l1 x5_1).f2).length c409_3)) (ds := []) #[false, false, false, false, false, false, false, false, false, false] (by kernel_rfl) rfl rfl ⟨(hb_ HB hw408_0), (hb_ HB hw408_1), (hb_ HB hw408_2), (hb_ HB hw408_3), (hb_ HB hw409_0), (hb_ HB hw409_1), (hb_ HB hw409_2), (hb_ HB hw409_3)⟩ (fun hHeld => ?_); refine with_tabW laws_eqPieceS.tab6 laws_eqPieceS.bits6 (fun HT_ HW_ => ?_)
      generalize wr.drew = w11 at HB HR408_2 HR408_3 HR409_2 HR409_3 hx408_0 hx408_1 hx408_2 hx408_3 hx409_0 hx409_1 hx409_2 hx409_3 hHeld ⊢
      refine put 0 17 #[true, false, false, false, false, false, false, false, false, false] HT_ ?_
      refine put 1 18 #[true, true, false, false, false, false, false, false, false, false] HT_ ?_
      refine put 2 19 #[true, true, true, false, false, false, false, false, false, false] HT_ ?_
      refine put 4 21 #[true, true, true, false, true, false, false, false, false, false] HT_ ?_
      refine put 5 22 #[true, true, true, false, true, true, false, false, false, false] HT_ ?_
      refine put 6 23 #[true, true, true, false, true, true, true, false, false, false] HT_ ?_
      refine tat8 3 20 #[true, true, true, true, true, true, true, false, false, false] HT_ HW_ hHeld ?_
      refine tat8 7 24 #[true, true, true, true, true, true, true, true, false, false] HT_ HW_ hHeld ?_
      refine one_ (i := 8) (N := some 25) #[true, true, true, true, true, true, true, true, true, false] rfl rfl (one_of HT_.out (by kernel_rfl)) (by decide) (fun K hK => ?_)
      refine goes_ Try.func131 (by kernel_rfl) rfl #[.agg #[.int .i64 ((rd_T106 l0 x5_1).f0.f0), .int .i64 ((rd_T106 l0 x5_1).f0.f1), .slice A408_2 ((rd_T106 l0 x5_1).f1).length c408_2, .slice A408_3 ((rd_T106 l0 x5_1).f2).length c408_3], .agg #[.int .i64 ((rd_T106 l1 x5_1).f0.f0), .int .i64 ((rd_T106 l1 x5_1).f0.f1), .slice A409_2 ((rd_T106 l1 x5_1).f1).length c409_2, .slice A409_3 ((rd_T106 l1 x5_1).f2).length c409_3]] (by rfl) rfl rfl sl ?_
      with_reducible refine (laws_eqPiece.calls k1 ((rd_T106 l0 x5_1).f0.f0) ((rd_T106 l0 x5_1).f0.f1) _ _ ((rd_T106 l0 x5_1).f1) _ _ ((rd_T106 l0 x5_1).f2) ((rd_T106 l1 x5_1).f0.f0) ((rd_T106 l1 x5_1).f0.f1) _ _ ((rd_T106 l1 x5_1).f1) _ _ ((rd_T106 l1 x5_1).f2) false _ ?side1 ?side2 ?side3 ?side4 ?side5 ?side6 ?side7 ?side8 A7.out).mono ?_
      (case side1 => exact cb HR408_2)
      (case side2 => exact HC408_2.out)
      (case side3 => exact cb HR408_3)
      (case side4 => exact HC408_3.out)
      (case side5 => exact cb HR409_2)
      (case side6 => exact HC409_2.out)
      (case side7 => exact cb HR409_3)
      (case side8 => exact HC409_3.out)
      rintro e w12 ⟨rfl, hb⟩
      refine ⟨_, rfl, ?_⟩
      replace HB := bs hb
      (try clear hb)
      (try clear hb2)
      (try clear hk)
      (try clear hi)
      refine hK.out _ _ ⟨(hb_ HB hw408_0), (hb_ HB hw408_1), (hb_ HB hw408_2), (hb_ HB hw408_3), (hb_ HB hw409_0), (hb_ HB hw409_1), (hb_ HB hw409_2), (hb_ HB hw409_3)⟩ (fun hHeld => ?_)
      clear hK K
      refine norm_ (a' := ?_) ?_ ?_
      rotate_left
      ·show Act.put _ (some 25) _ = _
       simp only [Act.put, List.setIfInBounds_toArray, List.set_cons_zero, List.set_cons_succ, i64_w, i32_w]
       rfl
      refine put 9 26 #[true, true, true, true, true, true, true, true, true, true] HT_ ?_
      refine done_ (done_of HT_.out (by kernel_rfl)) ?_
      try go_wp2
      go_ret
      exact ⟨se, sb⟩
    ·have c4b0 := decide_eq_false c4
     clear c4
     obtain rfl := Option.some.inj H
     go_wp2
     go_ret
     exact ⟨se, sb⟩
 ·have c3b0 : ((l0.length : Int) == (l1.length : Int)) = false := beq_eq_false_iff_ne.mpr c3
  have c3b1 : ((l0.length : Int) != (l1.length : Int)) = true := bne_iff_ne.mpr c3
  have c3b2 : (l0.length == l1.length) = false := by first | simpa using c3 | (simp at c3 ⊢; omega)
  obtain rfl := Option.some.inj H
  go_enter Try.func70, Try.ntmps70
  go_wp2
  go_ret
  exact ⟨se, sb⟩

/-! ### laws_eqProgram: function 18 -/
def laws_eqProgram.f (k : Nat) (a0_0 : Int) (a0_1 : Int) (a0_2 : Int) (l0_3 : List (S106)) (a1_0 : Int) (a1_1 : Int) (a1_2 : Int) (l1_3 : List (S106)) : Option (Bool) := if a0_0 = a1_0 then (if a0_1 = a1_1 then (if a0_2 = a1_2 then ((laws_eqPieceS.f k l0_3 l1_3).bind fun t413 => (if t413 = true then (some true) else (some false))) else (some false)) else (some false)) else (some false)
theorem laws_eqProgram.mono : ∀ a0 a1 a2 a3 a4 a5 a6 a7 k, LeO (laws_eqProgram.f k a0 a1 a2 a3 a4 a5 a6 a7) (laws_eqProgram.f (k + 1) a0 a1 a2 a3 a4 a5 a6 a7) := by
  intro a0 a1 a2 a3 a4 a5 a6 a7 k
  unfold laws_eqProgram.f
  have m0 := @laws_eqPieceS.mono
  exact mo
set_option maxHeartbeats 8000000 in
set_option maxRecDepth 100000 in
theorem laws_eqProgram.calls (k : Nat) (a0_0 : Int) (a0_1 : Int) (a0_2 : Int) (A0_3 : Option Addr) (c0_3 : Nat) (l0_3 : List (S106)) (a1_0 : Int) (a1_1 : Int) (a1_2 : Int) (A1_3 : Option Addr) (c1_3 : Nat) (l1_3 : List (S106)) (r : Bool) (w : World) (hr0_3 : Kd.C k106 w A0_3 l0_3.length l0_3) (hc0_3 : l0_3.length ≤ c0_3) (hr1_3 : Kd.C k106 w A1_3 l1_3.length l1_3) (hc1_3 : l1_3.length ≤ c1_3) (h : laws_eqProgram.f k a0_0 a0_1 a0_2 l0_3 a1_0 a1_1 a1_2 l1_3 = some r) :
    Calls Try.prog 18 #[.agg #[.int .i64 a0_0, .int .i64 a0_1, .int .i64 a0_2, .slice A0_3 l0_3.length c0_3], .agg #[.int .i64 a1_0, .int .i64 a1_1, .int .i64 a1_2, .slice A1_3 l1_3.length c1_3]] w fun e w' => e = .returned (.bool r) ∧ Below w.heap.size w w' := by
 have hu29 := Try.underlying29
 have HR0_3 := Aside0.mk hr0_3
 have HC0_3 := Aside0.mk hc0_3
 clear hr0_3 hc0_3
 have HR1_3 := Aside0.mk hr1_3
 have HC1_3 := Aside0.mk hc1_3
 clear hr1_3 hc1_3
 have HB := Aside0.mk (Below.refl w.heap.size w)
 have H : (if a0_0 = a1_0 then (if a0_1 = a1_1 then (if a0_2 = a1_2 then ((laws_eqPieceS.f k l0_3 l1_3).bind fun t413 => (if t413 = true then (some true) else (some false))) else (some false)) else (some false)) else (some false)) = some r := h
 clear h
 obtain ⟨c3, H⟩ | ⟨c3, H⟩ := ie_ H
 ·have c3b0 : (a0_0 == a1_0) = true := beq_iff_eq.mpr c3
  have c3b1 : (a0_0 != a1_0) = false := bne_eq_false_iff_eq.mpr c3
  clear c3
  obtain ⟨c4, H⟩ | ⟨c4, H⟩ := ie_ H
  ·have c4b0 : (a0_1 == a1_1) = true := beq_iff_eq.mpr c4
   have c4b1 : (a0_1 != a1_1) = false := bne_eq_false_iff_eq.mpr c4
   clear c4
   obtain ⟨c5, H⟩ | ⟨c5, H⟩ := ie_ H
   ·have c5b0 : (a0_2 == a1_2) = true := beq_iff_eq.mpr c5
    have c5b1 : (a0_2 != a1_2) = false := bne_eq_false_iff_eq.mpr c5
    clear c5
    obtain ⟨t413, A6, H⟩ := bnd H
    obtain rfl | rfl := tt t413
    ·replace H := ip H
     obtain rfl := Option.some.inj H
     go_enter Try.func18, Try.ntmps18
     go_wp2_with (first | ((with_reducible refine gate_dst (N := 2) rfl ?_); refine bx 2 #[.int .i64 a0_0, .int .i64 a0_1, .int .i64 a0_2, .slice A0_3 l0_3.length c0_3] 29 ?_; intro gb411 hg w8 hbox hb; have BK411 := Aside0.mk hbox; have GW411 := bz w hg; have GE411 := bz w hg; replace HB := bs hb; clear hb hbox hg) | ((with_reducible refine gate_dst (N := 3) rfl ?_); refine bx 3 #[.int .i64 a1_0, .int .i64 a1_1, .int .i64 a1_2, .slice A1_3 l1_3.length c1_3] 29 ?_; intro gb412 hg w9 hbox hb; have BK412 := Aside0.mk hbox; have GW412 := bzw w hg; have GE412 := bzw w hg; replace HB := bsw hb; have NB411_412 := nl BK411 hg; have NB412_411 := ng BK411 hg; replace BK411 := bb BK411 hb; clear hb hbox hg; have hnb10 := NB411_412.out; have hnc10 := NB412_411.out; obtain ⟨hcz11_0, hcz11_1, hcz11_2, hcz11_3, hfz11_0, hfz11_1, hfz11_2, hfz11_3⟩ := cc4 BK411; obtain ⟨hcz12_0, hcz12_1, hcz12_2, hcz12_3, hfz12_0, hfz12_1, hfz12_2, hfz12_3⟩ := cc4 BK412) | ((with_reducible refine gate_callee (f := 70) rfl ?_); refine gL (some 24) Try.func70 #[.slice A0_3 l0_3.length c0_3, .slice A1_3 l1_3.length c1_3] ?_; (with_reducible refine (laws_eqPieceS.calls k _ _ l0_3 _ _ l1_3 true _ ?side1 ?side2 ?side3 ?side4 A6.out).mono ?_); (case side1 => exact cb HR0_3); (case side2 => exact HC0_3.out); (case side3 => exact cb HR1_3); (case side4 => exact HC1_3.out); rintro e w13 ⟨rfl, hb⟩; refine ⟨_, rfl, ?_⟩; replace BK411 := bb BK411 hb; replace BK412 := bb BK412 hb; replace HB := bsw hb; (try clear hb); (try clear hb2); (try clear hk); (try clear hi)))
     go_ret
     exact ⟨se, sbw⟩
    ·replace H := im H
     obtain rfl := Option.some.inj H
     go_enter Try.func18, Try.ntmps18
     go_wp2_with (first | ((with_reducible refine gate_dst (N := 2) rfl ?_); refine bx 2 #[.int .i64 a0_0, .int .i64 a0_1, .int .i64 a0_2, .slice A0_3 l0_3.length c0_3] 29 ?_; intro gb411 hg w14 hbox hb; have BK411 := Aside0.mk hbox; have GW411 := bz w hg; have GE411 := bz w hg; replace HB := bs hb; clear hb hbox hg) | ((with_reducible refine gate_dst (N := 3) rfl ?_); refine bx 3 #[.int .i64 a1_0, .int .i64 a1_1, .int .i64 a1_2, .slice A1_3 l1_3.length c1_3] 29 ?_; intro gb412 hg w15 hbox hb; have BK412 := Aside0.mk hbox; have GW412 := bzw w hg; have GE412 := bzw w hg; replace HB := bsw hb; have NB411_412 := nl BK411 hg; have NB412_411 := ng BK411 hg; replace BK411 := bb BK411 hb; clear hb hbox hg; have hnb16 := NB411_412.out; have hnc16 := NB412_411.out; obtain ⟨hcz17_0, hcz17_1, hcz17_2, hcz17_3, hfz17_0, hfz17_1, hfz17_2, hfz17_3⟩ := cc4 BK411; obtain ⟨hcz18_0, hcz18_1, hcz18_2, hcz18_3, hfz18_0, hfz18_1, hfz18_2, hfz18_3⟩ := cc4 BK412) | ((with_reducible refine gate_callee (f := 70) rfl ?_); refine gL (some 24) Try.func70 #[.slice A0_3 l0_3.length c0_3, .slice A1_3 l1_3.length c1_3] ?_; (with_reducible refine (laws_eqPieceS.calls k _ _ l0_3 _ _ l1_3 false _ ?side1 ?side2 ?side3 ?side4 A6.out).mono ?_); (case side1 => exact cb HR0_3); (case side2 => exact HC0_3.out); (case side3 => exact cb HR1_3); (case side4 => exact HC1_3.out); rintro e w19 ⟨rfl, hb⟩; refine ⟨_, rfl, ?_⟩; replace BK411 := bb BK411 hb; replace BK412 := bb BK412 hb; replace HB := bsw hb; (try clear hb); (try clear hb2); (try clear hk); (try clear hi)))
     go_ret
     exact ⟨se, sbw⟩
   ·have c5b0 : (a0_2 == a1_2) = false := beq_eq_false_iff_ne.mpr c5
    have c5b1 : (a0_2 != a1_2) = true := bne_iff_ne.mpr c5
    obtain rfl := Option.some.inj H
    go_enter Try.func18, Try.ntmps18
    go_wp2_with (first | ((with_reducible refine gate_dst (N := 2) rfl ?_); refine bx 2 #[.int .i64 a0_0, .int .i64 a0_1, .int .i64 a0_2, .slice A0_3 l0_3.length c0_3] 29 ?_; intro gb411 hg w20 hbox hb; have BK411 := Aside0.mk hbox; have GW411 := bz w hg; have GE411 := bz w hg; replace HB := bs hb; clear hb hbox hg) | ((with_reducible refine gate_dst (N := 3) rfl ?_); refine bx 3 #[.int .i64 a1_0, .int .i64 a1_1, .int .i64 a1_2, .slice A1_3 l1_3.length c1_3] 29 ?_; intro gb412 hg w21 hbox hb; have BK412 := Aside0.mk hbox; have GW412 := bzw w hg; have GE412 := bzw w hg; replace HB := bsw hb; have NB411_412 := nl BK411 hg; have NB412_411 := ng BK411 hg; replace BK411 := bb BK411 hb; clear hb hbox hg; have hnb22 := NB411_412.out; have hnc22 := NB412_411.out; obtain ⟨hcz23_0, hcz23_1, hcz23_2, hcz23_3, hfz23_0, hfz23_1, hfz23_2, hfz23_3⟩ := cc4 BK411; obtain ⟨hcz24_0, hcz24_1, hcz24_2, hcz24_3, hfz24_0, hfz24_1, hfz24_2, hfz24_3⟩ := cc4 BK412))
    go_ret
    exact ⟨se, sbw⟩
  ·have c4b0 : (a0_1 == a1_1) = false := beq_eq_false_iff_ne.mpr c4
   have c4b1 : (a0_1 != a1_1) = true := bne_iff_ne.mpr c4
   obtain rfl := Option.some.inj H
   go_enter Try.func18, Try.ntmps18
   go_wp2_with (first | ((with_reducible refine gate_dst (N := 2) rfl ?_); refine bx 2 #[.int .i64 a0_0, .int .i64 a0_1, .int .i64 a0_2, .slice A0_3 l0_3.length c0_3] 29 ?_; intro gb411 hg w25 hbox hb; have BK411 := Aside0.mk hbox; have GW411 := bz w hg; have GE411 := bz w hg; replace HB := bs hb; clear hb hbox hg) | ((with_reducible refine gate_dst (N := 3) rfl ?_); refine bx 3 #[.int .i64 a1_0, .int .i64 a1_1, .int .i64 a1_2, .slice A1_3 l1_3.length c1_3] 29 ?_; intro gb412 hg w26 hbox hb; have BK412 := Aside0.mk hbox; have GW412 := bzw w hg; have GE412 := bzw w hg; replace HB := bsw hb; have NB411_412 := nl BK411 hg; have NB412_411 := ng BK411 hg; replace BK411 := bb BK411 hb; clear hb hbox hg; have hnb27 := NB411_412.out; have hnc27 := NB412_411.out; obtain ⟨hcz28_0, hcz28_1, hcz28_2, hcz28_3, hfz28_0, hfz28_1, hfz28_2, hfz28_3⟩ := cc4 BK411; obtain ⟨hcz29_0, hcz29_1, hcz29_2, hcz29_3, hfz29_0, hfz29_1, hfz29_2, hfz29_3⟩ := cc4 BK412))
   go_ret
   exact ⟨se, sbw⟩
 ·have c3b0 : (a0_0 == a1_0) = false := beq_eq_false_iff_ne.mpr c3
  have c3b1 : (a0_0 != a1_0) = true := bne_iff_ne.mpr c3
  obtain rfl := Option.some.inj H
  go_enter Try.func18, Try.ntmps18
  go_wp2_with (first | ((with_reducible refine gate_dst (N := 2) rfl ?_); refine bx 2 #[.int .i64 a0_0, .int .i64 a0_1, .int .i64 a0_2, .slice A0_3 l0_3.length c0_3] 29 ?_; intro gb411 hg w30 hbox hb; have BK411 := Aside0.mk hbox; have GW411 := bz w hg; have GE411 := bz w hg; replace HB := bs hb; clear hb hbox hg) | ((with_reducible refine gate_dst (N := 3) rfl ?_); refine bx 3 #[.int .i64 a1_0, .int .i64 a1_1, .int .i64 a1_2, .slice A1_3 l1_3.length c1_3] 29 ?_; intro gb412 hg w31 hbox hb; have BK412 := Aside0.mk hbox; have GW412 := bzw w hg; have GE412 := bzw w hg; replace HB := bsw hb; have NB411_412 := nl BK411 hg; have NB412_411 := ng BK411 hg; replace BK411 := bb BK411 hb; clear hb hbox hg; have hnb32 := NB411_412.out; have hnc32 := NB412_411.out; obtain ⟨hcz33_0, hcz33_1, hcz33_2, hcz33_3, hfz33_0, hfz33_1, hfz33_2, hfz33_3⟩ := cc4 BK411; obtain ⟨hcz34_0, hcz34_1, hcz34_2, hcz34_3, hfz34_0, hfz34_1, hfz34_2, hfz34_3⟩ := cc4 BK412))
  go_ret
  exact ⟨se, sbw⟩

/-! ### laws_FnExactHopAt: function 3 -/
def laws_FnExactHopAt.f (k : Nat) (a0_0 : Int) (a0_1 : Int) (a0_2 : Int) (l0_3 : List (S139)) (a1 : Int) (a2 : Int) (a3 : Int) : Option (Bool) := (laws_szProgram.f k a0_0 a0_1 a0_2 l0_3 1048576).bind fun t415 => (if t415 < 0 then (some true) else ((laws_toProgram.f k a0_0 a0_1 a0_2 l0_3).bind fun bt416 => ((spec_HopAt.f k bt416.1 bt416.2.1 bt416.2.2.1 bt416.2.2.2 a1 a2 a3).bind fun t422 => ((laws_toProgram.f k a0_0 a0_1 a0_2 l0_3).bind fun bt423 => ((impl_HopAt.f k bt423.1 bt423.2.1 bt423.2.2.1 bt423.2.2.2 a1 a2 a3).bind fun t430 => (if t430 = t422 then ((laws_toProgram.f k a0_0 a0_1 a0_2 l0_3).bind fun bt431 => ((laws_eqProgram.f k bt423.1 bt423.2.1 bt423.2.2.1 bt423.2.2.2 bt431.1 bt431.2.1 bt431.2.2.1 bt431.2.2.2).bind fun t437 => (if t437 = true then (some true) else (some false)))) else (some false)))))))
theorem laws_FnExactHopAt.mono : ∀ a0 a1 a2 a3 a4 a5 a6 k, LeO (laws_FnExactHopAt.f k a0 a1 a2 a3 a4 a5 a6) (laws_FnExactHopAt.f (k + 1) a0 a1 a2 a3 a4 a5 a6) := by
  intro a0 a1 a2 a3 a4 a5 a6 k
  unfold laws_FnExactHopAt.f
  have m0 := @impl_HopAt.mono
  have m1 := @laws_eqProgram.mono
  have m2 := @laws_szProgram.mono
  have m3 := @laws_toProgram.mono
  have m4 := @spec_HopAt.mono
  exact mo
set_option maxHeartbeats 8000000 in
set_option maxRecDepth 100000 in
theorem laws_FnExactHopAt.calls (k : Nat) (a0_0 : Int) (a0_1 : Int) (a0_2 : Int) (A0_3 : Option Addr) (c0_3 : Nat) (l0_3 : List (S139)) (a1 : Int) (a2 : Int) (a3 : Int) (r : Bool) (w : World) (hr0_3 : Kd.C k139 w A0_3 l0_3.length l0_3) (hc0_3 : l0_3.length ≤ c0_3) (h : laws_FnExactHopAt.f k a0_0 a0_1 a0_2 l0_3 a1 a2 a3 = some r) :
    Calls Try.prog 3 #[.agg #[.int .i64 a0_0, .int .i64 a0_1, .int .i64 a0_2, .slice A0_3 l0_3.length c0_3], .int .i64 a1, .int .i64 a2, .int .i64 a3] w fun e w' => e = .returned (.bool r) ∧ Below w.heap.size w w' := by
 have hu24 := Try.underlying24
 have hu29 := Try.underlying29
 have HR0_3 := Aside0.mk hr0_3
 have HC0_3 := Aside0.mk hc0_3
 clear hr0_3 hc0_3
 have HB := Aside0.mk (Below.refl w.heap.size w)
 have H : ((laws_szProgram.f k a0_0 a0_1 a0_2 l0_3 1048576).bind fun t415 => (if t415 < 0 then (some true) else ((laws_toProgram.f k a0_0 a0_1 a0_2 l0_3).bind fun bt416 => ((spec_HopAt.f k bt416.1 bt416.2.1 bt416.2.2.1 bt416.2.2.2 a1 a2 a3).bind fun t422 => ((laws_toProgram.f k a0_0 a0_1 a0_2 l0_3).bind fun bt423 => ((impl_HopAt.f k bt423.1 bt423.2.1 bt423.2.2.1 bt423.2.2.2 a1 a2 a3).bind fun t430 => (if t430 = t422 then ((laws_toProgram.f k a0_0 a0_1 a0_2 l0_3).bind fun bt431 => ((laws_eqProgram.f k bt423.1 bt423.2.1 bt423.2.2.1 bt423.2.2.2 bt431.1 bt431.2.1 bt431.2.2.1 bt431.2.2.2).bind fun t437 => (if t437 = true then (some true) else (some false)))) else (some false)))))))) = some r := h
 clear h
 obtain ⟨t415, A5, H⟩ := bnd H
 obtain ⟨c6, H⟩ | ⟨c6, H⟩ := ie_ H
 ·have c6b0 := decide_eq_true c6
  clear c6
  obtain rfl := Option.some.inj H
  go_enter Try.func3, Try.ntmps3
  go_wp2_with (first | ((with_reducible refine gate_dst (N := 4) rfl ?_); refine bx 4 #[.int .i64 a0_0, .int .i64 a0_1, .int .i64 a0_2, .slice A0_3 l0_3.length c0_3] 24 ?_; intro gb414 hg w7 hbox hb; have BK414 := Aside0.mk hbox; have GW414 := bz w hg; have GE414 := bz w hg; replace HB := bs hb; clear hb hbox hg; obtain ⟨hcz8_0, hcz8_1, hcz8_2, hcz8_3, hfz8_0, hfz8_1, hfz8_2, hfz8_3⟩ := cc4 BK414) | ((with_reducible refine gate_callee (f := 14) rfl ?_); refine gL (some 15) Try.func14 #[.agg #[.int .i64 a0_0, .int .i64 a0_1, .int .i64 a0_2, .slice A0_3 l0_3.length c0_3], .int .i64 1048576] ?_; (with_reducible refine (laws_szProgram.calls k a0_0 a0_1 a0_2 _ _ l0_3 1048576 t415 _ ?side1 ?side2 A5.out).mono ?_); (case side1 => exact cb HR0_3); (case side2 => exact HC0_3.out); rintro e w9 ⟨rfl, hb⟩; refine ⟨_, rfl, ?_⟩; replace BK414 := bb BK414 hb; replace HB := bsw hb; (try clear hb); (try clear hb2); (try clear hk); (try clear hi)))
  go_ret
  exact ⟨se, sbw⟩
 ·have c6b0 := decide_eq_false c6
  clear c6
  obtain ⟨⟨t416, t417, t418, t419⟩, A10, H⟩ := bnd H
  replace H : ((spec_HopAt.f k t416 t417 t418 t419 a1 a2 a3).bind fun t422 => ((laws_toProgram.f k a0_0 a0_1 a0_2 l0_3).bind fun bt423 => ((impl_HopAt.f k bt423.1 bt423.2.1 bt423.2.2.1 bt423.2.2.2 a1 a2 a3).bind fun t430 => (if t430 = t422 then ((laws_toProgram.f k a0_0 a0_1 a0_2 l0_3).bind fun bt431 => ((laws_eqProgram.f k bt423.1 bt423.2.1 bt423.2.2.1 bt423.2.2.2 bt431.1 bt431.2.1 bt431.2.2.1 bt431.2.2.2).bind fun t437 => (if t437 = true then (some true) else (some false)))) else (some false))))) = some r := H
  obtain ⟨t422, A11, H⟩ := bnd H
  obtain ⟨⟨t423, t424, t425, t426⟩, A12, H⟩ := bnd H
  replace H : ((impl_HopAt.f k t423 t424 t425 t426 a1 a2 a3).bind fun t430 => (if t430 = t422 then ((laws_toProgram.f k a0_0 a0_1 a0_2 l0_3).bind fun bt431 => ((laws_eqProgram.f k t423 t424 t425 t426 bt431.1 bt431.2.1 bt431.2.2.1 bt431.2.2.2).bind fun t437 => (if t437 = true then (some true) else (some false)))) else (some false))) = some r := H
  obtain ⟨t430, A13, H⟩ := bnd H
  obtain ⟨c14, H⟩ | ⟨c14, H⟩ := ie_ H
  ·have c14b0 : (t430 == t422) = true := beq_iff_eq.mpr c14
   have c14b1 : (t430 != t422) = false := bne_eq_false_iff_eq.mpr c14
   clear c14
   obtain ⟨⟨t431, t432, t433, t434⟩, A15, H⟩ := bnd H
   replace H : ((laws_eqProgram.f k t423 t424 t425 t426 t431 t432 t433 t434).bind fun t437 => (if t437 = true then (some true) else (some false))) = some r := H
   obtain ⟨t437, A16, H⟩ := bnd H
   obtain rfl | rfl := tt t437
   ·replace H := ip H
    obtain rfl := Option.some.inj H
    go_enter Try.func3, Try.ntmps3
    try go_wp2_with (first | ((with_reducible refine gate_dst (N := 4) rfl ?_); refine bx 4 #[.int .i64 a0_0, .int .i64 a0_1, .int .i64 a0_2, .slice A0_3 l0_3.length c0_3] 24 ?_; intro gb414 hg w18 hbox hb; have BK414 := Aside0.mk hbox; have GW414 := bz w hg; have GE414 := bz w hg; replace HB := bs hb; clear hb hbox hg; obtain ⟨hcz19_0, hcz19_1, hcz19_2, hcz19_3, hfz19_0, hfz19_1, hfz19_2, hfz19_3⟩ := cc4 BK414) | ((with_reducible refine gate_callee (f := 14) rfl ?_); refine gL (some 15) Try.func14 #[.agg #[.int .i64 a0_0, .int .i64 a0_1, .int .i64 a0_2, .slice A0_3 l0_3.length c0_3], .int .i64 1048576] ?_; (with_reducible refine (laws_szProgram.calls k a0_0 a0_1 a0_2 _ _ l0_3 1048576 t415 _ ?side1 ?side2 A5.out).mono ?_); (case side1 => exact cb HR0_3); (case side2 => exact HC0_3.out); rintro e w20 ⟨rfl, hb⟩; refine ⟨_, rfl, ?_⟩; replace BK414 := bb BK414 hb; replace HB := bsw hb; (try clear hb); (try clear hb2); (try clear hk); (try clear hi); obtain ⟨hcz21_0, hcz21_1, hcz21_2, hcz21_3, hfz21_0, hfz21_1, hfz21_2, hfz21_3⟩ := cc4 BK414) | ((with_reducible refine gate_callee (f := 16) rfl ?_); refine gL (some 19) Try.func16 #[.agg #[.int .i64 a0_0, .int .i64 a0_1, .int .i64 a0_2, .slice A0_3 l0_3.length c0_3]] ?_; (with_reducible refine (laws_toProgram.calls k a0_0 a0_1 a0_2 _ _ l0_3 t416 t417 t418 t419 _ ?side1 ?side2 A10.out).mono ?_); (case side1 => exact cb HR0_3); (case side2 => exact HC0_3.out); rintro e w22 ⟨v420, rfl, ho0, hb⟩; refine ⟨_, rfl, ?_⟩; have HO421 := Aside0.mk (Kd.R_lower ho0 (below_size (sbw))); replace BK414 := bb BK414 hb; replace HB := bsw hb; (try clear hb); (try clear hb2); (try clear hk); (try clear hi); (try clear ho0); obtain ⟨Ao23, co23, eo23⟩ := Kd.R_slice HO421.out; subst eo23) | ((with_reducible refine gate_callee (f := 15) rfl ?_); refine gL (some 23) Try.func15 #[.agg #[.int .i64 t416, .int .i64 t417, .int .i64 t418, .slice Ao23 t419.length co23], .int .i64 a1, .int .i64 a2, .int .i64 a3] ?_; (with_reducible refine (spec_HopAt.calls k t416 t417 t418 _ _ t419 a1 a2 a3 t422 _ ?side1 ?side2 A11.out).mono ?_); (case side1 => repeat (first | exact (Kd.R_reads' HO421.out).2.2 | (with_reducible refine Kd.C_alloc ?_ _) | (with_reducible refine Kd.C_drewN ?_ _) | (with_reducible refine Kd.C_drew ?_))); (case side2 => exact (Kd.R_reads' HO421.out).2.1); rintro e w24 ⟨rfl, hb⟩; refine ⟨_, rfl, ?_⟩; replace HO421 := Aside0.mk (Kd.R_below (sr HO421) hb); replace BK414 := bb BK414 hb; replace HB := bsw hb; (try clear hb); (try clear hb2); (try clear hk); (try clear hi); obtain ⟨hcz25_0, hcz25_1, hcz25_2, hcz25_3, hfz25_0, hfz25_1, hfz25_2, hfz25_3⟩ := cc4 BK414) | ((with_reducible refine gate_callee (f := 16) rfl ?_); refine gL (some 25) Try.func16 #[.agg #[.int .i64 a0_0, .int .i64 a0_1, .int .i64 a0_2, .slice A0_3 l0_3.length c0_3]] ?_; (with_reducible refine (laws_toProgram.calls k a0_0 a0_1 a0_2 _ _ l0_3 t423 t424 t425 t426 _ ?side1 ?side2 A12.out).mono ?_); (case side1 => exact cb HR0_3); (case side2 => exact HC0_3.out); rintro e w26 ⟨v427, rfl, ho0, hb⟩; refine ⟨_, rfl, ?_⟩; have HO428 := Aside0.mk (Kd.R_lower (Kd.R_new' ho0 (Kd.R_lt (sr HO421))) (below_size (sbw))); replace HO421 := Aside0.mk (Kd.R_elder' (sr HO421) (Kd.R_base ho0) hb); replace BK414 := bb BK414 hb; replace HB := bsw hb; (try clear hb); (try clear hb2); (try clear hk); (try clear hi); (try clear ho0)) | ((with_reducible refine gate_dst (N := 11) rfl ?_); refine bx 11 #[.int .i64 0, .int .i64 0, .int .i64 0, .slice none 0 0] 29 ?_; intro gb429 hg w27 hbox hb; replace HO421 := Aside0.mk (Kd.R_below (sr HO421) hb); replace HO428 := Aside0.mk (Kd.R_below (sr HO428) hb); have BK429 := Aside0.mk hbox; have GW429 := bzw w hg; have GE429 := bzw w hg; replace HB := bsw hb; have NB414_429 := nl BK414 hg; have NB429_414 := ng BK414 hg; replace BK414 := bb BK414 hb; clear hb hbox hg; have hnb28 := NB429_414.out; have hnc28 := NB414_429.out; obtain ⟨hcz29_0, hcz29_1, hcz29_2, hcz29_3, hfz29_0, hfz29_1, hfz29_2, hfz29_3⟩ := cc4 BK429; obtain ⟨Ao30, co30, eo30⟩ := Kd.R_slice HO428.out; subst eo30) | ((with_reducible refine gate_callee (f := 17) rfl ?_); refine gL (some 30) Try.func17 #[.agg #[.int .i64 t423, .int .i64 t424, .int .i64 t425, .slice Ao30 t426.length co30], .int .i64 a1, .int .i64 a2, .int .i64 a3] ?_; (with_reducible refine (impl_HopAt.calls k t423 t424 t425 _ _ t426 a1 a2 a3 t430 _ ?side1 ?side2 A13.out).mono ?_); (case side1 => refine (Kd.R_reads' (e := 106) (base := w.heap.size) (ok := fun k_ => (True ∧ some k_ ≠ (.slice Ao23 t419.length co23 : Value).ownBlock)) (n := t426.length) (c := co30) ?_).2.2; exact (by (with_reducible repeat (first | apply Kd.R_alloc | apply Kd.R_drewN | apply Kd.R_drew)); exact (Kd.R_mono (Kd.R_far (p := ⟨gb429, 3, none⟩) (Kd.R_far (p := ⟨gb429, 2, none⟩) (Kd.R_far (p := ⟨gb429, 1, none⟩) (Kd.R_far (p := ⟨gb429, 0, none⟩) (Kd.R_types HO428.out BK429.out (by decide)) (fun _ hk => hk.2) (.int .i64 t423)) (fun _ hk => hk.2) (.int .i64 t424)) (fun _ hk => hk.2) (.int .i64 t425)) (fun _ hk => hk.2) (.slice Ao30 t426.length co30)) (fun _ h_ => h_.1)))); (case side2 => exact (Kd.R_reads' HO428.out).2.1); rintro e w31 ⟨rfl, hb⟩; refine ⟨_, rfl, ?_⟩; replace HO421 := Aside0.mk (Kd.R_below (by (with_reducible repeat (first | apply Kd.R_alloc | apply Kd.R_drewN | apply Kd.R_drew)); exact (Kd.R_mono (Kd.R_far (p := ⟨gb429, 3, none⟩) (Kd.R_far (p := ⟨gb429, 2, none⟩) (Kd.R_far (p := ⟨gb429, 1, none⟩) (Kd.R_far (p := ⟨gb429, 0, none⟩) (Kd.R_types HO421.out BK429.out (by decide)) (fun _ hk => hk.2) (.int .i64 t423)) (fun _ hk => hk.2) (.int .i64 t424)) (fun _ hk => hk.2) (.int .i64 t425)) (fun _ hk => hk.2) (.slice Ao30 t426.length co30)) (fun _ h_ => h_.1))) hb); replace HO428 := Aside0.mk (Kd.R_below (by (with_reducible repeat (first | apply Kd.R_alloc | apply Kd.R_drewN | apply Kd.R_drew)); exact (Kd.R_mono (Kd.R_far (p := ⟨gb429, 3, none⟩) (Kd.R_far (p := ⟨gb429, 2, none⟩) (Kd.R_far (p := ⟨gb429, 1, none⟩) (Kd.R_far (p := ⟨gb429, 0, none⟩) (Kd.R_types HO428.out BK429.out (by decide)) (fun _ hk => hk.2) (.int .i64 t423)) (fun _ hk => hk.2) (.int .i64 t424)) (fun _ hk => hk.2) (.int .i64 t425)) (fun _ hk => hk.2) (.slice Ao30 t426.length co30)) (fun _ h_ => h_.1))) hb); replace BK414 := Aside0.mk (blk_below (g := gb414) (o := .cells #[.int .i64 a0_0, .int .i64 a0_1, .int .i64 a0_2, .slice A0_3 l0_3.length c0_3] 24 (0, 0)) (sp BK414) hb); replace BK429 := Aside0.mk (blk_below (g := gb429) (o := .cells #[.int .i64 t423, .int .i64 t424, .int .i64 t425, .slice Ao30 t426.length co30] 29 (0, 0)) (sp BK429) hb); replace HB := bsw hb; (try clear hb); (try clear hb2); (try clear hk); (try clear hi)))
    replace HO421 := Aside0.mk (Kd.R_drew HO421.out)
    replace HO428 := Aside0.mk (Kd.R_drew HO428.out)
    replace BK414 := Aside0.mk (blk_drew BK414.out)
    replace BK429 := Aside0.mk (blk_drew BK429.out)
    replace HB := Aside0.mk (below_drew1 HB.out)
    refine start_ (n := 5) (S := fun w' => w'.cell? ⟨gb429, 0, none⟩ = some (.int .i64 t423) ∧ w'.cell? ⟨gb429, 1, none⟩ = some (.int .i64 t424) ∧ w'.cell? ⟨gb429, 2, none⟩ = some (.int .i64 t425) ∧ w'.cell? ⟨gb429, 3, none⟩ = some (.slice Ao30 t426.length co30) ∧ w'.cell? ⟨gb414, 0, none⟩ = some (.int .i64 a0_0) ∧ w'.cell? ⟨gb414, 1, none⟩ = some (.int .i64 a0_1) ∧ w'.cell? ⟨gb414, 2, none⟩ = some (.int .i64 a0_2) ∧ w'.cell? ⟨gb414, 3, none⟩ = some (.slice A0_3 l0_3.length c0_3)) (ds := []) #[false, false, false, false, false] (by kernel_rfl) rfl rfl ⟨bc0 BK429, bc1 BK429, bc2 BK429, bc3 BK429, bc0 BK414, bc1 BK414, bc2 BK414, bc3 BK414⟩ (fun hHeld => ?_)
    generalize w31.drew = w32 at HO421 HO428 BK414 BK429 HB hHeld ⊢
    refine ta8 0 34 #[true, false, false, false, false] hHeld ?_
    refine ta8 1 35 #[true, true, false, false, false] hHeld ?_
    refine one_ (i := 2) (N := some 36) #[true, true, true, false, false] rfl rfl (by kernel_rfl) (by decide) (fun K hK => ?_)
    refine goes_ Try.func16 (by kernel_rfl) rfl #[.agg #[.int .i64 a0_0, .int .i64 a0_1, .int .i64 a0_2, .slice A0_3 l0_3.length c0_3]] (by rfl) rfl rfl sl ?_
    with_reducible refine (laws_toProgram.calls k a0_0 a0_1 a0_2 _ _ l0_3 t431 t432 t433 t434 _ ?side1 ?side2 A15.out).mono ?_
    (case side1 => exact cb HR0_3)
    (case side2 => exact HC0_3.out)
    rintro e w33 ⟨v435, rfl, ho0, hb⟩
    refine ⟨_, rfl, ?_⟩
    have HO436 := Aside0.mk (Kd.R_lower (Kd.R_new' (Kd.R_new' ho0 (Kd.R_lt (sr HO421))) (Kd.R_lt (sr HO428))) (below_size (sbw)))
    replace HO421 := Aside0.mk (Kd.R_elder' (sr HO421) (Kd.R_base ho0) hb)
    replace HO428 := Aside0.mk (Kd.R_elder' (sr HO428) (Kd.R_base ho0) hb)
    replace BK414 := bb BK414 hb
    replace BK429 := bb BK429 hb
    replace HB := bsw hb
    (try clear hb)
    (try clear hb2)
    (try clear hk)
    (try clear hi)
    (try clear ho0)
    obtain ⟨Ao34, co34, eo34⟩ := Kd.R_slice HO436.out
    (first | subst eo34 | (injection eo34 with f1_ f2_ f3_; have f4_ := f1_.symm; have f5_ := f3_.symm; clear f1_ f2_ f3_; subst f4_; subst f5_))
    refine hK.out _ _ ⟨bc0 BK429, bc1 BK429, bc2 BK429, bc3 BK429, bc0 BK414, bc1 BK414, bc2 BK414, bc3 BK414⟩ (fun hHeld => ?_)
    clear hK K
    refine norm_ (a' := ?_) ?_ ?_
    rotate_left
    ·show Act.put _ (some 36) _ = _
     simp only [Act.put, List.setIfInBounds_toArray, List.set_cons_zero, List.set_cons_succ, i64_w, i32_w]
     rfl
    refine one_ (i := 3) (N := some 37) #[true, true, true, true, false] rfl rfl (by kernel_rfl) (by decide) (fun K hK => ?_)
    refine goes_ Try.func18 (by kernel_rfl) rfl #[.agg #[.int .i64 t423, .int .i64 t424, .int .i64 t425, .slice Ao30 t426.length co30], .agg #[.int .i64 t431, .int .i64 t432, .int .i64 t433, .slice Ao34 t434.length co34]] (by rfl) rfl rfl sl ?_
    with_reducible refine (laws_eqProgram.calls k t423 t424 t425 _ _ t426 t431 t432 t433 _ _ t434 true _ ?side1 ?side2 ?side3 ?side4 A16.out).mono ?_
    (case side1 => repeat (first | exact (Kd.R_reads' HO428.out).2.2 | (with_reducible refine Kd.C_alloc ?_ _) | (with_reducible refine Kd.C_drewN ?_ _) | (with_reducible refine Kd.C_drew ?_)))
    (case side2 => exact (Kd.R_reads' HO428.out).2.1)
    (case side3 => repeat (first | exact (Kd.R_reads' HO436.out).2.2 | (with_reducible refine Kd.C_alloc ?_ _) | (with_reducible refine Kd.C_drewN ?_ _) | (with_reducible refine Kd.C_drew ?_)))
    (case side4 => exact (Kd.R_reads' HO436.out).2.1)
    rintro e w35 ⟨rfl, hb⟩
    refine ⟨_, rfl, ?_⟩
    replace HO421 := Aside0.mk (Kd.R_below (sr HO421) hb)
    replace HO428 := Aside0.mk (Kd.R_below (sr HO428) hb)
    replace HO436 := Aside0.mk (Kd.R_below (sr HO436) hb)
    replace BK414 := bb BK414 hb
    replace BK429 := bb BK429 hb
    replace HB := bsw hb
    (try clear hb)
    (try clear hb2)
    (try clear hk)
    (try clear hi)
    refine hK.out _ _ ⟨bc0 BK429, bc1 BK429, bc2 BK429, bc3 BK429, bc0 BK414, bc1 BK414, bc2 BK414, bc3 BK414⟩ (fun hHeld => ?_)
    clear hK K
    refine norm_ (a' := ?_) ?_ ?_
    rotate_left
    ·show Act.put _ (some 37) _ = _
     simp only [Act.put, List.setIfInBounds_toArray, List.set_cons_zero, List.set_cons_succ, i64_w, i32_w]
     rfl
    refine pu 4 38 #[true, true, true, true, true] ?_
    refine done_ (by kernel_rfl) ?_
    try go_wp2
    go_ret
    exact ⟨se, sbw⟩
   ·replace H := im H
    obtain rfl := Option.some.inj H
    go_enter Try.func3, Try.ntmps3
    try go_wp2_with (first | ((with_reducible refine gate_dst (N := 4) rfl ?_); refine bx 4 #[.int .i64 a0_0, .int .i64 a0_1, .int .i64 a0_2, .slice A0_3 l0_3.length c0_3] 24 ?_; intro gb414 hg w36 hbox hb; have BK414 := Aside0.mk hbox; have GW414 := bz w hg; have GE414 := bz w hg; replace HB := bs hb; clear hb hbox hg; obtain ⟨hcz37_0, hcz37_1, hcz37_2, hcz37_3, hfz37_0, hfz37_1, hfz37_2, hfz37_3⟩ := cc4 BK414) | ((with_reducible refine gate_callee (f := 14) rfl ?_); refine gL (some 15) Try.func14 #[.agg #[.int .i64 a0_0, .int .i64 a0_1, .int .i64 a0_2, .slice A0_3 l0_3.length c0_3], .int .i64 1048576] ?_; (with_reducible refine (laws_szProgram.calls k a0_0 a0_1 a0_2 _ _ l0_3 1048576 t415 _ ?side1 ?side2 A5.out).mono ?_); (case side1 => exact cb HR0_3); (case side2 => exact HC0_3.out); rintro e w38 ⟨rfl, hb⟩; refine ⟨_, rfl, ?_⟩; replace BK414 := bb BK414 hb; replace HB := bsw hb; (try clear hb); (try clear hb2); (try clear hk); (try clear hi); obtain ⟨hcz39_0, hcz39_1, hcz39_2, hcz39_3, hfz39_0, hfz39_1, hfz39_2, hfz39_3⟩ := cc4 BK414) | ((with_reducible refine gate_callee (f := 16) rfl ?_); refine gL (some 19) Try.func16 #[.agg #[.int .i64 a0_0, .int .i64 a0_1, .int .i64 a0_2, .slice A0_3 l0_3.length c0_3]] ?_; (with_reducible refine (laws_toProgram.calls k a0_0 a0_1 a0_2 _ _ l0_3 t416 t417 t418 t419 _ ?side1 ?side2 A10.out).mono ?_); (case side1 => exact cb HR0_3); (case side2 => exact HC0_3.out); rintro e w40 ⟨v420, rfl, ho0, hb⟩; refine ⟨_, rfl, ?_⟩; have HO421 := Aside0.mk (Kd.R_lower ho0 (below_size (sbw))); replace BK414 := bb BK414 hb; replace HB := bsw hb; (try clear hb); (try clear hb2); (try clear hk); (try clear hi); (try clear ho0); obtain ⟨Ao41, co41, eo41⟩ := Kd.R_slice HO421.out; subst eo41) | ((with_reducible refine gate_callee (f := 15) rfl ?_); refine gL (some 23) Try.func15 #[.agg #[.int .i64 t416, .int .i64 t417, .int .i64 t418, .slice Ao41 t419.length co41], .int .i64 a1, .int .i64 a2, .int .i64 a3] ?_; (with_reducible refine (spec_HopAt.calls k t416 t417 t418 _ _ t419 a1 a2 a3 t422 _ ?side1 ?side2 A11.out).mono ?_); (case side1 => repeat (first | exact (Kd.R_reads' HO421.out).2.2 | (with_reducible refine Kd.C_alloc ?_ _) | (with_reducible refine Kd.C_drewN ?_ _) | (with_reducible refine Kd.C_drew ?_))); (case side2 => exact (Kd.R_reads' HO421.out).2.1); rintro e w42 ⟨rfl, hb⟩; refine ⟨_, rfl, ?_⟩; replace HO421 := Aside0.mk (Kd.R_below (sr HO421) hb); replace BK414 := bb BK414 hb; replace HB := bsw hb; (try clear hb); (try clear hb2); (try clear hk); (try clear hi); obtain ⟨hcz43_0, hcz43_1, hcz43_2, hcz43_3, hfz43_0, hfz43_1, hfz43_2, hfz43_3⟩ := cc4 BK414) | ((with_reducible refine gate_callee (f := 16) rfl ?_); refine gL (some 25) Try.func16 #[.agg #[.int .i64 a0_0, .int .i64 a0_1, .int .i64 a0_2, .slice A0_3 l0_3.length c0_3]] ?_; (with_reducible refine (laws_toProgram.calls k a0_0 a0_1 a0_2 _ _ l0_3 t423 t424 t425 t426 _ ?side1 ?side2 A12.out).mono ?_); (case side1 => exact cb HR0_3); (case side2 => exact HC0_3.out); rintro e w44 ⟨v427, rfl, ho0, hb⟩; refine ⟨_, rfl, ?_⟩; have HO428 := Aside0.mk (Kd.R_lower (Kd.R_new' ho0 (Kd.R_lt (sr HO421))) (below_size (sbw))); replace HO421 := Aside0.mk (Kd.R_elder' (sr HO421) (Kd.R_base ho0) hb); replace BK414 := bb BK414 hb; replace HB := bsw hb; (try clear hb); (try clear hb2); (try clear hk); (try clear hi); (try clear ho0)) | ((with_reducible refine gate_dst (N := 11) rfl ?_); refine bx 11 #[.int .i64 0, .int .i64 0, .int .i64 0, .slice none 0 0] 29 ?_; intro gb429 hg w45 hbox hb; replace HO421 := Aside0.mk (Kd.R_below (sr HO421) hb); replace HO428 := Aside0.mk (Kd.R_below (sr HO428) hb); have BK429 := Aside0.mk hbox; have GW429 := bzw w hg; have GE429 := bzw w hg; replace HB := bsw hb; have NB414_429 := nl BK414 hg; have NB429_414 := ng BK414 hg; replace BK414 := bb BK414 hb; clear hb hbox hg; have hnb46 := NB429_414.out; have hnc46 := NB414_429.out; obtain ⟨hcz47_0, hcz47_1, hcz47_2, hcz47_3, hfz47_0, hfz47_1, hfz47_2, hfz47_3⟩ := cc4 BK429; obtain ⟨Ao48, co48, eo48⟩ := Kd.R_slice HO428.out; subst eo48) | ((with_reducible refine gate_callee (f := 17) rfl ?_); refine gL (some 30) Try.func17 #[.agg #[.int .i64 t423, .int .i64 t424, .int .i64 t425, .slice Ao48 t426.length co48], .int .i64 a1, .int .i64 a2, .int .i64 a3] ?_; (with_reducible refine (impl_HopAt.calls k t423 t424 t425 _ _ t426 a1 a2 a3 t430 _ ?side1 ?side2 A13.out).mono ?_); (case side1 => refine (Kd.R_reads' (e := 106) (base := w.heap.size) (ok := fun k_ => (True ∧ some k_ ≠ (.slice Ao41 t419.length co41 : Value).ownBlock)) (n := t426.length) (c := co48) ?_).2.2; exact (by (with_reducible repeat (first | apply Kd.R_alloc | apply Kd.R_drewN | apply Kd.R_drew)); exact (Kd.R_mono (Kd.R_far (p := ⟨gb429, 3, none⟩) (Kd.R_far (p := ⟨gb429, 2, none⟩) (Kd.R_far (p := ⟨gb429, 1, none⟩) (Kd.R_far (p := ⟨gb429, 0, none⟩) (Kd.R_types HO428.out BK429.out (by decide)) (fun _ hk => hk.2) (.int .i64 t423)) (fun _ hk => hk.2) (.int .i64 t424)) (fun _ hk => hk.2) (.int .i64 t425)) (fun _ hk => hk.2) (.slice Ao48 t426.length co48)) (fun _ h_ => h_.1)))); (case side2 => exact (Kd.R_reads' HO428.out).2.1); rintro e w49 ⟨rfl, hb⟩; refine ⟨_, rfl, ?_⟩; replace HO421 := Aside0.mk (Kd.R_below (by (with_reducible repeat (first | apply Kd.R_alloc | apply Kd.R_drewN | apply Kd.R_drew)); exact (Kd.R_mono (Kd.R_far (p := ⟨gb429, 3, none⟩) (Kd.R_far (p := ⟨gb429, 2, none⟩) (Kd.R_far (p := ⟨gb429, 1, none⟩) (Kd.R_far (p := ⟨gb429, 0, none⟩) (Kd.R_types HO421.out BK429.out (by decide)) (fun _ hk => hk.2) (.int .i64 t423)) (fun _ hk => hk.2) (.int .i64 t424)) (fun _ hk => hk.2) (.int .i64 t425)) (fun _ hk => hk.2) (.slice Ao48 t426.length co48)) (fun _ h_ => h_.1))) hb); replace HO428 := Aside0.mk (Kd.R_below (by (with_reducible repeat (first | apply Kd.R_alloc | apply Kd.R_drewN | apply Kd.R_drew)); exact (Kd.R_mono (Kd.R_far (p := ⟨gb429, 3, none⟩) (Kd.R_far (p := ⟨gb429, 2, none⟩) (Kd.R_far (p := ⟨gb429, 1, none⟩) (Kd.R_far (p := ⟨gb429, 0, none⟩) (Kd.R_types HO428.out BK429.out (by decide)) (fun _ hk => hk.2) (.int .i64 t423)) (fun _ hk => hk.2) (.int .i64 t424)) (fun _ hk => hk.2) (.int .i64 t425)) (fun _ hk => hk.2) (.slice Ao48 t426.length co48)) (fun _ h_ => h_.1))) hb); replace BK414 := Aside0.mk (blk_below (g := gb414) (o := .cells #[.int .i64 a0_0, .int .i64 a0_1, .int .i64 a0_2, .slice A0_3 l0_3.length c0_3] 24 (0, 0)) (sp BK414) hb); replace BK429 := Aside0.mk (blk_below (g := gb429) (o := .cells #[.int .i64 t423, .int .i64 t424, .int .i64 t425, .slice Ao48 t426.length co48] 29 (0, 0)) (sp BK429) hb); replace HB := bsw hb; (try clear hb); (try clear hb2); (try clear hk); (try clear hi)))
    replace HO421 := Aside0.mk (Kd.R_drew HO421.out)
    replace HO428 := Aside0.mk (Kd.R_drew HO428.out)
    replace BK414 := Aside0.mk (blk_drew BK414.out)
    replace BK429 := Aside0.mk (blk_drew BK429.out)
    replace HB := Aside0.mk (below_drew1 HB.out)
    refine start_ (n := 5) (S := fun w' => w'.cell? ⟨gb429, 0, none⟩ = some (.int .i64 t423) ∧ w'.cell? ⟨gb429, 1, none⟩ = some (.int .i64 t424) ∧ w'.cell? ⟨gb429, 2, none⟩ = some (.int .i64 t425) ∧ w'.cell? ⟨gb429, 3, none⟩ = some (.slice Ao48 t426.length co48) ∧ w'.cell? ⟨gb414, 0, none⟩ = some (.int .i64 a0_0) ∧ w'.cell? ⟨gb414, 1, none⟩ = some (.int .i64 a0_1) ∧ w'.cell? ⟨gb414, 2, none⟩ = some (.int .i64 a0_2) ∧ w'.cell? ⟨gb414, 3, none⟩ = some (.slice A0_3 l0_3.length c0_3)) (ds := []) #[false, false, false, false, false] (by kernel_rfl) rfl rfl ⟨bc0 BK429, bc1 BK429, bc2 BK429, bc3 BK429, bc0 BK414, bc1 BK414, bc2 BK414, bc3 BK414⟩ (fun hHeld => ?_)
    generalize w49.drew = w50 at HO421 HO428 BK414 BK429 HB hHeld ⊢
    refine ta8 0 34 #[true, false, false, false, false] hHeld ?_
    refine ta8 1 35 #[true, true, false, false, false] hHeld ?_
    refine one_ (i := 2) (N := some 36) #[true, true, true, false, false] rfl rfl (by kernel_rfl) (by decide) (fun K hK => ?_)
    refine goes_ Try.func16 (by kernel_rfl) rfl #[.agg #[.int .i64 a0_0, .int .i64 a0_1, .int .i64 a0_2, .slice A0_3 l0_3.length c0_3]] (by rfl) rfl rfl sl ?_
    with_reducible refine (laws_toProgram.calls k a0_0 a0_1 a0_2 _ _ l0_3 t431 t432 t433 t434 _ ?side1 ?side2 A15.out).mono ?_
    (case side1 => exact cb HR0_3)
    (case side2 => exact HC0_3.out)
    rintro e w51 ⟨v435, rfl, ho0, hb⟩
    refine ⟨_, rfl, ?_⟩
    have HO436 := Aside0.mk (Kd.R_lower (Kd.R_new' (Kd.R_new' ho0 (Kd.R_lt (sr HO421))) (Kd.R_lt (sr HO428))) (below_size (sbw)))
    replace HO421 := Aside0.mk (Kd.R_elder' (sr HO421) (Kd.R_base ho0) hb)
    replace HO428 := Aside0.mk (Kd.R_elder' (sr HO428) (Kd.R_base ho0) hb)
    replace BK414 := bb BK414 hb
    replace BK429 := bb BK429 hb
    replace HB := bsw hb
    (try clear hb)
    (try clear hb2)
    (try clear hk)
    (try clear hi)
    (try clear ho0)
    obtain ⟨Ao52, co52, eo52⟩ := Kd.R_slice HO436.out
    (first | subst eo52 | (injection eo52 with f1_ f2_ f3_; have f4_ := f1_.symm; have f5_ := f3_.symm; clear f1_ f2_ f3_; subst f4_; subst f5_))
    refine hK.out _ _ ⟨bc0 BK429, bc1 BK429, bc2 BK429, bc3 BK429, bc0 BK414, bc1 BK414, bc2 BK414, bc3 BK414⟩ (fun hHeld => ?_)
    clear hK K
    refine norm_ (a' := ?_) ?_ ?_
    rotate_left
    ·show Act.put _ (some 36) _ = _
     simp only [Act.put, List.setIfInBounds_toArray, List.set_cons_zero, List.set_cons_succ, i64_w, i32_w]
     rfl
    refine one_ (i := 3) (N := some 37) #[true, true, true, true, false] rfl rfl (by kernel_rfl) (by decide) (fun K hK => ?_)
    refine goes_ Try.func18 (by kernel_rfl) rfl #[.agg #[.int .i64 t423, .int .i64 t424, .int .i64 t425, .slice Ao48 t426.length co48], .agg #[.int .i64 t431, .int .i64 t432, .int .i64 t433, .slice Ao52 t434.length co52]] (by rfl) rfl rfl sl ?_
    with_reducible refine (laws_eqProgram.calls k t423 t424 t425 _ _ t426 t431 t432 t433 _ _ t434 false _ ?side1 ?side2 ?side3 ?side4 A16.out).mono ?_
    (case side1 => repeat (first | exact (Kd.R_reads' HO428.out).2.2 | (with_reducible refine Kd.C_alloc ?_ _) | (with_reducible refine Kd.C_drewN ?_ _) | (with_reducible refine Kd.C_drew ?_)))
    (case side2 => exact (Kd.R_reads' HO428.out).2.1)
    (case side3 => repeat (first | exact (Kd.R_reads' HO436.out).2.2 | (with_reducible refine Kd.C_alloc ?_ _) | (with_reducible refine Kd.C_drewN ?_ _) | (with_reducible refine Kd.C_drew ?_)))
    (case side4 => exact (Kd.R_reads' HO436.out).2.1)
    rintro e w53 ⟨rfl, hb⟩
    refine ⟨_, rfl, ?_⟩
    replace HO421 := Aside0.mk (Kd.R_below (sr HO421) hb)
    replace HO428 := Aside0.mk (Kd.R_below (sr HO428) hb)
    replace HO436 := Aside0.mk (Kd.R_below (sr HO436) hb)
    replace BK414 := bb BK414 hb
    replace BK429 := bb BK429 hb
    replace HB := bsw hb
    (try clear hb)
    (try clear hb2)
    (try clear hk)
    (try clear hi)
    refine hK.out _ _ ⟨bc0 BK429, bc1 BK429, bc2 BK429, bc3 BK429, bc0 BK414, bc1 BK414, bc2 BK414, bc3 BK414⟩ (fun hHeld => ?_)
    clear hK K
    refine norm_ (a' := ?_) ?_ ?_
    rotate_left
    ·show Act.put _ (some 37) _ = _
     simp only [Act.put, List.setIfInBounds_toArray, List.set_cons_zero, List.set_cons_succ, i64_w, i32_w]
     rfl
    refine pu 4 38 #[true, true, true, true, true] ?_
    refine done_ (by kernel_rfl) ?_
    try go_wp2
    go_ret
    exact ⟨se, sbw⟩
  ·have c14b0 : (t430 == t422) = false := beq_eq_false_iff_ne.mpr c14
   have c14b1 : (t430 != t422) = true := bne_iff_ne.mpr c14
   obtain rfl := Option.some.inj H
   go_enter Try.func3, Try.ntmps3
   go_wp2_with (first | ((with_reducible refine gate_dst (N := 4) rfl ?_); refine bx 4 #[.int .i64 a0_0, .int .i64 a0_1, .int .i64 a0_2, .slice A0_3 l0_3.length c0_3] 24 ?_; intro gb414 hg w54 hbox hb; have BK414 := Aside0.mk hbox; have GW414 := bz w hg; have GE414 := bz w hg; replace HB := bs hb; clear hb hbox hg; obtain ⟨hcz55_0, hcz55_1, hcz55_2, hcz55_3, hfz55_0, hfz55_1, hfz55_2, hfz55_3⟩ := cc4 BK414) | ((with_reducible refine gate_callee (f := 14) rfl ?_); refine gL (some 15) Try.func14 #[.agg #[.int .i64 a0_0, .int .i64 a0_1, .int .i64 a0_2, .slice A0_3 l0_3.length c0_3], .int .i64 1048576] ?_; (with_reducible refine (laws_szProgram.calls k a0_0 a0_1 a0_2 _ _ l0_3 1048576 t415 _ ?side1 ?side2 A5.out).mono ?_); (case side1 => exact cb HR0_3); (case side2 => exact HC0_3.out); rintro e w56 ⟨rfl, hb⟩; refine ⟨_, rfl, ?_⟩; replace BK414 := bb BK414 hb; replace HB := bsw hb; (try clear hb); (try clear hb2); (try clear hk); (try clear hi); obtain ⟨hcz57_0, hcz57_1, hcz57_2, hcz57_3, hfz57_0, hfz57_1, hfz57_2, hfz57_3⟩ := cc4 BK414) | ((with_reducible refine gate_callee (f := 16) rfl ?_); refine gL (some 19) Try.func16 #[.agg #[.int .i64 a0_0, .int .i64 a0_1, .int .i64 a0_2, .slice A0_3 l0_3.length c0_3]] ?_; (with_reducible refine (laws_toProgram.calls k a0_0 a0_1 a0_2 _ _ l0_3 t416 t417 t418 t419 _ ?side1 ?side2 A10.out).mono ?_); (case side1 => exact cb HR0_3); (case side2 => exact HC0_3.out); rintro e w58 ⟨v420, rfl, ho0, hb⟩; refine ⟨_, rfl, ?_⟩; have HO421 := Aside0.mk (Kd.R_lower ho0 (below_size (sbw))); replace BK414 := bb BK414 hb; replace HB := bsw hb; (try clear hb); (try clear hb2); (try clear hk); (try clear hi); (try clear ho0); obtain ⟨Ao59, co59, eo59⟩ := Kd.R_slice HO421.out; subst eo59) | ((with_reducible refine gate_callee (f := 15) rfl ?_); refine gL (some 23) Try.func15 #[.agg #[.int .i64 t416, .int .i64 t417, .int .i64 t418, .slice Ao59 t419.length co59], .int .i64 a1, .int .i64 a2, .int .i64 a3] ?_; (with_reducible refine (spec_HopAt.calls k t416 t417 t418 _ _ t419 a1 a2 a3 t422 _ ?side1 ?side2 A11.out).mono ?_); (case side1 => repeat (first | exact (Kd.R_reads' HO421.out).2.2 | (with_reducible refine Kd.C_alloc ?_ _) | (with_reducible refine Kd.C_drewN ?_ _) | (with_reducible refine Kd.C_drew ?_))); (case side2 => exact (Kd.R_reads' HO421.out).2.1); rintro e w60 ⟨rfl, hb⟩; refine ⟨_, rfl, ?_⟩; replace HO421 := Aside0.mk (Kd.R_below (sr HO421) hb); replace BK414 := bb BK414 hb; replace HB := bsw hb; (try clear hb); (try clear hb2); (try clear hk); (try clear hi); obtain ⟨hcz61_0, hcz61_1, hcz61_2, hcz61_3, hfz61_0, hfz61_1, hfz61_2, hfz61_3⟩ := cc4 BK414) | ((with_reducible refine gate_callee (f := 16) rfl ?_); refine gL (some 25) Try.func16 #[.agg #[.int .i64 a0_0, .int .i64 a0_1, .int .i64 a0_2, .slice A0_3 l0_3.length c0_3]] ?_; (with_reducible refine (laws_toProgram.calls k a0_0 a0_1 a0_2 _ _ l0_3 t423 t424 t425 t426 _ ?side1 ?side2 A12.out).mono ?_); (case side1 => exact cb HR0_3); (case side2 => exact HC0_3.out); rintro e w62 ⟨v427, rfl, ho0, hb⟩; refine ⟨_, rfl, ?_⟩; have HO428 := Aside0.mk (Kd.R_lower (Kd.R_new' ho0 (Kd.R_lt (sr HO421))) (below_size (sbw))); replace HO421 := Aside0.mk (Kd.R_elder' (sr HO421) (Kd.R_base ho0) hb); replace BK414 := bb BK414 hb; replace HB := bsw hb; (try clear hb); (try clear hb2); (try clear hk); (try clear hi); (try clear ho0)) | ((with_reducible refine gate_dst (N := 11) rfl ?_); refine bx 11 #[.int .i64 0, .int .i64 0, .int .i64 0, .slice none 0 0] 29 ?_; intro gb429 hg w63 hbox hb; replace HO421 := Aside0.mk (Kd.R_below (sr HO421) hb); replace HO428 := Aside0.mk (Kd.R_below (sr HO428) hb); have BK429 := Aside0.mk hbox; have GW429 := bzw w hg; have GE429 := bzw w hg; replace HB := bsw hb; have NB414_429 := nl BK414 hg; have NB429_414 := ng BK414 hg; replace BK414 := bb BK414 hb; clear hb hbox hg; have hnb64 := NB429_414.out; have hnc64 := NB414_429.out; obtain ⟨hcz65_0, hcz65_1, hcz65_2, hcz65_3, hfz65_0, hfz65_1, hfz65_2, hfz65_3⟩ := cc4 BK429; obtain ⟨Ao66, co66, eo66⟩ := Kd.R_slice HO428.out; subst eo66) | ((with_reducible refine gate_callee (f := 17) rfl ?_); refine gL (some 30) Try.func17 #[.agg #[.int .i64 t423, .int .i64 t424, .int .i64 t425, .slice Ao66 t426.length co66], .int .i64 a1, .int .i64 a2, .int .i64 a3] ?_; (with_reducible refine (impl_HopAt.calls k t423 t424 t425 _ _ t426 a1 a2 a3 t430 _ ?side1 ?side2 A13.out).mono ?_); (case side1 => refine (Kd.R_reads' (e := 106) (base := w.heap.size) (ok := fun k_ => (True ∧ some k_ ≠ (.slice Ao59 t419.length co59 : Value).ownBlock)) (n := t426.length) (c := co66) ?_).2.2; exact (by (with_reducible repeat (first | apply Kd.R_alloc | apply Kd.R_drewN | apply Kd.R_drew)); exact (Kd.R_mono (Kd.R_far (p := ⟨gb429, 3, none⟩) (Kd.R_far (p := ⟨gb429, 2, none⟩) (Kd.R_far (p := ⟨gb429, 1, none⟩) (Kd.R_far (p := ⟨gb429, 0, none⟩) (Kd.R_types HO428.out BK429.out (by decide)) (fun _ hk => hk.2) (.int .i64 t423)) (fun _ hk => hk.2) (.int .i64 t424)) (fun _ hk => hk.2) (.int .i64 t425)) (fun _ hk => hk.2) (.slice Ao66 t426.length co66)) (fun _ h_ => h_.1)))); (case side2 => exact (Kd.R_reads' HO428.out).2.1); rintro e w67 ⟨rfl, hb⟩; refine ⟨_, rfl, ?_⟩; replace HO421 := Aside0.mk (Kd.R_below (by (with_reducible repeat (first | apply Kd.R_alloc | apply Kd.R_drewN | apply Kd.R_drew)); exact (Kd.R_mono (Kd.R_far (p := ⟨gb429, 3, none⟩) (Kd.R_far (p := ⟨gb429, 2, none⟩) (Kd.R_far (p := ⟨gb429, 1, none⟩) (Kd.R_far (p := ⟨gb429, 0, none⟩) (Kd.R_types HO421.out BK429.out (by decide)) (fun _ hk => hk.2) (.int .i64 t423)) (fun _ hk => hk.2) (.int .i64 t424)) (fun _ hk => hk.2) (.int .i64 t425)) (fun _ hk => hk.2) (.slice Ao66 t426.length co66)) (fun _ h_ => h_.1))) hb); replace HO428 := Aside0.mk (Kd.R_below (by (with_reducible repeat (first | apply Kd.R_alloc | apply Kd.R_drewN | apply Kd.R_drew)); exact (Kd.R_mono (Kd.R_far (p := ⟨gb429, 3, none⟩) (Kd.R_far (p := ⟨gb429, 2, none⟩) (Kd.R_far (p := ⟨gb429, 1, none⟩) (Kd.R_far (p := ⟨gb429, 0, none⟩) (Kd.R_types HO428.out BK429.out (by decide)) (fun _ hk => hk.2) (.int .i64 t423)) (fun _ hk => hk.2) (.int .i64 t424)) (fun _ hk => hk.2) (.int .i64 t425)) (fun _ hk => hk.2) (.slice Ao66 t426.length co66)) (fun _ h_ => h_.1))) hb); replace BK414 := Aside0.mk (blk_below (g := gb414) (o := .cells #[.int .i64 a0_0, .int .i64 a0_1, .int .i64 a0_2, .slice A0_3 l0_3.length c0_3] 24 (0, 0)) (sp BK414) hb); replace BK429 := Aside0.mk (blk_below (g := gb429) (o := .cells #[.int .i64 t423, .int .i64 t424, .int .i64 t425, .slice Ao66 t426.length co66] 29 (0, 0)) (sp BK429) hb); replace HB := bsw hb; (try clear hb); (try clear hb2); (try clear hk); (try clear hi)))
   go_ret
   exact ⟨se, sbw⟩

end Go.Proofs.Ytlakjlolahjphaa.QFnExactHopAt
