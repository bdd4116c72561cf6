/- Printed by a program of the session. Conditions: none. (squeezed). -/
import Derived.Test.YtohbccekdmdmbaaVFnExactRepairHopQFnExactRepairHopx19
namespace Go.Proofs.Ytohbccekdmdmbaa.QFnExactRepairHop
set_option maxHeartbeats 8000000
set_option maxRecDepth 100000
open Go.RowKit Go.Proofs.YtohbccekdmdmbaaW.PrintWords Go.Proofs.YtohbccekdmdmbaaW.PrintLast Go.Proofs.YtohbccekdmdmbaaW.PrintMore Go.Proofs.Ytohbccekdmdmbaa.Open Go.Proofs.Ytohbccekdmdmbaa.Sq
attribute [local go_sem] max2_int min2_int max_two min_two max_three min_three max_four min_four   -- for this text's walks alone
attribute [local go_sem] isSome_set
set_option linter.unusedVariables false
set_option linter.unusedSimpArgs false

def laws_eqPieceS.l0 : Nat → List (S75) → List (S75) → Int → Option (Bool)
  | 0, _, _, _ => none
  | k + 1, x0, x1, x5 => if x5 < (x0.length : Int) then (if 0 ≤ x5 then (if x5 < (x1.length : Int) then ((laws_eqPiece.f k ((rd_T75 x0 x5).f0.f0) ((rd_T75 x0 x5).f0.f1) ((rd_T75 x0 x5).f1) ((rd_T75 x0 x5).f2) ((rd_T75 x1 x5).f0.f0) ((rd_T75 x1 x5).f0.f1) ((rd_T75 x1 x5).f1) ((rd_T75 x1 x5).f2)).bind fun t654 => (if t654 = true then (laws_eqPieceS.l0 k x0 x1 (wrap64 (x5 + 1))) else (some false))) else (none)) else (none)) else (some true)
def laws_eqPieceS.f (k : Nat) (l0 : List (S75)) (l1 : List (S75)) : Option (Bool) := if (l0.length : Int) = (l1.length : Int) then (laws_eqPieceS.l0 k l0 l1 0) else (some false)
theorem laws_eqPieceS.mono_l : ∀ k, (∀ y0 y1 y2, LeO (laws_eqPieceS.l0 k y0 y1 y2) (laws_eqPieceS.l0 (k + 1) y0 y1 y2))
  | 0 => fun _ _ _ r h => by simp [laws_eqPieceS.l0] at h
  | k + 1 => by
    have ih0 := laws_eqPieceS.mono_l k
    · intro y0 y1 y2
      unfold laws_eqPieceS.l0
      have m0 := @laws_eqPiece.mono
      exact mo
theorem laws_eqPieceS.mono : ∀ a0 a1 k, LeO (laws_eqPieceS.f k a0 a1) (laws_eqPieceS.f (k + 1) a0 a1) := by
  intro a0 a1 k
  have ih0 := laws_eqPieceS.mono_l k
  unfold laws_eqPieceS.f
  have m0 := @laws_eqPiece.mono
  exact mo
def laws_eqPieceS.T6 : Bool × List (List Nat × List Nat) := (true, [([], []), ([], []), ([0, 1], [0, 1]), ([2], [2]), ([], []), ([], []), ([4, 5], [4, 5]), ([6], [6]), ([3, 7], [3, 7]), ([8], [8])])
def laws_eqPieceS.B6 : List Nat := [0, 0, 3, 7, 0, 0, 48, 112, 255, 511]
theorem laws_eqPieceS.tab6 : rtab .any (opsOf Try.f49 6) = laws_eqPieceS.T6 := by kernel_rfl
theorem laws_eqPieceS.bits6 : waitsOk laws_eqPieceS.T6.2 laws_eqPieceS.B6 = true := by kernel_rfl
theorem laws_eqPieceS.calls (k : Nat) (A0 : Option Addr) (c0 : Nat) (l0 : List (S75)) (A1 : Option Addr) (c1 : Nat) (l1 : List (S75)) (r : Bool) (w : World) (hr0 : Kd.C k75 w A0 l0.length l0) (hc0 : l0.length ≤ c0) (hr1 : Kd.C k75 w A1 l1.length l1) (hc1 : l1.length ≤ c1) (h : laws_eqPieceS.f k l0 l1 = some r) :
    Calls Try.prog 49 #[.slice A0 l0.length c0, .slice A1 l1.length c1] w fun e w' => e = .returned (.bool r) ∧ Below w.heap.size w w' := by
 have hu75 := Try.underlying75
 have HR0 := am hr0
 have HC0 := am hc0
 clear hr0 hc0
 have HR1 := am hr1
 have HC1 := am hc1
 clear hr1 hc1
 have HB := am (Below.refl w.heap.size w)
 have H := h; unfold laws_eqPieceS.f at H
 clear h
 obtain ⟨c3, c3b0, c3b1, H⟩ | ⟨c3, c3b0, c3b1, H⟩ := ib_ H
 ·have c3b2 : (l0.length == l1.length) = true := by first | simpa using c3 | (simp at c3 ⊢; omega)
  clear c3
  have H' := am H
  clear H
  go_enter Try.func49, Try.ntmps49
  go_wp2
  go_loopg [5] k (fun kq v5 w' => ∃ (x5_1 : Int), v5 = .int .i64 x5_1 ∧ Aside0 (laws_eqPieceS.l0 kq l0 l1 x5_1 = some r) ∧ Aside0 (kq ≤ k) ∧ Aside0 (Below w.heap.size w w'))
  case atStart => exact ⟨(0), sc, H', kk0, ⟨sb⟩⟩
  case round =>
   clear H'
   try clear c3
   try clear c3b0
   try clear c3b1
   try clear c3b2
   obtain ⟨x5_1, rfl, HA, HK1, HB⟩ := hrel
   cases gk with
   | zero => exact absurd HA.out (by simp [laws_eqPieceS.l0])
   | succ k1 =>
    have H := HA.out
    clear HA
    simp only [laws_eqPieceS.l0] at H
    obtain ⟨-, c4b0, H⟩ | ⟨-, c4b0, H⟩ := ic_ H
    ·obtain ⟨c5b0, H⟩ := id_ H
     obtain ⟨c6b0, H⟩ := id_ H
     obtain ⟨t654, A7, H⟩ := bnd H
     obtain rfl | rfl := tt t654
     ·replace H := ip H
      have H' := am H
      clear H
      try go_wp2
      replace HB := am (below_drew1 HB.out)
      obtain ⟨p652, q652, ad652, A652_2, c652_2, A652_3, c652_3, e652, hw652_0, hw652_1, hw652_2, hw652_3, hx652_0, hx652_1, hx652_2, hx652_3, HC652_2, HR652_2, HC652_3, HR652_3⟩ := aT_T75 HR0 HB x5_1
      cases e652
      obtain ⟨p653, q653, ad653, A653_2, c653_2, A653_3, c653_3, e653, hw653_0, hw653_1, hw653_2, hw653_3, hx653_0, hx653_1, hx653_2, hx653_3, HC653_2, HR653_2, HC653_3, HR653_3⟩ := aT_T75 HR1 HB x5_1
      cases e653
      refine start_ (n := 10) (S := fun w' => w'.cell? (ad652.add ((x5_1).toNat * 4)) = some (.int .i64 ((rd_T75 l0 x5_1).f0.f0)) ∧ w'.cell? ⟨(ad652.add ((x5_1).toNat * 4)).block, (ad652.add ((x5_1).toNat * 4)).off + 1, none⟩ = some (.int .i64 ((rd_T75 l0 x5_1).f0.f1)) ∧ w'.cell? ⟨(ad652.add ((x5_1).toNat * 4)).block, (ad652.add ((x5_1).toNat * 4)).off + 2, none⟩ = some (.slice A652_2 ((rd_T75 l0 x5_1).f1).length c652_2) ∧ w'.cell? ⟨(ad652.add ((x5_1).toNat * 4)).block, (ad652.add ((x5_1).toNat * 4)).off + 3, none⟩ = some (.slice A652_3 ((rd_T75 l0 x5_1).f2).length c652_3) ∧ w'.cell? (ad653.add ((x5_1).toNat * 4)) = some (.int .i64 ((rd_T75 l1 x5_1).f0.f0)) ∧ w'.cell? ⟨(ad653.add ((x5_1).toNat * 4)).block, (ad653.add ((x5_1).toNat * 4)).off + 1, none⟩ = some (.int .i64 ((rd_T75 l1 x5_1).f0.f1)) ∧ w'.cell? ⟨(ad653.add ((x5_1).toNat * 4)).block, (ad653.add ((x5_1).toNat * 4)).off + 2, none⟩ = some (.slice A653_2 ((rd_T75 l1 x5_1).f1).length c653_2) ∧ w'.cell? ⟨(ad653.add ((x5_1).toNat * 4)).block, (ad653.add ((x5_1).toNat * 4)).off + 3, none⟩ = some (.slice A653_3 ((rd_T75 l1 x5_1).f2).length c653_3)) (ds := []) #[false, false, false, false, false, false, false, false, false, false] (by kernel_rfl) rfl rfl ⟨(hb_ HB hw652_0), (hb_ HB hw652_1), (hb_ HB hw652_2), (hb_ HB hw652_3), (hb_ HB hw653_0), (hb_ HB hw653_1), (hb_ HB hw653_2), (hb_ HB hw653_3)⟩ (fun hHeld => ?_); refine with_tabW laws_eqPieceS.tab6 laws_eqPieceS.bits6 (fun HT_ HW_ => ?_)
      generalize wr.drew = w9 at HB HR652_2 HR652_3 HR653_2 HR653_3 hx652_0 hx652_1 hx652_2 hx652_3 hx653_0 hx653_1 hx653_2 hx653_3 hHeld ⊢
      refine put 0 17 (bt 10 1) HT_ ?_
      refine put 1 18 (bt 10 3) HT_ ?_
      refine put 2 19 (bt 10 7) HT_ ?_
      refine put 4 21 (bt 10 23) HT_ ?_
      refine put 5 22 (bt 10 55) HT_ ?_
      refine put 6 23 (bt 10 119) HT_ ?_
      refine tat8 3 20 (bt 10 127) HT_ HW_ hHeld ?_
      refine tat8 7 24 (bt 10 255) HT_ HW_ hHeld ?_
      refine on 8 25 (bt 10 511) HT_ (fun K hK => ?_)
      refine goes_ Try.func70 (by kernel_rfl) rfl #[.agg #[.int .i64 ((rd_T75 l0 x5_1).f0.f0), .int .i64 ((rd_T75 l0 x5_1).f0.f1), .slice A652_2 ((rd_T75 l0 x5_1).f1).length c652_2, .slice A652_3 ((rd_T75 l0 x5_1).f2).length c652_3], .agg #[.int .i64 ((rd_T75 l1 x5_1).f0.f0), .int .i64 ((rd_T75 l1 x5_1).f0.f1), .slice A653_2 ((rd_T75 l1 x5_1).f1).length c653_2, .slice A653_3 ((rd_T75 l1 x5_1).f2).length c653_3]] (by rfl) rfl rfl sl ?_
      with_reducible refine (laws_eqPiece.calls k1 ((rd_T75 l0 x5_1).f0.f0) ((rd_T75 l0 x5_1).f0.f1) _ _ ((rd_T75 l0 x5_1).f1) _ _ ((rd_T75 l0 x5_1).f2) ((rd_T75 l1 x5_1).f0.f0) ((rd_T75 l1 x5_1).f0.f1) _ _ ((rd_T75 l1 x5_1).f1) _ _ ((rd_T75 l1 x5_1).f2) true _ ?side1 ?side2 ?side3 ?side4 ?side5 ?side6 ?side7 ?side8 A7.out).mono ?_
      (case side1 => exact cb HR652_2)
      (case side2 => exact HC652_2.out)
      (case side3 => exact cb HR652_3)
      (case side4 => exact HC652_3.out)
      (case side5 => exact cb HR653_2)
      (case side6 => exact HC653_2.out)
      (case side7 => exact cb HR653_3)
      (case side8 => exact HC653_3.out)
      rintro e w10 ⟨rfl, hb⟩
      refine ⟨_, rfl, ?_⟩
      replace HB := bs hb
      (try clear hb)
      (try clear hb2)
      (try clear hk)
      (try clear hi)
      refine hK.out _ _ ⟨(hb_ HB hw652_0), (hb_ HB hw652_1), (hb_ HB hw652_2), (hb_ HB hw652_3), (hb_ HB hw653_0), (hb_ HB hw653_1), (hb_ HB hw653_2), (hb_ HB hw653_3)⟩ (fun hHeld => ?_)
      clear hK K
      refine nm 25 ?_
      refine put 9 26 (bt 10 1023) HT_ ?_
      refine done_ (done_of HT_.out (by kernel_rfl)) ?_
      try go_wp2
      go_roundg k1
      case measure => have := HK1.out; omega
      case rel => exact ⟨(wrap64 (x5_1 + 1)), sc, H', kk1, ⟨sb⟩⟩
     ·replace H := im H
      obtain rfl := Option.some.inj H
      try go_wp2
      replace HB := am (below_drew1 HB.out)
      obtain ⟨p652, q652, ad652, A652_2, c652_2, A652_3, c652_3, e652, hw652_0, hw652_1, hw652_2, hw652_3, hx652_0, hx652_1, hx652_2, hx652_3, HC652_2, HR652_2, HC652_3, HR652_3⟩ := aT_T75 HR0 HB x5_1
      cases e652
      obtain ⟨p653, q653, ad653, A653_2, c653_2, A653_3, c653_3, e653, hw653_0, hw653_1, hw653_2, hw653_3, hx653_0, hx653_1, hx653_2, hx653_3, HC653_2, HR653_2, HC653_3, HR653_3⟩ := aT_T75 HR1 HB x5_1
      cases e653
      refine start_ (n := 10) (S := fun w' => w'.cell? (ad652.add ((x5_1).toNat * 4)) = some (.int .i64 ((rd_T75 l0 x5_1).f0.f0)) ∧ w'.cell? ⟨(ad652.add ((x5_1).toNat * 4)).block, (ad652.add ((x5_1).toNat * 4)).off + 1, none⟩ = some (.int .i64 ((rd_T75 l0 x5_1).f0.f1)) ∧ w'.cell? ⟨(ad652.add ((x5_1).toNat * 4)).block, (ad652.add ((x5_1).toNat * 4)).off + 2, none⟩ = some (.slice A652_2 ((rd_T75 l0 x5_1).f1).length c652_2) ∧ w'.cell? ⟨(ad652.add ((x5_1).toNat * 4)).block, (ad652.add ((x5_1).toNat * 4)).off + 3, none⟩ = some (.slice A652_3 ((rd_T75 l0 x5_1).f2).length c652_3) ∧ w'.cell? (ad653.add ((x5_1).toNat * 4)) = some (.int .i64 ((rd_T75 l1 x5_1).f0.f0)) ∧ w'.cell? ⟨(ad653.add ((x5_1).toNat * 4)).block, (ad653.add ((x5_1).toNat * 4)).off + 1, none⟩ = some (.int .i64 ((rd_T75 l1 x5_1).f0.f1)) ∧ w'.cell? ⟨(ad653.add ((x5_1).toNat * 4)).block, (ad653.add ((x5_1).toNat * 4)).off + 2, none⟩ = some (.slice A653_2 ((rd_T75 l1 x5_1).f1).length c653_2) ∧ w'.cell? ⟨(ad653.add ((x5_1).toNat * 4)).block, (ad653.add ((x5_1).toNat * 4)).off + 3, none⟩ = some (.slice A653_3 ((rd_T75 l1 x5_1).f2).length c653_3)) (ds := []) #[false, false, false, false, false, false, false, false, false, false] (by kernel_rfl) rfl rfl ⟨(hb_ HB hw652_0), (hb_ HB hw652_1), (hb_ HB hw652_2), (hb_ HB hw652_3), (hb_ HB hw653_0), (hb_ HB hw653_1), (hb_ HB hw653_2), (hb_ HB hw653_3)⟩ (fun hHeld => ?_); refine with_tabW laws_eqPieceS.tab6 laws_eqPieceS.bits6 (fun HT_ HW_ => ?_)
      generalize wr.drew = w11 at HB HR652_2 HR652_3 HR653_2 HR653_3 hx652_0 hx652_1 hx652_2 hx652_3 hx653_0 hx653_1 hx653_2 hx653_3 hHeld ⊢
      refine put 0 17 (bt 10 1) HT_ ?_
      refine put 1 18 (bt 10 3) HT_ ?_
      refine put 2 19 (bt 10 7) HT_ ?_
      refine put 4 21 (bt 10 23) HT_ ?_
      refine put 5 22 (bt 10 55) HT_ ?_
      refine put 6 23 (bt 10 119) HT_ ?_
      refine tat8 3 20 (bt 10 127) HT_ HW_ hHeld ?_
      refine tat8 7 24 (bt 10 255) HT_ HW_ hHeld ?_
      refine on 8 25 (bt 10 511) HT_ (fun K hK => ?_)
      refine goes_ Try.func70 (by kernel_rfl) rfl #[.agg #[.int .i64 ((rd_T75 l0 x5_1).f0.f0), .int .i64 ((rd_T75 l0 x5_1).f0.f1), .slice A652_2 ((rd_T75 l0 x5_1).f1).length c652_2, .slice A652_3 ((rd_T75 l0 x5_1).f2).length c652_3], .agg #[.int .i64 ((rd_T75 l1 x5_1).f0.f0), .int .i64 ((rd_T75 l1 x5_1).f0.f1), .slice A653_2 ((rd_T75 l1 x5_1).f1).length c653_2, .slice A653_3 ((rd_T75 l1 x5_1).f2).length c653_3]] (by rfl) rfl rfl sl ?_
      with_reducible refine (laws_eqPiece.calls k1 ((rd_T75 l0 x5_1).f0.f0) ((rd_T75 l0 x5_1).f0.f1) _ _ ((rd_T75 l0 x5_1).f1) _ _ ((rd_T75 l0 x5_1).f2) ((rd_T75 l1 x5_1).f0.f0) ((rd_T75 l1 x5_1).f0.f1) _ _ ((rd_T75 l1 x5_1).f1) _ _ ((rd_T75 l1 x5_1).f2) false _ ?side1 ?side2 ?side3 ?side4 ?side5 ?side6 ?side7 ?side8 A7.out).mono ?_
      (case side1 => exact cb HR652_2)
      (case side2 => exact HC652_2.out)
      (case side3 => exact cb HR652_3)
      (case side4 => exact HC652_3.out)
      (case side5 => exact cb HR653_2)
      (case side6 => exact HC653_2.out)
      (case side7 => exact cb HR653_3)
      (case side8 => exact HC653_3.out)
      rintro e w12 ⟨rfl, hb⟩
      refine ⟨_, rfl, ?_⟩
      replace HB := bs hb
      (try clear hb)
      (try clear hb2)
      (try clear hk)
      (try clear hi)
      refine hK.out _ _ ⟨(hb_ HB hw652_0), (hb_ HB hw652_1), (hb_ HB hw652_2), (hb_ HB hw652_3), (hb_ HB hw653_0), (hb_ HB hw653_1), (hb_ HB hw653_2), (hb_ HB hw653_3)⟩ (fun hHeld => ?_)
      clear hK K
      refine nm 25 ?_
      refine put 9 26 (bt 10 1023) HT_ ?_
      refine done_ (done_of HT_.out (by kernel_rfl)) ?_
      try go_wp2
      go_ret
      exact ⟨se, sb⟩
    ·obtain rfl := Option.some.inj H
     go_wp2
     go_ret
     exact ⟨se, sb⟩
 ·have c3b2 : (l0.length == l1.length) = false := by first | simpa using c3 | (simp at c3 ⊢; omega)
  obtain rfl := Option.some.inj H
  go_enter Try.func49, Try.ntmps49
  go_wp2
  go_ret
  exact ⟨se, sb⟩

def laws_eqProgram.f (k : Nat) (a0_0 : Int) (a0_1 : Int) (a0_2 : Int) (l0_3 : List (S75)) (a1_0 : Int) (a1_1 : Int) (a1_2 : Int) (l1_3 : List (S75)) : Option (Bool) := if a0_0 = a1_0 then (if a0_1 = a1_1 then (if a0_2 = a1_2 then ((laws_eqPieceS.f k l0_3 l1_3).bind fun t657 => (if t657 = true then (some true) else (some false))) else (some false)) else (some false)) else (some false)
theorem laws_eqProgram.mono : ∀ a0 a1 a2 a3 a4 a5 a6 a7 k, LeO (laws_eqProgram.f k a0 a1 a2 a3 a4 a5 a6 a7) (laws_eqProgram.f (k + 1) a0 a1 a2 a3 a4 a5 a6 a7) := by
  intro a0 a1 a2 a3 a4 a5 a6 a7 k
  unfold laws_eqProgram.f
  have m0 := @laws_eqPieceS.mono
  exact mo
theorem e20_0 {P : Prop} (h : P := by
 obtain rfl := Option.some.inj H
 go_enter Try.func26, Try.ntmps26
 go_wp2_with (first | ((with_reducible refine gd 2 rfl ?_); refine bx 2 #[.int .i64 a0_0, .int .i64 a0_1, .int .i64 a0_2, .slice A0_3 l0_3.length c0_3] 49 ?_; intro gb655 hg w8 hbox hb; have GW655 := bz w hg; have GE655 := bz w hg; replace HB := bs hb; have BK655 := am hbox; clear hb hbox hg) | ((with_reducible refine gd 3 rfl ?_); refine bx 3 #[.int .i64 a1_0, .int .i64 a1_1, .int .i64 a1_2, .slice A1_3 l1_3.length c1_3] 49 ?_; intro gb656 hg w9 hbox hb; have GW656 := bzw w hg; have GE656 := bzw w hg; replace HB := bsw hb; have BK656 := am hbox; have NB655_656 := nl BK655 hg; have NB656_655 := ng BK655 hg; replace BK655 := bb BK655 hb; clear hb hbox hg; have hnb10 := NB655_656.out; have hnc10 := NB656_655.out; obtain ⟨hcz11_0, hcz11_1, hcz11_2, hcz11_3, hfz11_0, hfz11_1, hfz11_2, hfz11_3⟩ := cc4 BK655; obtain ⟨hcz12_0, hcz12_1, hcz12_2, hcz12_3, hfz12_0, hfz12_1, hfz12_2, hfz12_3⟩ := cc4 BK656) | ((with_reducible refine gc 49 rfl ?_); refine gL (some 24) Try.func49 #[.slice A0_3 l0_3.length c0_3, .slice A1_3 l1_3.length c1_3] ?_; (with_reducible refine (laws_eqPieceS.calls k _ _ l0_3 _ _ l1_3 true _ ?side1 ?side2 ?side3 ?side4 A6.out).mono ?_); (case side1 => exact cb HR0_3); (case side2 => exact HC0_3.out); (case side3 => exact cb HR1_3); (case side4 => exact HC1_3.out); rintro e w13 ⟨rfl, hb⟩; refine ⟨_, rfl, ?_⟩; replace BK655 := bb BK655 hb; replace BK656 := bb BK656 hb; replace HB := bsw hb; (try clear hb)))
 first
 | have _ := c4b0
   go_ret
   exact ⟨se, sbw⟩
 | go_ret
   exact ⟨se, sbw⟩
   ) : P := h
theorem laws_eqProgram.calls (k : Nat) (a0_0 : Int) (a0_1 : Int) (a0_2 : Int) (A0_3 : Option Addr) (c0_3 : Nat) (l0_3 : List (S75)) (a1_0 : Int) (a1_1 : Int) (a1_2 : Int) (A1_3 : Option Addr) (c1_3 : Nat) (l1_3 : List (S75)) (r : Bool) (w : World) (hr0_3 : Kd.C k75 w A0_3 l0_3.length l0_3) (hc0_3 : l0_3.length ≤ c0_3) (hr1_3 : Kd.C k75 w A1_3 l1_3.length l1_3) (hc1_3 : l1_3.length ≤ c1_3) (h : laws_eqProgram.f k a0_0 a0_1 a0_2 l0_3 a1_0 a1_1 a1_2 l1_3 = some r) :
    Calls Try.prog 26 #[.agg #[.int .i64 a0_0, .int .i64 a0_1, .int .i64 a0_2, .slice A0_3 l0_3.length c0_3], .agg #[.int .i64 a1_0, .int .i64 a1_1, .int .i64 a1_2, .slice A1_3 l1_3.length c1_3]] w fun e w' => e = .returned (.bool r) ∧ Below w.heap.size w w' := by
 have hu49 := Try.underlying49
 have HR0_3 := am hr0_3
 have HC0_3 := am hc0_3
 clear hr0_3 hc0_3
 have HR1_3 := am hr1_3
 have HC1_3 := am hc1_3
 clear hr1_3 hc1_3
 have HB := am (Below.refl w.heap.size w)
 have H := h; unfold laws_eqProgram.f at H
 clear h
 obtain ⟨-, c3b0, c3b1, H⟩ | ⟨c3, c3b0, c3b1, H⟩ := ib_ H
 ·obtain ⟨-, c4b0, c4b1, H⟩ | ⟨c4, c4b0, c4b1, H⟩ := ib_ H
  ·obtain ⟨-, c5b0, c5b1, H⟩ | ⟨c5, c5b0, c5b1, H⟩ := ib_ H
   ·obtain ⟨t657, A6, H⟩ := bnd H
    obtain rfl | rfl := tt t657
    ·replace H := ip H
     exact e20_0
    ·replace H := im H
     obtain rfl := Option.some.inj H
     go_enter Try.func26, Try.ntmps26
     go_wp2_with (first | ((with_reducible refine gd 2 rfl ?_); refine bx 2 #[.int .i64 a0_0, .int .i64 a0_1, .int .i64 a0_2, .slice A0_3 l0_3.length c0_3] 49 ?_; intro gb655 hg w14 hbox hb; have GW655 := bz w hg; have GE655 := bz w hg; replace HB := bs hb; have BK655 := am hbox; clear hb hbox hg) | ((with_reducible refine gd 3 rfl ?_); refine bx 3 #[.int .i64 a1_0, .int .i64 a1_1, .int .i64 a1_2, .slice A1_3 l1_3.length c1_3] 49 ?_; intro gb656 hg w15 hbox hb; have GW656 := bzw w hg; have GE656 := bzw w hg; replace HB := bsw hb; have BK656 := am hbox; have NB655_656 := nl BK655 hg; have NB656_655 := ng BK655 hg; replace BK655 := bb BK655 hb; clear hb hbox hg; have hnb16 := NB655_656.out; have hnc16 := NB656_655.out; obtain ⟨hcz17_0, hcz17_1, hcz17_2, hcz17_3, hfz17_0, hfz17_1, hfz17_2, hfz17_3⟩ := cc4 BK655; obtain ⟨hcz18_0, hcz18_1, hcz18_2, hcz18_3, hfz18_0, hfz18_1, hfz18_2, hfz18_3⟩ := cc4 BK656) | ((with_reducible refine gc 49 rfl ?_); refine gL (some 24) Try.func49 #[.slice A0_3 l0_3.length c0_3, .slice A1_3 l1_3.length c1_3] ?_; (with_reducible refine (laws_eqPieceS.calls k _ _ l0_3 _ _ l1_3 false _ ?side1 ?side2 ?side3 ?side4 A6.out).mono ?_); (case side1 => exact cb HR0_3); (case side2 => exact HC0_3.out); (case side3 => exact cb HR1_3); (case side4 => exact HC1_3.out); rintro e w19 ⟨rfl, hb⟩; refine ⟨_, rfl, ?_⟩; replace BK655 := bb BK655 hb; replace BK656 := bb BK656 hb; replace HB := bsw hb; (try clear hb)))
     go_ret
     exact ⟨se, sbw⟩
   ·exact e20_0
  ·exact e20_0
 ·exact e20_0
end Go.Proofs.Ytohbccekdmdmbaa.QFnExactRepairHop
