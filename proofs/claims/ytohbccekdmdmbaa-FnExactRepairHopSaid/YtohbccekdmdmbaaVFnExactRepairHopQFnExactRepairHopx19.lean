/- Printed by a program of the session. Conditions: none. (squeezed). -/
import Derived.Test.YtohbccekdmdmbaaVFnExactRepairHopQFnExactRepairHopx18
namespace Go.Proofs.Ytohbccekdmdmbaa.QFnExactRepairHop
set_option maxHeartbeats 8000000
set_option maxRecDepth 100000
open Go.RowKit Go.Proofs.YtohbccekdmdmbaaW.PrintWords Go.Proofs.YtohbccekdmdmbaaW.PrintLast Go.Proofs.YtohbccekdmdmbaaW.PrintMore Go.Proofs.Ytohbccekdmdmbaa.Open Go.Proofs.Ytohbccekdmdmbaa.Sq
attribute [local go_sem] max2_int min2_int max_two min_two max_three min_three max_four min_four   -- for this text's walks alone
attribute [local go_sem] isSome_set
set_option linter.unusedVariables false
set_option linter.unusedSimpArgs false

def laws_eqTableS.l0 : Nat → List (S29) → List (S29) → Int → Option (Bool)
  | 0, _, _, _ => none
  | k + 1, x0, x1, x5 => if x5 < (x0.length : Int) then (if 0 ≤ x5 then (if x5 < (x1.length : Int) then ((laws_eqTable.f k ((rd_T29 x0 x5).f0) ((rd_T29 x0 x5).f1) ((rd_T29 x0 x5).f2) ((rd_T29 x1 x5).f0) ((rd_T29 x1 x5).f1) ((rd_T29 x1 x5).f2)).bind fun t646 => (if t646 = true then (laws_eqTableS.l0 k x0 x1 (wrap64 (x5 + 1))) else (some false))) else (none)) else (none)) else (some true)
def laws_eqTableS.f (k : Nat) (l0 : List (S29)) (l1 : List (S29)) : Option (Bool) := if (l0.length : Int) = (l1.length : Int) then (laws_eqTableS.l0 k l0 l1 0) else (some false)
theorem laws_eqTableS.mono_l : ∀ k, (∀ y0 y1 y2, LeO (laws_eqTableS.l0 k y0 y1 y2) (laws_eqTableS.l0 (k + 1) y0 y1 y2))
  | 0 => fun _ _ _ r h => by simp [laws_eqTableS.l0] at h
  | k + 1 => by
    have ih0 := laws_eqTableS.mono_l k
    · intro y0 y1 y2
      unfold laws_eqTableS.l0
      have m0 := @laws_eqTable.mono
      exact mo
theorem laws_eqTableS.mono : ∀ a0 a1 k, LeO (laws_eqTableS.f k a0 a1) (laws_eqTableS.f (k + 1) a0 a1) := by
  intro a0 a1 k
  have ih0 := laws_eqTableS.mono_l k
  unfold laws_eqTableS.f
  have m0 := @laws_eqTable.mono
  exact mo
def laws_eqTableS.T6 : Bool × List (List Nat × List Nat) := (true, [([], []), ([], []), ([0, 1], [0, 1]), ([2], [2]), ([], []), ([], []), ([4, 5], [4, 5]), ([6], [6]), ([3, 7], [3, 7]), ([8], [8])])
def laws_eqTableS.B6 : List Nat := [0, 0, 3, 7, 0, 0, 48, 112, 255, 511]
theorem laws_eqTableS.tab6 : rtab .any (opsOf Try.f85 6) = laws_eqTableS.T6 := by kernel_rfl
theorem laws_eqTableS.bits6 : waitsOk laws_eqTableS.T6.2 laws_eqTableS.B6 = true := by kernel_rfl
theorem laws_eqTableS.calls (k : Nat) (A0 : Option Addr) (c0 : Nat) (l0 : List (S29)) (A1 : Option Addr) (c1 : Nat) (l1 : List (S29)) (r : Bool) (w : World) (hr0 : Kd.C k29 w A0 l0.length l0) (hc0 : l0.length ≤ c0) (hr1 : Kd.C k29 w A1 l1.length l1) (hc1 : l1.length ≤ c1) (h : laws_eqTableS.f k l0 l1 = some r) :
    Calls Try.prog 85 #[.slice A0 l0.length c0, .slice A1 l1.length c1] w fun e w' => e = .returned (.bool r) ∧ Below w.heap.size w w' := by
 have hu29 := Try.underlying29
 have HR0 := am hr0
 have HC0 := am hc0
 clear hr0 hc0
 have HR1 := am hr1
 have HC1 := am hc1
 clear hr1 hc1
 have HB := am (Below.refl w.heap.size w)
 have H := h; unfold laws_eqTableS.f at H
 clear h
 obtain ⟨c3, c3b0, c3b1, H⟩ | ⟨c3, c3b0, c3b1, H⟩ := ib_ H
 ·have c3b2 : (l0.length == l1.length) = true := by first | simpa using c3 | (simp at c3 ⊢; omega)
  clear c3
  have H' := am H
  clear H
  go_enter Try.func85, Try.ntmps85
  go_wp2
  go_loopg [5] k (fun kq v5 w' => ∃ (x5_1 : Int), v5 = .int .i64 x5_1 ∧ Aside0 (laws_eqTableS.l0 kq l0 l1 x5_1 = some r) ∧ Aside0 (kq ≤ k) ∧ Aside0 (Below w.heap.size w w'))
  case atStart => exact ⟨(0), sc, H', kk0, ⟨sb⟩⟩
  case round =>
   clear H'
   try clear c3
   try clear c3b0
   try clear c3b1
   try clear c3b2
   obtain ⟨x5_1, rfl, HA, HK1, HB⟩ := hrel
   cases gk with
   | zero => exact absurd HA.out (by simp [laws_eqTableS.l0])
   | succ k1 =>
    have H := HA.out
    clear HA
    simp only [laws_eqTableS.l0] at H
    obtain ⟨-, c4b0, H⟩ | ⟨-, c4b0, H⟩ := ic_ H
    ·obtain ⟨c5b0, H⟩ := id_ H
     obtain ⟨c6b0, H⟩ := id_ H
     obtain ⟨t646, A7, H⟩ := bnd H
     obtain rfl | rfl := tt t646
     ·replace H := ip H
      have H' := am H
      clear H
      try go_wp2
      replace HB := am (below_drew1 HB.out)
      obtain ⟨p644, q644, ad644, A644_1, c644_1, A644_2, c644_2, e644, hw644_0, hw644_1, hw644_2, hx644_0, hx644_1, hx644_2, HC644_1, HR644_1, HC644_2, HR644_2⟩ := aT_T29 HR0 HB x5_1
      cases e644
      obtain ⟨p645, q645, ad645, A645_1, c645_1, A645_2, c645_2, e645, hw645_0, hw645_1, hw645_2, hx645_0, hx645_1, hx645_2, HC645_1, HR645_1, HC645_2, HR645_2⟩ := aT_T29 HR1 HB x5_1
      cases e645
      refine start_ (n := 10) (S := fun w' => w'.cell? (ad644.add ((x5_1).toNat * 3)) = some (.int .i64 ((rd_T29 l0 x5_1).f0)) ∧ w'.cell? ⟨(ad644.add ((x5_1).toNat * 3)).block, (ad644.add ((x5_1).toNat * 3)).off + 1, none⟩ = some (.slice A644_1 ((rd_T29 l0 x5_1).f1).length c644_1) ∧ w'.cell? ⟨(ad644.add ((x5_1).toNat * 3)).block, (ad644.add ((x5_1).toNat * 3)).off + 2, none⟩ = some (.slice A644_2 ((rd_T29 l0 x5_1).f2).length c644_2) ∧ w'.cell? (ad645.add ((x5_1).toNat * 3)) = some (.int .i64 ((rd_T29 l1 x5_1).f0)) ∧ w'.cell? ⟨(ad645.add ((x5_1).toNat * 3)).block, (ad645.add ((x5_1).toNat * 3)).off + 1, none⟩ = some (.slice A645_1 ((rd_T29 l1 x5_1).f1).length c645_1) ∧ w'.cell? ⟨(ad645.add ((x5_1).toNat * 3)).block, (ad645.add ((x5_1).toNat * 3)).off + 2, none⟩ = some (.slice A645_2 ((rd_T29 l1 x5_1).f2).length c645_2)) (ds := []) #[false, false, false, false, false, false, false, false, false, false] (by kernel_rfl) rfl rfl ⟨(hb_ HB hw644_0), (hb_ HB hw644_1), (hb_ HB hw644_2), (hb_ HB hw645_0), (hb_ HB hw645_1), (hb_ HB hw645_2)⟩ (fun hHeld => ?_); refine with_tabW laws_eqTableS.tab6 laws_eqTableS.bits6 (fun HT_ HW_ => ?_)
      generalize wr.drew = w9 at HB HR644_1 HR644_2 HR645_1 HR645_2 hx644_0 hx644_1 hx644_2 hx645_0 hx645_1 hx645_2 hHeld ⊢
      refine put 0 17 (bt 10 1) HT_ ?_
      refine put 1 18 (bt 10 3) HT_ ?_
      refine put 2 19 (bt 10 7) HT_ ?_
      refine put 4 21 (bt 10 23) HT_ ?_
      refine put 5 22 (bt 10 55) HT_ ?_
      refine put 6 23 (bt 10 119) HT_ ?_
      refine tat6 3 20 (bt 10 127) HT_ HW_ hHeld ?_
      refine tat6 7 24 (bt 10 255) HT_ HW_ hHeld ?_
      refine on 8 25 (bt 10 511) HT_ (fun K hK => ?_)
      refine goes_ Try.func12 (by kernel_rfl) rfl #[.agg #[.int .i64 ((rd_T29 l0 x5_1).f0), .slice A644_1 ((rd_T29 l0 x5_1).f1).length c644_1, .slice A644_2 ((rd_T29 l0 x5_1).f2).length c644_2], .agg #[.int .i64 ((rd_T29 l1 x5_1).f0), .slice A645_1 ((rd_T29 l1 x5_1).f1).length c645_1, .slice A645_2 ((rd_T29 l1 x5_1).f2).length c645_2]] (by rfl) rfl rfl sl ?_
      with_reducible refine (laws_eqTable.calls k1 ((rd_T29 l0 x5_1).f0) _ _ ((rd_T29 l0 x5_1).f1) _ _ ((rd_T29 l0 x5_1).f2) ((rd_T29 l1 x5_1).f0) _ _ ((rd_T29 l1 x5_1).f1) _ _ ((rd_T29 l1 x5_1).f2) true _ ?side1 ?side2 ?side3 ?side4 ?side5 ?side6 ?side7 ?side8 A7.out).mono ?_
      (case side1 => exact cb HR644_1)
      (case side2 => exact HC644_1.out)
      (case side3 => exact cb HR644_2)
      (case side4 => exact HC644_2.out)
      (case side5 => exact cb HR645_1)
      (case side6 => exact HC645_1.out)
      (case side7 => exact cb HR645_2)
      (case side8 => exact HC645_2.out)
      rintro e w10 ⟨rfl, hb⟩
      refine ⟨_, rfl, ?_⟩
      replace HB := bs hb
      (try clear hb)
      (try clear hb2)
      (try clear hk)
      (try clear hi)
      refine hK.out _ _ ⟨(hb_ HB hw644_0), (hb_ HB hw644_1), (hb_ HB hw644_2), (hb_ HB hw645_0), (hb_ HB hw645_1), (hb_ HB hw645_2)⟩ (fun hHeld => ?_)
      clear hK K
      refine nm 25 ?_
      refine put 9 26 (bt 10 1023) HT_ ?_
      refine done_ (done_of HT_.out (by kernel_rfl)) ?_
      try go_wp2
      go_roundg k1
      case measure => have := HK1.out; omega
      case rel => exact ⟨(wrap64 (x5_1 + 1)), sc, H', kk1, ⟨sb⟩⟩
     ·replace H := im H
      obtain rfl := Option.some.inj H
      try go_wp2
      replace HB := am (below_drew1 HB.out)
      obtain ⟨p644, q644, ad644, A644_1, c644_1, A644_2, c644_2, e644, hw644_0, hw644_1, hw644_2, hx644_0, hx644_1, hx644_2, HC644_1, HR644_1, HC644_2, HR644_2⟩ := aT_T29 HR0 HB x5_1
      cases e644
      obtain ⟨p645, q645, ad645, A645_1, c645_1, A645_2, c645_2, e645, hw645_0, hw645_1, hw645_2, hx645_0, hx645_1, hx645_2, HC645_1, HR645_1, HC645_2, HR645_2⟩ := aT_T29 HR1 HB x5_1
      cases e645
      refine start_ (n := 10) (S := fun w' => w'.cell? (ad644.add ((x5_1).toNat * 3)) = some (.int .i64 ((rd_T29 l0 x5_1).f0)) ∧ w'.cell? ⟨(ad644.add ((x5_1).toNat * 3)).block, (ad644.add ((x5_1).toNat * 3)).off + 1, none⟩ = some (.slice A644_1 ((rd_T29 l0 x5_1).f1).length c644_1) ∧ w'.cell? ⟨(ad644.add ((x5_1).toNat * 3)).block, (ad644.add ((x5_1).toNat * 3)).off + 2, none⟩ = some (.slice A644_2 ((rd_T29 l0 x5_1).f2).length c644_2) ∧ w'.cell? (ad645.add ((x5_1).toNat * 3)) = some (.int .i64 ((rd_T29 l1 x5_1).f0)) ∧ w'.cell? ⟨(ad645.add ((x5_1).toNat * 3)).block, (ad645.add ((x5_1).toNat * 3)).off + 1, none⟩ = some (.slice A645_1 ((rd_T29 l1 x5_1).f1).length c645_1) ∧ w'.cell? ⟨(ad645.add ((x5_1).toNat * 3)).block, (ad645.add ((x5_1).toNat * 3)).off + 2, none⟩ = some (.slice A645_2 ((rd_T29 l1 x5_1).f2).length c645_2)) (ds := []) #[false, false, false, false, false, false, false, false, false, false] (by kernel_rfl) rfl rfl ⟨(hb_ HB hw644_0), (hb_ HB hw644_1), (hb_ HB hw644_2), (hb_ HB hw645_0), (hb_ HB hw645_1), (hb_ HB hw645_2)⟩ (fun hHeld => ?_); refine with_tabW laws_eqTableS.tab6 laws_eqTableS.bits6 (fun HT_ HW_ => ?_)
      generalize wr.drew = w11 at HB HR644_1 HR644_2 HR645_1 HR645_2 hx644_0 hx644_1 hx644_2 hx645_0 hx645_1 hx645_2 hHeld ⊢
      refine put 0 17 (bt 10 1) HT_ ?_
      refine put 1 18 (bt 10 3) HT_ ?_
      refine put 2 19 (bt 10 7) HT_ ?_
      refine put 4 21 (bt 10 23) HT_ ?_
      refine put 5 22 (bt 10 55) HT_ ?_
      refine put 6 23 (bt 10 119) HT_ ?_
      refine tat6 3 20 (bt 10 127) HT_ HW_ hHeld ?_
      refine tat6 7 24 (bt 10 255) HT_ HW_ hHeld ?_
      refine on 8 25 (bt 10 511) HT_ (fun K hK => ?_)
      refine goes_ Try.func12 (by kernel_rfl) rfl #[.agg #[.int .i64 ((rd_T29 l0 x5_1).f0), .slice A644_1 ((rd_T29 l0 x5_1).f1).length c644_1, .slice A644_2 ((rd_T29 l0 x5_1).f2).length c644_2], .agg #[.int .i64 ((rd_T29 l1 x5_1).f0), .slice A645_1 ((rd_T29 l1 x5_1).f1).length c645_1, .slice A645_2 ((rd_T29 l1 x5_1).f2).length c645_2]] (by rfl) rfl rfl sl ?_
      with_reducible refine (laws_eqTable.calls k1 ((rd_T29 l0 x5_1).f0) _ _ ((rd_T29 l0 x5_1).f1) _ _ ((rd_T29 l0 x5_1).f2) ((rd_T29 l1 x5_1).f0) _ _ ((rd_T29 l1 x5_1).f1) _ _ ((rd_T29 l1 x5_1).f2) false _ ?side1 ?side2 ?side3 ?side4 ?side5 ?side6 ?side7 ?side8 A7.out).mono ?_
      (case side1 => exact cb HR644_1)
      (case side2 => exact HC644_1.out)
      (case side3 => exact cb HR644_2)
      (case side4 => exact HC644_2.out)
      (case side5 => exact cb HR645_1)
      (case side6 => exact HC645_1.out)
      (case side7 => exact cb HR645_2)
      (case side8 => exact HC645_2.out)
      rintro e w12 ⟨rfl, hb⟩
      refine ⟨_, rfl, ?_⟩
      replace HB := bs hb
      (try clear hb)
      (try clear hb2)
      (try clear hk)
      (try clear hi)
      refine hK.out _ _ ⟨(hb_ HB hw644_0), (hb_ HB hw644_1), (hb_ HB hw644_2), (hb_ HB hw645_0), (hb_ HB hw645_1), (hb_ HB hw645_2)⟩ (fun hHeld => ?_)
      clear hK K
      refine nm 25 ?_
      refine put 9 26 (bt 10 1023) HT_ ?_
      refine done_ (done_of HT_.out (by kernel_rfl)) ?_
      try go_wp2
      go_ret
      exact ⟨se, sb⟩
    ·obtain rfl := Option.some.inj H
     go_wp2
     go_ret
     exact ⟨se, sb⟩
 ·have c3b2 : (l0.length == l1.length) = false := by first | simpa using c3 | (simp at c3 ⊢; omega)
  obtain rfl := Option.some.inj H
  go_enter Try.func85, Try.ntmps85
  go_wp2
  go_ret
  exact ⟨se, sb⟩

def laws_eqPiece.f (k : Nat) (a0_0 : Int) (a0_1 : Int) (l0_2 : List (S55)) (l0_3 : List (S29)) (a1_0 : Int) (a1_1 : Int) (l1_2 : List (S55)) (l1_3 : List (S29)) : Option (Bool) := (laws_eqSpan.f a0_0 a0_1 a1_0 a1_1).bind fun t649 => (if t649 = true then ((laws_eqLinkS.f k l0_2 l1_2).bind fun t650 => (if t650 = true then ((laws_eqTableS.f k l0_3 l1_3).bind fun t651 => (if t651 = true then (some true) else (some false))) else (some false))) else (some false))
theorem laws_eqPiece.mono : ∀ a0 a1 a2 a3 a4 a5 a6 a7 k, LeO (laws_eqPiece.f k a0 a1 a2 a3 a4 a5 a6 a7) (laws_eqPiece.f (k + 1) a0 a1 a2 a3 a4 a5 a6 a7) := by
  intro a0 a1 a2 a3 a4 a5 a6 a7 k
  unfold laws_eqPiece.f
  have m0 := @laws_eqLinkS.mono
  have m1 := @laws_eqTableS.mono
  exact mo
theorem e19_0 {P : Prop} (h : P := by
 obtain rfl := Option.some.inj H
 go_enter Try.func70, Try.ntmps70
 go_wp2_with (first | ((with_reducible refine gd 2 rfl ?_); refine bx 2 #[.int .i64 a0_0, .int .i64 a0_1, .slice A0_2 l0_2.length c0_2, .slice A0_3 l0_3.length c0_3] 75 ?_; intro gb647 hg w9 hbox hb; have GW647 := bz w hg; have GE647 := bz w hg; replace HB := bs hb; have BK647 := am hbox; clear hb hbox hg) | ((with_reducible refine gd 3 rfl ?_); refine bx 3 #[.int .i64 a1_0, .int .i64 a1_1, .slice A1_2 l1_2.length c1_2, .slice A1_3 l1_3.length c1_3] 75 ?_; intro gb648 hg w10 hbox hb; have GW648 := bzw w hg; have GE648 := bzw w hg; replace HB := bsw hb; have BK648 := am hbox; have NB647_648 := nl BK647 hg; have NB648_647 := ng BK647 hg; replace BK647 := bb BK647 hb; clear hb hbox hg; have hnb11 := NB647_648.out; have hnc11 := NB648_647.out; obtain ⟨hcz12_0, hcz12_1, hcz12_2, hcz12_3, hfz12_0, hfz12_1, hfz12_2, hfz12_3⟩ := cc4 BK647; obtain ⟨hcz13_0, hcz13_1, hcz13_2, hcz13_3, hfz13_0, hfz13_1, hfz13_2, hfz13_3⟩ := cc4 BK648) | (have _ := A5; (with_reducible refine gc 84 rfl ?_); refine gL (some 9) Try.func84 #[.agg #[.int .i64 a0_0, .int .i64 a0_1], .agg #[.int .i64 a1_0, .int .i64 a1_1]] ?_; (with_reducible refine (laws_eqSpan.calls a0_0 a0_1 a1_0 a1_1 true _ A3.out).mono ?_); rintro e w14 ⟨rfl, hb⟩; refine ⟨_, rfl, ?_⟩; replace BK647 := bb BK647 hb; replace BK648 := bb BK648 hb; replace HB := bsw hb; (try clear hb); obtain ⟨hcz15_0, hcz15_1, hcz15_2, hcz15_3, hfz15_0, hfz15_1, hfz15_2, hfz15_3⟩ := cc4 BK647; obtain ⟨hcz16_0, hcz16_1, hcz16_2, hcz16_3, hfz16_0, hfz16_1, hfz16_2, hfz16_3⟩ := cc4 BK648) | (have _ := A7; (with_reducible refine gc 13 rfl ?_); refine gL (some 15) Try.func13 #[.slice A0_2 l0_2.length c0_2, .slice A1_2 l1_2.length c1_2] ?_; (with_reducible refine (laws_eqLinkS.calls k _ _ l0_2 _ _ l1_2 true _ ?side1 ?side2 ?side3 ?side4 A5.out).mono ?_); (case side1 => exact cb HR0_2); (case side2 => exact HC0_2.out); (case side3 => exact cb HR1_2); (case side4 => exact HC1_2.out); rintro e w17 ⟨rfl, hb⟩; refine ⟨_, rfl, ?_⟩; replace BK647 := bb BK647 hb; replace BK648 := bb BK648 hb; replace HB := bsw hb; (try clear hb); obtain ⟨hcz18_0, hcz18_1, hcz18_2, hcz18_3, hfz18_0, hfz18_1, hfz18_2, hfz18_3⟩ := cc4 BK647; obtain ⟨hcz19_0, hcz19_1, hcz19_2, hcz19_3, hfz19_0, hfz19_1, hfz19_2, hfz19_3⟩ := cc4 BK648) | ((with_reducible refine gc 85 rfl ?_); refine gL (some 21) Try.func85 #[.slice A0_3 l0_3.length c0_3, .slice A1_3 l1_3.length c1_3] ?_; (with_reducible refine (laws_eqTableS.calls k _ _ l0_3 _ _ l1_3 true _ ?side1 ?side2 ?side3 ?side4 A7.out).mono ?_); (case side1 => exact cb HR0_3); (case side2 => exact HC0_3.out); (case side3 => exact cb HR1_3); (case side4 => exact HC1_3.out); rintro e w20 ⟨rfl, hb⟩; refine ⟨_, rfl, ?_⟩; replace BK647 := bb BK647 hb; replace BK648 := bb BK648 hb; replace HB := bsw hb; (try clear hb)) | ((with_reducible refine gc 13 rfl ?_); refine gL (some 15) Try.func13 #[.slice A0_2 l0_2.length c0_2, .slice A1_2 l1_2.length c1_2] ?_; (with_reducible refine (laws_eqLinkS.calls k _ _ l0_2 _ _ l1_2 false _ ?side1 ?side2 ?side3 ?side4 A5.out).mono ?_); (case side1 => exact cb HR0_2); (case side2 => exact HC0_2.out); (case side3 => exact cb HR1_2); (case side4 => exact HC1_2.out); rintro e w41 ⟨rfl, hb⟩; refine ⟨_, rfl, ?_⟩; replace BK647 := bb BK647 hb; replace BK648 := bb BK648 hb; replace HB := bsw hb; (try clear hb)) | ((with_reducible refine gc 84 rfl ?_); refine gL (some 9) Try.func84 #[.agg #[.int .i64 a0_0, .int .i64 a0_1], .agg #[.int .i64 a1_0, .int .i64 a1_1]] ?_; (with_reducible refine (laws_eqSpan.calls a0_0 a0_1 a1_0 a1_1 false _ A3.out).mono ?_); rintro e w47 ⟨rfl, hb⟩; refine ⟨_, rfl, ?_⟩; replace BK647 := bb BK647 hb; replace BK648 := bb BK648 hb; replace HB := bsw hb; (try clear hb)))
 first
 | have _ := A5
   go_ret
   exact ⟨se, sbw⟩
 | go_ret
   exact ⟨se, sbw⟩
   ) : P := h
theorem laws_eqPiece.calls (k : Nat) (a0_0 : Int) (a0_1 : Int) (A0_2 : Option Addr) (c0_2 : Nat) (l0_2 : List (S55)) (A0_3 : Option Addr) (c0_3 : Nat) (l0_3 : List (S29)) (a1_0 : Int) (a1_1 : Int) (A1_2 : Option Addr) (c1_2 : Nat) (l1_2 : List (S55)) (A1_3 : Option Addr) (c1_3 : Nat) (l1_3 : List (S29)) (r : Bool) (w : World) (hr0_2 : Kd.C k55 w A0_2 l0_2.length l0_2) (hc0_2 : l0_2.length ≤ c0_2) (hr0_3 : Kd.C k29 w A0_3 l0_3.length l0_3) (hc0_3 : l0_3.length ≤ c0_3) (hr1_2 : Kd.C k55 w A1_2 l1_2.length l1_2) (hc1_2 : l1_2.length ≤ c1_2) (hr1_3 : Kd.C k29 w A1_3 l1_3.length l1_3) (hc1_3 : l1_3.length ≤ c1_3) (h : laws_eqPiece.f k a0_0 a0_1 l0_2 l0_3 a1_0 a1_1 l1_2 l1_3 = some r) :
    Calls Try.prog 70 #[.agg #[.int .i64 a0_0, .int .i64 a0_1, .slice A0_2 l0_2.length c0_2, .slice A0_3 l0_3.length c0_3], .agg #[.int .i64 a1_0, .int .i64 a1_1, .slice A1_2 l1_2.length c1_2, .slice A1_3 l1_3.length c1_3]] w fun e w' => e = .returned (.bool r) ∧ Below w.heap.size w w' := by
 have hu75 := Try.underlying75
 have hu72 := Try.underlying72
 have HR0_2 := am hr0_2
 have HC0_2 := am hc0_2
 clear hr0_2 hc0_2
 have HR0_3 := am hr0_3
 have HC0_3 := am hc0_3
 clear hr0_3 hc0_3
 have HR1_2 := am hr1_2
 have HC1_2 := am hc1_2
 clear hr1_2 hc1_2
 have HR1_3 := am hr1_3
 have HC1_3 := am hc1_3
 clear hr1_3 hc1_3
 have HB := am (Below.refl w.heap.size w)
 have H := h; unfold laws_eqPiece.f at H
 clear h
 obtain ⟨t649, A3, H⟩ := bnd H
 obtain rfl | rfl := tt t649
 ·replace H := ip H
  obtain ⟨t650, A5, H⟩ := bnd H
  obtain rfl | rfl := tt t650
  ·replace H := ip H
   obtain ⟨t651, A7, H⟩ := bnd H
   obtain rfl | rfl := tt t651
   ·replace H := ip H
    exact e19_0
   ·replace H := im H
    obtain rfl := Option.some.inj H
    go_enter Try.func70, Try.ntmps70
    go_wp2_with (first | ((with_reducible refine gd 2 rfl ?_); refine bx 2 #[.int .i64 a0_0, .int .i64 a0_1, .slice A0_2 l0_2.length c0_2, .slice A0_3 l0_3.length c0_3] 75 ?_; intro gb647 hg w21 hbox hb; have GW647 := bz w hg; have GE647 := bz w hg; replace HB := bs hb; have BK647 := am hbox; clear hb hbox hg) | ((with_reducible refine gd 3 rfl ?_); refine bx 3 #[.int .i64 a1_0, .int .i64 a1_1, .slice A1_2 l1_2.length c1_2, .slice A1_3 l1_3.length c1_3] 75 ?_; intro gb648 hg w22 hbox hb; have GW648 := bzw w hg; have GE648 := bzw w hg; replace HB := bsw hb; have BK648 := am hbox; have NB647_648 := nl BK647 hg; have NB648_647 := ng BK647 hg; replace BK647 := bb BK647 hb; clear hb hbox hg; have hnb23 := NB647_648.out; have hnc23 := NB648_647.out; obtain ⟨hcz24_0, hcz24_1, hcz24_2, hcz24_3, hfz24_0, hfz24_1, hfz24_2, hfz24_3⟩ := cc4 BK647; obtain ⟨hcz25_0, hcz25_1, hcz25_2, hcz25_3, hfz25_0, hfz25_1, hfz25_2, hfz25_3⟩ := cc4 BK648) | ((with_reducible refine gc 84 rfl ?_); refine gL (some 9) Try.func84 #[.agg #[.int .i64 a0_0, .int .i64 a0_1], .agg #[.int .i64 a1_0, .int .i64 a1_1]] ?_; (with_reducible refine (laws_eqSpan.calls a0_0 a0_1 a1_0 a1_1 true _ A3.out).mono ?_); rintro e w26 ⟨rfl, hb⟩; refine ⟨_, rfl, ?_⟩; replace BK647 := bb BK647 hb; replace BK648 := bb BK648 hb; replace HB := bsw hb; (try clear hb); obtain ⟨hcz27_0, hcz27_1, hcz27_2, hcz27_3, hfz27_0, hfz27_1, hfz27_2, hfz27_3⟩ := cc4 BK647; obtain ⟨hcz28_0, hcz28_1, hcz28_2, hcz28_3, hfz28_0, hfz28_1, hfz28_2, hfz28_3⟩ := cc4 BK648) | ((with_reducible refine gc 13 rfl ?_); refine gL (some 15) Try.func13 #[.slice A0_2 l0_2.length c0_2, .slice A1_2 l1_2.length c1_2] ?_; (with_reducible refine (laws_eqLinkS.calls k _ _ l0_2 _ _ l1_2 true _ ?side1 ?side2 ?side3 ?side4 A5.out).mono ?_); (case side1 => exact cb HR0_2); (case side2 => exact HC0_2.out); (case side3 => exact cb HR1_2); (case side4 => exact HC1_2.out); rintro e w29 ⟨rfl, hb⟩; refine ⟨_, rfl, ?_⟩; replace BK647 := bb BK647 hb; replace BK648 := bb BK648 hb; replace HB := bsw hb; (try clear hb); obtain ⟨hcz30_0, hcz30_1, hcz30_2, hcz30_3, hfz30_0, hfz30_1, hfz30_2, hfz30_3⟩ := cc4 BK647; obtain ⟨hcz31_0, hcz31_1, hcz31_2, hcz31_3, hfz31_0, hfz31_1, hfz31_2, hfz31_3⟩ := cc4 BK648) | ((with_reducible refine gc 85 rfl ?_); refine gL (some 21) Try.func85 #[.slice A0_3 l0_3.length c0_3, .slice A1_3 l1_3.length c1_3] ?_; (with_reducible refine (laws_eqTableS.calls k _ _ l0_3 _ _ l1_3 false _ ?side1 ?side2 ?side3 ?side4 A7.out).mono ?_); (case side1 => exact cb HR0_3); (case side2 => exact HC0_3.out); (case side3 => exact cb HR1_3); (case side4 => exact HC1_3.out); rintro e w32 ⟨rfl, hb⟩; refine ⟨_, rfl, ?_⟩; replace BK647 := bb BK647 hb; replace BK648 := bb BK648 hb; replace HB := bsw hb; (try clear hb)))
    go_ret
    exact ⟨se, sbw⟩
  ·replace H := im H
   exact e19_0
 ·replace H := im H
  exact e19_0
end Go.Proofs.Ytohbccekdmdmbaa.QFnExactRepairHop
