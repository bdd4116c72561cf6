/- Printed by a program of the session. Conditions: none. (squeezed). -/
import Derived.Test.YtohbccekdmdmbaaVFnExactRepairHopQFnExactRepairHopx17
namespace Go.Proofs.Ytohbccekdmdmbaa.QFnExactRepairHop
set_option maxHeartbeats 8000000
set_option maxRecDepth 100000
open Go.RowKit Go.Proofs.YtohbccekdmdmbaaW.PrintWords Go.Proofs.YtohbccekdmdmbaaW.PrintLast Go.Proofs.YtohbccekdmdmbaaW.PrintMore Go.Proofs.Ytohbccekdmdmbaa.Open Go.Proofs.Ytohbccekdmdmbaa.Sq
attribute [local go_sem] max2_int min2_int max_two min_two max_three min_three max_four min_four   -- for this text's walks alone
attribute [local go_sem] isSome_set
set_option linter.unusedVariables false
set_option linter.unusedSimpArgs false

def laws_eqLinkS.l0 : Nat → List (S55) → List (S55) → Int → Option (Bool)
  | 0, _, _, _ => none
  | k + 1, x0, x1, x5 => if x5 < (x0.length : Int) then (if 0 ≤ x5 then (if x5 < (x1.length : Int) then ((laws_eqLink.f ((rd_T55 x0 x5).f0) ((rd_T55 x0 x5).f1) ((rd_T55 x1 x5).f0) ((rd_T55 x1 x5).f1)).bind fun t637 => (if t637 = true then (laws_eqLinkS.l0 k x0 x1 (wrap64 (x5 + 1))) else (some false))) else (none)) else (none)) else (some true)
def laws_eqLinkS.f (k : Nat) (l0 : List (S55)) (l1 : List (S55)) : Option (Bool) := if (l0.length : Int) = (l1.length : Int) then (laws_eqLinkS.l0 k l0 l1 0) else (some false)
theorem laws_eqLinkS.mono_l : ∀ k, (∀ y0 y1 y2, LeO (laws_eqLinkS.l0 k y0 y1 y2) (laws_eqLinkS.l0 (k + 1) y0 y1 y2))
  | 0 => fun _ _ _ r h => by simp [laws_eqLinkS.l0] at h
  | k + 1 => by
    have ih0 := laws_eqLinkS.mono_l k
    · intro y0 y1 y2
      unfold laws_eqLinkS.l0
      exact mo
theorem laws_eqLinkS.mono : ∀ a0 a1 k, LeO (laws_eqLinkS.f k a0 a1) (laws_eqLinkS.f (k + 1) a0 a1) := by
  intro a0 a1 k
  have ih0 := laws_eqLinkS.mono_l k
  unfold laws_eqLinkS.f
  exact mo
def laws_eqLinkS.T6 : Bool × List (List Nat × List Nat) := (true, [([], []), ([], []), ([0, 1], [0, 1]), ([2], [2]), ([], []), ([], []), ([4, 5], [4, 5]), ([6], [6]), ([3, 7], [3, 7]), ([8], [8])])
def laws_eqLinkS.B6 : List Nat := [0, 0, 3, 7, 0, 0, 48, 112, 255, 511]
theorem laws_eqLinkS.tab6 : rtab .any (opsOf Try.f13 6) = laws_eqLinkS.T6 := by kernel_rfl
theorem laws_eqLinkS.bits6 : waitsOk laws_eqLinkS.T6.2 laws_eqLinkS.B6 = true := by kernel_rfl
theorem laws_eqLinkS.calls (k : Nat) (A0 : Option Addr) (c0 : Nat) (l0 : List (S55)) (A1 : Option Addr) (c1 : Nat) (l1 : List (S55)) (r : Bool) (w : World) (hr0 : Kd.C k55 w A0 l0.length l0) (hc0 : l0.length ≤ c0) (hr1 : Kd.C k55 w A1 l1.length l1) (hc1 : l1.length ≤ c1) (h : laws_eqLinkS.f k l0 l1 = some r) :
    Calls Try.prog 13 #[.slice A0 l0.length c0, .slice A1 l1.length c1] w fun e w' => e = .returned (.bool r) ∧ Below w.heap.size w w' := by
 have hu55 := Try.underlying55
 have HR0 := am hr0
 have HC0 := am hc0
 clear hr0 hc0
 have HR1 := am hr1
 have HC1 := am hc1
 clear hr1 hc1
 have HB := am (Below.refl w.heap.size w)
 have H := h; unfold laws_eqLinkS.f at H
 clear h
 obtain ⟨c3, c3b0, c3b1, H⟩ | ⟨c3, c3b0, c3b1, H⟩ := ib_ H
 ·have c3b2 : (l0.length == l1.length) = true := by first | simpa using c3 | (simp at c3 ⊢; omega)
  clear c3
  have H' := am H
  clear H
  go_enter Try.func13, Try.ntmps13
  go_wp2
  go_loopg [5] k (fun kq v5 w' => ∃ (x5_1 : Int), v5 = .int .i64 x5_1 ∧ Aside0 (laws_eqLinkS.l0 kq l0 l1 x5_1 = some r) ∧ Aside0 (kq ≤ k) ∧ Aside0 (Below w.heap.size w w'))
  case atStart => exact ⟨(0), sc, H', kk0, ⟨sb⟩⟩
  case round =>
   clear H'
   try clear c3
   try clear c3b0
   try clear c3b1
   try clear c3b2
   obtain ⟨x5_1, rfl, HA, HK1, HB⟩ := hrel
   cases gk with
   | zero => exact absurd HA.out (by simp [laws_eqLinkS.l0])
   | succ k1 =>
    have H := HA.out
    clear HA
    simp only [laws_eqLinkS.l0] at H
    obtain ⟨-, c4b0, H⟩ | ⟨-, c4b0, H⟩ := ic_ H
    ·obtain ⟨c5b0, H⟩ := id_ H
     obtain ⟨c6b0, H⟩ := id_ H
     obtain ⟨t637, A7, H⟩ := bnd H
     obtain rfl | rfl := tt t637
     ·replace H := ip H
      have H' := am H
      clear H
      try go_wp2
      replace HB := am (below_drew1 HB.out)
      obtain ⟨p635, q635, ad635, e635, hw635_0, hw635_1, hx635_0, hx635_1⟩ := aT_T55 HR0 HB x5_1
      cases e635
      obtain ⟨p636, q636, ad636, e636, hw636_0, hw636_1, hx636_0, hx636_1⟩ := aT_T55 HR1 HB x5_1
      cases e636
      refine start_ (n := 10) (S := fun w' => w'.cell? (ad635.add ((x5_1).toNat * 2)) = some (.int .i64 ((rd_T55 l0 x5_1).f0)) ∧ w'.cell? ⟨(ad635.add ((x5_1).toNat * 2)).block, (ad635.add ((x5_1).toNat * 2)).off + 1, none⟩ = some (.int .i64 ((rd_T55 l0 x5_1).f1)) ∧ w'.cell? (ad636.add ((x5_1).toNat * 2)) = some (.int .i64 ((rd_T55 l1 x5_1).f0)) ∧ w'.cell? ⟨(ad636.add ((x5_1).toNat * 2)).block, (ad636.add ((x5_1).toNat * 2)).off + 1, none⟩ = some (.int .i64 ((rd_T55 l1 x5_1).f1))) (ds := []) #[false, false, false, false, false, false, false, false, false, false] (by kernel_rfl) rfl rfl ⟨(hb_ HB hw635_0), (hb_ HB hw635_1), (hb_ HB hw636_0), (hb_ HB hw636_1)⟩ (fun hHeld => ?_); refine with_tabW laws_eqLinkS.tab6 laws_eqLinkS.bits6 (fun HT_ HW_ => ?_)
      generalize wr.drew = w9 at HB hx635_0 hx635_1 hx636_0 hx636_1 hHeld ⊢
      refine put 0 17 (bt 10 1) HT_ ?_
      refine put 1 18 (bt 10 3) HT_ ?_
      refine put 2 19 (bt 10 7) HT_ ?_
      refine put 4 21 (bt 10 23) HT_ ?_
      refine put 5 22 (bt 10 55) HT_ ?_
      refine put 6 23 (bt 10 119) HT_ ?_
      refine tat4 3 20 (bt 10 127) HT_ HW_ hHeld ?_
      refine tat4 7 24 (bt 10 255) HT_ HW_ hHeld ?_
      refine on 8 25 (bt 10 511) HT_ (fun K hK => ?_)
      refine goes_ Try.func29 (by kernel_rfl) rfl #[.agg #[.int .i64 ((rd_T55 l0 x5_1).f0), .int .i64 ((rd_T55 l0 x5_1).f1)], .agg #[.int .i64 ((rd_T55 l1 x5_1).f0), .int .i64 ((rd_T55 l1 x5_1).f1)]] (by rfl) rfl rfl sl ?_
      with_reducible refine (laws_eqLink.calls ((rd_T55 l0 x5_1).f0) ((rd_T55 l0 x5_1).f1) ((rd_T55 l1 x5_1).f0) ((rd_T55 l1 x5_1).f1) true _ A7.out).mono ?_
      rintro e w10 ⟨rfl, hb⟩
      refine ⟨_, rfl, ?_⟩
      replace HB := bs hb
      (try clear hb)
      (try clear hb2)
      (try clear hk)
      (try clear hi)
      refine hK.out _ _ ⟨(hb_ HB hw635_0), (hb_ HB hw635_1), (hb_ HB hw636_0), (hb_ HB hw636_1)⟩ (fun hHeld => ?_)
      clear hK K
      refine nm 25 ?_
      refine put 9 26 (bt 10 1023) HT_ ?_
      refine done_ (done_of HT_.out (by kernel_rfl)) ?_
      try go_wp2
      go_roundg k1
      case measure => have := HK1.out; omega
      case rel => exact ⟨(wrap64 (x5_1 + 1)), sc, H', kk1, ⟨sb⟩⟩
     ·replace H := im H
      obtain rfl := Option.some.inj H
      try go_wp2
      replace HB := am (below_drew1 HB.out)
      obtain ⟨p635, q635, ad635, e635, hw635_0, hw635_1, hx635_0, hx635_1⟩ := aT_T55 HR0 HB x5_1
      cases e635
      obtain ⟨p636, q636, ad636, e636, hw636_0, hw636_1, hx636_0, hx636_1⟩ := aT_T55 HR1 HB x5_1
      cases e636
      refine start_ (n := 10) (S := fun w' => w'.cell? (ad635.add ((x5_1).toNat * 2)) = some (.int .i64 ((rd_T55 l0 x5_1).f0)) ∧ w'.cell? ⟨(ad635.add ((x5_1).toNat * 2)).block, (ad635.add ((x5_1).toNat * 2)).off + 1, none⟩ = some (.int .i64 ((rd_T55 l0 x5_1).f1)) ∧ w'.cell? (ad636.add ((x5_1).toNat * 2)) = some (.int .i64 ((rd_T55 l1 x5_1).f0)) ∧ w'.cell? ⟨(ad636.add ((x5_1).toNat * 2)).block, (ad636.add ((x5_1).toNat * 2)).off + 1, none⟩ = some (.int .i64 ((rd_T55 l1 x5_1).f1))) (ds := []) #[false, false, false, false, false, false, false, false, false, false] (by kernel_rfl) rfl rfl ⟨(hb_ HB hw635_0), (hb_ HB hw635_1), (hb_ HB hw636_0), (hb_ HB hw636_1)⟩ (fun hHeld => ?_); refine with_tabW laws_eqLinkS.tab6 laws_eqLinkS.bits6 (fun HT_ HW_ => ?_)
      generalize wr.drew = w11 at HB hx635_0 hx635_1 hx636_0 hx636_1 hHeld ⊢
      refine put 0 17 (bt 10 1) HT_ ?_
      refine put 1 18 (bt 10 3) HT_ ?_
      refine put 2 19 (bt 10 7) HT_ ?_
      refine put 4 21 (bt 10 23) HT_ ?_
      refine put 5 22 (bt 10 55) HT_ ?_
      refine put 6 23 (bt 10 119) HT_ ?_
      refine tat4 3 20 (bt 10 127) HT_ HW_ hHeld ?_
      refine tat4 7 24 (bt 10 255) HT_ HW_ hHeld ?_
      refine on 8 25 (bt 10 511) HT_ (fun K hK => ?_)
      refine goes_ Try.func29 (by kernel_rfl) rfl #[.agg #[.int .i64 ((rd_T55 l0 x5_1).f0), .int .i64 ((rd_T55 l0 x5_1).f1)], .agg #[.int .i64 ((rd_T55 l1 x5_1).f0), .int .i64 ((rd_T55 l1 x5_1).f1)]] (by rfl) rfl rfl sl ?_
      with_reducible refine (laws_eqLink.calls ((rd_T55 l0 x5_1).f0) ((rd_T55 l0 x5_1).f1) ((rd_T55 l1 x5_1).f0) ((rd_T55 l1 x5_1).f1) false _ A7.out).mono ?_
      rintro e w12 ⟨rfl, hb⟩
      refine ⟨_, rfl, ?_⟩
      replace HB := bs hb
      (try clear hb)
      (try clear hb2)
      (try clear hk)
      (try clear hi)
      refine hK.out _ _ ⟨(hb_ HB hw635_0), (hb_ HB hw635_1), (hb_ HB hw636_0), (hb_ HB hw636_1)⟩ (fun hHeld => ?_)
      clear hK K
      refine nm 25 ?_
      refine put 9 26 (bt 10 1023) HT_ ?_
      refine done_ (done_of HT_.out (by kernel_rfl)) ?_
      try go_wp2
      go_ret
      exact ⟨se, sb⟩
    ·obtain rfl := Option.some.inj H
     go_wp2
     go_ret
     exact ⟨se, sb⟩
 ·have c3b2 : (l0.length == l1.length) = false := by first | simpa using c3 | (simp at c3 ⊢; omega)
  obtain rfl := Option.some.inj H
  go_enter Try.func13, Try.ntmps13
  go_wp2
  go_ret
  exact ⟨se, sb⟩

def laws_eqSpan.f (a0_0 : Int) (a0_1 : Int) (a1_0 : Int) (a1_1 : Int) : Option (Bool) := if a0_0 = a1_0 then (if a0_1 = a1_1 then (some true) else (some false)) else (some false)
theorem e18_0 {P : Prop} (h : P := by
 obtain rfl := Option.some.inj H
 go_enter Try.func84, Try.ntmps84
 go_wp2_with (first | ((with_reducible refine gd 2 rfl ?_); refine bx 2 #[.int .i64 a0_0, .int .i64 a0_1] 72 ?_; intro gb638 hg w5 hbox hb; have GW638 := bz w hg; have GE638 := bz w hg; replace HB := bs hb; have BK638 := am hbox; clear hb hbox hg) | ((with_reducible refine gd 3 rfl ?_); refine bx 3 #[.int .i64 a1_0, .int .i64 a1_1] 72 ?_; intro gb639 hg w6 hbox hb; have GW639 := bzw w hg; have GE639 := bzw w hg; replace HB := bsw hb; have BK639 := am hbox; have NB638_639 := nl BK638 hg; have NB639_638 := ng BK638 hg; replace BK638 := bb BK638 hb; clear hb hbox hg; have hnb7 := NB638_639.out; have hnc7 := NB639_638.out; obtain ⟨hcz8_0, hcz8_1, hfz8_0, hfz8_1⟩ := cc2 BK638; obtain ⟨hcz9_0, hcz9_1, hfz9_0, hfz9_1⟩ := cc2 BK639))
 first
 | have _ := c4b0
   go_ret
   exact ⟨se, sbw⟩
 | go_ret
   exact ⟨se, sbw⟩
   ) : P := h
theorem laws_eqSpan.calls (a0_0 : Int) (a0_1 : Int) (a1_0 : Int) (a1_1 : Int) (r : Bool) (w : World) (h : laws_eqSpan.f a0_0 a0_1 a1_0 a1_1 = some r) :
    Calls Try.prog 84 #[.agg #[.int .i64 a0_0, .int .i64 a0_1], .agg #[.int .i64 a1_0, .int .i64 a1_1]] w fun e w' => e = .returned (.bool r) ∧ Below w.heap.size w w' := by
 have hu72 := Try.underlying72
 have HB := am (Below.refl w.heap.size w)
 have H := h; unfold laws_eqSpan.f at H
 clear h
 obtain ⟨-, c3b0, c3b1, H⟩ | ⟨c3, c3b0, c3b1, H⟩ := ib_ H
 ·obtain ⟨-, c4b0, c4b1, H⟩ | ⟨c4, c4b0, c4b1, H⟩ := ib_ H
  ·exact e18_0
  ·exact e18_0
 ·exact e18_0
def laws_eqTable.f (k : Nat) (a0_0 : Int) (l0_1 : List Int) (l0_2 : List Int) (a1_0 : Int) (l1_1 : List Int) (l1_2 : List Int) : Option (Bool) := if a0_0 = a1_0 then ((laws_eqIntS.f k l0_1 l1_1).bind fun t642 => (if t642 = true then ((laws_eqIntS.f k l0_2 l1_2).bind fun t643 => (if t643 = true then (some true) else (some false))) else (some false))) else (some false)
theorem laws_eqTable.mono : ∀ a0 a1 a2 a3 a4 a5 k, LeO (laws_eqTable.f k a0 a1 a2 a3 a4 a5) (laws_eqTable.f (k + 1) a0 a1 a2 a3 a4 a5) := by
  intro a0 a1 a2 a3 a4 a5 k
  unfold laws_eqTable.f
  have m0 := @laws_eqIntS.mono
  exact mo
theorem e18_1 {P : Prop} (h : P := by
 obtain rfl := Option.some.inj H
 go_enter Try.func12, Try.ntmps12
 go_wp2_with (first | ((with_reducible refine gd 2 rfl ?_); refine bx 2 #[.int .i64 a0_0, .slice A0_1 l0_1.length c0_1, .slice A0_2 l0_2.length c0_2] 29 ?_; intro gb640 hg w8 hbox hb; have GW640 := bz w hg; have GE640 := bz w hg; replace HB := bs hb; have BK640 := am hbox; clear hb hbox hg) | ((with_reducible refine gd 3 rfl ?_); refine bx 3 #[.int .i64 a1_0, .slice A1_1 l1_1.length c1_1, .slice A1_2 l1_2.length c1_2] 29 ?_; intro gb641 hg w9 hbox hb; have GW641 := bzw w hg; have GE641 := bzw w hg; replace HB := bsw hb; have BK641 := am hbox; have NB640_641 := nl BK640 hg; have NB641_640 := ng BK640 hg; replace BK640 := bb BK640 hb; clear hb hbox hg; have hnb10 := NB640_641.out; have hnc10 := NB641_640.out; obtain ⟨hcz11_0, hcz11_1, hcz11_2, hfz11_0, hfz11_1, hfz11_2⟩ := cc3 BK640; obtain ⟨hcz12_0, hcz12_1, hcz12_2, hfz12_0, hfz12_1, hfz12_2⟩ := cc3 BK641) | (have _ := A6; (with_reducible refine gc 16 rfl ?_); refine gL (some 14) Try.func16 #[.slice A0_1 l0_1.length c0_1, .slice A1_1 l1_1.length c1_1] ?_; (with_reducible refine (laws_eqIntS.calls k _ _ l0_1 _ _ l1_1 true _ ?side1 ?side2 ?side3 ?side4 A4.out).mono ?_); (case side1 => exact cb HR0_1); (case side2 => exact HC0_1.out); (case side3 => exact cb HR1_1); (case side4 => exact HC1_1.out); rintro e w' ⟨rfl, ⟨nd, rfl⟩⟩; refine ⟨_, rfl, ?_⟩) | ((with_reducible refine gc 16 rfl ?_); refine gL (some 20) Try.func16 #[.slice A0_2 l0_2.length c0_2, .slice A1_2 l1_2.length c1_2] ?_; (with_reducible refine (laws_eqIntS.calls k _ _ l0_2 _ _ l1_2 true _ ?side1 ?side2 ?side3 ?side4 A6.out).mono ?_); (case side1 => exact cbw HR0_2); (case side2 => exact HC0_2.out); (case side3 => exact cbw HR1_2); (case side4 => exact HC1_2.out); rintro e w' ⟨rfl, ⟨nd, rfl⟩⟩; refine ⟨_, rfl, ?_⟩) | ((with_reducible refine gc 16 rfl ?_); refine gL (some 14) Try.func16 #[.slice A0_1 l0_1.length c0_1, .slice A1_1 l1_1.length c1_1] ?_; (with_reducible refine (laws_eqIntS.calls k _ _ l0_1 _ _ l1_1 false _ ?side1 ?side2 ?side3 ?side4 A4.out).mono ?_); (case side1 => exact cb HR0_1); (case side2 => exact HC0_1.out); (case side3 => exact cb HR1_1); (case side4 => exact HC1_1.out); rintro e w' ⟨rfl, ⟨nd, rfl⟩⟩; refine ⟨_, rfl, ?_⟩))
 first
 | have _ := A4
   go_ret
   exact ⟨se, sbw⟩
 | go_ret
   exact ⟨se, sbw⟩
   ) : P := h
theorem laws_eqTable.calls (k : Nat) (a0_0 : Int) (A0_1 : Option Addr) (c0_1 : Nat) (l0_1 : List Int) (A0_2 : Option Addr) (c0_2 : Nat) (l0_2 : List Int) (a1_0 : Int) (A1_1 : Option Addr) (c1_1 : Nat) (l1_1 : List Int) (A1_2 : Option Addr) (c1_2 : Nat) (l1_2 : List Int) (r : Bool) (w : World) (hr0_1 : Kd.C (Kd.int .i64) w A0_1 l0_1.length l0_1) (hc0_1 : l0_1.length ≤ c0_1) (hr0_2 : Kd.C (Kd.int .i64) w A0_2 l0_2.length l0_2) (hc0_2 : l0_2.length ≤ c0_2) (hr1_1 : Kd.C (Kd.int .i64) w A1_1 l1_1.length l1_1) (hc1_1 : l1_1.length ≤ c1_1) (hr1_2 : Kd.C (Kd.int .i64) w A1_2 l1_2.length l1_2) (hc1_2 : l1_2.length ≤ c1_2) (h : laws_eqTable.f k a0_0 l0_1 l0_2 a1_0 l1_1 l1_2 = some r) :
    Calls Try.prog 12 #[.agg #[.int .i64 a0_0, .slice A0_1 l0_1.length c0_1, .slice A0_2 l0_2.length c0_2], .agg #[.int .i64 a1_0, .slice A1_1 l1_1.length c1_1, .slice A1_2 l1_2.length c1_2]] w fun e w' => e = .returned (.bool r) ∧ Below w.heap.size w w' := by
 have hu29 := Try.underlying29
 have HR0_1 := am hr0_1
 have HC0_1 := am hc0_1
 clear hr0_1 hc0_1
 have HR0_2 := am hr0_2
 have HC0_2 := am hc0_2
 clear hr0_2 hc0_2
 have HR1_1 := am hr1_1
 have HC1_1 := am hc1_1
 clear hr1_1 hc1_1
 have HR1_2 := am hr1_2
 have HC1_2 := am hc1_2
 clear hr1_2 hc1_2
 have HB := am (Below.refl w.heap.size w)
 have H := h; unfold laws_eqTable.f at H
 clear h
 obtain ⟨-, c3b0, c3b1, H⟩ | ⟨c3, c3b0, c3b1, H⟩ := ib_ H
 ·obtain ⟨t642, A4, H⟩ := bnd H
  obtain rfl | rfl := tt t642
  ·replace H := ip H
   obtain ⟨t643, A6, H⟩ := bnd H
   obtain rfl | rfl := tt t643
   ·replace H := ip H
    exact e18_1
   ·replace H := im H
    obtain rfl := Option.some.inj H
    go_enter Try.func12, Try.ntmps12
    go_wp2_with (first | ((with_reducible refine gd 2 rfl ?_); refine bx 2 #[.int .i64 a0_0, .slice A0_1 l0_1.length c0_1, .slice A0_2 l0_2.length c0_2] 29 ?_; intro gb640 hg w13 hbox hb; have GW640 := bz w hg; have GE640 := bz w hg; replace HB := bs hb; have BK640 := am hbox; clear hb hbox hg) | ((with_reducible refine gd 3 rfl ?_); refine bx 3 #[.int .i64 a1_0, .slice A1_1 l1_1.length c1_1, .slice A1_2 l1_2.length c1_2] 29 ?_; intro gb641 hg w14 hbox hb; have GW641 := bzw w hg; have GE641 := bzw w hg; replace HB := bsw hb; have BK641 := am hbox; have NB640_641 := nl BK640 hg; have NB641_640 := ng BK640 hg; replace BK640 := bb BK640 hb; clear hb hbox hg; have hnb15 := NB640_641.out; have hnc15 := NB641_640.out; obtain ⟨hcz16_0, hcz16_1, hcz16_2, hfz16_0, hfz16_1, hfz16_2⟩ := cc3 BK640; obtain ⟨hcz17_0, hcz17_1, hcz17_2, hfz17_0, hfz17_1, hfz17_2⟩ := cc3 BK641) | ((with_reducible refine gc 16 rfl ?_); refine gL (some 14) Try.func16 #[.slice A0_1 l0_1.length c0_1, .slice A1_1 l1_1.length c1_1] ?_; (with_reducible refine (laws_eqIntS.calls k _ _ l0_1 _ _ l1_1 true _ ?side1 ?side2 ?side3 ?side4 A4.out).mono ?_); (case side1 => exact cb HR0_1); (case side2 => exact HC0_1.out); (case side3 => exact cb HR1_1); (case side4 => exact HC1_1.out); rintro e w' ⟨rfl, ⟨nd, rfl⟩⟩; refine ⟨_, rfl, ?_⟩) | ((with_reducible refine gc 16 rfl ?_); refine gL (some 20) Try.func16 #[.slice A0_2 l0_2.length c0_2, .slice A1_2 l1_2.length c1_2] ?_; (with_reducible refine (laws_eqIntS.calls k _ _ l0_2 _ _ l1_2 false _ ?side1 ?side2 ?side3 ?side4 A6.out).mono ?_); (case side1 => exact cbw HR0_2); (case side2 => exact HC0_2.out); (case side3 => exact cbw HR1_2); (case side4 => exact HC1_2.out); rintro e w' ⟨rfl, ⟨nd, rfl⟩⟩; refine ⟨_, rfl, ?_⟩))
    go_ret
    exact ⟨se, sbw⟩
  ·replace H := im H
   exact e18_1
 ·exact e18_1
end Go.Proofs.Ytohbccekdmdmbaa.QFnExactRepairHop
