/- Printed by a program of the session. Conditions: none. (squeezed). -/
import Derived.Test.YthnlkgbhohchoaaGreatVFnExactRepairedAtQFnExactRepairedAtx20
namespace Go.Proofs.YthnlkgbhohchoaaGreat.QFnExactRepairedAt
set_option maxHeartbeats 8000000
set_option maxRecDepth 100000
open Go.RowKit Go.Proofs.YthnlkgbhohchoaaGreatW.PrintWords Go.Proofs.YthnlkgbhohchoaaGreatW.PrintLast Go.Proofs.YthnlkgbhohchoaaGreatW.PrintMore Go.Proofs.YthnlkgbhohchoaaGreat.Open Go.Proofs.YthnlkgbhohchoaaGreat.Sq
attribute [local go_sem] max2_int min2_int max_two min_two max_three min_three max_four min_four   -- for this text's walks alone
attribute [local go_sem] isSome_set
set_option linter.unusedVariables false
set_option linter.unusedSimpArgs false

def laws_eqTableS.l0 : Nat → List (S50) → List (S50) → Int → Option (Bool)
  | 0, _, _, _ => none
  | k + 1, x0, x1, x5 => if x5 < (x0.length : Int) then (if 0 ≤ x5 then (if x5 < (x1.length : Int) then ((laws_eqTable.f k ((rd_T50 x0 x5).f0) ((rd_T50 x0 x5).f1) ((rd_T50 x0 x5).f2) ((rd_T50 x1 x5).f0) ((rd_T50 x1 x5).f1) ((rd_T50 x1 x5).f2)).bind fun t705 => (if t705 = true then (laws_eqTableS.l0 k x0 x1 (wrap64 (x5 + 1))) else (some false))) else (none)) else (none)) else (some true)
def laws_eqTableS.f (k : Nat) (l0 : List (S50)) (l1 : List (S50)) : Option (Bool) := if (l0.length : Int) = (l1.length : Int) then (laws_eqTableS.l0 k l0 l1 0) else (some false)
theorem laws_eqTableS.mono_l : ∀ k, (∀ y0 y1 y2, LeO (laws_eqTableS.l0 k y0 y1 y2) (laws_eqTableS.l0 (k + 1) y0 y1 y2))
  | 0 => fun _ _ _ r h => by simp [laws_eqTableS.l0] at h
  | k + 1 => by
    have ih0 := laws_eqTableS.mono_l k
    · intro y0 y1 y2
      unfold laws_eqTableS.l0
      have m0 := @laws_eqTable.mono
      exact mo
theorem laws_eqTableS.mono : ∀ a0 a1 k, LeO (laws_eqTableS.f k a0 a1) (laws_eqTableS.f (k + 1) a0 a1) := by
  intro a0 a1 k
  have ih0 := laws_eqTableS.mono_l k
  unfold laws_eqTableS.f
  have m0 := @laws_eqTable.mono
  exact mo
def laws_eqTableS.T6 : Bool × List (List Nat × List Nat) := (true, [([], []), ([], []), ([0, 1], [0, 1]), ([2], [2]), ([], []), ([], []), ([4, 5], [4, 5]), ([6], [6]), ([3, 7], [3, 7]), ([8], [8])])
def laws_eqTableS.B6 : List Nat := [0, 0, 3, 7, 0, 0, 48, 112, 255, 511]
theorem laws_eqTableS.tab6 : rtab .any (opsOf Tryz.f117 6) = laws_eqTableS.T6 := by kernel_rfl
theorem laws_eqTableS.bits6 : waitsOk laws_eqTableS.T6.2 laws_eqTableS.B6 = true := by kernel_rfl
theorem laws_eqTableS.calls (k : Nat) (A0 : Option Addr) (c0 : Nat) (l0 : List (S50)) (A1 : Option Addr) (c1 : Nat) (l1 : List (S50)) (r : Bool) (w : World) (hr0 : Kd.C k50 w A0 l0.length l0) (hc0 : l0.length ≤ c0) (hr1 : Kd.C k50 w A1 l1.length l1) (hc1 : l1.length ≤ c1) (h : laws_eqTableS.f k l0 l1 = some r) :
    Calls Tryz.prog 117 #[.slice A0 l0.length c0, .slice A1 l1.length c1] w fun e w' => e = .returned (.bool r) ∧ Below w.heap.size w w' := by
 have hu50 := Tryz.underlying50
 have HR0 := am hr0
 have HC0 := am hc0
 clear hr0 hc0
 have HR1 := am hr1
 have HC1 := am hc1
 clear hr1 hc1
 have HB := am (Below.refl w.heap.size w)
 have H := h; unfold laws_eqTableS.f at H
 clear h
 obtain ⟨c3, c3b0, c3b1, H⟩ | ⟨c3, c3b0, c3b1, H⟩ := ib_ H
 ·have c3b2 : (l0.length == l1.length) = true := by first | simpa using c3 | (simp at c3 ⊢; omega)
  clear c3
  have H' := am H
  clear H
  go_enter Tryz.func117, Tryz.ntmps117
  go_wp2
  go_loopg [5] k (fun kq v5 w' => ∃ (x5_1 : Int), v5 = .int .i64 x5_1 ∧ Aside0 (laws_eqTableS.l0 kq l0 l1 x5_1 = some r) ∧ Aside0 (kq ≤ k) ∧ Aside0 (Below w.heap.size w w'))
  case atStart => exact ⟨(0), sc, H', kk0, ⟨sb⟩⟩
  case round =>
   clear H'
   try clear c3
   try clear c3b0
   try clear c3b1
   try clear c3b2
   obtain ⟨x5_1, rfl, HA, HK1, HB⟩ := hrel
   cases gk with
   | zero => exact absurd HA.out (by simp [laws_eqTableS.l0])
   | succ k1 =>
    have H := HA.out
    clear HA
    simp only [laws_eqTableS.l0] at H
    obtain ⟨-, c4b0, H⟩ | ⟨-, c4b0, H⟩ := ic_ H
    ·obtain ⟨c5b0, H⟩ := id_ H
     obtain ⟨c6b0, H⟩ := id_ H
     obtain ⟨t705, A7, H⟩ := bnd H
     obtain rfl | rfl := tt t705
     ·replace H := ip H
      have H' := am H
      clear H
      try go_wp2
      replace HB := am (below_drew1 HB.out)
      obtain ⟨p703, q703, ad703, A703_1, c703_1, A703_2, c703_2, e703, hw703_0, hw703_1, hw703_2, hx703_0, hx703_1, hx703_2, HC703_1, HR703_1, HC703_2, HR703_2⟩ := aT_T50 HR0 HB x5_1
      cases e703
      obtain ⟨p704, q704, ad704, A704_1, c704_1, A704_2, c704_2, e704, hw704_0, hw704_1, hw704_2, hx704_0, hx704_1, hx704_2, HC704_1, HR704_1, HC704_2, HR704_2⟩ := aT_T50 HR1 HB x5_1
      cases e704
      refine start_ (n := 10) (S := fun w' => w'.cell? (ad703.add ((x5_1).toNat * 3)) = some (.int .i64 ((rd_T50 l0 x5_1).f0)) ∧ w'.cell? ⟨(ad703.add ((x5_1).toNat * 3)).block, (ad703.add ((x5_1).toNat * 3)).off + 1, none⟩ = some (.slice A703_1 ((rd_T50 l0 x5_1).f1).length c703_1) ∧ w'.cell? ⟨(ad703.add ((x5_1).toNat * 3)).block, (ad703.add ((x5_1).toNat * 3)).off + 2, none⟩ = some (.slice A703_2 ((rd_T50 l0 x5_1).f2).length c703_2) ∧ w'.cell? (ad704.add ((x5_1).toNat * 3)) = some (.int .i64 ((rd_T50 l1 x5_1).f0)) ∧ w'.cell? ⟨(ad704.add ((x5_1).toNat * 3)).block, (ad704.add ((x5_1).toNat * 3)).off + 1, none⟩ = some (.slice A704_1 ((rd_T50 l1 x5_1).f1).length c704_1) ∧ w'.cell? ⟨(ad704.add ((x5_1).toNat * 3)).block, (ad704.add ((x5_1).toNat * 3)).off + 2, none⟩ = some (.slice A704_2 ((rd_T50 l1 x5_1).f2).length c704_2)) (ds := []) (bt 10 0) (by kernel_rfl) rfl (by kernel_rfl) ⟨(hb_ HB hw703_0), (hb_ HB hw703_1), (hb_ HB hw703_2), (hb_ HB hw704_0), (hb_ HB hw704_1), (hb_ HB hw704_2)⟩ (fun hHeld => ?_); refine with_tabW laws_eqTableS.tab6 laws_eqTableS.bits6 (fun HT_ HW_ => ?_)
      generalize wr.drew = w9 at HB HR703_1 HR703_2 HR704_1 HR704_2 hx703_0 hx703_1 hx703_2 hx704_0 hx704_1 hx704_2 hHeld ⊢
      refine r6_ 0 1 2 4 5 6 ?_
      refine tv_ 3 ?_
      refine tv_ 7 ?_
      refine ow_ 8 (fun K hK => ?_)
      refine goes_ Tryz.func149 (by kernel_rfl) rfl #[.agg #[.int .i64 ((rd_T50 l0 x5_1).f0), .slice A703_1 ((rd_T50 l0 x5_1).f1).length c703_1, .slice A703_2 ((rd_T50 l0 x5_1).f2).length c703_2], .agg #[.int .i64 ((rd_T50 l1 x5_1).f0), .slice A704_1 ((rd_T50 l1 x5_1).f1).length c704_1, .slice A704_2 ((rd_T50 l1 x5_1).f2).length c704_2]] (by rfl) rfl rfl sl ?_
      with_reducible refine (laws_eqTable.calls k1 ((rd_T50 l0 x5_1).f0) _ _ ((rd_T50 l0 x5_1).f1) _ _ ((rd_T50 l0 x5_1).f2) ((rd_T50 l1 x5_1).f0) _ _ ((rd_T50 l1 x5_1).f1) _ _ ((rd_T50 l1 x5_1).f2) true _ ?side1 ?side2 ?side3 ?side4 ?side5 ?side6 ?side7 ?side8 A7.out).mono ?_
      (case side1 => exact cb HR703_1)
      (case side2 => exact HC703_1.out)
      (case side3 => exact cb HR703_2)
      (case side4 => exact HC703_2.out)
      (case side5 => exact cb HR704_1)
      (case side6 => exact HC704_1.out)
      (case side7 => exact cb HR704_2)
      (case side8 => exact HC704_2.out)
      rintro e w10 ⟨rfl, hb⟩
      refine ⟨_, rfl, ?_⟩
      replace HB := bs hb
      (try clear hb)
      refine hw_ hK ⟨(hb_ HB hw703_0), (hb_ HB hw703_1), (hb_ HB hw703_2), (hb_ HB hw704_0), (hb_ HB hw704_1), (hb_ HB hw704_2)⟩ (fun hHeld => ?_)
      clear hK K
      refine r1_ 9 ?_
      refine done_ (done_of HT_.out (by kernel_rfl)) ?_
      try go_wp2
      go_roundg k1
      case measure => have := HK1.out; omega
      case rel => exact ⟨(wrap64 (x5_1 + 1)), sc, H', kk1, ⟨sb⟩⟩
     ·replace H := im H
      obtain rfl := Option.some.inj H
      try go_wp2
      replace HB := am (below_drew1 HB.out)
      obtain ⟨p703, q703, ad703, A703_1, c703_1, A703_2, c703_2, e703, hw703_0, hw703_1, hw703_2, hx703_0, hx703_1, hx703_2, HC703_1, HR703_1, HC703_2, HR703_2⟩ := aT_T50 HR0 HB x5_1
      cases e703
      obtain ⟨p704, q704, ad704, A704_1, c704_1, A704_2, c704_2, e704, hw704_0, hw704_1, hw704_2, hx704_0, hx704_1, hx704_2, HC704_1, HR704_1, HC704_2, HR704_2⟩ := aT_T50 HR1 HB x5_1
      cases e704
      refine start_ (n := 10) (S := fun w' => w'.cell? (ad703.add ((x5_1).toNat * 3)) = some (.int .i64 ((rd_T50 l0 x5_1).f0)) ∧ w'.cell? ⟨(ad703.add ((x5_1).toNat * 3)).block, (ad703.add ((x5_1).toNat * 3)).off + 1, none⟩ = some (.slice A703_1 ((rd_T50 l0 x5_1).f1).length c703_1) ∧ w'.cell? ⟨(ad703.add ((x5_1).toNat * 3)).block, (ad703.add ((x5_1).toNat * 3)).off + 2, none⟩ = some (.slice A703_2 ((rd_T50 l0 x5_1).f2).length c703_2) ∧ w'.cell? (ad704.add ((x5_1).toNat * 3)) = some (.int .i64 ((rd_T50 l1 x5_1).f0)) ∧ w'.cell? ⟨(ad704.add ((x5_1).toNat * 3)).block, (ad704.add ((x5_1).toNat * 3)).off + 1, none⟩ = some (.slice A704_1 ((rd_T50 l1 x5_1).f1).length c704_1) ∧ w'.cell? ⟨(ad704.add ((x5_1).toNat * 3)).block, (ad704.add ((x5_1).toNat * 3)).off + 2, none⟩ = some (.slice A704_2 ((rd_T50 l1 x5_1).f2).length c704_2)) (ds := []) (bt 10 0) (by kernel_rfl) rfl (by kernel_rfl) ⟨(hb_ HB hw703_0), (hb_ HB hw703_1), (hb_ HB hw703_2), (hb_ HB hw704_0), (hb_ HB hw704_1), (hb_ HB hw704_2)⟩ (fun hHeld => ?_); refine with_tabW laws_eqTableS.tab6 laws_eqTableS.bits6 (fun HT_ HW_ => ?_)
      generalize wr.drew = w11 at HB HR703_1 HR703_2 HR704_1 HR704_2 hx703_0 hx703_1 hx703_2 hx704_0 hx704_1 hx704_2 hHeld ⊢
      refine r6_ 0 1 2 4 5 6 ?_
      refine tv_ 3 ?_
      refine tv_ 7 ?_
      refine ow_ 8 (fun K hK => ?_)
      refine goes_ Tryz.func149 (by kernel_rfl) rfl #[.agg #[.int .i64 ((rd_T50 l0 x5_1).f0), .slice A703_1 ((rd_T50 l0 x5_1).f1).length c703_1, .slice A703_2 ((rd_T50 l0 x5_1).f2).length c703_2], .agg #[.int .i64 ((rd_T50 l1 x5_1).f0), .slice A704_1 ((rd_T50 l1 x5_1).f1).length c704_1, .slice A704_2 ((rd_T50 l1 x5_1).f2).length c704_2]] (by rfl) rfl rfl sl ?_
      with_reducible refine (laws_eqTable.calls k1 ((rd_T50 l0 x5_1).f0) _ _ ((rd_T50 l0 x5_1).f1) _ _ ((rd_T50 l0 x5_1).f2) ((rd_T50 l1 x5_1).f0) _ _ ((rd_T50 l1 x5_1).f1) _ _ ((rd_T50 l1 x5_1).f2) false _ ?side1 ?side2 ?side3 ?side4 ?side5 ?side6 ?side7 ?side8 A7.out).mono ?_
      (case side1 => exact cb HR703_1)
      (case side2 => exact HC703_1.out)
      (case side3 => exact cb HR703_2)
      (case side4 => exact HC703_2.out)
      (case side5 => exact cb HR704_1)
      (case side6 => exact HC704_1.out)
      (case side7 => exact cb HR704_2)
      (case side8 => exact HC704_2.out)
      rintro e w12 ⟨rfl, hb⟩
      refine ⟨_, rfl, ?_⟩
      replace HB := bs hb
      (try clear hb)
      refine hw_ hK ⟨(hb_ HB hw703_0), (hb_ HB hw703_1), (hb_ HB hw703_2), (hb_ HB hw704_0), (hb_ HB hw704_1), (hb_ HB hw704_2)⟩ (fun hHeld => ?_)
      clear hK K
      refine r1_ 9 ?_
      refine done_ (done_of HT_.out (by kernel_rfl)) ?_
      try go_wp2
      go_ret
      exact ⟨se, sb⟩
    ·obtain rfl := Option.some.inj H
     go_wp2
     go_ret
     exact ⟨se, sb⟩
 ·have c3b2 : (l0.length == l1.length) = false := by first | simpa using c3 | (simp at c3 ⊢; omega)
  obtain rfl := Option.some.inj H
  go_enter Tryz.func117, Tryz.ntmps117
  go_wp2
  go_ret
  exact ⟨se, sb⟩

def laws_eqPiece.f (k : Nat) (a0_0 : Int) (a0_1 : Int) (l0_2 : List (S90)) (l0_3 : List (S50)) (a1_0 : Int) (a1_1 : Int) (l1_2 : List (S90)) (l1_3 : List (S50)) : Option (Bool) := (laws_eqSpan.f a0_0 a0_1 a1_0 a1_1).bind fun t708 => (if t708 = true then ((laws_eqLinkS.f k l0_2 l1_2).bind fun t709 => (if t709 = true then ((laws_eqTableS.f k l0_3 l1_3).bind fun t710 => (if t710 = true then (some true) else (some false))) else (some false))) else (some false))
theorem laws_eqPiece.mono : ∀ a0 a1 a2 a3 a4 a5 a6 a7 k, LeO (laws_eqPiece.f k a0 a1 a2 a3 a4 a5 a6 a7) (laws_eqPiece.f (k + 1) a0 a1 a2 a3 a4 a5 a6 a7) := by
  intro a0 a1 a2 a3 a4 a5 a6 a7 k
  unfold laws_eqPiece.f
  have m0 := @laws_eqLinkS.mono
  have m1 := @laws_eqTableS.mono
  exact mo
theorem e21_0 {P : Prop} (h : P := by
 obtain rfl := Option.some.inj H
 go_enter Tryz.func75, Tryz.ntmps75
 go_wp2_with (first | ((with_reducible refine gd 2 rfl ?_); refine bx 2 #[.int .i64 a0_0, .int .i64 a0_1, .slice A0_2 l0_2.length c0_2, .slice A0_3 l0_3.length c0_3] 76 ?_; intro gb706 hg w9 hbox hb; have GW706 := bz w hg; have GE706 := bz w hg; replace HB := bs hb; have BK706 := am hbox; clear hb hbox hg) | ((with_reducible refine gd 3 rfl ?_); refine bx 3 #[.int .i64 a1_0, .int .i64 a1_1, .slice A1_2 l1_2.length c1_2, .slice A1_3 l1_3.length c1_3] 76 ?_; intro gb707 hg w10 hbox hb; have GW707 := bzw w hg; have GE707 := bzw w hg; replace HB := bsw hb; have BK707 := am hbox; have NB706_707 := nl BK706 hg; have NB707_706 := ng BK706 hg; replace BK706 := bb BK706 hb; clear hb hbox hg; have hnb11 := NB706_707.out; have hnc11 := NB707_706.out; obtain ⟨_, _, _, _, _, _, _, _⟩ := cc4 BK706; obtain ⟨_, _, _, _, _, _, _, _⟩ := cc4 BK707) | (have _ := A5; (with_reducible refine gc 115 rfl ?_); refine gL (some 9) Tryz.func115 #[.agg #[.int .i64 a0_0, .int .i64 a0_1], .agg #[.int .i64 a1_0, .int .i64 a1_1]] ?_; (with_reducible refine (laws_eqSpan.calls a0_0 a0_1 a1_0 a1_1 true _ A3.out).mono ?_); rintro e w14 ⟨rfl, hb⟩; refine ⟨_, rfl, ?_⟩; replace BK706 := bb BK706 hb; replace BK707 := bb BK707 hb; replace HB := bsw hb; (try clear hb); obtain ⟨_, _, _, _, _, _, _, _⟩ := cc4 BK706; obtain ⟨_, _, _, _, _, _, _, _⟩ := cc4 BK707) | (have _ := A7; (with_reducible refine gc 116 rfl ?_); refine gL (some 15) Tryz.func116 #[.slice A0_2 l0_2.length c0_2, .slice A1_2 l1_2.length c1_2] ?_; (with_reducible refine (laws_eqLinkS.calls k _ _ l0_2 _ _ l1_2 true _ ?side1 ?side2 ?side3 ?side4 A5.out).mono ?_); (case side1 => exact cb HR0_2); (case side2 => exact HC0_2.out); (case side3 => exact cb HR1_2); (case side4 => exact HC1_2.out); rintro e w17 ⟨rfl, hb⟩; refine ⟨_, rfl, ?_⟩; replace BK706 := bb BK706 hb; replace BK707 := bb BK707 hb; replace HB := bsw hb; (try clear hb); obtain ⟨_, _, _, _, _, _, _, _⟩ := cc4 BK706; obtain ⟨_, _, _, _, _, _, _, _⟩ := cc4 BK707) | ((with_reducible refine gc 117 rfl ?_); refine gL (some 21) Tryz.func117 #[.slice A0_3 l0_3.length c0_3, .slice A1_3 l1_3.length c1_3] ?_; (with_reducible refine (laws_eqTableS.calls k _ _ l0_3 _ _ l1_3 true _ ?side1 ?side2 ?side3 ?side4 A7.out).mono ?_); (case side1 => exact cb HR0_3); (case side2 => exact HC0_3.out); (case side3 => exact cb HR1_3); (case side4 => exact HC1_3.out); rintro e w20 ⟨rfl, hb⟩; refine ⟨_, rfl, ?_⟩; replace BK706 := bb BK706 hb; replace BK707 := bb BK707 hb; replace HB := bsw hb; (try clear hb)) | ((with_reducible refine gc 116 rfl ?_); refine gL (some 15) Tryz.func116 #[.slice A0_2 l0_2.length c0_2, .slice A1_2 l1_2.length c1_2] ?_; (with_reducible refine (laws_eqLinkS.calls k _ _ l0_2 _ _ l1_2 false _ ?side1 ?side2 ?side3 ?side4 A5.out).mono ?_); (case side1 => exact cb HR0_2); (case side2 => exact HC0_2.out); (case side3 => exact cb HR1_2); (case side4 => exact HC1_2.out); rintro e w41 ⟨rfl, hb⟩; refine ⟨_, rfl, ?_⟩; replace BK706 := bb BK706 hb; replace BK707 := bb BK707 hb; replace HB := bsw hb; (try clear hb)) | ((with_reducible refine gc 115 rfl ?_); refine gL (some 9) Tryz.func115 #[.agg #[.int .i64 a0_0, .int .i64 a0_1], .agg #[.int .i64 a1_0, .int .i64 a1_1]] ?_; (with_reducible refine (laws_eqSpan.calls a0_0 a0_1 a1_0 a1_1 false _ A3.out).mono ?_); rintro e w47 ⟨rfl, hb⟩; refine ⟨_, rfl, ?_⟩; replace BK706 := bb BK706 hb; replace BK707 := bb BK707 hb; replace HB := bsw hb; (try clear hb)))
 first
 | have _ := A5
   go_ret
   exact ⟨se, sbw⟩
 | go_ret
   exact ⟨se, sbw⟩
   ) : P := h
theorem laws_eqPiece.calls (k : Nat) (a0_0 : Int) (a0_1 : Int) (A0_2 : Option Addr) (c0_2 : Nat) (l0_2 : List (S90)) (A0_3 : Option Addr) (c0_3 : Nat) (l0_3 : List (S50)) (a1_0 : Int) (a1_1 : Int) (A1_2 : Option Addr) (c1_2 : Nat) (l1_2 : List (S90)) (A1_3 : Option Addr) (c1_3 : Nat) (l1_3 : List (S50)) (r : Bool) (w : World) (hr0_2 : Kd.C k90 w A0_2 l0_2.length l0_2) (hc0_2 : l0_2.length ≤ c0_2) (hr0_3 : Kd.C k50 w A0_3 l0_3.length l0_3) (hc0_3 : l0_3.length ≤ c0_3) (hr1_2 : Kd.C k90 w A1_2 l1_2.length l1_2) (hc1_2 : l1_2.length ≤ c1_2) (hr1_3 : Kd.C k50 w A1_3 l1_3.length l1_3) (hc1_3 : l1_3.length ≤ c1_3) (h : laws_eqPiece.f k a0_0 a0_1 l0_2 l0_3 a1_0 a1_1 l1_2 l1_3 = some r) :
    Calls Tryz.prog 75 #[.agg #[.int .i64 a0_0, .int .i64 a0_1, .slice A0_2 l0_2.length c0_2, .slice A0_3 l0_3.length c0_3], .agg #[.int .i64 a1_0, .int .i64 a1_1, .slice A1_2 l1_2.length c1_2, .slice A1_3 l1_3.length c1_3]] w fun e w' => e = .returned (.bool r) ∧ Below w.heap.size w w' := by
 have hu76 := Tryz.underlying76
 have hu73 := Tryz.underlying73
 have HR0_2 := am hr0_2
 have HC0_2 := am hc0_2
 clear hr0_2 hc0_2
 have HR0_3 := am hr0_3
 have HC0_3 := am hc0_3
 clear hr0_3 hc0_3
 have HR1_2 := am hr1_2
 have HC1_2 := am hc1_2
 clear hr1_2 hc1_2
 have HR1_3 := am hr1_3
 have HC1_3 := am hc1_3
 clear hr1_3 hc1_3
 have HB := am (Below.refl w.heap.size w)
 have H := h; unfold laws_eqPiece.f at H
 clear h
 obtain ⟨t708, A3, H⟩ := bnd H
 obtain rfl | rfl := tt t708
 ·replace H := ip H
  obtain ⟨t709, A5, H⟩ := bnd H
  obtain rfl | rfl := tt t709
  ·replace H := ip H
   obtain ⟨t710, A7, H⟩ := bnd H
   obtain rfl | rfl := tt t710
   ·replace H := ip H
    exact e21_0
   ·replace H := im H
    obtain rfl := Option.some.inj H
    go_enter Tryz.func75, Tryz.ntmps75
    go_wp2_with (first | ((with_reducible refine gd 2 rfl ?_); refine bx 2 #[.int .i64 a0_0, .int .i64 a0_1, .slice A0_2 l0_2.length c0_2, .slice A0_3 l0_3.length c0_3] 76 ?_; intro gb706 hg w21 hbox hb; have GW706 := bz w hg; have GE706 := bz w hg; replace HB := bs hb; have BK706 := am hbox; clear hb hbox hg) | ((with_reducible refine gd 3 rfl ?_); refine bx 3 #[.int .i64 a1_0, .int .i64 a1_1, .slice A1_2 l1_2.length c1_2, .slice A1_3 l1_3.length c1_3] 76 ?_; intro gb707 hg w22 hbox hb; have GW707 := bzw w hg; have GE707 := bzw w hg; replace HB := bsw hb; have BK707 := am hbox; have NB706_707 := nl BK706 hg; have NB707_706 := ng BK706 hg; replace BK706 := bb BK706 hb; clear hb hbox hg; have hnb23 := NB706_707.out; have hnc23 := NB707_706.out; obtain ⟨_, _, _, _, _, _, _, _⟩ := cc4 BK706; obtain ⟨_, _, _, _, _, _, _, _⟩ := cc4 BK707) | ((with_reducible refine gc 115 rfl ?_); refine gL (some 9) Tryz.func115 #[.agg #[.int .i64 a0_0, .int .i64 a0_1], .agg #[.int .i64 a1_0, .int .i64 a1_1]] ?_; (with_reducible refine (laws_eqSpan.calls a0_0 a0_1 a1_0 a1_1 true _ A3.out).mono ?_); rintro e w26 ⟨rfl, hb⟩; refine ⟨_, rfl, ?_⟩; replace BK706 := bb BK706 hb; replace BK707 := bb BK707 hb; replace HB := bsw hb; (try clear hb); obtain ⟨_, _, _, _, _, _, _, _⟩ := cc4 BK706; obtain ⟨_, _, _, _, _, _, _, _⟩ := cc4 BK707) | ((with_reducible refine gc 116 rfl ?_); refine gL (some 15) Tryz.func116 #[.slice A0_2 l0_2.length c0_2, .slice A1_2 l1_2.length c1_2] ?_; (with_reducible refine (laws_eqLinkS.calls k _ _ l0_2 _ _ l1_2 true _ ?side1 ?side2 ?side3 ?side4 A5.out).mono ?_); (case side1 => exact cb HR0_2); (case side2 => exact HC0_2.out); (case side3 => exact cb HR1_2); (case side4 => exact HC1_2.out); rintro e w29 ⟨rfl, hb⟩; refine ⟨_, rfl, ?_⟩; replace BK706 := bb BK706 hb; replace BK707 := bb BK707 hb; replace HB := bsw hb; (try clear hb); obtain ⟨_, _, _, _, _, _, _, _⟩ := cc4 BK706; obtain ⟨_, _, _, _, _, _, _, _⟩ := cc4 BK707) | ((with_reducible refine gc 117 rfl ?_); refine gL (some 21) Tryz.func117 #[.slice A0_3 l0_3.length c0_3, .slice A1_3 l1_3.length c1_3] ?_; (with_reducible refine (laws_eqTableS.calls k _ _ l0_3 _ _ l1_3 false _ ?side1 ?side2 ?side3 ?side4 A7.out).mono ?_); (case side1 => exact cb HR0_3); (case side2 => exact HC0_3.out); (case side3 => exact cb HR1_3); (case side4 => exact HC1_3.out); rintro e w32 ⟨rfl, hb⟩; refine ⟨_, rfl, ?_⟩; replace BK706 := bb BK706 hb; replace BK707 := bb BK707 hb; replace HB := bsw hb; (try clear hb)))
    go_ret
    exact ⟨se, sbw⟩
  ·replace H := im H
   exact e21_0
 ·replace H := im H
  exact e21_0
end Go.Proofs.YthnlkgbhohchoaaGreat.QFnExactRepairedAt
