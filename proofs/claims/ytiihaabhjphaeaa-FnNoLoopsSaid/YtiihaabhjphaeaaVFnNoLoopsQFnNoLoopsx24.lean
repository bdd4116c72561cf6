/- Printed by a program of the session. Conditions: none. (squeezed). -/
import Derived.Test.YtiihaabhjphaeaaVFnNoLoopsQFnNoLoopsx17
namespace Go.Proofs.Ytiihaabhjphaeaa.QFnNoLoops
set_option maxHeartbeats 8000000
set_option maxRecDepth 100000
open Go.RowKit Go.Proofs.YtiihaabhjphaeaaW.PrintWords Go.Proofs.YtiihaabhjphaeaaW.PrintLast Go.Proofs.YtiihaabhjphaeaaW.PrintMore Go.Proofs.Ytiihaabhjphaeaa.Open Go.Proofs.Ytiihaabhjphaeaa.Sq
attribute [local go_sem] max2_int min2_int max_two min_two max_three min_three max_four min_four   -- for this text's walks alone
attribute [local go_sem] isSome_set
set_option linter.unusedVariables false
set_option linter.unusedSimpArgs false

def impl_IsHolding.f (k : Nat) (a0_0 : Int) (a0_1 : Int) (a0_2 : Int) (l0_3 : List (S105)) (a1 : Int) (a2 : Int) (a3 : Int) : Option (Bool) := (impl_PieceAt.f a0_0 a0_1 a0_2 l0_3 a3).bind fun t767 => ((impl_nextIn.f a0_0 a0_1 a0_2 l0_3 t767 a2 a1).bind fun bt768 => ((impl_HopAt.f k a0_0 a0_1 a0_2 l0_3 a1 a2 a3).bind fun t770 => (if t770 = (-1) then (some (decide (bt768.1 ≥ 0))) else (some false))))
theorem impl_IsHolding.mono : ∀ a0 a1 a2 a3 a4 a5 a6 k, LeO (impl_IsHolding.f k a0 a1 a2 a3 a4 a5 a6) (impl_IsHolding.f (k + 1) a0 a1 a2 a3 a4 a5 a6) := by
  intro a0 a1 a2 a3 a4 a5 a6 k
  unfold impl_IsHolding.f
  have m0 := @impl_HopAt.mono
  exact mo
def impl_IsHolding.T1 : Bool × List (List Nat × List Nat) := (true, [([], []), ([], []), ([], []), ([1, 2], [1, 2]), ([], []), ([], []), ([0, 3, 4, 5, 3], [0, 3, 4, 5]), ([6], [6]), ([7], [7]), ([7], [7]), ([8, 6, 0, 1, 2, 3, 4, 5, 6, 7, 8], [8]), ([9, 10, 0, 1, 2, 3, 4, 5, 6, 7, 8, 9, 10], [9])])
def impl_IsHolding.B1 : List Nat := [0, 0, 0, 6, 0, 0, 63, 127, 255, 255, 511, 2047]
theorem impl_IsHolding.tab1 : rtab .any (opsOf Try.f43 1) = impl_IsHolding.T1 := by kernel_rfl
theorem impl_IsHolding.bits1 : waitsOk impl_IsHolding.T1.2 impl_IsHolding.B1 = true := by kernel_rfl
theorem impl_IsHolding.calls (k : Nat) (a0_0 : Int) (a0_1 : Int) (a0_2 : Int) (A0_3 : Option Addr) (c0_3 : Nat) (l0_3 : List (S105)) (a1 : Int) (a2 : Int) (a3 : Int) (r : Bool) (w : World) (hr0_3 : Kd.C k105 w A0_3 l0_3.length l0_3) (hc0_3 : l0_3.length ≤ c0_3) (h : impl_IsHolding.f k a0_0 a0_1 a0_2 l0_3 a1 a2 a3 = some r) :
    Calls Try.prog 43 #[.agg #[.int .i64 a0_0, .int .i64 a0_1, .int .i64 a0_2, .slice A0_3 l0_3.length c0_3], .int .i64 a1, .int .i64 a2, .int .i64 a3] w fun e w' => e = .returned (.bool r) ∧ Below w.heap.size w w' := by
 have hu31 := Try.underlying31
 have HR0_3 := am hr0_3
 have HC0_3 := am hc0_3
 clear hr0_3 hc0_3
 have HB := am (Below.refl w.heap.size w)
 have H := h; unfold impl_IsHolding.f at H
 clear h
 obtain ⟨t767, A5, H⟩ := bnd H
 obtain ⟨⟨t768, t769⟩, A6, H⟩ := bnd H
 try dsimp only at H
 obtain ⟨t770, A7, H⟩ := bnd H
 obtain ⟨-, c8b0, c8b1, H⟩ | ⟨c8, c8b0, c8b1, H⟩ := ib_ H
 ·obtain rfl := Option.some.inj H
  go_enter Try.func43, Try.ntmps43
  try go_wp2_with (first | ((with_reducible refine gd 4 rfl ?_); refine bx 4 #[.int .i64 a0_0, .int .i64 a0_1, .int .i64 a0_2, .slice A0_3 l0_3.length c0_3] 31 ?_; intro gb766 hg w9 hbox hb; have GW766 := bz w hg; have GE766 := bz w hg; replace HB := bs hb; have BK766 := am hbox; clear hb hbox hg))
  replace BK766 := am (blk_drew BK766.out)
  replace HB := am (below_drew1 HB.out)
  refine start_ (n := 12) (S := fun w' => w'.cell? ⟨gb766, 0, none⟩ = some (.int .i64 a0_0) ∧ w'.cell? ⟨gb766, 1, none⟩ = some (.int .i64 a0_1) ∧ w'.cell? ⟨gb766, 2, none⟩ = some (.int .i64 a0_2) ∧ w'.cell? ⟨gb766, 3, none⟩ = some (.slice A0_3 l0_3.length c0_3)) (ds := []) #[false, false, false, false, false, false, false, false, false, false, false, false] (by kernel_rfl) rfl rfl ⟨bc0 BK766, bc1 BK766, bc2 BK766, bc3 BK766⟩ (fun hHeld => ?_); refine with_tabW impl_IsHolding.tab1 impl_IsHolding.bits1 (fun HT_ HW_ => ?_)
  generalize w9.drew = w10 at BK766 HB hHeld ⊢
  refine put 2 14 (bt 12 4) HT_ ?_
  refine put 4 16 (bt 12 20) HT_ ?_
  refine put 5 17 (bt 12 52) HT_ ?_
  refine tat4 0 12 (bt 12 53) HT_ HW_ hHeld ?_
  refine tat4 1 13 (bt 12 55) HT_ HW_ hHeld ?_
  refine on 3 15 (bt 12 63) HT_ (fun K hK => ?_)
  refine goes_ Try.func42 (by kernel_rfl) rfl #[.agg #[.int .i64 a0_0, .int .i64 a0_1, .int .i64 a0_2, .slice A0_3 l0_3.length c0_3], .int .i64 a3] (by rfl) rfl rfl sl ?_
  with_reducible refine (impl_PieceAt.calls a0_0 a0_1 a0_2 _ _ l0_3 a3 t767 _ ?side1 ?side2 A5.out).mono ?_
  (case side1 => exact cb HR0_3)
  (case side2 => exact HC0_3.out)
  rintro e w11 ⟨rfl, hb⟩
  refine ⟨_, rfl, ?_⟩
  replace BK766 := bb BK766 hb
  replace HB := bsw hb
  (try clear hb)
  (try clear hb2)
  (try clear hk)
  (try clear hi)
  refine hK.out _ _ ⟨bc0 BK766, bc1 BK766, bc2 BK766, bc3 BK766⟩ (fun hHeld => ?_)
  clear hK K
  refine nm 15 ?_
  refine on 6 18 (bt 12 127) HT_ (fun K hK => ?_)
  refine goes_ Try.func81 (by kernel_rfl) rfl #[.agg #[.int .i64 a0_0, .int .i64 a0_1, .int .i64 a0_2, .slice A0_3 l0_3.length c0_3], .int .i64 t767, .int .i64 a2, .int .i64 a1] (by rfl) rfl rfl sl ?_
  with_reducible refine (impl_nextIn.calls a0_0 a0_1 a0_2 _ _ l0_3 t767 a2 a1 t768 t769 _ ?side1 ?side2 A6.out).mono ?_
  (case side1 => exact cb HR0_3)
  (case side2 => exact HC0_3.out)
  rintro e w12 ⟨rfl, hb⟩
  refine ⟨_, rfl, ?_⟩
  replace BK766 := bb BK766 hb
  replace HB := bsw hb
  (try clear hb)
  (try clear hb2)
  (try clear hk)
  (try clear hi)
  refine hK.out _ _ ⟨bc0 BK766, bc1 BK766, bc2 BK766, bc3 BK766⟩ (fun hHeld => ?_)
  clear hK K
  refine nm 18 ?_
  refine put 7 11 (bt 12 255) HT_ ?_
  refine put 8 19 (bt 12 511) HT_ ?_
  refine put 9 20 (bt 12 1023) HT_ ?_
  refine put 10 9 (bt 12 2047) HT_ ?_
  refine put 11 10 (bt 12 4095) HT_ ?_
  refine done_ (done_of HT_.out (by kernel_rfl)) ?_
  obtain ⟨hcz13_0, hcz13_1, hcz13_2, hcz13_3, hfz13_0, hfz13_1, hfz13_2, hfz13_3⟩ := cc4 BK766
  try go_wp2_with (first | ((with_reducible refine gc 27 rfl ?_); refine gL (some 25) Try.func27 #[.agg #[.int .i64 a0_0, .int .i64 a0_1, .int .i64 a0_2, .slice A0_3 l0_3.length c0_3], .int .i64 a1, .int .i64 a2, .int .i64 a3] ?_; (with_reducible refine (impl_HopAt.calls k a0_0 a0_1 a0_2 _ _ l0_3 a1 a2 a3 t770 _ ?side1 ?side2 A7.out).mono ?_); (case side1 => exact cb HR0_3); (case side2 => exact HC0_3.out); rintro e w14 ⟨rfl, hb⟩; refine ⟨_, rfl, ?_⟩; replace BK766 := bb BK766 hb; replace HB := bsw hb; (try clear hb)))
  go_ret
  exact ⟨se, sbw⟩
 ·obtain rfl := Option.some.inj H
  go_enter Try.func43, Try.ntmps43
  try go_wp2_with (first | ((with_reducible refine gd 4 rfl ?_); refine bx 4 #[.int .i64 a0_0, .int .i64 a0_1, .int .i64 a0_2, .slice A0_3 l0_3.length c0_3] 31 ?_; intro gb766 hg w15 hbox hb; have GW766 := bz w hg; have GE766 := bz w hg; replace HB := bs hb; have BK766 := am hbox; clear hb hbox hg))
  replace BK766 := am (blk_drew BK766.out)
  replace HB := am (below_drew1 HB.out)
  refine start_ (n := 12) (S := fun w' => w'.cell? ⟨gb766, 0, none⟩ = some (.int .i64 a0_0) ∧ w'.cell? ⟨gb766, 1, none⟩ = some (.int .i64 a0_1) ∧ w'.cell? ⟨gb766, 2, none⟩ = some (.int .i64 a0_2) ∧ w'.cell? ⟨gb766, 3, none⟩ = some (.slice A0_3 l0_3.length c0_3)) (ds := []) #[false, false, false, false, false, false, false, false, false, false, false, false] (by kernel_rfl) rfl rfl ⟨bc0 BK766, bc1 BK766, bc2 BK766, bc3 BK766⟩ (fun hHeld => ?_); refine with_tabW impl_IsHolding.tab1 impl_IsHolding.bits1 (fun HT_ HW_ => ?_)
  generalize w15.drew = w16 at BK766 HB hHeld ⊢
  refine put 2 14 (bt 12 4) HT_ ?_
  refine put 4 16 (bt 12 20) HT_ ?_
  refine put 5 17 (bt 12 52) HT_ ?_
  refine tat4 0 12 (bt 12 53) HT_ HW_ hHeld ?_
  refine tat4 1 13 (bt 12 55) HT_ HW_ hHeld ?_
  refine on 3 15 (bt 12 63) HT_ (fun K hK => ?_)
  refine goes_ Try.func42 (by kernel_rfl) rfl #[.agg #[.int .i64 a0_0, .int .i64 a0_1, .int .i64 a0_2, .slice A0_3 l0_3.length c0_3], .int .i64 a3] (by rfl) rfl rfl sl ?_
  with_reducible refine (impl_PieceAt.calls a0_0 a0_1 a0_2 _ _ l0_3 a3 t767 _ ?side1 ?side2 A5.out).mono ?_
  (case side1 => exact cb HR0_3)
  (case side2 => exact HC0_3.out)
  rintro e w17 ⟨rfl, hb⟩
  refine ⟨_, rfl, ?_⟩
  replace BK766 := bb BK766 hb
  replace HB := bsw hb
  (try clear hb)
  (try clear hb2)
  (try clear hk)
  (try clear hi)
  refine hK.out _ _ ⟨bc0 BK766, bc1 BK766, bc2 BK766, bc3 BK766⟩ (fun hHeld => ?_)
  clear hK K
  refine nm 15 ?_
  refine on 6 18 (bt 12 127) HT_ (fun K hK => ?_)
  refine goes_ Try.func81 (by kernel_rfl) rfl #[.agg #[.int .i64 a0_0, .int .i64 a0_1, .int .i64 a0_2, .slice A0_3 l0_3.length c0_3], .int .i64 t767, .int .i64 a2, .int .i64 a1] (by rfl) rfl rfl sl ?_
  with_reducible refine (impl_nextIn.calls a0_0 a0_1 a0_2 _ _ l0_3 t767 a2 a1 t768 t769 _ ?side1 ?side2 A6.out).mono ?_
  (case side1 => exact cb HR0_3)
  (case side2 => exact HC0_3.out)
  rintro e w18 ⟨rfl, hb⟩
  refine ⟨_, rfl, ?_⟩
  replace BK766 := bb BK766 hb
  replace HB := bsw hb
  (try clear hb)
  (try clear hb2)
  (try clear hk)
  (try clear hi)
  refine hK.out _ _ ⟨bc0 BK766, bc1 BK766, bc2 BK766, bc3 BK766⟩ (fun hHeld => ?_)
  clear hK K
  refine nm 18 ?_
  refine put 7 11 (bt 12 255) HT_ ?_
  refine put 8 19 (bt 12 511) HT_ ?_
  refine put 9 20 (bt 12 1023) HT_ ?_
  refine put 10 9 (bt 12 2047) HT_ ?_
  refine put 11 10 (bt 12 4095) HT_ ?_
  refine done_ (done_of HT_.out (by kernel_rfl)) ?_
  obtain ⟨hcz19_0, hcz19_1, hcz19_2, hcz19_3, hfz19_0, hfz19_1, hfz19_2, hfz19_3⟩ := cc4 BK766
  try go_wp2_with (first | ((with_reducible refine gc 27 rfl ?_); refine gL (some 25) Try.func27 #[.agg #[.int .i64 a0_0, .int .i64 a0_1, .int .i64 a0_2, .slice A0_3 l0_3.length c0_3], .int .i64 a1, .int .i64 a2, .int .i64 a3] ?_; (with_reducible refine (impl_HopAt.calls k a0_0 a0_1 a0_2 _ _ l0_3 a1 a2 a3 t770 _ ?side1 ?side2 A7.out).mono ?_); (case side1 => exact cb HR0_3); (case side2 => exact HC0_3.out); rintro e w20 ⟨rfl, hb⟩; refine ⟨_, rfl, ?_⟩; replace BK766 := bb BK766 hb; replace HB := bsw hb; (try clear hb)))
  go_ret
  exact ⟨se, sbw⟩

mutual
def impl_HeldAt.l0 : Nat → Int → List Int → Int → List Int → Int → Int → Int → Int → Int → List (S105) → Option (Int)
  | 0, _, _, _, _, _, _, _, _, _, _ => none
  | k + 1, x1, x2, x7, x17, x18, x19, x772000, x772001, x772002, x772003 => if x19 < x18 then (if 0 ≤ x19 then (if x19 < (x17.length : Int) then (impl_HeldAt.l1 k x1 x2 x7 x19 (rd x17 x19) x17 x18 x19 (x2.length : Int) 0 x772000 x772001 x772002 x772003) else (none)) else (none)) else (some x7)
def impl_HeldAt.l1 : Nat → Int → List Int → Int → Int → Int → List Int → Int → Int → Int → Int → Int → Int → Int → List (S105) → Option (Int)
  | 0, _, _, _, _, _, _, _, _, _, _, _, _, _, _ => none
  | k + 1, x1, x2, x7, x8, x9, x17, x18, x19, x25, x26, x772000, x772001, x772002, x772003 => if x26 < x25 then ((impl_IsHolding.f k x772000 x772001 x772002 x772003 x8 x26 (wrap64 (x1 + x9))).bind fun t774 => (if t774 = true then (impl_HeldAt.l1 k x1 x2 (wrap64 (x7 + 1)) x8 x9 x17 x18 x19 x25 (wrap64 (x26 + 1)) x772000 x772001 x772002 x772003) else (impl_HeldAt.l1 k x1 x2 x7 x8 x9 x17 x18 x19 x25 (wrap64 (x26 + 1)) x772000 x772001 x772002 x772003))) else (impl_HeldAt.l0 k x1 x2 x7 x17 x18 (wrap64 (x19 + 1)) x772000 x772001 x772002 x772003)
end
def impl_HeldAt.f (k : Nat) (a0_0 : Int) (a0_1 : Int) (a0_2 : Int) (l0_3 : List (S105)) (a1 : Int) (l2 : List Int) : Option (Int) := (impl_isMoment.f k a0_0 a0_1 a0_2 l0_3 a1 l2).bind fun t772 => (if t772 = true then (impl_HeldAt.l0 k a1 l2 0 l2 (l2.length : Int) 0 a0_0 a0_1 a0_2 l0_3) else (some 0))
theorem impl_HeldAt.mono_l : ∀ k, (∀ y0 y1 y2 y3 y4 y5 y6 y7 y8 y9, LeO (impl_HeldAt.l0 k y0 y1 y2 y3 y4 y5 y6 y7 y8 y9) (impl_HeldAt.l0 (k + 1) y0 y1 y2 y3 y4 y5 y6 y7 y8 y9)) ∧ (∀ y0 y1 y2 y3 y4 y5 y6 y7 y8 y9 y10 y11 y12 y13, LeO (impl_HeldAt.l1 k y0 y1 y2 y3 y4 y5 y6 y7 y8 y9 y10 y11 y12 y13) (impl_HeldAt.l1 (k + 1) y0 y1 y2 y3 y4 y5 y6 y7 y8 y9 y10 y11 y12 y13))
  | 0 => ⟨fun _ _ _ _ _ _ _ _ _ _ r h => by simp [impl_HeldAt.l0] at h, fun _ _ _ _ _ _ _ _ _ _ _ _ _ _ r h => by simp [impl_HeldAt.l1] at h⟩
  | k + 1 => by
    obtain ⟨ih0, ih1⟩ := impl_HeldAt.mono_l k
    refine ⟨?_, ?_⟩
    · intro y0 y1 y2 y3 y4 y5 y6 y7 y8 y9
      unfold impl_HeldAt.l0
      have m0 := @impl_IsHolding.mono
      have m1 := @impl_isMoment.mono
      exact mo
    · intro y0 y1 y2 y3 y4 y5 y6 y7 y8 y9 y10 y11 y12 y13
      unfold impl_HeldAt.l1
      have m0 := @impl_IsHolding.mono
      have m1 := @impl_isMoment.mono
      exact mo
theorem impl_HeldAt.mono : ∀ a0 a1 a2 a3 a4 a5 k, LeO (impl_HeldAt.f k a0 a1 a2 a3 a4 a5) (impl_HeldAt.f (k + 1) a0 a1 a2 a3 a4 a5) := by
  intro a0 a1 a2 a3 a4 a5 k
  obtain ⟨ih0, ih1⟩ := impl_HeldAt.mono_l k
  unfold impl_HeldAt.f
  have m0 := @impl_IsHolding.mono
  have m1 := @impl_isMoment.mono
  exact mo
theorem impl_HeldAt.calls (k : Nat) (a0_0 : Int) (a0_1 : Int) (a0_2 : Int) (A0_3 : Option Addr) (c0_3 : Nat) (l0_3 : List (S105)) (a1 : Int) (A2 : Option Addr) (c2 : Nat) (l2 : List Int) (r : Int) (w : World) (hr0_3 : Kd.C k105 w A0_3 l0_3.length l0_3) (hc0_3 : l0_3.length ≤ c0_3) (hr2 : Kd.C (Kd.int .i64) w A2 l2.length l2) (hc2 : l2.length ≤ c2) (h : impl_HeldAt.f k a0_0 a0_1 a0_2 l0_3 a1 l2 = some r) :
    Calls Try.prog 28 #[.agg #[.int .i64 a0_0, .int .i64 a0_1, .int .i64 a0_2, .slice A0_3 l0_3.length c0_3], .int .i64 a1, .slice A2 l2.length c2] w fun e w' => e = .returned (.int .i64 r) ∧ Below w.heap.size w w' := by
 have hu31 := Try.underlying31
 have HR0_3 := am hr0_3
 have HC0_3 := am hc0_3
 clear hr0_3 hc0_3
 have HR2 := am hr2
 have HC2 := am hc2
 clear hr2 hc2
 have HB := am (Below.refl w.heap.size w)
 have H := h; unfold impl_HeldAt.f at H
 clear h
 obtain ⟨t772, A4, H⟩ := bnd H
 obtain rfl | rfl := tt t772
 ·replace H := ip H
  have H' := am H
  clear H
  go_enter Try.func28, Try.ntmps28
  go_wp2_with (first | ((with_reducible refine gd 3 rfl ?_); refine bx 3 #[.int .i64 a0_0, .int .i64 a0_1, .int .i64 a0_2, .slice A0_3 l0_3.length c0_3] 31 ?_; intro gb771 hg w6 hbox hb; have GW771 := bz w hg; have GE771 := bz w hg; replace HB := bs hb; have BK771 := am hbox; clear hb hbox hg; obtain ⟨hcz7_0, hcz7_1, hcz7_2, hcz7_3, hfz7_0, hfz7_1, hfz7_2, hfz7_3⟩ := cc4 BK771) | ((with_reducible refine gc 83 rfl ?_); refine gL (some 14) Try.func83 #[.agg #[.int .i64 a0_0, .int .i64 a0_1, .int .i64 a0_2, .slice A0_3 l0_3.length c0_3], .int .i64 a1, .slice A2 l2.length c2] ?_; (with_reducible refine (impl_isMoment.calls k a0_0 a0_1 a0_2 _ _ l0_3 a1 _ _ l2 true _ ?side1 ?side2 ?side3 ?side4 A4.out).mono ?_); (case side1 => exact cb HR0_3); (case side2 => exact HC0_3.out); (case side3 => exact cb HR2); (case side4 => exact HC2.out); rintro e w8 ⟨rfl, hb⟩; refine ⟨_, rfl, ?_⟩; replace BK771 := bb BK771 hb; replace HB := bsw hb; (try clear hb)))
  go_loopg [7, 19] k (fun kq v7 v19 w' => ∃ (x7_1 : Int) (x19_1 : Int), v7 = .int .i64 x7_1 ∧ v19 = .int .i64 x19_1 ∧ Aside0 (impl_HeldAt.l0 kq a1 l2 x7_1 l2 (l2.length : Int) x19_1 a0_0 a0_1 a0_2 l0_3 = some r) ∧ Aside0 (kq ≤ k) ∧ Aside0 (w'.heap[gb771]? = some (.cells #[.int .i64 a0_0, .int .i64 a0_1, .int .i64 a0_2, (.slice A0_3 l0_3.length c0_3)] 31 (0, 0))) ∧ Aside0 (Below w.heap.size w w'))
  case atStart => exact ⟨(0), (0), sc, sc, H', kk0, ⟨sk BK771⟩, ⟨sbw⟩⟩
  case round =>
   clear H'
   obtain ⟨x7_1, x19_1, rfl, rfl, HA, HK1, BK771, HB⟩ := hrel
   cases gk with
   | zero => exact absurd HA.out (by simp [impl_HeldAt.l0])
   | succ k1 =>
    have H := HA.out
    clear HA
    simp only [impl_HeldAt.l0] at H
    obtain ⟨-, c9b0, H⟩ | ⟨-, c9b0, H⟩ := ic_ H
    ·obtain ⟨c10b0, H⟩ := id_ H
     obtain ⟨c11b0, H⟩ := id_ H
     have H' := am H
     clear H
     obtain ⟨p773, q773, ad773, e773, _, hx773_0⟩ := at_i HR2 HB x19_1
     cases e773
     go_wp2
     go_loopg [7, 26] k1 (fun kq v7 v26 w' => ∃ (x7_2 : Int) (x26_2 : Int), v7 = .int .i64 x7_2 ∧ v26 = .int .i64 x26_2 ∧ Aside0 (impl_HeldAt.l1 kq a1 l2 x7_2 x19_1 (rd l2 x19_1) l2 (l2.length : Int) x19_1 (l2.length : Int) x26_2 a0_0 a0_1 a0_2 l0_3 = some r) ∧ Aside0 (kq ≤ k1) ∧ Aside0 (w'.heap[gb771]? = some (.cells #[.int .i64 a0_0, .int .i64 a0_1, .int .i64 a0_2, (.slice A0_3 l0_3.length c0_3)] 31 (0, 0))) ∧ Aside0 (Below w.heap.size w w'))
     case atStart => exact ⟨(x7_1), (0), sc, sc, H', kk0, ⟨sk BK771⟩, ⟨sbw⟩⟩
     case round =>
      clear H'
      try clear c9
      try clear c9b0
      try clear c10b0
      try clear c11b0
      try clear hx773_0
      try clear p773
      try clear q773
      obtain ⟨x7_2, x26_2, rfl, rfl, HA, HK2, BK771, HB⟩ := hrel
      cases gk with
      | zero => exact absurd HA.out (by simp [impl_HeldAt.l1])
      | succ k2 =>
       have H := HA.out
       clear HA
       simp only [impl_HeldAt.l1] at H
       obtain ⟨-, c12b0, H⟩ | ⟨-, c12b0, H⟩ := ic_ H
       ·obtain ⟨t774, A13, H⟩ := bnd H
        obtain rfl | rfl := tt t774
        ·replace H := ip H
         have H' := am H
         clear H
         obtain ⟨hcz15_0, hcz15_1, hcz15_2, hcz15_3, hfz15_0, hfz15_1, hfz15_2, hfz15_3⟩ := cc4 BK771
         go_wp2_with (first | ((with_reducible refine gc 43 rfl ?_); refine gL (some 35) Try.func43 #[.agg #[.int .i64 a0_0, .int .i64 a0_1, .int .i64 a0_2, .slice A0_3 l0_3.length c0_3], .int .i64 x19_1, .int .i64 x26_2, .int .i64 (wrap64 (a1 + (rd l2 x19_1)))] ?_; (with_reducible refine (impl_IsHolding.calls k2 a0_0 a0_1 a0_2 _ _ l0_3 x19_1 x26_2 (wrap64 (a1 + (rd l2 x19_1))) true _ ?side1 ?side2 A13.out).mono ?_); (case side1 => exact cb HR0_3); (case side2 => exact HC0_3.out); rintro e w16 ⟨rfl, hb⟩; refine ⟨_, rfl, ?_⟩; replace BK771 := bb BK771 hb; replace HB := bsw hb; (try clear hb)))
         go_roundg k2
         case measure => have := HK1.out; have := HK2.out; omega
         case rel => exact ⟨(wrap64 (x7_2 + 1)), (wrap64 (x26_2 + 1)), sc, sc, H', kk2, ⟨sk BK771⟩, ⟨sbw⟩⟩
        ·replace H := im H
         have H' := am H
         clear H
         obtain ⟨hcz17_0, hcz17_1, hcz17_2, hcz17_3, hfz17_0, hfz17_1, hfz17_2, hfz17_3⟩ := cc4 BK771
         go_wp2_with (first | ((with_reducible refine gc 43 rfl ?_); refine gL (some 35) Try.func43 #[.agg #[.int .i64 a0_0, .int .i64 a0_1, .int .i64 a0_2, .slice A0_3 l0_3.length c0_3], .int .i64 x19_1, .int .i64 x26_2, .int .i64 (wrap64 (a1 + (rd l2 x19_1)))] ?_; (with_reducible refine (impl_IsHolding.calls k2 a0_0 a0_1 a0_2 _ _ l0_3 x19_1 x26_2 (wrap64 (a1 + (rd l2 x19_1))) false _ ?side1 ?side2 A13.out).mono ?_); (case side1 => exact cb HR0_3); (case side2 => exact HC0_3.out); rintro e w18 ⟨rfl, hb⟩; refine ⟨_, rfl, ?_⟩; replace BK771 := bb BK771 hb; replace HB := bsw hb; (try clear hb)))
         go_roundg k2
         case measure => have := HK1.out; have := HK2.out; omega
         case rel => exact ⟨(x7_2), (wrap64 (x26_2 + 1)), sc, sc, H', kk2, ⟨sk BK771⟩, ⟨sbw⟩⟩
       ·have H' := am H
        clear H
        go_wp2
        go_roundg k2
        case measure => have := HK1.out; have := HK2.out; omega
        case rel => exact ⟨(x7_2), (wrap64 (x19_1 + 1)), sc, sc, H', kk2, ⟨sk BK771⟩, ⟨sbw⟩⟩
    ·obtain rfl := Option.some.inj H
     go_wp2
     go_ret
     exact ⟨se, sbw⟩
 ·replace H := im H
  obtain rfl := Option.some.inj H
  go_enter Try.func28, Try.ntmps28
  go_wp2_with (first | ((with_reducible refine gd 3 rfl ?_); refine bx 3 #[.int .i64 a0_0, .int .i64 a0_1, .int .i64 a0_2, .slice A0_3 l0_3.length c0_3] 31 ?_; intro gb771 hg w19 hbox hb; have GW771 := bz w hg; have GE771 := bz w hg; replace HB := bs hb; have BK771 := am hbox; clear hb hbox hg; obtain ⟨hcz20_0, hcz20_1, hcz20_2, hcz20_3, hfz20_0, hfz20_1, hfz20_2, hfz20_3⟩ := cc4 BK771) | ((with_reducible refine gc 83 rfl ?_); refine gL (some 14) Try.func83 #[.agg #[.int .i64 a0_0, .int .i64 a0_1, .int .i64 a0_2, .slice A0_3 l0_3.length c0_3], .int .i64 a1, .slice A2 l2.length c2] ?_; (with_reducible refine (impl_isMoment.calls k a0_0 a0_1 a0_2 _ _ l0_3 a1 _ _ l2 false _ ?side1 ?side2 ?side3 ?side4 A4.out).mono ?_); (case side1 => exact cb HR0_3); (case side2 => exact HC0_3.out); (case side3 => exact cb HR2); (case side4 => exact HC2.out); rintro e w21 ⟨rfl, hb⟩; refine ⟨_, rfl, ?_⟩; replace BK771 := bb BK771 hb; replace HB := bsw hb; (try clear hb)))
  go_ret
  exact ⟨se, sbw⟩

end Go.Proofs.Ytiihaabhjphaeaa.QFnNoLoops
