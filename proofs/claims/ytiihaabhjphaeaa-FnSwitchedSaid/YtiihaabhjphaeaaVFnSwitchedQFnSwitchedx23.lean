/- Printed by a program of the session. Conditions: none. (squeezed). -/
import Derived.Test.YtiihaabhjphaeaaVFnSwitchedQFnSwitchedx4
namespace Go.Proofs.Ytiihaabhjphaeaa.QFnSwitched
set_option maxHeartbeats 8000000
set_option maxRecDepth 100000
open Go.RowKit Go.Proofs.YtiihaabhjphaeaaW.PrintWords Go.Proofs.YtiihaabhjphaeaaW.PrintLast Go.Proofs.YtiihaabhjphaeaaW.PrintMore Go.Proofs.Ytiihaabhjphaeaa.Open Go.Proofs.Ytiihaabhjphaeaa.Sq
attribute [local go_sem] max2_int min2_int max_two min_two max_three min_three max_four min_four   -- for this text's walks alone
attribute [local go_sem] isSome_set
set_option linter.unusedVariables false
set_option linter.unusedSimpArgs false

def impl_IsHolding.f (k : Nat) (a0_0 : Int) (a0_1 : Int) (a0_2 : Int) (l0_3 : List (S105)) (a1 : Int) (a2 : Int) (a3 : Int) : Option (Bool) := (impl_PieceAt.f a0_0 a0_1 a0_2 l0_3 a3).bind fun t705 => ((impl_nextIn.f a0_0 a0_1 a0_2 l0_3 t705 a2 a1).bind fun bt706 => ((impl_HopAt.f k a0_0 a0_1 a0_2 l0_3 a1 a2 a3).bind fun t708 => (if t708 = (-1) then (some (decide (bt706.1 ≥ 0))) else (some false))))
theorem impl_IsHolding.mono : ∀ a0 a1 a2 a3 a4 a5 a6 k, LeO (impl_IsHolding.f k a0 a1 a2 a3 a4 a5 a6) (impl_IsHolding.f (k + 1) a0 a1 a2 a3 a4 a5 a6) := by
  intro a0 a1 a2 a3 a4 a5 a6 k
  unfold impl_IsHolding.f
  have m0 := @impl_HopAt.mono
  exact mo
def impl_IsHolding.T1 : Bool × List (List Nat × List Nat) := (true, [([], []), ([], []), ([], []), ([1, 2], [1, 2]), ([], []), ([], []), ([0, 3, 4, 5, 3], [0, 3, 4, 5]), ([6], [6]), ([7], [7]), ([7], [7]), ([8, 6, 0, 1, 2, 3, 4, 5, 6, 7, 8], [8]), ([9, 10, 0, 1, 2, 3, 4, 5, 6, 7, 8, 9, 10], [9])])
def impl_IsHolding.B1 : List Nat := [0, 0, 0, 6, 0, 0, 63, 127, 255, 255, 511, 2047]
theorem impl_IsHolding.tab1 : rtab .any (opsOf Try.f43 1) = impl_IsHolding.T1 := by kernel_rfl
theorem impl_IsHolding.bits1 : waitsOk impl_IsHolding.T1.2 impl_IsHolding.B1 = true := by kernel_rfl
theorem impl_IsHolding.calls (k : Nat) (a0_0 : Int) (a0_1 : Int) (a0_2 : Int) (A0_3 : Option Addr) (c0_3 : Nat) (l0_3 : List (S105)) (a1 : Int) (a2 : Int) (a3 : Int) (r : Bool) (w : World) (hr0_3 : Kd.C k105 w A0_3 l0_3.length l0_3) (hc0_3 : l0_3.length ≤ c0_3) (h : impl_IsHolding.f k a0_0 a0_1 a0_2 l0_3 a1 a2 a3 = some r) :
    Calls Try.prog 43 #[.agg #[.int .i64 a0_0, .int .i64 a0_1, .int .i64 a0_2, .slice A0_3 l0_3.length c0_3], .int .i64 a1, .int .i64 a2, .int .i64 a3] w fun e w' => e = .returned (.bool r) ∧ Below w.heap.size w w' := by
 have hu31 := Try.underlying31
 have HR0_3 := am hr0_3
 have HC0_3 := am hc0_3
 clear hr0_3 hc0_3
 have HB := am (Below.refl w.heap.size w)
 have H := h; unfold impl_IsHolding.f at H
 clear h
 obtain ⟨t705, A5, H⟩ := bnd H
 obtain ⟨⟨t706, t707⟩, A6, H⟩ := bnd H
 try dsimp only at H
 obtain ⟨t708, A7, H⟩ := bnd H
 obtain ⟨-, c8b0, c8b1, H⟩ | ⟨c8, c8b0, c8b1, H⟩ := ib_ H
 ·obtain rfl := Option.some.inj H
  go_enter Try.func43, Try.ntmps43
  try go_wp2_with (first | ((with_reducible refine gd 4 rfl ?_); refine bx 4 #[.int .i64 a0_0, .int .i64 a0_1, .int .i64 a0_2, .slice A0_3 l0_3.length c0_3] 31 ?_; intro gb704 hg w9 hbox hb; have GW704 := bz w hg; have GE704 := bz w hg; replace HB := bs hb; have BK704 := am hbox; clear hb hbox hg))
  replace BK704 := am (blk_drew BK704.out)
  replace HB := am (below_drew1 HB.out)
  refine start_ (n := 12) (S := fun w' => w'.cell? ⟨gb704, 0, none⟩ = some (.int .i64 a0_0) ∧ w'.cell? ⟨gb704, 1, none⟩ = some (.int .i64 a0_1) ∧ w'.cell? ⟨gb704, 2, none⟩ = some (.int .i64 a0_2) ∧ w'.cell? ⟨gb704, 3, none⟩ = some (.slice A0_3 l0_3.length c0_3)) (ds := []) #[false, false, false, false, false, false, false, false, false, false, false, false] (by kernel_rfl) rfl rfl ⟨bc0 BK704, bc1 BK704, bc2 BK704, bc3 BK704⟩ (fun hHeld => ?_); refine with_tabW impl_IsHolding.tab1 impl_IsHolding.bits1 (fun HT_ HW_ => ?_)
  generalize w9.drew = w10 at BK704 HB hHeld ⊢
  refine put 2 14 (bt 12 4) HT_ ?_
  refine put 4 16 (bt 12 20) HT_ ?_
  refine put 5 17 (bt 12 52) HT_ ?_
  refine tat4 0 12 (bt 12 53) HT_ HW_ hHeld ?_
  refine tat4 1 13 (bt 12 55) HT_ HW_ hHeld ?_
  refine on 3 15 (bt 12 63) HT_ (fun K hK => ?_)
  refine goes_ Try.func42 (by kernel_rfl) rfl #[.agg #[.int .i64 a0_0, .int .i64 a0_1, .int .i64 a0_2, .slice A0_3 l0_3.length c0_3], .int .i64 a3] (by rfl) rfl rfl sl ?_
  with_reducible refine (impl_PieceAt.calls a0_0 a0_1 a0_2 _ _ l0_3 a3 t705 _ ?side1 ?side2 A5.out).mono ?_
  (case side1 => exact cb HR0_3)
  (case side2 => exact HC0_3.out)
  rintro e w11 ⟨rfl, hb⟩
  refine ⟨_, rfl, ?_⟩
  replace BK704 := bb BK704 hb
  replace HB := bsw hb
  (try clear hb)
  (try clear hb2)
  (try clear hk)
  (try clear hi)
  refine hK.out _ _ ⟨bc0 BK704, bc1 BK704, bc2 BK704, bc3 BK704⟩ (fun hHeld => ?_)
  clear hK K
  refine nm 15 ?_
  refine on 6 18 (bt 12 127) HT_ (fun K hK => ?_)
  refine goes_ Try.func81 (by kernel_rfl) rfl #[.agg #[.int .i64 a0_0, .int .i64 a0_1, .int .i64 a0_2, .slice A0_3 l0_3.length c0_3], .int .i64 t705, .int .i64 a2, .int .i64 a1] (by rfl) rfl rfl sl ?_
  with_reducible refine (impl_nextIn.calls a0_0 a0_1 a0_2 _ _ l0_3 t705 a2 a1 t706 t707 _ ?side1 ?side2 A6.out).mono ?_
  (case side1 => exact cb HR0_3)
  (case side2 => exact HC0_3.out)
  rintro e w12 ⟨rfl, hb⟩
  refine ⟨_, rfl, ?_⟩
  replace BK704 := bb BK704 hb
  replace HB := bsw hb
  (try clear hb)
  (try clear hb2)
  (try clear hk)
  (try clear hi)
  refine hK.out _ _ ⟨bc0 BK704, bc1 BK704, bc2 BK704, bc3 BK704⟩ (fun hHeld => ?_)
  clear hK K
  refine nm 18 ?_
  refine put 7 11 (bt 12 255) HT_ ?_
  refine put 8 19 (bt 12 511) HT_ ?_
  refine put 9 20 (bt 12 1023) HT_ ?_
  refine put 10 9 (bt 12 2047) HT_ ?_
  refine put 11 10 (bt 12 4095) HT_ ?_
  refine done_ (done_of HT_.out (by kernel_rfl)) ?_
  obtain ⟨hcz13_0, hcz13_1, hcz13_2, hcz13_3, hfz13_0, hfz13_1, hfz13_2, hfz13_3⟩ := cc4 BK704
  try go_wp2_with (first | ((with_reducible refine gc 27 rfl ?_); refine gL (some 25) Try.func27 #[.agg #[.int .i64 a0_0, .int .i64 a0_1, .int .i64 a0_2, .slice A0_3 l0_3.length c0_3], .int .i64 a1, .int .i64 a2, .int .i64 a3] ?_; (with_reducible refine (impl_HopAt.calls k a0_0 a0_1 a0_2 _ _ l0_3 a1 a2 a3 t708 _ ?side1 ?side2 A7.out).mono ?_); (case side1 => exact cb HR0_3); (case side2 => exact HC0_3.out); rintro e w14 ⟨rfl, hb⟩; refine ⟨_, rfl, ?_⟩; replace BK704 := bb BK704 hb; replace HB := bsw hb; (try clear hb)))
  go_ret
  exact ⟨se, sbw⟩
 ·obtain rfl := Option.some.inj H
  go_enter Try.func43, Try.ntmps43
  try go_wp2_with (first | ((with_reducible refine gd 4 rfl ?_); refine bx 4 #[.int .i64 a0_0, .int .i64 a0_1, .int .i64 a0_2, .slice A0_3 l0_3.length c0_3] 31 ?_; intro gb704 hg w15 hbox hb; have GW704 := bz w hg; have GE704 := bz w hg; replace HB := bs hb; have BK704 := am hbox; clear hb hbox hg))
  replace BK704 := am (blk_drew BK704.out)
  replace HB := am (below_drew1 HB.out)
  refine start_ (n := 12) (S := fun w' => w'.cell? ⟨gb704, 0, none⟩ = some (.int .i64 a0_0) ∧ w'.cell? ⟨gb704, 1, none⟩ = some (.int .i64 a0_1) ∧ w'.cell? ⟨gb704, 2, none⟩ = some (.int .i64 a0_2) ∧ w'.cell? ⟨gb704, 3, none⟩ = some (.slice A0_3 l0_3.length c0_3)) (ds := []) #[false, false, false, false, false, false, false, false, false, false, false, false] (by kernel_rfl) rfl rfl ⟨bc0 BK704, bc1 BK704, bc2 BK704, bc3 BK704⟩ (fun hHeld => ?_); refine with_tabW impl_IsHolding.tab1 impl_IsHolding.bits1 (fun HT_ HW_ => ?_)
  generalize w15.drew = w16 at BK704 HB hHeld ⊢
  refine put 2 14 (bt 12 4) HT_ ?_
  refine put 4 16 (bt 12 20) HT_ ?_
  refine put 5 17 (bt 12 52) HT_ ?_
  refine tat4 0 12 (bt 12 53) HT_ HW_ hHeld ?_
  refine tat4 1 13 (bt 12 55) HT_ HW_ hHeld ?_
  refine on 3 15 (bt 12 63) HT_ (fun K hK => ?_)
  refine goes_ Try.func42 (by kernel_rfl) rfl #[.agg #[.int .i64 a0_0, .int .i64 a0_1, .int .i64 a0_2, .slice A0_3 l0_3.length c0_3], .int .i64 a3] (by rfl) rfl rfl sl ?_
  with_reducible refine (impl_PieceAt.calls a0_0 a0_1 a0_2 _ _ l0_3 a3 t705 _ ?side1 ?side2 A5.out).mono ?_
  (case side1 => exact cb HR0_3)
  (case side2 => exact HC0_3.out)
  rintro e w17 ⟨rfl, hb⟩
  refine ⟨_, rfl, ?_⟩
  replace BK704 := bb BK704 hb
  replace HB := bsw hb
  (try clear hb)
  (try clear hb2)
  (try clear hk)
  (try clear hi)
  refine hK.out _ _ ⟨bc0 BK704, bc1 BK704, bc2 BK704, bc3 BK704⟩ (fun hHeld => ?_)
  clear hK K
  refine nm 15 ?_
  refine on 6 18 (bt 12 127) HT_ (fun K hK => ?_)
  refine goes_ Try.func81 (by kernel_rfl) rfl #[.agg #[.int .i64 a0_0, .int .i64 a0_1, .int .i64 a0_2, .slice A0_3 l0_3.length c0_3], .int .i64 t705, .int .i64 a2, .int .i64 a1] (by rfl) rfl rfl sl ?_
  with_reducible refine (impl_nextIn.calls a0_0 a0_1 a0_2 _ _ l0_3 t705 a2 a1 t706 t707 _ ?side1 ?side2 A6.out).mono ?_
  (case side1 => exact cb HR0_3)
  (case side2 => exact HC0_3.out)
  rintro e w18 ⟨rfl, hb⟩
  refine ⟨_, rfl, ?_⟩
  replace BK704 := bb BK704 hb
  replace HB := bsw hb
  (try clear hb)
  (try clear hb2)
  (try clear hk)
  (try clear hi)
  refine hK.out _ _ ⟨bc0 BK704, bc1 BK704, bc2 BK704, bc3 BK704⟩ (fun hHeld => ?_)
  clear hK K
  refine nm 18 ?_
  refine put 7 11 (bt 12 255) HT_ ?_
  refine put 8 19 (bt 12 511) HT_ ?_
  refine put 9 20 (bt 12 1023) HT_ ?_
  refine put 10 9 (bt 12 2047) HT_ ?_
  refine put 11 10 (bt 12 4095) HT_ ?_
  refine done_ (done_of HT_.out (by kernel_rfl)) ?_
  obtain ⟨hcz19_0, hcz19_1, hcz19_2, hcz19_3, hfz19_0, hfz19_1, hfz19_2, hfz19_3⟩ := cc4 BK704
  try go_wp2_with (first | ((with_reducible refine gc 27 rfl ?_); refine gL (some 25) Try.func27 #[.agg #[.int .i64 a0_0, .int .i64 a0_1, .int .i64 a0_2, .slice A0_3 l0_3.length c0_3], .int .i64 a1, .int .i64 a2, .int .i64 a3] ?_; (with_reducible refine (impl_HopAt.calls k a0_0 a0_1 a0_2 _ _ l0_3 a1 a2 a3 t708 _ ?side1 ?side2 A7.out).mono ?_); (case side1 => exact cb HR0_3); (case side2 => exact HC0_3.out); rintro e w20 ⟨rfl, hb⟩; refine ⟨_, rfl, ?_⟩; replace BK704 := bb BK704 hb; replace HB := bsw hb; (try clear hb)))
  go_ret
  exact ⟨se, sbw⟩

end Go.Proofs.Ytiihaabhjphaeaa.QFnSwitched
