/- Printed by a program of the session. Conditions: none. (squeezed). -/
import Derived.Test.YthnlkgbhohchoaaGreatVFnExactRepairedAtQFnExactRepairedAtx17
namespace Go.Proofs.YthnlkgbhohchoaaGreat.QFnExactRepairedAt
set_option maxHeartbeats 8000000
set_option maxRecDepth 100000
open Go.RowKit Go.Proofs.YthnlkgbhohchoaaGreatW.PrintWords Go.Proofs.YthnlkgbhohchoaaGreatW.PrintLast Go.Proofs.YthnlkgbhohchoaaGreatW.PrintMore Go.Proofs.YthnlkgbhohchoaaGreat.Open Go.Proofs.YthnlkgbhohchoaaGreat.Sq
attribute [local go_sem] max2_int min2_int max_two min_two max_three min_three max_four min_four   -- for this text's walks alone
attribute [local go_sem] isSome_set
set_option linter.unusedVariables false
set_option linter.unusedSimpArgs false

def impl_HopAt.f (k : Nat) (a0_0 : Int) (a0_1 : Int) (a0_2 : Int) (l0_3 : List (S76)) (a1 : Int) (a2 : Int) (a3 : Int) : Option (Int) := (impl_PieceAt.f a0_0 a0_1 a0_2 l0_3 a3).bind fun t640 => ((impl_nextIn.f a0_0 a0_1 a0_2 l0_3 t640 a2 a1).bind fun bt641 => (if bt641.2 = true then ((impl_isSkewed.f a0_0 a0_1 a0_2 l0_3 a3).bind fun t643 => (if t643 = true then ((impl_IsSafeMix.f k a0_0 a0_1 a0_2 l0_3 a2 (wrap64 (a3 - (wrap64 (2 * a0_2)))) (wrap64 (a3 + (wrap64 (2 * a0_2))))).bind fun t644 => (if t644 = true then (some bt641.1) else (some (-1)))) else (some (-1)))) else (some (-1))))
theorem impl_HopAt.mono : ∀ a0 a1 a2 a3 a4 a5 a6 k, LeO (impl_HopAt.f k a0 a1 a2 a3 a4 a5 a6) (impl_HopAt.f (k + 1) a0 a1 a2 a3 a4 a5 a6) := by
  intro a0 a1 a2 a3 a4 a5 a6 k
  unfold impl_HopAt.f
  have m0 := @impl_IsSafeMix.mono
  exact mo
def impl_HopAt.T1 : Bool × List (List Nat × List Nat) := (true, [([], []), ([], []), ([], []), ([1, 2], [1, 2]), ([], []), ([], []), ([0, 3, 4, 5, 3], [0, 3, 4, 5]), ([6], [6]), ([7], [7]), ([7], [7]), ([8, 6, 0, 1, 2, 3, 4, 5, 6, 7, 8], [8]), ([9, 10, 0, 1, 2, 3, 4, 5, 6, 7, 8, 9, 10], [9])])
def impl_HopAt.B1 : List Nat := [0, 0, 0, 6, 0, 0, 63, 127, 255, 255, 511, 2047]
theorem impl_HopAt.tab1 : rtab .any (opsOf Tryz.f70 1) = impl_HopAt.T1 := by kernel_rfl
theorem impl_HopAt.bits1 : waitsOk impl_HopAt.T1.2 impl_HopAt.B1 = true := by kernel_rfl
theorem e18_0 {P : Prop} (h : P := by
 obtain rfl := Option.some.inj H
 go_enter Tryz.func70, Tryz.ntmps70
 try go_wp2_with (first | ((with_reducible refine gd 4 rfl ?_); refine bx 4 #[.int .i64 a0_0, .int .i64 a0_1, .int .i64 a0_2, .slice A0_3 l0_3.length c0_3] 32 ?_; intro gb639 hg w12 hbox hb; have GW639 := bz w hg; have GE639 := bz w hg; replace HB := bs hb; have BK639 := am hbox; clear hb hbox hg))
 replace BK639 := am (blk_drew BK639.out)
 replace HB := am (below_drew1 HB.out)
 refine start_ (n := 12) (S := fun w' => w'.cell? ⟨gb639, 0, none⟩ = some (.int .i64 a0_0) ∧ w'.cell? ⟨gb639, 1, none⟩ = some (.int .i64 a0_1) ∧ w'.cell? ⟨gb639, 2, none⟩ = some (.int .i64 a0_2) ∧ w'.cell? ⟨gb639, 3, none⟩ = some (.slice A0_3 l0_3.length c0_3)) (ds := []) (bt 12 0) (by kernel_rfl) rfl (by kernel_rfl) ⟨bc0 BK639, bc1 BK639, bc2 BK639, bc3 BK639⟩ (fun hHeld => ?_); refine with_tabW impl_HopAt.tab1 impl_HopAt.bits1 (fun HT_ HW_ => ?_)
 generalize w12.drew = w13 at BK639 HB hHeld ⊢
 refine r3_ 2 4 5 ?_
 refine tv_ 0 ?_
 refine tv_ 1 ?_
 refine ow_ 3 (fun K hK => ?_)
 refine goes_ Tryz.func73 (by kernel_rfl) rfl #[.agg #[.int .i64 a0_0, .int .i64 a0_1, .int .i64 a0_2, .slice A0_3 l0_3.length c0_3], .int .i64 a3] (by rfl) rfl rfl sl ?_
 with_reducible refine (impl_PieceAt.calls a0_0 a0_1 a0_2 _ _ l0_3 a3 t640 _ ?side1 ?side2 A5.out).mono ?_
 (case side1 => exact cb HR0_3)
 (case side2 => exact HC0_3.out)
 rintro e w14 ⟨rfl, hb⟩
 refine ⟨_, rfl, ?_⟩
 replace BK639 := bb BK639 hb
 replace HB := bsw hb
 (try clear hb)
 refine hw_ hK ⟨bc0 BK639, bc1 BK639, bc2 BK639, bc3 BK639⟩ (fun hHeld => ?_)
 clear hK K
 refine ow_ 6 (fun K hK => ?_)
 refine goes_ Tryz.func106 (by kernel_rfl) rfl #[.agg #[.int .i64 a0_0, .int .i64 a0_1, .int .i64 a0_2, .slice A0_3 l0_3.length c0_3], .int .i64 t640, .int .i64 a2, .int .i64 a1] (by rfl) rfl rfl sl ?_
 with_reducible refine (impl_nextIn.calls a0_0 a0_1 a0_2 _ _ l0_3 t640 a2 a1 t641 true _ ?side1 ?side2 A6.out).mono ?_
 (case side1 => exact cb HR0_3)
 (case side2 => exact HC0_3.out)
 rintro e w15 ⟨rfl, hb⟩
 refine ⟨_, rfl, ?_⟩
 replace BK639 := bb BK639 hb
 replace HB := bsw hb
 (try clear hb)
 refine hw_ hK ⟨bc0 BK639, bc1 BK639, bc2 BK639, bc3 BK639⟩ (fun hHeld => ?_)
 clear hK K
 refine r5_ 7 8 9 10 11 ?_
 refine done_ (done_of HT_.out (by kernel_rfl)) ?_
 obtain ⟨_, _, _, _, _, _, _, _⟩ := cc4 BK639
 try go_wp2_with (first | (have _ := A10; go_at_call 107; (with_reducible refine (impl_isSkewed.calls a0_0 a0_1 a0_2 _ _ l0_3 a3 true _ ?side1 ?side2 A8.out).mono ?_); (case side1 => exact cb HR0_3); (case side2 => exact HC0_3.out); rintro e w17 ⟨rfl, hb⟩; replace BK639 := bb BK639 hb; replace HB := bsw hb; (try clear hb); obtain ⟨_, _, _, _, _, _, _, _⟩ := cc4 BK639) | (have _ := A10; go_at_call 108; (try simp only [i64_w, i32_w]); (with_reducible refine (impl_IsSafeMix.calls k a0_0 a0_1 a0_2 _ _ l0_3 a2 (wrap64 (a3 - (wrap64 (2 * a0_2)))) (wrap64 (a3 + (wrap64 (2 * a0_2)))) true _ ?side1 ?side2 A10.out).mono ?_); (case side1 => exact cb HR0_3); (case side2 => exact HC0_3.out); rintro e w19 ⟨rfl, hb⟩; replace BK639 := bb BK639 hb; replace HB := bsw hb; (try clear hb)) | (go_at_call 107; (with_reducible refine (impl_isSkewed.calls a0_0 a0_1 a0_2 _ _ l0_3 a3 false _ ?side1 ?side2 A8.out).mono ?_); (case side1 => exact cb HR0_3); (case side2 => exact HC0_3.out); rintro e w33 ⟨rfl, hb⟩; replace BK639 := bb BK639 hb; replace HB := bsw hb; (try clear hb)))
 go_ret
 exact ⟨se, sbw⟩) : P := h
theorem impl_HopAt.calls (k : Nat) (a0_0 : Int) (a0_1 : Int) (a0_2 : Int) (A0_3 : Option Addr) (c0_3 : Nat) (l0_3 : List (S76)) (a1 : Int) (a2 : Int) (a3 : Int) (r : Int) (w : World) (hr0_3 : Kd.C k76 w A0_3 l0_3.length l0_3) (hc0_3 : l0_3.length ≤ c0_3) (h : impl_HopAt.f k a0_0 a0_1 a0_2 l0_3 a1 a2 a3 = some r) :
    Calls Tryz.prog 70 #[.agg #[.int .i64 a0_0, .int .i64 a0_1, .int .i64 a0_2, .slice A0_3 l0_3.length c0_3], .int .i64 a1, .int .i64 a2, .int .i64 a3] w fun e w' => e = .returned (.int .i64 r) ∧ Below w.heap.size w w' := by
 have hu32 := Tryz.underlying32
 have HR0_3 := am hr0_3
 have HC0_3 := am hc0_3
 clear hr0_3 hc0_3
 have HB := am (Below.refl w.heap.size w)
 have H := h; unfold impl_HopAt.f at H
 clear h
 obtain ⟨t640, A5, H⟩ := bnd H
 obtain ⟨⟨t641, t642⟩, A6, H⟩ := bnd H
 try dsimp only at H
 obtain rfl | rfl := tt t642
 ·replace H := ip H
  obtain ⟨t643, A8, H⟩ := bnd H
  obtain rfl | rfl := tt t643
  ·replace H := ip H
   obtain ⟨t644, A10, H⟩ := bnd H
   obtain rfl | rfl := tt t644
   ·replace H := ip H
    exact e18_0
   ·replace H := im H
    obtain rfl := Option.some.inj H
    go_enter Tryz.func70, Tryz.ntmps70
    try go_wp2_with (first | ((with_reducible refine gd 4 rfl ?_); refine bx 4 #[.int .i64 a0_0, .int .i64 a0_1, .int .i64 a0_2, .slice A0_3 l0_3.length c0_3] 32 ?_; intro gb639 hg w20 hbox hb; have GW639 := bz w hg; have GE639 := bz w hg; replace HB := bs hb; have BK639 := am hbox; clear hb hbox hg))
    replace BK639 := am (blk_drew BK639.out)
    replace HB := am (below_drew1 HB.out)
    refine start_ (n := 12) (S := fun w' => w'.cell? ⟨gb639, 0, none⟩ = some (.int .i64 a0_0) ∧ w'.cell? ⟨gb639, 1, none⟩ = some (.int .i64 a0_1) ∧ w'.cell? ⟨gb639, 2, none⟩ = some (.int .i64 a0_2) ∧ w'.cell? ⟨gb639, 3, none⟩ = some (.slice A0_3 l0_3.length c0_3)) (ds := []) (bt 12 0) (by kernel_rfl) rfl (by kernel_rfl) ⟨bc0 BK639, bc1 BK639, bc2 BK639, bc3 BK639⟩ (fun hHeld => ?_); refine with_tabW impl_HopAt.tab1 impl_HopAt.bits1 (fun HT_ HW_ => ?_)
    generalize w20.drew = w21 at BK639 HB hHeld ⊢
    refine r3_ 2 4 5 ?_
    refine tv_ 0 ?_
    refine tv_ 1 ?_
    refine ow_ 3 (fun K hK => ?_)
    refine goes_ Tryz.func73 (by kernel_rfl) rfl #[.agg #[.int .i64 a0_0, .int .i64 a0_1, .int .i64 a0_2, .slice A0_3 l0_3.length c0_3], .int .i64 a3] (by rfl) rfl rfl sl ?_
    with_reducible refine (impl_PieceAt.calls a0_0 a0_1 a0_2 _ _ l0_3 a3 t640 _ ?side1 ?side2 A5.out).mono ?_
    (case side1 => exact cb HR0_3)
    (case side2 => exact HC0_3.out)
    rintro e w22 ⟨rfl, hb⟩
    refine ⟨_, rfl, ?_⟩
    replace BK639 := bb BK639 hb
    replace HB := bsw hb
    (try clear hb)
    refine hw_ hK ⟨bc0 BK639, bc1 BK639, bc2 BK639, bc3 BK639⟩ (fun hHeld => ?_)
    clear hK K
    refine ow_ 6 (fun K hK => ?_)
    refine goes_ Tryz.func106 (by kernel_rfl) rfl #[.agg #[.int .i64 a0_0, .int .i64 a0_1, .int .i64 a0_2, .slice A0_3 l0_3.length c0_3], .int .i64 t640, .int .i64 a2, .int .i64 a1] (by rfl) rfl rfl sl ?_
    with_reducible refine (impl_nextIn.calls a0_0 a0_1 a0_2 _ _ l0_3 t640 a2 a1 t641 true _ ?side1 ?side2 A6.out).mono ?_
    (case side1 => exact cb HR0_3)
    (case side2 => exact HC0_3.out)
    rintro e w23 ⟨rfl, hb⟩
    refine ⟨_, rfl, ?_⟩
    replace BK639 := bb BK639 hb
    replace HB := bsw hb
    (try clear hb)
    refine hw_ hK ⟨bc0 BK639, bc1 BK639, bc2 BK639, bc3 BK639⟩ (fun hHeld => ?_)
    clear hK K
    refine r5_ 7 8 9 10 11 ?_
    refine done_ (done_of HT_.out (by kernel_rfl)) ?_
    obtain ⟨_, _, _, _, _, _, _, _⟩ := cc4 BK639
    try go_wp2_with (first | (go_at_call 107; (with_reducible refine (impl_isSkewed.calls a0_0 a0_1 a0_2 _ _ l0_3 a3 true _ ?side1 ?side2 A8.out).mono ?_); (case side1 => exact cb HR0_3); (case side2 => exact HC0_3.out); rintro e w25 ⟨rfl, hb⟩; replace BK639 := bb BK639 hb; replace HB := bsw hb; (try clear hb); obtain ⟨_, _, _, _, _, _, _, _⟩ := cc4 BK639) | (go_at_call 108; (try simp only [i64_w, i32_w]); (with_reducible refine (impl_IsSafeMix.calls k a0_0 a0_1 a0_2 _ _ l0_3 a2 (wrap64 (a3 - (wrap64 (2 * a0_2)))) (wrap64 (a3 + (wrap64 (2 * a0_2)))) false _ ?side1 ?side2 A10.out).mono ?_); (case side1 => exact cb HR0_3); (case side2 => exact HC0_3.out); rintro e w27 ⟨rfl, hb⟩; replace BK639 := bb BK639 hb; replace HB := bsw hb; (try clear hb)))
    go_ret
    exact ⟨se, sbw⟩
  ·replace H := im H
   exact e18_0
 ·replace H := im H
  obtain rfl := Option.some.inj H
  go_enter Tryz.func70, Tryz.ntmps70
  try go_wp2_with (first | ((with_reducible refine gd 4 rfl ?_); refine bx 4 #[.int .i64 a0_0, .int .i64 a0_1, .int .i64 a0_2, .slice A0_3 l0_3.length c0_3] 32 ?_; intro gb639 hg w34 hbox hb; have GW639 := bz w hg; have GE639 := bz w hg; replace HB := bs hb; have BK639 := am hbox; clear hb hbox hg))
  replace BK639 := am (blk_drew BK639.out)
  replace HB := am (below_drew1 HB.out)
  refine start_ (n := 12) (S := fun w' => w'.cell? ⟨gb639, 0, none⟩ = some (.int .i64 a0_0) ∧ w'.cell? ⟨gb639, 1, none⟩ = some (.int .i64 a0_1) ∧ w'.cell? ⟨gb639, 2, none⟩ = some (.int .i64 a0_2) ∧ w'.cell? ⟨gb639, 3, none⟩ = some (.slice A0_3 l0_3.length c0_3)) (ds := []) (bt 12 0) (by kernel_rfl) rfl (by kernel_rfl) ⟨bc0 BK639, bc1 BK639, bc2 BK639, bc3 BK639⟩ (fun hHeld => ?_); refine with_tabW impl_HopAt.tab1 impl_HopAt.bits1 (fun HT_ HW_ => ?_)
  generalize w34.drew = w35 at BK639 HB hHeld ⊢
  refine r3_ 2 4 5 ?_
  refine tv_ 0 ?_
  refine tv_ 1 ?_
  refine ow_ 3 (fun K hK => ?_)
  refine goes_ Tryz.func73 (by kernel_rfl) rfl #[.agg #[.int .i64 a0_0, .int .i64 a0_1, .int .i64 a0_2, .slice A0_3 l0_3.length c0_3], .int .i64 a3] (by rfl) rfl rfl sl ?_
  with_reducible refine (impl_PieceAt.calls a0_0 a0_1 a0_2 _ _ l0_3 a3 t640 _ ?side1 ?side2 A5.out).mono ?_
  (case side1 => exact cb HR0_3)
  (case side2 => exact HC0_3.out)
  rintro e w36 ⟨rfl, hb⟩
  refine ⟨_, rfl, ?_⟩
  replace BK639 := bb BK639 hb
  replace HB := bsw hb
  (try clear hb)
  refine hw_ hK ⟨bc0 BK639, bc1 BK639, bc2 BK639, bc3 BK639⟩ (fun hHeld => ?_)
  clear hK K
  refine ow_ 6 (fun K hK => ?_)
  refine goes_ Tryz.func106 (by kernel_rfl) rfl #[.agg #[.int .i64 a0_0, .int .i64 a0_1, .int .i64 a0_2, .slice A0_3 l0_3.length c0_3], .int .i64 t640, .int .i64 a2, .int .i64 a1] (by rfl) rfl rfl sl ?_
  with_reducible refine (impl_nextIn.calls a0_0 a0_1 a0_2 _ _ l0_3 t640 a2 a1 t641 false _ ?side1 ?side2 A6.out).mono ?_
  (case side1 => exact cb HR0_3)
  (case side2 => exact HC0_3.out)
  rintro e w37 ⟨rfl, hb⟩
  refine ⟨_, rfl, ?_⟩
  replace BK639 := bb BK639 hb
  replace HB := bsw hb
  (try clear hb)
  refine hw_ hK ⟨bc0 BK639, bc1 BK639, bc2 BK639, bc3 BK639⟩ (fun hHeld => ?_)
  clear hK K
  refine r5_ 7 8 9 10 11 ?_
  refine done_ (done_of HT_.out (by kernel_rfl)) ?_
  try go_wp2
  go_ret
  exact ⟨se, sbw⟩

def slices_Index_int_int.l0 : Nat → List Int → Int → Int → Int → Option (Int)
  | 0, _, _, _, _ => none
  | k + 1, x0, x1, x7, x8 => if x8 < x7 then (if 0 ≤ x8 then (if x8 < (x0.length : Int) then (if x1 = (rd x0 x8) then (some x8) else (slices_Index_int_int.l0 k x0 x1 x7 (wrap64 (x8 + 1)))) else (none)) else (none)) else (some (-1))
def slices_Index_int_int.f (k : Nat) (l0 : List Int) (a1 : Int) : Option (Int) := slices_Index_int_int.l0 k l0 a1 (l0.length : Int) 0
theorem slices_Index_int_int.mono_l : ∀ k, (∀ y0 y1 y2 y3, LeO (slices_Index_int_int.l0 k y0 y1 y2 y3) (slices_Index_int_int.l0 (k + 1) y0 y1 y2 y3))
  | 0 => fun _ _ _ _ r h => by simp [slices_Index_int_int.l0] at h
  | k + 1 => by
    have ih0 := slices_Index_int_int.mono_l k
    · intro y0 y1 y2 y3
      unfold slices_Index_int_int.l0
      exact mo
theorem slices_Index_int_int.mono : ∀ a0 a1 k, LeO (slices_Index_int_int.f k a0 a1) (slices_Index_int_int.f (k + 1) a0 a1) := by
  intro a0 a1 k
  have ih0 := slices_Index_int_int.mono_l k
  unfold slices_Index_int_int.f
  exact mo
theorem slices_Index_int_int.calls (k : Nat) (A0 : Option Addr) (c0 : Nat) (l0 : List Int) (a1 : Int) (r : Int) (w : World) (hr0 : Kd.C (Kd.int .i64) w A0 l0.length l0) (hc0 : l0.length ≤ c0) (h : slices_Index_int_int.f k l0 a1 = some r) :
    Calls Tryz.prog 109 #[.slice A0 l0.length c0, .int .i64 a1] w fun e w' => e = .returned (.int .i64 r) ∧ Drawn0 w w' := by
 have HR0 := am hr0
 have HC0 := am hc0
 clear hr0 hc0
 have H := h; unfold slices_Index_int_int.f at H
 clear h
 have H' := am H
 clear H
 go_enter Tryz.func109, Tryz.ntmps109
 go_wp2
 go_loopg [8] k (fun kq v8 w' => ∃ (x8_1 : Int), v8 = .int .i64 x8_1 ∧ Aside0 (slices_Index_int_int.l0 kq l0 a1 (l0.length : Int) x8_1 = some r) ∧ Aside0 (kq ≤ k) ∧ Drawn0 w w')
 case atStart => exact ⟨(0), sc, H', kk0, sd⟩
 case round =>
  clear H'
  obtain ⟨x8_1, rfl, HA, HK1, ⟨m1, rfl⟩⟩ := hrel
  cases gk with
  | zero => exact absurd HA.out (by simp [slices_Index_int_int.l0])
  | succ k1 =>
   have H := HA.out
   clear HA
   simp only [slices_Index_int_int.l0] at H
   obtain ⟨-, c3b0, H⟩ | ⟨-, c3b0, H⟩ := ic_ H
   ·obtain ⟨c4b0, H⟩ := id_ H
    obtain ⟨c5b0, H⟩ := id_ H
    obtain ⟨-, c6b0, c6b1, H⟩ | ⟨c6, c6b0, c6b1, H⟩ := ib_ H
    ·obtain rfl := Option.some.inj H
     have p645 : 0 ≤ (x8_1 : Int) := sa
     have q645 : x8_1 < (l0.length : Int) := sa
     obtain ⟨ad645, e645, hx645_0⟩ := Kd.at_int HR0.out x8_1 p645 q645
     cases e645
     replace p645 := eq_true p645
     replace q645 := eq_true q645
     go_wp2
     go_ret
     exact ⟨sc, sd⟩
    ·have H' := am H
     clear H
     have p645 : 0 ≤ (x8_1 : Int) := sa
     have q645 : x8_1 < (l0.length : Int) := sa
     obtain ⟨ad645, e645, hx645_0⟩ := Kd.at_int HR0.out x8_1 p645 q645
     cases e645
     replace p645 := eq_true p645
     replace q645 := eq_true q645
     go_wp2
     go_roundg k1
     case measure => have := HK1.out; omega
     case rel => exact ⟨(wrap64 (x8_1 + 1)), sc, H', kk1, sd⟩
   ·obtain rfl := Option.some.inj H
    go_wp2
    go_ret
    exact ⟨sc, sd⟩

def slices_Contains_int_int.f (k : Nat) (l0 : List Int) (a1 : Int) : Option (Bool) := (slices_Index_int_int.f k l0 a1).bind fun t646 => (some (decide (t646 ≥ 0)))
theorem slices_Contains_int_int.mono : ∀ a0 a1 k, LeO (slices_Contains_int_int.f k a0 a1) (slices_Contains_int_int.f (k + 1) a0 a1) := by
  intro a0 a1 k
  unfold slices_Contains_int_int.f
  have m0 := @slices_Index_int_int.mono
  exact mo
theorem slices_Contains_int_int.calls (k : Nat) (A0 : Option Addr) (c0 : Nat) (l0 : List Int) (a1 : Int) (r : Bool) (w : World) (hr0 : Kd.C (Kd.int .i64) w A0 l0.length l0) (hc0 : l0.length ≤ c0) (h : slices_Contains_int_int.f k l0 a1 = some r) :
    Calls Tryz.prog 71 #[.slice A0 l0.length c0, .int .i64 a1] w fun e w' => e = .returned (.bool r) ∧ Drawn0 w w' := by
 have HR0 := am hr0
 have HC0 := am hc0
 clear hr0 hc0
 have H := h; unfold slices_Contains_int_int.f at H
 clear h
 obtain ⟨t646, A3, H⟩ := bnd H
 obtain rfl := Option.some.inj H
 go_enter Tryz.func71, Tryz.ntmps71
 go_wp2_with (first | ((with_reducible refine gc 109 rfl ?_); refine gL (some 7) Tryz.func109 #[.slice A0 l0.length c0, .int .i64 a1] ?_; (with_reducible refine (slices_Index_int_int.calls k _ _ l0 a1 t646 _ ?side1 ?side2 A3.out).mono ?_); (case side1 => repeat (first | exact HR0.out | (with_reducible refine Kd.C_alloc ?_ _) | (with_reducible refine Kd.C_drewN ?_ _) | (with_reducible refine Kd.C_drew ?_))); (case side2 => exact HC0.out); rintro e w' ⟨rfl, ⟨nd, rfl⟩⟩; refine ⟨_, rfl, ?_⟩))
 go_ret
 exact ⟨sc, sd⟩

def impl_IsCalm.f (k : Nat) (a0_0 : Int) (a0_1 : Int) (a0_2 : Int) (l0_3 : List (S76)) (a1 : Int) : Option (Bool) := (impl_isSkewed.f a0_0 a0_1 a0_2 l0_3 a1).bind fun t648 => (if t648 = true then ((impl_PiecesIn.f k a0_0 a0_1 a0_2 l0_3 (wrap64 (a1 - (wrap64 (2 * a0_2)))) (wrap64 (a1 + (wrap64 (2 * a0_2))))).bind fun t649 => (some ((t649.length : Int) == 1))) else (some false))
theorem impl_IsCalm.mono : ∀ a0 a1 a2 a3 a4 k, LeO (impl_IsCalm.f k a0 a1 a2 a3 a4) (impl_IsCalm.f (k + 1) a0 a1 a2 a3 a4) := by
  intro a0 a1 a2 a3 a4 k
  unfold impl_IsCalm.f
  have m0 := @impl_PiecesIn.mono
  exact mo
theorem e18_1 {P : Prop} (h : P := by
 obtain rfl := Option.some.inj H
 go_enter Tryz.func72, Tryz.ntmps72
 go_wp2_with (first | ((with_reducible refine gd 2 rfl ?_); (try (refine gate_guard (by rfl) ?_; dsimp only)); refine bx 2 #[.int .i64 a0_0, .int .i64 a0_1, .int .i64 a0_2, .slice A0_3 l0_3.length c0_3] 32 ?_; intro gb647 hg w6 hbox hb; have GW647 := bz w hg; have GE647 := bz w hg; replace HB := bs hb; have BK647 := am hbox; clear hb hbox hg; obtain ⟨_, _, _, _, _, _, _, _⟩ := cc4 BK647) | (have _ := A5; (with_reducible refine gc 107 rfl ?_); refine gL (some 7) Tryz.func107 #[.agg #[.int .i64 a0_0, .int .i64 a0_1, .int .i64 a0_2, .slice A0_3 l0_3.length c0_3], .int .i64 a1] ?_; (with_reducible refine (impl_isSkewed.calls a0_0 a0_1 a0_2 _ _ l0_3 a1 true _ ?side1 ?side2 A3.out).mono ?_); (case side1 => exact cb HR0_3); (case side2 => exact HC0_3.out); rintro e w8 ⟨rfl, hb⟩; refine ⟨_, rfl, ?_⟩; replace BK647 := bb BK647 hb; replace HB := bsw hb; (try clear hb); obtain ⟨_, _, _, _, _, _, _, _⟩ := cc4 BK647) | (have _ := A5; go_at_call 110; (try simp only [i64_w, i32_w]); (with_reducible refine (impl_PiecesIn.calls k a0_0 a0_1 a0_2 _ _ l0_3 (wrap64 (a1 - (wrap64 (2 * a0_2)))) (wrap64 (a1 + (wrap64 (2 * a0_2)))) t649 _ ?side1 ?side2 A5.out).mono ?_); (case side1 => exact cb HR0_3); (case side2 => exact HC0_3.out); rintro e w10 ⟨v650, rfl, ho0, hb⟩; have HO651 := am (Kd.R_lower ho0 (below_size (sbw))); replace BK647 := bb BK647 hb; replace HB := bsw hb; (try clear hb); (try clear ho0); obtain ⟨Ao11, co11, eo11⟩ := Kd.R_slice HO651.out; subst eo11) | ((with_reducible refine gc 107 rfl ?_); refine gL (some 7) Tryz.func107 #[.agg #[.int .i64 a0_0, .int .i64 a0_1, .int .i64 a0_2, .slice A0_3 l0_3.length c0_3], .int .i64 a1] ?_; (with_reducible refine (impl_isSkewed.calls a0_0 a0_1 a0_2 _ _ l0_3 a1 false _ ?side1 ?side2 A3.out).mono ?_); (case side1 => exact cb HR0_3); (case side2 => exact HC0_3.out); rintro e w14 ⟨rfl, hb⟩; refine ⟨_, rfl, ?_⟩; replace BK647 := bb BK647 hb; replace HB := bsw hb; (try clear hb)))
 first
 | have _ := A5
   go_ret
   exact ⟨se, sbw⟩
 | go_ret
   exact ⟨se, sbw⟩
   ) : P := h
theorem impl_IsCalm.calls (k : Nat) (a0_0 : Int) (a0_1 : Int) (a0_2 : Int) (A0_3 : Option Addr) (c0_3 : Nat) (l0_3 : List (S76)) (a1 : Int) (r : Bool) (w : World) (hr0_3 : Kd.C k76 w A0_3 l0_3.length l0_3) (hc0_3 : l0_3.length ≤ c0_3) (h : impl_IsCalm.f k a0_0 a0_1 a0_2 l0_3 a1 = some r) :
    Calls Tryz.prog 72 #[.agg #[.int .i64 a0_0, .int .i64 a0_1, .int .i64 a0_2, .slice A0_3 l0_3.length c0_3], .int .i64 a1] w fun e w' => e = .returned (.bool r) ∧ Below w.heap.size w w' := by
 have hu32 := Tryz.underlying32
 have HR0_3 := am hr0_3
 have HC0_3 := am hc0_3
 clear hr0_3 hc0_3
 have HB := am (Below.refl w.heap.size w)
 have H := h; unfold impl_IsCalm.f at H
 clear h
 obtain ⟨t648, A3, H⟩ := bnd H
 obtain rfl | rfl := tt t648
 ·replace H := ip H
  obtain ⟨t649, A5, H⟩ := bnd H
  exact e18_1
 ·replace H := im H
  exact e18_1
end Go.Proofs.YthnlkgbhohchoaaGreat.QFnExactRepairedAt
