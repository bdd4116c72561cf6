/- What the Go functions of the law FnExactHeldAt come to, as Lean functions, and that they do: by a program of the session, out of the kit's printer. Conditions: none. (squeezed). -/
import Derived.Test.YtlakjlolahjphaaSq
import Derived.Test.YtlakjlolahjphaaQFnExactHeldAtx0
import Derived.Test.YtlakjlolahjphaaQFnExactHeldAtx4
import Derived.Test.YtlakjlolahjphaaQFnExactHeldAtx10
namespace Go.Proofs.Ytlakjlolahjphaa.QFnExactHeldAt
open Go.RowKit Go.Proofs.YtlakjlolahjphaaW.PrintWords Go.Proofs.YtlakjlolahjphaaW.PrintLast Go.Proofs.YtlakjlolahjphaaW.PrintMore Go.Proofs.Ytlakjlolahjphaa.Open Go.Proofs.Ytlakjlolahjphaa.Sq
attribute [local go_sem] max2_int min2_int max_two min_two max_three min_three max_four min_four   -- for this text's walks alone
attribute [local go_sem] isSome_set
set_option linter.unusedVariables false
set_option linter.unusedSimpArgs false

/-! ### spec_HeldAt: function 27 -/
mutual
def spec_HeldAt.j0 : Nat → Int → List Int → Int → Bool → Int → Int → Int → List (S106) → Option (Int)
  | 0, _, _, _, _, _, _, _, _ => none
  | k + 1, x1, x2, x7, x18, x333000, x333001, x333002, x333003 => if x18 = true then (some x7) else (spec_HeldAt.l0 k x1 x2 x7 0 x333000 x333001 x333002 x333003)
def spec_HeldAt.l0 : Nat → Int → List Int → Int → Int → Int → Int → Int → List (S106) → Option (Int)
  | 0, _, _, _, _, _, _, _, _ => none
  | k + 1, x1, x2, x7, x8, x333000, x333001, x333002, x333003 => if x8 < (x2.length : Int) then (spec_HeldAt.l1 k x1 x2 x7 x8 0 x333000 x333001 x333002 x333003) else (some x7)
def spec_HeldAt.l1 : Nat → Int → List Int → Int → Int → Int → Int → Int → Int → List (S106) → Option (Int)
  | 0, _, _, _, _, _, _, _, _, _ => none
  | k + 1, x1, x2, x7, x8, x9, x333000, x333001, x333002, x333003 => if x9 < x333000 then (if 0 ≤ x8 then (if x8 < (x2.length : Int) then ((spec_IsHolding.f k x333000 x333001 x333002 x333003 x8 x9 (wrap64 (x1 + (rd x2 x8)))).bind fun t336 => (if t336 = true then (spec_HeldAt.l1 k x1 x2 (wrap64 (x7 + 1)) x8 (wrap64 (x9 + 1)) x333000 x333001 x333002 x333003) else (spec_HeldAt.l1 k x1 x2 x7 x8 (wrap64 (x9 + 1)) x333000 x333001 x333002 x333003))) else (none)) else (none)) else (spec_HeldAt.l0 k x1 x2 x7 (wrap64 (x8 + 1)) x333000 x333001 x333002 x333003)
end
def spec_HeldAt.f (k : Nat) (a0_0 : Int) (a0_1 : Int) (a0_2 : Int) (l0_3 : List (S106)) (a1 : Int) (l2 : List Int) : Option (Int) := (spec_AreOffsets.f k a0_0 a0_1 a0_2 l0_3 l2).bind fun t333 => (if t333 = true then ((spec_l1In.f a1 0 1000).bind fun t334 => (spec_HeldAt.j0 k a1 l2 0 (!t334) a0_0 a0_1 a0_2 l0_3)) else (spec_HeldAt.j0 k a1 l2 0 true a0_0 a0_1 a0_2 l0_3))
theorem spec_HeldAt.mono_l : ∀ k, (∀ y0 y1 y2 y3 y4 y5 y6 y7, LeO (spec_HeldAt.j0 k y0 y1 y2 y3 y4 y5 y6 y7) (spec_HeldAt.j0 (k + 1) y0 y1 y2 y3 y4 y5 y6 y7)) ∧ (∀ y0 y1 y2 y3 y4 y5 y6 y7, LeO (spec_HeldAt.l0 k y0 y1 y2 y3 y4 y5 y6 y7) (spec_HeldAt.l0 (k + 1) y0 y1 y2 y3 y4 y5 y6 y7)) ∧ (∀ y0 y1 y2 y3 y4 y5 y6 y7 y8, LeO (spec_HeldAt.l1 k y0 y1 y2 y3 y4 y5 y6 y7 y8) (spec_HeldAt.l1 (k + 1) y0 y1 y2 y3 y4 y5 y6 y7 y8))
  | 0 => ⟨fun _ _ _ _ _ _ _ _ r h => by simp [spec_HeldAt.j0] at h, fun _ _ _ _ _ _ _ _ r h => by simp [spec_HeldAt.l0] at h, fun _ _ _ _ _ _ _ _ _ r h => by simp [spec_HeldAt.l1] at h⟩
  | k + 1 => by
    obtain ⟨ih0, ih1, ih2⟩ := spec_HeldAt.mono_l k
    refine ⟨?_, ?_, ?_⟩
    · intro y0 y1 y2 y3 y4 y5 y6 y7
      unfold spec_HeldAt.j0
      have m0 := @spec_AreOffsets.mono
      have m1 := @spec_IsHolding.mono
      exact mo
    · intro y0 y1 y2 y3 y4 y5 y6 y7
      unfold spec_HeldAt.l0
      have m0 := @spec_AreOffsets.mono
      have m1 := @spec_IsHolding.mono
      exact mo
    · intro y0 y1 y2 y3 y4 y5 y6 y7 y8
      unfold spec_HeldAt.l1
      have m0 := @spec_AreOffsets.mono
      have m1 := @spec_IsHolding.mono
      exact mo
theorem spec_HeldAt.mono : ∀ a0 a1 a2 a3 a4 a5 k, LeO (spec_HeldAt.f k a0 a1 a2 a3 a4 a5) (spec_HeldAt.f (k + 1) a0 a1 a2 a3 a4 a5) := by
  intro a0 a1 a2 a3 a4 a5 k
  obtain ⟨ih0, ih1, ih2⟩ := spec_HeldAt.mono_l k
  unfold spec_HeldAt.f
  have m0 := @spec_AreOffsets.mono
  have m1 := @spec_IsHolding.mono
  exact mo
def spec_HeldAt.T10 : Bool × List (List Nat × List Nat) := (true, [([], []), ([], []), ([], []), ([], []), ([], []), ([], []), ([4, 5], [4, 5]), ([6], [6]), ([3, 7], [3, 7]), ([0, 1, 2, 8], [0, 1, 2, 8])])
def spec_HeldAt.B10 : List Nat := [0, 0, 0, 0, 0, 0, 48, 112, 248, 511]
theorem spec_HeldAt.tab10 : rtab .any (opsOf Try.f27 10) = spec_HeldAt.T10 := by kernel_rfl
theorem spec_HeldAt.bits10 : waitsOk spec_HeldAt.T10.2 spec_HeldAt.B10 = true := by kernel_rfl
set_option maxHeartbeats 8000000 in
set_option maxRecDepth 100000 in
theorem spec_HeldAt.calls (k : Nat) (a0_0 : Int) (a0_1 : Int) (a0_2 : Int) (A0_3 : Option Addr) (c0_3 : Nat) (l0_3 : List (S106)) (a1 : Int) (A2 : Option Addr) (c2 : Nat) (l2 : List Int) (r : Int) (w : World) (hr0_3 : Kd.C k106 w A0_3 l0_3.length l0_3) (hc0_3 : l0_3.length ≤ c0_3) (hr2 : Kd.C (Kd.int .i64) w A2 l2.length l2) (hc2 : l2.length ≤ c2) (h : spec_HeldAt.f k a0_0 a0_1 a0_2 l0_3 a1 l2 = some r) :
    Calls Try.prog 27 #[.agg #[.int .i64 a0_0, .int .i64 a0_1, .int .i64 a0_2, .slice A0_3 l0_3.length c0_3], .int .i64 a1, .slice A2 l2.length c2] w fun e w' => e = .returned (.int .i64 r) ∧ Below w.heap.size w w' := by
 have hu29 := Try.underlying29
 have HR0_3 := Aside0.mk hr0_3
 have HC0_3 := Aside0.mk hc0_3
 clear hr0_3 hc0_3
 have HR2 := Aside0.mk hr2
 have HC2 := Aside0.mk hc2
 clear hr2 hc2
 have HB := Aside0.mk (Below.refl w.heap.size w)
 have H : ((spec_AreOffsets.f k a0_0 a0_1 a0_2 l0_3 l2).bind fun t333 => (if t333 = true then ((spec_l1In.f a1 0 1000).bind fun t334 => (spec_HeldAt.j0 k a1 l2 0 (!t334) a0_0 a0_1 a0_2 l0_3)) else (spec_HeldAt.j0 k a1 l2 0 true a0_0 a0_1 a0_2 l0_3))) = some r := h
 clear h
 have HC4 := Aside0.mk H
 clear H
 go_enter Try.func27, Try.ntmps27
 go_upto_region 2 with (first | ((with_reducible refine gate_dst (N := 3) rfl ?_); refine box_event ?hg (N := 3) ?hd (cs := #[.int .i64 a0_0, .int .i64 a0_1, .int .i64 a0_2, .slice A0_3 l0_3.length c0_3]) (t := 29) ?hr ?_; (case hd => rfl); (case hg => rfl); (case hr => first | (go_simp; done) | (go_simp; rfl)); intro gb332 hg w5 hbox hb; have n0_ := Aside0.mk (below_step (sb) hb); have n1_ := Aside0.mk (hbox); have n2_ := Aside0.mk ((by rw [hg]; exact (below_size (sb)) : w.heap.size ≤ gb332)); have n3_ := Aside0.mk ((by rw [hg]; exact (below_size (sb)) : w.heap.size ≤ gb332)); clear HB; have HB := n0_; have BK332 := n1_; have GW332 := n2_; have GE332 := n3_; clear n0_ n1_ n2_ n3_; clear hb hbox hg))
 (try simp only [Act.put, List.setIfInBounds_toArray, List.set_cons_zero, List.set_cons_succ])
 go_cut [18] (fun v18 wc => ∃ (kq : Nat) (x18_3 : Bool), v18 = .bool x18_3 ∧ Aside0 (spec_HeldAt.j0 kq a1 l2 0 x18_3 a0_0 a0_1 a0_2 l0_3 = some r) ∧ Aside0 (kq ≤ k) ∧ Aside0 (wc.heap[gb332]? = some (.cells #[.int .i64 a0_0, .int .i64 a0_1, .int .i64 a0_2, (.slice A0_3 l0_3.length c0_3)] 29 (0, 0))) ∧ Aside0 (Below w.heap.size w wc))
 case first =>
  have H := HC4.out
  clear HC4
  obtain ⟨t333, A6, H⟩ := bnd H
  obtain rfl | rfl := tt t333
  ·replace H := ip H
   obtain ⟨t334, A8, H⟩ := bnd H
   have H' := Aside0.mk H
   clear H
   obtain ⟨hcz9_0, hcz9_1, hcz9_2, hcz9_3, hfz9_0, hfz9_1, hfz9_2, hfz9_3⟩ := cc4 BK332
   go_wp2_with (first | ((with_reducible refine gate_callee (f := 77) rfl ?_); refine gL (some 12) Try.func77 #[.agg #[.int .i64 a0_0, .int .i64 a0_1, .int .i64 a0_2, .slice A0_3 l0_3.length c0_3], .slice A2 l2.length c2] ?_; (with_reducible refine (spec_AreOffsets.calls k a0_0 a0_1 a0_2 _ _ l0_3 _ _ l2 true _ ?side1 ?side2 ?side3 ?side4 A6.out).mono ?_); (case side1 => exact cb HR0_3); (case side2 => exact HC0_3.out); (case side3 => exact cb HR2); (case side4 => exact HC2.out); rintro e w10 ⟨rfl, hb⟩; refine ⟨_, rfl, ?_⟩; replace BK332 := bb BK332 hb; replace HB := bsw hb; (try clear hb); (try clear hb2); (try clear hk); (try clear hi)) | (go_at_call 63; (with_reducible refine (spec_l1In.calls a1 0 1000 t334 _ A8.out).mono ?_); rintro e w' ⟨rfl, ⟨nd, rfl⟩⟩))
   go_meet
   case rel => exact ⟨_, (!t334), sc, H', ⟨by first | omega | exact Nat.le_refl _⟩, ⟨sk BK332⟩, ⟨sbw⟩⟩
  ·replace H := im H
   have H' := Aside0.mk H
   clear H
   obtain ⟨hcz11_0, hcz11_1, hcz11_2, hcz11_3, hfz11_0, hfz11_1, hfz11_2, hfz11_3⟩ := cc4 BK332
   go_wp2_with (first | ((with_reducible refine gate_callee (f := 77) rfl ?_); refine gL (some 12) Try.func77 #[.agg #[.int .i64 a0_0, .int .i64 a0_1, .int .i64 a0_2, .slice A0_3 l0_3.length c0_3], .slice A2 l2.length c2] ?_; (with_reducible refine (spec_AreOffsets.calls k a0_0 a0_1 a0_2 _ _ l0_3 _ _ l2 false _ ?side1 ?side2 ?side3 ?side4 A6.out).mono ?_); (case side1 => exact cb HR0_3); (case side2 => exact HC0_3.out); (case side3 => exact cb HR2); (case side4 => exact HC2.out); rintro e w12 ⟨rfl, hb⟩; refine ⟨_, rfl, ?_⟩; replace BK332 := bb BK332 hb; replace HB := bsw hb; (try clear hb); (try clear hb2); (try clear hk); (try clear hi)))
   go_meet
   case rel => exact ⟨_, (true), sc, H', ⟨by first | omega | exact Nat.le_refl _⟩, ⟨sk BK332⟩, ⟨sbw⟩⟩
 case rest =>
  clear HC4
  try clear hcz11_0
  try clear hcz11_1
  try clear hcz11_2
  try clear hcz11_3
  try clear hcz9_0
  try clear hcz9_1
  try clear hcz9_2
  try clear hcz9_3
  try clear hfz11_0
  try clear hfz11_1
  try clear hfz11_2
  try clear hfz11_3
  try clear hfz9_0
  try clear hfz9_1
  try clear hfz9_2
  try clear hfz9_3
  obtain ⟨kq, x18_3, rfl, HA, HJ3, BK332, HB⟩ := hcut
  cases kq with
  | zero => exact absurd HA.out (by simp [spec_HeldAt.j0])
  | succ kj3 =>
   have H := HA.out
   clear HA
   simp only [spec_HeldAt.j0] at H
   obtain rfl | rfl := tt x18_3
   ·replace H := ip H
    obtain rfl := Option.some.inj H
    go_wp2
    go_ret
    exact ⟨se, sbw⟩
   ·replace H := im H
    have H' := Aside0.mk H
    clear H
    go_wp2
    go_loopg [7, 8] kj3 (fun kq v7 v8 w' => ∃ (x7_2 : Int) (x8_2 : Int), v7 = .int .i64 x7_2 ∧ v8 = .int .i64 x8_2 ∧ Aside0 (spec_HeldAt.l0 kq a1 l2 x7_2 x8_2 a0_0 a0_1 a0_2 l0_3 = some r) ∧ Aside0 (kq ≤ kj3) ∧ Aside0 (w'.heap[gb332]? = some (.cells #[.int .i64 a0_0, .int .i64 a0_1, .int .i64 a0_2, (.slice A0_3 l0_3.length c0_3)] 29 (0, 0))) ∧ Aside0 (Below w.heap.size w w'))
    case atStart => exact ⟨(0), (0), sc, sc, H', kk0, ⟨sk BK332⟩, ⟨sbw⟩⟩
    case round =>
     clear H'
     try clear hcz11_0
     try clear hcz11_1
     try clear hcz11_2
     try clear hcz11_3
     try clear hcz9_0
     try clear hcz9_1
     try clear hcz9_2
     try clear hcz9_3
     try clear hfz11_0
     try clear hfz11_1
     try clear hfz11_2
     try clear hfz11_3
     try clear hfz9_0
     try clear hfz9_1
     try clear hfz9_2
     try clear hfz9_3
     obtain ⟨x7_2, x8_2, rfl, rfl, HA, HK2, BK332, HB⟩ := hrel
     cases gk with
     | zero => exact absurd HA.out (by simp [spec_HeldAt.l0])
     | succ k2 =>
      have H := HA.out
      clear HA
      simp only [spec_HeldAt.l0] at H
      obtain ⟨c14, H⟩ | ⟨c14, H⟩ := ie_ H
      ·have c14b0 := decide_eq_true c14
       clear c14
       have H' := Aside0.mk H
       clear H
       go_wp2
       go_loopg [7, 9] k2 (fun kq v7 v9 w' => ∃ (x7_3 : Int) (x9_3 : Int), v7 = .int .i64 x7_3 ∧ v9 = .int .i64 x9_3 ∧ Aside0 (spec_HeldAt.l1 kq a1 l2 x7_3 x8_2 x9_3 a0_0 a0_1 a0_2 l0_3 = some r) ∧ Aside0 (kq ≤ k2) ∧ Aside0 (w'.heap[gb332]? = some (.cells #[.int .i64 a0_0, .int .i64 a0_1, .int .i64 a0_2, (.slice A0_3 l0_3.length c0_3)] 29 (0, 0))) ∧ Aside0 (Below w.heap.size w w'))
       case atStart => exact ⟨(x7_2), (0), sc, sc, H', kk0, ⟨sk BK332⟩, ⟨sbw⟩⟩
       case round =>
        clear H'
        try clear c14
        try clear c14b0
        try clear hcz11_0
        try clear hcz11_1
        try clear hcz11_2
        try clear hcz11_3
        try clear hcz9_0
        try clear hcz9_1
        try clear hcz9_2
        try clear hcz9_3
        try clear hfz11_0
        try clear hfz11_1
        try clear hfz11_2
        try clear hfz11_3
        try clear hfz9_0
        try clear hfz9_1
        try clear hfz9_2
        try clear hfz9_3
        obtain ⟨x7_3, x9_3, rfl, rfl, HA, HK3, BK332, HB⟩ := hrel
        cases gk with
        | zero => exact absurd HA.out (by simp [spec_HeldAt.l1])
        | succ k3 =>
         have H := HA.out
         clear HA
         simp only [spec_HeldAt.l1] at H
         obtain ⟨c15, H⟩ | ⟨c15, H⟩ := ie_ H
         ·have c15b0 := decide_eq_true c15
          clear c15
          obtain ⟨c16b0, H⟩ := id_ H
          obtain ⟨c17b0, H⟩ := id_ H
          obtain ⟨t336, A18, H⟩ := bnd H
          obtain rfl | rfl := tt t336
          ·replace H := ip H
           have H' := Aside0.mk H
           clear H
           obtain ⟨hcz20_0, hcz20_1, hcz20_2, hcz20_3, hfz20_0, hfz20_1, hfz20_2, hfz20_3⟩ := cc4 BK332
           try go_wp2
           replace BK332 := Aside0.mk (blk_drew BK332.out)
           replace HB := Aside0.mk (below_drew1 HB.out)
           obtain ⟨p335, q335, ad335, e335, hw335_0, hx335_0⟩ := at_i HR2 HB x8_2
           cases e335
           refine start_ (n := 10) (S := fun w' => w'.cell? ⟨gb332, 0, none⟩ = some (.int .i64 a0_0) ∧ w'.cell? ⟨gb332, 1, none⟩ = some (.int .i64 a0_1) ∧ w'.cell? ⟨gb332, 2, none⟩ = some (.int .i64 a0_2) ∧ w'.cell? ⟨gb332, 3, none⟩ = some (.slice A0_3 l0_3.length c0_3) ∧ w'.cell? (ad335.add (x8_2).toNat) = some (.int .i64 (rd l2 x8_2))) (ds := []) #[false, false, false, false, false, false, false, false, false, false] (by kernel_rfl) rfl rfl ⟨bc0 BK332, bc1 BK332, bc2 BK332, bc3 BK332, (hb_ HB hw335_0)⟩ (fun hHeld => ?_); refine with_tabW spec_HeldAt.tab10 spec_HeldAt.bits10 (fun HT_ HW_ => ?_)
           generalize wr.drew = w21 at BK332 HB hx335_0 hHeld ⊢
           refine put 1 33 #[false, true, false, false, false, false, false, false, false, false] HT_ ?_
           refine put 2 34 #[false, true, true, false, false, false, false, false, false, false] HT_ ?_
           refine put 3 35 #[false, true, true, true, false, false, false, false, false, false] HT_ ?_
           refine put 4 36 #[false, true, true, true, true, false, false, false, false, false] HT_ ?_
           refine put 5 37 #[false, true, true, true, true, true, false, false, false, false] HT_ ?_
           refine put 6 38 #[false, true, true, true, true, true, true, false, false, false] HT_ ?_
           refine tat5 0 32 #[true, true, true, true, true, true, true, false, false, false] HT_ HW_ hHeld ?_
           refine tat5 7 39 #[true, true, true, true, true, true, true, true, false, false] HT_ HW_ hHeld ?_
           refine put 8 40 #[true, true, true, true, true, true, true, true, true, false] HT_ ?_
           refine one_ (i := 9) (N := some 41) #[true, true, true, true, true, true, true, true, true, true] rfl rfl (one_of HT_.out (by kernel_rfl)) (by decide) (fun K hK => ?_)
           refine goes_ Try.func25 (by kernel_rfl) rfl #[.agg #[.int .i64 a0_0, .int .i64 a0_1, .int .i64 a0_2, .slice A0_3 l0_3.length c0_3], .int .i64 x8_2, .int .i64 x9_3, .int .i64 (wrap64 (a1 + (rd l2 x8_2)))] (by rfl) rfl rfl sl ?_
           with_reducible refine (spec_IsHolding.calls k3 a0_0 a0_1 a0_2 _ _ l0_3 x8_2 x9_3 (wrap64 (a1 + (rd l2 x8_2))) true _ ?side1 ?side2 A18.out).mono ?_
           (case side1 => exact cb HR0_3)
           (case side2 => exact HC0_3.out)
           rintro e w22 ⟨rfl, hb⟩
           refine ⟨_, rfl, ?_⟩
           replace BK332 := bb BK332 hb
           replace HB := bsw hb
           (try clear hb)
           (try clear hb2)
           (try clear hk)
           (try clear hi)
           refine hK.out _ _ ⟨bc0 BK332, bc1 BK332, bc2 BK332, bc3 BK332, (hb_ HB hw335_0)⟩ (fun hHeld => ?_)
           clear hK K
           refine norm_ (a' := ?_) ?_ ?_
           rotate_left
           ·show Act.put _ (some 41) _ = _
            simp only [Act.put, List.setIfInBounds_toArray, List.set_cons_zero, List.set_cons_succ, i64_w, i32_w]
            rfl
           refine done_ (done_of HT_.out (by kernel_rfl)) ?_
           try go_wp2
           go_roundg k3
           case measure => have := HJ3.out; have := HK2.out; have := HK3.out; omega
           case rel => exact ⟨(wrap64 (x7_3 + 1)), (wrap64 (x9_3 + 1)), sc, sc, H', ⟨by have := HJ3.out; have := HK2.out; have := HK3.out; omega⟩, ⟨sk BK332⟩, ⟨sbw⟩⟩
          ·replace H := im H
           have H' := Aside0.mk H
           clear H
           obtain ⟨hcz23_0, hcz23_1, hcz23_2, hcz23_3, hfz23_0, hfz23_1, hfz23_2, hfz23_3⟩ := cc4 BK332
           try go_wp2
           replace BK332 := Aside0.mk (blk_drew BK332.out)
           replace HB := Aside0.mk (below_drew1 HB.out)
           obtain ⟨p335, q335, ad335, e335, hw335_0, hx335_0⟩ := at_i HR2 HB x8_2
           cases e335
           refine start_ (n := 10) (S := fun w' => w'.cell? ⟨gb332, 0, none⟩ = some (.int .i64 a0_0) ∧ w'.cell? ⟨gb332, 1, none⟩ = some (.int .i64 a0_1) ∧ w'.cell? ⟨gb332, 2, none⟩ = some (.int .i64 a0_2) ∧ w'.cell? ⟨gb332, 3, none⟩ = some (.slice A0_3 l0_3.length c0_3) ∧ w'.cell? (ad335.add (x8_2).toNat) = some (.int .i64 (rd l2 x8_2))) (ds := []) #[false, false, false, false, false, false, false, false, false, false] (by kernel_rfl) rfl rfl ⟨bc0 BK332, bc1 BK332, bc2 BK332, bc3 BK332, (hb_ HB hw335_0)⟩ (fun hHeld => ?_); refine with_tabW spec_HeldAt.tab10 spec_HeldAt.bits10 (fun HT_ HW_ => ?_)
           generalize wr.drew = w24 at BK332 HB hx335_0 hHeld ⊢
           refine put 1 33 #[false, true, false, false, false, false, false, false, false, false] HT_ ?_
           refine put 2 34 #[false, true, true, false, false, false, false, false, false, false] HT_ ?_
           refine put 3 35 #[false, true, true, true, false, false, false, false, false, false] HT_ ?_
           refine put 4 36 #[false, true, true, true, true, false, false, false, false, false] HT_ ?_
           refine put 5 37 #[false, true, true, true, true, true, false, false, false, false] HT_ ?_
           refine put 6 38 #[false, true, true, true, true, true, true, false, false, false] HT_ ?_
           refine tat5 0 32 #[true, true, true, true, true, true, true, false, false, false] HT_ HW_ hHeld ?_
           refine tat5 7 39 #[true, true, true, true, true, true, true, true, false, false] HT_ HW_ hHeld ?_
           refine put 8 40 #[true, true, true, true, true, true, true, true, true, false] HT_ ?_
           refine one_ (i := 9) (N := some 41) #[true, true, true, true, true, true, true, true, true, true] rfl rfl (one_of HT_.out (by kernel_rfl)) (by decide) (fun K hK => ?_)
           refine goes_ Try.func25 (by kernel_rfl) rfl #[.agg #[.int .i64 a0_0, .int .i64 a0_1, .int .i64 a0_2, .slice A0_3 l0_3.length c0_3], .int .i64 x8_2, .int .i64 x9_3, .int .i64 (wrap64 (a1 + (rd l2 x8_2)))] (by rfl) rfl rfl sl ?_
           with_reducible refine (spec_IsHolding.calls k3 a0_0 a0_1 a0_2 _ _ l0_3 x8_2 x9_3 (wrap64 (a1 + (rd l2 x8_2))) false _ ?side1 ?side2 A18.out).mono ?_
           (case side1 => exact cb HR0_3)
           (case side2 => exact HC0_3.out)
           rintro e w25 ⟨rfl, hb⟩
           refine ⟨_, rfl, ?_⟩
           replace BK332 := bb BK332 hb
           replace HB := bsw hb
           (try clear hb)
           (try clear hb2)
           (try clear hk)
           (try clear hi)
           refine hK.out _ _ ⟨bc0 BK332, bc1 BK332, bc2 BK332, bc3 BK332, (hb_ HB hw335_0)⟩ (fun hHeld => ?_)
           clear hK K
           refine norm_ (a' := ?_) ?_ ?_
           rotate_left
           ·show Act.put _ (some 41) _ = _
            simp only [Act.put, List.setIfInBounds_toArray, List.set_cons_zero, List.set_cons_succ, i64_w, i32_w]
            rfl
           refine done_ (done_of HT_.out (by kernel_rfl)) ?_
           try go_wp2
           go_roundg k3
           case measure => have := HJ3.out; have := HK2.out; have := HK3.out; omega
           case rel => exact ⟨(x7_3), (wrap64 (x9_3 + 1)), sc, sc, H', ⟨by have := HJ3.out; have := HK2.out; have := HK3.out; omega⟩, ⟨sk BK332⟩, ⟨sbw⟩⟩
         ·have c15b0 := decide_eq_false c15
          clear c15
          have H' := Aside0.mk H
          clear H
          obtain ⟨hcz26_0, hcz26_1, hcz26_2, hcz26_3, hfz26_0, hfz26_1, hfz26_2, hfz26_3⟩ := cc4 BK332
          go_wp2
          go_roundg k3
          case measure => have := HJ3.out; have := HK2.out; have := HK3.out; omega
          case rel => exact ⟨(x7_3), (wrap64 (x8_2 + 1)), sc, sc, H', ⟨by have := HJ3.out; have := HK2.out; have := HK3.out; omega⟩, ⟨sk BK332⟩, ⟨sbw⟩⟩
      ·have c14b0 := decide_eq_false c14
       clear c14
       obtain rfl := Option.some.inj H
       go_wp2
       go_ret
       exact ⟨se, sbw⟩

-- NOT PRINTED: function 100 (impl_Piece)

/-! ### impl_IsSpan: function 90 -/
def impl_IsSpan.f (a0_0 : Int) (a0_1 : Int) : Option (Bool) := if a0_0 ≥ 0 then (if a0_1 ≤ 1000 then (some (decide (a0_0 < a0_1))) else (some false)) else (some false)
set_option maxHeartbeats 8000000 in
set_option maxRecDepth 100000 in
theorem impl_IsSpan.calls (a0_0 : Int) (a0_1 : Int) (r : Bool) (w : World) (h : impl_IsSpan.f a0_0 a0_1 = some r) :
    Calls Try.prog 90 #[.agg #[.int .i64 a0_0, .int .i64 a0_1]] w fun e w' => e = .returned (.bool r) ∧ Below w.heap.size w w' := by
 have hu91 := Try.underlying91
 have HB := Aside0.mk (Below.refl w.heap.size w)
 have H : (if a0_0 ≥ 0 then (if a0_1 ≤ 1000 then (some (decide (a0_0 < a0_1))) else (some false)) else (some false)) = some r := h
 clear h
 obtain ⟨c2, H⟩ | ⟨c2, H⟩ := ie_ H
 ·have c2b0 := decide_eq_true c2
  clear c2
  obtain ⟨c3, H⟩ | ⟨c3, H⟩ := ie_ H
  ·have c3b0 := decide_eq_true c3
   clear c3
   obtain rfl := Option.some.inj H
   go_enter Try.func90, Try.ntmps90
   go_wp2_with (first | ((with_reducible refine gate_dst (N := 1) rfl ?_); refine bx 1 #[.int .i64 a0_0, .int .i64 a0_1] 91 ?_; intro gb337 hg w4 hbox hb; have BK337 := Aside0.mk hbox; have GW337 := bz w hg; have GE337 := bz w hg; replace HB := bs hb; clear hb hbox hg; obtain ⟨hcz5_0, hcz5_1, hfz5_0, hfz5_1⟩ := cc2 BK337))
   go_ret
   exact ⟨se, sbw⟩
  ·have c3b0 := decide_eq_false c3
   clear c3
   obtain rfl := Option.some.inj H
   go_enter Try.func90, Try.ntmps90
   go_wp2_with (first | ((with_reducible refine gate_dst (N := 1) rfl ?_); refine bx 1 #[.int .i64 a0_0, .int .i64 a0_1] 91 ?_; intro gb337 hg w6 hbox hb; have BK337 := Aside0.mk hbox; have GW337 := bz w hg; have GE337 := bz w hg; replace HB := bs hb; clear hb hbox hg; obtain ⟨hcz7_0, hcz7_1, hfz7_0, hfz7_1⟩ := cc2 BK337))
   go_ret
   exact ⟨se, sbw⟩
 ·have c2b0 := decide_eq_false c2
  clear c2
  obtain rfl := Option.some.inj H
  go_enter Try.func90, Try.ntmps90
  go_wp2_with (first | ((with_reducible refine gate_dst (N := 1) rfl ?_); refine bx 1 #[.int .i64 a0_0, .int .i64 a0_1] 91 ?_; intro gb337 hg w8 hbox hb; have BK337 := Aside0.mk hbox; have GW337 := bz w hg; have GE337 := bz w hg; replace HB := bs hb; clear hb hbox hg; obtain ⟨hcz9_0, hcz9_1, hfz9_0, hfz9_1⟩ := cc2 BK337))
  go_ret
  exact ⟨se, sbw⟩

/-! ### impl_InSpan: function 87 -/
def impl_InSpan.f (a0_0 : Int) (a0_1 : Int) (a1 : Int) : Option (Bool) := (impl_IsSpan.f a0_0 a0_1).bind fun t339 => (if t339 = true then (if a0_0 ≤ a1 then (some (decide (a1 < a0_1))) else (some false)) else (some false))
set_option maxHeartbeats 8000000 in
set_option maxRecDepth 100000 in
theorem impl_InSpan.calls (a0_0 : Int) (a0_1 : Int) (a1 : Int) (r : Bool) (w : World) (h : impl_InSpan.f a0_0 a0_1 a1 = some r) :
    Calls Try.prog 87 #[.agg #[.int .i64 a0_0, .int .i64 a0_1], .int .i64 a1] w fun e w' => e = .returned (.bool r) ∧ Below w.heap.size w w' := by
 have hu91 := Try.underlying91
 have HB := Aside0.mk (Below.refl w.heap.size w)
 have H : ((impl_IsSpan.f a0_0 a0_1).bind fun t339 => (if t339 = true then (if a0_0 ≤ a1 then (some (decide (a1 < a0_1))) else (some false)) else (some false))) = some r := h
 clear h
 obtain ⟨t339, A3, H⟩ := bnd H
 obtain rfl | rfl := tt t339
 ·replace H := ip H
  obtain ⟨c5, H⟩ | ⟨c5, H⟩ := ie_ H
  ·have c5b0 := decide_eq_true c5
   clear c5
   obtain rfl := Option.some.inj H
   go_enter Try.func87, Try.ntmps87
   go_wp2_with (first | ((with_reducible refine gate_dst (N := 2) rfl ?_); refine bx 2 #[.int .i64 a0_0, .int .i64 a0_1] 91 ?_; intro gb338 hg w6 hbox hb; have BK338 := Aside0.mk hbox; have GW338 := bz w hg; have GE338 := bz w hg; replace HB := bs hb; clear hb hbox hg; obtain ⟨hcz7_0, hcz7_1, hfz7_0, hfz7_1⟩ := cc2 BK338) | ((with_reducible refine gate_callee (f := 90) rfl ?_); refine gL (some 6) Try.func90 #[.agg #[.int .i64 a0_0, .int .i64 a0_1]] ?_; (with_reducible refine (impl_IsSpan.calls a0_0 a0_1 true _ A3.out).mono ?_); rintro e w8 ⟨rfl, hb⟩; refine ⟨_, rfl, ?_⟩; replace BK338 := bb BK338 hb; replace HB := bsw hb; (try clear hb); (try clear hb2); (try clear hk); (try clear hi); obtain ⟨hcz9_0, hcz9_1, hfz9_0, hfz9_1⟩ := cc2 BK338))
   go_ret
   exact ⟨se, sbw⟩
  ·have c5b0 := decide_eq_false c5
   clear c5
   obtain rfl := Option.some.inj H
   go_enter Try.func87, Try.ntmps87
   go_wp2_with (first | ((with_reducible refine gate_dst (N := 2) rfl ?_); refine bx 2 #[.int .i64 a0_0, .int .i64 a0_1] 91 ?_; intro gb338 hg w10 hbox hb; have BK338 := Aside0.mk hbox; have GW338 := bz w hg; have GE338 := bz w hg; replace HB := bs hb; clear hb hbox hg; obtain ⟨hcz11_0, hcz11_1, hfz11_0, hfz11_1⟩ := cc2 BK338) | ((with_reducible refine gate_callee (f := 90) rfl ?_); refine gL (some 6) Try.func90 #[.agg #[.int .i64 a0_0, .int .i64 a0_1]] ?_; (with_reducible refine (impl_IsSpan.calls a0_0 a0_1 true _ A3.out).mono ?_); rintro e w12 ⟨rfl, hb⟩; refine ⟨_, rfl, ?_⟩; replace BK338 := bb BK338 hb; replace HB := bsw hb; (try clear hb); (try clear hb2); (try clear hk); (try clear hi); obtain ⟨hcz13_0, hcz13_1, hfz13_0, hfz13_1⟩ := cc2 BK338))
   go_ret
   exact ⟨se, sbw⟩
 ·replace H := im H
  obtain rfl := Option.some.inj H
  go_enter Try.func87, Try.ntmps87
  go_wp2_with (first | ((with_reducible refine gate_dst (N := 2) rfl ?_); refine bx 2 #[.int .i64 a0_0, .int .i64 a0_1] 91 ?_; intro gb338 hg w14 hbox hb; have BK338 := Aside0.mk hbox; have GW338 := bz w hg; have GE338 := bz w hg; replace HB := bs hb; clear hb hbox hg; obtain ⟨hcz15_0, hcz15_1, hfz15_0, hfz15_1⟩ := cc2 BK338) | ((with_reducible refine gate_callee (f := 90) rfl ?_); refine gL (some 6) Try.func90 #[.agg #[.int .i64 a0_0, .int .i64 a0_1]] ?_; (with_reducible refine (impl_IsSpan.calls a0_0 a0_1 false _ A3.out).mono ?_); rintro e w16 ⟨rfl, hb⟩; refine ⟨_, rfl, ?_⟩; replace BK338 := bb BK338 hb; replace HB := bsw hb; (try clear hb); (try clear hb2); (try clear hk); (try clear hi)))
  go_ret
  exact ⟨se, sbw⟩

-- NOT PRINTED: function 101 (impl_PieceAt_1)

/-! ### impl_PieceAt: function 52 -/
def impl_PieceAt.hit (x : S106) (t : Int) : Bool := impl_InSpan.f x.f0.f0 x.f0.f1 t == some true
def impl_PieceAt.go (t : Int) : List S106 → Nat → Int
  | [], _ => -1
  | x :: xs, i => if impl_PieceAt.hit x t = true then (i : Int) else impl_PieceAt.go t xs (i + 1)
def impl_PieceAt.f (a0_0 : Int) (a0_1 : Int) (a0_2 : Int) (l0_3 : List (S106)) (a1 : Int) : Option (Int) := if l0_3.length ≤ 4611686018427387904 then some (impl_PieceAt.go a1 l0_3 0) else none
theorem impl_PieceAt.tot (a b t : Int) : ∃ q, impl_InSpan.f a b t = some q := by
  have h : ∃ q, impl_IsSpan.f a b = some q := by
    unfold impl_IsSpan.f
    repeat' split
    all_goals exact ⟨_, rfl⟩
  obtain ⟨q, hq⟩ := h
  unfold impl_InSpan.f
  rw [hq, Option.bind_some]
  repeat' split
  all_goals exact ⟨_, rfl⟩
set_option maxHeartbeats 8000000 in
set_option maxRecDepth 100000 in
theorem impl_PieceAt.lit (x : S106) (A2 A3 : Option Addr) (n2 c2 n3 c3 : Nat) (t : Int) (gb : Nat) (W : World) (hc : W.cell? ⟨gb, 0, none⟩ = some (.int .i64 t)) :
    Calls Try.prog 101 #[.agg #[.int .i64 x.f0.f0, .int .i64 x.f0.f1, .slice A2 n2 c2, .slice A3 n3 c3], .pointer (some ⟨gb, 0, none⟩)] W fun e w' => e = .returned (.bool (impl_PieceAt.hit x t)) ∧ Below W.heap.size W w' := by
  have hu := Try.underlying106
  have hus := Try.underlying91
  obtain ⟨q, hq⟩ := impl_PieceAt.tot x.f0.f0 x.f0.f1 t
  rw [show impl_PieceAt.hit x t = q from by unfold impl_PieceAt.hit; rw [hq]; cases q <;> rfl]
  have hlt := World.block_lt_of_cell? W _ hc
  go_enter Try.func101, Try.ntmps101
  go_wp2_with (first | ((with_reducible refine gate_dst (N := 2) rfl ?_); refine box_event ?hg (N := 2) ?hd (cs := #[.int .i64 x.f0.f0, .int .i64 x.f0.f1, .slice A2 n2 c2, .slice A3 n3 c3]) (t := 106) ?hr ?_; (case hd => rfl); (case hg => rfl); (case hr => first | (go_simp; done) | (go_simp; rfl)); intro gbx hg w3 hbox hb3; subst hg; have hc3 : w3.cell? ⟨gb, 0, none⟩ = some (.int .i64 t) := (hb3.cell hlt).trans hc; have hx0 : w3.cell? ⟨W.heap.size, 0, none⟩ = some (.int .i64 x.f0.f0) := (blk_cell hbox 0).trans rfl; have hx1 : w3.cell? ⟨W.heap.size, 1, none⟩ = some (.int .i64 x.f0.f1) := (blk_cell hbox 1).trans rfl) | (go_at_call 87; refine (impl_InSpan.calls x.f0.f0 x.f0.f1 t q _ hq).mono ?_; rintro e w' ⟨rfl, hb⟩))
  go_ret
  exact ⟨rfl, below_step hb3 hb⟩
set_option maxHeartbeats 8000000 in
set_option maxRecDepth 100000 in
theorem impl_PieceAt.idx (A0 : Option Addr) (c0 : Nat) (l : List S106) (t : Int) (gb : Nat) (w : World) (hr : Kd.C k106 w A0 l.length l) (hm : l.length ≤ 4611686018427387904) (hc : w.cell? ⟨gb, 0, none⟩ = some (.int .i64 t)) :
    Calls Try.prog 100 #[.slice A0 l.length c0, .func (.func 101) #[] #[.pointer (some ⟨gb, 0, none⟩)]] w fun e w' => e = .returned (.int .i64 (impl_PieceAt.go t l 0)) ∧ Below w.heap.size w w' := by
  have hu := Try.underlying106
  have hlt := World.block_lt_of_cell? w _ hc
  go_enter Try.func100, Try.ntmps100
  go_wp2
  go_loopg [5, 8] l.length (fun gg _ s8 wr => ∃ i : Int, 0 ≤ i ∧ i ≤ (l.length : Int) ∧ (l.length : Int) - i ≤ gg ∧ s8 = .int .i64 i ∧ Aside0 (Below w.heap.size w wr) ∧ Aside0 (impl_PieceAt.go t (l.drop i.toNat) i.toNat = impl_PieceAt.go t l 0))
  case atStart => exact ⟨0, by omega, by omega, by omega, rfl, ⟨Below.refl _ w⟩, ⟨rfl⟩⟩
  case round =>
    obtain ⟨i, hi0, hi1, hg, rfl, BW, HI⟩ := hrel
    by_cases hlt2 : i < (l.length : Int)
    · obtain ⟨ad, A2, c2, A3, c3, e0, hx0, hx1, hx2, hx3, _⟩ := at_T106 hr i hi0 hlt2
      cases e0
      replace hx0 := (BW.out.cell (World.block_lt_of_cell? w _ hx0)).trans hx0
      replace hx1 := (BW.out.cell (World.block_lt_of_cell? w _ hx1)).trans hx1
      replace hx2 := (BW.out.cell (World.block_lt_of_cell? w _ hx2)).trans hx2
      replace hx3 := (BW.out.cell (World.block_lt_of_cell? w _ hx3)).trans hx3
      have hc' : wr.cell? ⟨gb, 0, none⟩ = some (.int .i64 t) := (BW.out.cell hlt).trans hc
      have hcall := impl_PieceAt.lit (rd_T106 l i) A2 A3 (rd_T106 l i).f1.length c2 (rd_T106 l i).f2.length c3 t gb wr hc'
      have hd : l.drop i.toNat = rd_T106 l i :: l.drop (i.toNat + 1) := by
        have hlt3 : i.toNat < l.length := by omega
        rw [List.drop_eq_getElem_cons hlt3, show rd_T106 l i = l.getD i.toNat z106 from rfl, List.getD_eq_getElem?_getD, List.getElem?_eq_getElem hlt3]
        rfl
      cases hq : impl_PieceAt.hit (rd_T106 l i) t with
      | true =>
        rw [hq] at hcall
        go_wp2_with (go_at_call 101; refine hcall.mono ?_; rintro e w' ⟨rfl, hb'⟩)
        go_ret
        refine ⟨?_, below_step BW.out hb'⟩
        rw [← HI.out, hd, impl_PieceAt.go, if_pos hq, Int.toNat_of_nonneg hi0]
        rfl
      | false =>
        rw [hq] at hcall
        go_wp2_with (go_at_call 101; refine hcall.mono ?_; rintro e w' ⟨rfl, hb'⟩)
        go_roundg (l.length - (i.toNat + 1))
        case measure => omega
        case rel =>
          refine ⟨i + 1, by omega, by omega, by omega, by go_num, ⟨below_step BW.out hb'⟩, ⟨?_⟩⟩
          rw [← HI.out, hd, impl_PieceAt.go, if_neg (by rw [hq]; simp), show (i + 1).toNat = i.toNat + 1 by omega]
    · have : i = (l.length : Int) := by omega
      subst this
      go_wp2
      go_ret
      refine ⟨?_, BW.out⟩
      rw [← HI.out, Int.toNat_natCast, List.drop_length, impl_PieceAt.go]
      rfl
set_option maxHeartbeats 8000000 in
set_option maxRecDepth 100000 in
theorem impl_PieceAt.calls (a0_0 : Int) (a0_1 : Int) (a0_2 : Int) (A0_3 : Option Addr) (c0_3 : Nat) (l0_3 : List (S106)) (a1 : Int) (r : Int) (w : World) (hr0_3 : Kd.C k106 w A0_3 l0_3.length l0_3) (hc0_3 : l0_3.length ≤ c0_3) (h : impl_PieceAt.f a0_0 a0_1 a0_2 l0_3 a1 = some r) :
    Calls Try.prog 52 #[.agg #[.int .i64 a0_0, .int .i64 a0_1, .int .i64 a0_2, .slice A0_3 l0_3.length c0_3], .int .i64 a1] w fun e w' => e = .returned (.int .i64 r) ∧ Below w.heap.size w w' := by
 have hu := Try.underlying29
 unfold impl_PieceAt.f at h
 by_cases hm : l0_3.length ≤ 4611686018427387904
 rotate_left
 ·rw [if_neg hm] at h
  cases h
 rw [if_pos hm] at h
 obtain rfl := Option.some.inj h
 go_enter Try.func52, Try.ntmps52
 go_wp2_with (go_at_call 100; refine (impl_PieceAt.idx A0_3 c0_3 l0_3 a1 _ _ (Kd.C_alloc (Kd.C_alloc hr0_3 _) _) hm ?_).mono ?_; (case refine_1 => go_simp); rintro e w' ⟨rfl, hb⟩)
 go_ret
 exact ⟨rfl, below_step (below_alloc (below_alloc (Below.refl _ _) _) _) hb⟩

/-! ### impl_isIndex: function 98 -/
def impl_isIndex.f (a0 : Int) (a1 : Int) : Option (Bool) := if a0 ≥ 0 then (some (decide (a0 < a1))) else (some false)
set_option maxHeartbeats 8000000 in
set_option maxRecDepth 100000 in
theorem impl_isIndex.calls (a0 : Int) (a1 : Int) (r : Bool) (w : World) (h : impl_isIndex.f a0 a1 = some r) :
    Calls Try.prog 98 #[.int .i64 a0, .int .i64 a1] w fun e w' => e = .returned (.bool r) ∧ Drawn0 w w' := by
 have H : (if a0 ≥ 0 then (some (decide (a0 < a1))) else (some false)) = some r := h
 clear h
 obtain ⟨c3, H⟩ | ⟨c3, H⟩ := ie_ H
 ·have c3b0 := decide_eq_true c3
  clear c3
  obtain rfl := Option.some.inj H
  go_enter Try.func98, Try.ntmps98
  go_wp2
  go_ret
  exact ⟨sc, sd⟩
 ·have c3b0 := decide_eq_false c3
  clear c3
  obtain rfl := Option.some.inj H
  go_enter Try.func98, Try.ntmps98
  go_wp2
  go_ret
  exact ⟨sc, sd⟩

/-! ### slices_Clone_int_int: function 146 -/
def slices_Clone_int_int.f (l0 : List Int) : Option (List Int) := if l0.length < 17592186044416 then some l0 else none
set_option maxHeartbeats 8000000 in
set_option maxRecDepth 100000 in
theorem slices_Clone_int_int.calls (A0 : Option Addr) (c0 : Nat) (l0 : List Int) (r : List Int) (w : World) (hr0 : Kd.C (Kd.int .i64) w A0 l0.length l0) (hc0 : l0.length ≤ c0) (h : slices_Clone_int_int.f l0 = some r) :
    Calls Try.prog 146 #[.slice A0 l0.length c0] w fun e w' => ∃ v0_ : Value, e = .returned (v0_) ∧ Kd.R (Kd.int .i64) 3 w' w.heap.size (fun _ => True) v0_ r ∧ Below w.heap.size w w' := by
 have hu := Try.underlying40
 unfold slices_Clone_int_int.f at h
 by_cases hm : l0.length < 17592186044416
 rotate_left
 ·rw [if_neg hm] at h
  cases h
 rw [if_pos hm] at h
 obtain rfl := Option.some.inj h
 cases A0 with
 | none =>
  have hz : l0 = [] := by
   obtain ⟨_, _, h3⟩ := hr0
   refine List.length_eq_zero_iff.mp (Classical.byContradiction fun hne => ?_)
   obtain ⟨ad, e, _⟩ := h3 (by omega)
   cases e
  subst hz
  have he := Go.Lib.run_eql_slice_nil (P := Try.prog) w 40 3 none 0 c0 0 0 hu
  go_enter Try.func146, Try.ntmps146
  go_wp2
  go_ret
  exact ⟨_, rfl, Kd.R_nil _ _ _ _ _, Below.refl _ _⟩
 | some ad =>
  have he := Go.Lib.run_eql_slice_nil (P := Try.prog) w 40 3 (some ad) l0.length c0 0 0 hu
  go_enter Try.func146, Try.ntmps146
  go_wp2_with (first | ((with_reducible refine gate_dst (N := 5) rfl ?_); refine Kd.R_lit (Kd.int .i64) _ 3 ?hg (N := 5) ?hd (xs := ([] : List Int)) (inner := []) (ok := fun _ => True) (okp := fun _ => True) ?hr ?hp (fun _ hk => hk) trivial (Below.refl _ _) (Nat.le_refl _) (by simp) ?_; (case hd => rfl); (case hg => rfl); (case hr => first | (go_simp; done) | (go_simp; rfl)); (case hp => exact (Reps.none _ _)); intro v5 w5 ho5 hb5 hg_ hnew_; clear hg_ hnew_) | ((with_reducible refine gate_dst (N := 7) rfl ?_); refine Kd.R_append_rows (Kd.int .i64) (w0 := w) w.heap.size rfl (.tmp 5) (.tmp 6) 40 3 (.int .i64 0) 8 rfl Try.underlying40 info3 rfl (by decide) (by omega) v5 [] l0 _ _ _ (fun _ => True) (fun _ => False) rfl rfl ?aO ?aR (fun _ _ h => h) (fun _ h => h.elim) ?aF ?aB ?aS ?aL ?_; (case aR => exact Kd.C_below hr0 hb5); (case aB => exact hb5); (case aF => exact (fun _ _ => trivial)); (case aO => exact ho5); (case aS => exact below_size hb5); (case aL => simp only [List.length_nil]; omega); intro v7 w7 ho7 hb7 hg7 hat7))
  go_ret
  rw [List.nil_append] at ho7
  exact ⟨v7, rfl, ho7, hb7⟩

end Go.Proofs.Ytlakjlolahjphaa.QFnExactHeldAt
