/- What the Go functions of the law FnExactIsHolding come to, as Lean functions, and that they do: by a program of the session, out of the kit's printer. Conditions: none. (squeezed). -/
import Derived.Test.YtlakjlolahjphaaSq
import Derived.Test.YtlakjlolahjphaaQFnExactIsHoldingx0
import Derived.Test.YtlakjlolahjphaaQFnExactIsHoldingx4
import Derived.Test.YtlakjlolahjphaaQFnExactIsHoldingx7
import Derived.Test.YtlakjlolahjphaaQFnExactIsHoldingx9
namespace Go.Proofs.Ytlakjlolahjphaa.QFnExactIsHolding
open Go.RowKit Go.Proofs.YtlakjlolahjphaaW.PrintWords Go.Proofs.YtlakjlolahjphaaW.PrintLast Go.Proofs.YtlakjlolahjphaaW.PrintMore Go.Proofs.Ytlakjlolahjphaa.Open Go.Proofs.Ytlakjlolahjphaa.Sq
attribute [local go_sem] max2_int min2_int max_two min_two max_three min_three max_four min_four   -- for this text's walks alone
attribute [local go_sem] isSome_set
set_option linter.unusedVariables false
set_option linter.unusedSimpArgs false

/-! ### spec_HopAt: function 15 -/
def spec_HopAt.f (k : Nat) (a0_0 : Int) (a0_1 : Int) (a0_2 : Int) (l0_3 : List (S106)) (a1 : Int) (a2 : Int) (a3 : Int) : Option (Int) := (spec_l1In.f a0_2 0 5).bind fun t321 => (if t321 = true then ((spec_l1In.f a3 0 1000).bind fun t322 => (if t322 = true then ((spec_IsSafeMix.f k a0_0 a0_1 a0_2 l0_3 a2 (wrap64 (a3 - (wrap64 (2 * a0_2)))) (wrap64 (a3 + (wrap64 (2 * a0_2))))).bind fun t323 => (if t323 = true then ((spec_l19Next.f k a0_0 a0_1 a0_2 l0_3 a1 a2 a3).bind fun t324 => (some t324)) else (some (-1)))) else (some (-1)))) else (some (-1)))
theorem spec_HopAt.mono : ∀ a0 a1 a2 a3 a4 a5 a6 k, LeO (spec_HopAt.f k a0 a1 a2 a3 a4 a5 a6) (spec_HopAt.f (k + 1) a0 a1 a2 a3 a4 a5 a6) := by
  intro a0 a1 a2 a3 a4 a5 a6 k
  unfold spec_HopAt.f
  have m0 := @spec_IsSafeMix.mono
  have m1 := @spec_l19Next.mono
  exact mo
set_option maxHeartbeats 8000000 in
set_option maxRecDepth 100000 in
theorem spec_HopAt.calls (k : Nat) (a0_0 : Int) (a0_1 : Int) (a0_2 : Int) (A0_3 : Option Addr) (c0_3 : Nat) (l0_3 : List (S106)) (a1 : Int) (a2 : Int) (a3 : Int) (r : Int) (w : World) (hr0_3 : Kd.C k106 w A0_3 l0_3.length l0_3) (hc0_3 : l0_3.length ≤ c0_3) (h : spec_HopAt.f k a0_0 a0_1 a0_2 l0_3 a1 a2 a3 = some r) :
    Calls Try.prog 15 #[.agg #[.int .i64 a0_0, .int .i64 a0_1, .int .i64 a0_2, .slice A0_3 l0_3.length c0_3], .int .i64 a1, .int .i64 a2, .int .i64 a3] w fun e w' => e = .returned (.int .i64 r) ∧ Below w.heap.size w w' := by
 have hu29 := Try.underlying29
 have HR0_3 := Aside0.mk hr0_3
 have HC0_3 := Aside0.mk hc0_3
 clear hr0_3 hc0_3
 have HB := Aside0.mk (Below.refl w.heap.size w)
 have H : ((spec_l1In.f a0_2 0 5).bind fun t321 => (if t321 = true then ((spec_l1In.f a3 0 1000).bind fun t322 => (if t322 = true then ((spec_IsSafeMix.f k a0_0 a0_1 a0_2 l0_3 a2 (wrap64 (a3 - (wrap64 (2 * a0_2)))) (wrap64 (a3 + (wrap64 (2 * a0_2))))).bind fun t323 => (if t323 = true then ((spec_l19Next.f k a0_0 a0_1 a0_2 l0_3 a1 a2 a3).bind fun t324 => (some t324)) else (some (-1)))) else (some (-1)))) else (some (-1)))) = some r := h
 clear h
 obtain ⟨t321, A5, H⟩ := bnd H
 obtain rfl | rfl := tt t321
 ·replace H := ip H
  obtain ⟨t322, A7, H⟩ := bnd H
  obtain rfl | rfl := tt t322
  ·replace H := ip H
   obtain ⟨t323, A9, H⟩ := bnd H
   obtain rfl | rfl := tt t323
   ·replace H := ip H
    obtain ⟨t324, A11, H⟩ := bnd H
    obtain rfl := Option.some.inj H
    go_enter Try.func15, Try.ntmps15
    go_wp2_with (first | ((with_reducible refine gate_dst (N := 4) rfl ?_); refine bx 4 #[.int .i64 a0_0, .int .i64 a0_1, .int .i64 a0_2, .slice A0_3 l0_3.length c0_3] 29 ?_; intro gb320 hg w12 hbox hb; have BK320 := Aside0.mk hbox; have GW320 := bz w hg; have GE320 := bz w hg; replace HB := bs hb; clear hb hbox hg; obtain ⟨hcz13_0, hcz13_1, hcz13_2, hcz13_3, hfz13_0, hfz13_1, hfz13_2, hfz13_3⟩ := cc4 BK320) | ((with_reducible refine gate_callee (f := 63) rfl ?_); refine gL (some 11) Try.func63 #[.int .i64 a0_2, .int .i64 0, .int .i64 5] ?_; (with_reducible refine (spec_l1In.calls a0_2 0 5 true _ A5.out).mono ?_); rintro e w' ⟨rfl, ⟨nd, rfl⟩⟩; refine ⟨_, rfl, ?_⟩) | (go_at_call 63; (with_reducible refine (spec_l1In.calls a3 0 1000 true _ A7.out).mono ?_); rintro e w' ⟨rfl, ⟨nd, rfl⟩⟩) | (go_at_call 64; (try simp only [i64_w, i32_w]); (with_reducible refine (spec_IsSafeMix.calls k a0_0 a0_1 a0_2 _ _ l0_3 a2 (wrap64 (a3 - (wrap64 (2 * a0_2)))) (wrap64 (a3 + (wrap64 (2 * a0_2)))) true _ ?side1 ?side2 A9.out).mono ?_); (case side1 => exact cbw HR0_3); (case side2 => exact HC0_3.out); rintro e w14 ⟨rfl, hb⟩; replace BK320 := bb BK320 hb; replace HB := bsw hb; (try clear hb); (try clear hb2); (try clear hk); (try clear hi); obtain ⟨hcz15_0, hcz15_1, hcz15_2, hcz15_3, hfz15_0, hfz15_1, hfz15_2, hfz15_3⟩ := cc4 BK320) | ((with_reducible refine gate_callee (f := 65) rfl ?_); refine gL (some 38) Try.func65 #[.agg #[.int .i64 a0_0, .int .i64 a0_1, .int .i64 a0_2, .slice A0_3 l0_3.length c0_3], .int .i64 a1, .int .i64 a2, .int .i64 a3] ?_; (with_reducible refine (spec_l19Next.calls k a0_0 a0_1 a0_2 _ _ l0_3 a1 a2 a3 t324 _ ?side1 ?side2 A11.out).mono ?_); (case side1 => exact cb HR0_3); (case side2 => exact HC0_3.out); rintro e w16 ⟨rfl, hb⟩; refine ⟨_, rfl, ?_⟩; replace BK320 := bb BK320 hb; replace HB := bsw hb; (try clear hb); (try clear hb2); (try clear hk); (try clear hi)))
    go_ret
    exact ⟨se, sbw⟩
   ·replace H := im H
    obtain rfl := Option.some.inj H
    go_enter Try.func15, Try.ntmps15
    go_wp2_with (first | ((with_reducible refine gate_dst (N := 4) rfl ?_); refine bx 4 #[.int .i64 a0_0, .int .i64 a0_1, .int .i64 a0_2, .slice A0_3 l0_3.length c0_3] 29 ?_; intro gb320 hg w17 hbox hb; have BK320 := Aside0.mk hbox; have GW320 := bz w hg; have GE320 := bz w hg; replace HB := bs hb; clear hb hbox hg; obtain ⟨hcz18_0, hcz18_1, hcz18_2, hcz18_3, hfz18_0, hfz18_1, hfz18_2, hfz18_3⟩ := cc4 BK320) | ((with_reducible refine gate_callee (f := 63) rfl ?_); refine gL (some 11) Try.func63 #[.int .i64 a0_2, .int .i64 0, .int .i64 5] ?_; (with_reducible refine (spec_l1In.calls a0_2 0 5 true _ A5.out).mono ?_); rintro e w' ⟨rfl, ⟨nd, rfl⟩⟩; refine ⟨_, rfl, ?_⟩) | (go_at_call 63; (with_reducible refine (spec_l1In.calls a3 0 1000 true _ A7.out).mono ?_); rintro e w' ⟨rfl, ⟨nd, rfl⟩⟩) | (go_at_call 64; (try simp only [i64_w, i32_w]); (with_reducible refine (spec_IsSafeMix.calls k a0_0 a0_1 a0_2 _ _ l0_3 a2 (wrap64 (a3 - (wrap64 (2 * a0_2)))) (wrap64 (a3 + (wrap64 (2 * a0_2)))) false _ ?side1 ?side2 A9.out).mono ?_); (case side1 => exact cbw HR0_3); (case side2 => exact HC0_3.out); rintro e w19 ⟨rfl, hb⟩; replace BK320 := bb BK320 hb; replace HB := bsw hb; (try clear hb); (try clear hb2); (try clear hk); (try clear hi)))
    go_ret
    exact ⟨se, sbw⟩
  ·replace H := im H
   obtain rfl := Option.some.inj H
   go_enter Try.func15, Try.ntmps15
   go_wp2_with (first | ((with_reducible refine gate_dst (N := 4) rfl ?_); refine bx 4 #[.int .i64 a0_0, .int .i64 a0_1, .int .i64 a0_2, .slice A0_3 l0_3.length c0_3] 29 ?_; intro gb320 hg w20 hbox hb; have BK320 := Aside0.mk hbox; have GW320 := bz w hg; have GE320 := bz w hg; replace HB := bs hb; clear hb hbox hg; obtain ⟨hcz21_0, hcz21_1, hcz21_2, hcz21_3, hfz21_0, hfz21_1, hfz21_2, hfz21_3⟩ := cc4 BK320) | ((with_reducible refine gate_callee (f := 63) rfl ?_); refine gL (some 11) Try.func63 #[.int .i64 a0_2, .int .i64 0, .int .i64 5] ?_; (with_reducible refine (spec_l1In.calls a0_2 0 5 true _ A5.out).mono ?_); rintro e w' ⟨rfl, ⟨nd, rfl⟩⟩; refine ⟨_, rfl, ?_⟩) | (go_at_call 63; (with_reducible refine (spec_l1In.calls a3 0 1000 false _ A7.out).mono ?_); rintro e w' ⟨rfl, ⟨nd, rfl⟩⟩))
   go_ret
   exact ⟨se, sbw⟩
 ·replace H := im H
  obtain rfl := Option.some.inj H
  go_enter Try.func15, Try.ntmps15
  go_wp2_with (first | ((with_reducible refine gate_dst (N := 4) rfl ?_); refine bx 4 #[.int .i64 a0_0, .int .i64 a0_1, .int .i64 a0_2, .slice A0_3 l0_3.length c0_3] 29 ?_; intro gb320 hg w22 hbox hb; have BK320 := Aside0.mk hbox; have GW320 := bz w hg; have GE320 := bz w hg; replace HB := bs hb; clear hb hbox hg; obtain ⟨hcz23_0, hcz23_1, hcz23_2, hcz23_3, hfz23_0, hfz23_1, hfz23_2, hfz23_3⟩ := cc4 BK320) | ((with_reducible refine gate_callee (f := 63) rfl ?_); refine gL (some 11) Try.func63 #[.int .i64 a0_2, .int .i64 0, .int .i64 5] ?_; (with_reducible refine (spec_l1In.calls a0_2 0 5 false _ A5.out).mono ?_); rintro e w' ⟨rfl, ⟨nd, rfl⟩⟩; refine ⟨_, rfl, ?_⟩))
  go_ret
  exact ⟨se, sbw⟩

/-! ### spec_IsHolding: function 25 -/
def spec_IsHolding.f (k : Nat) (a0_0 : Int) (a0_1 : Int) (a0_2 : Int) (l0_3 : List (S106)) (a1 : Int) (a2 : Int) (a3 : Int) : Option (Bool) := (spec_HopAt.f k a0_0 a0_1 a0_2 l0_3 a1 a2 a3).bind fun t326 => (if t326 = (-1) then ((spec_l19Next.f k a0_0 a0_1 a0_2 l0_3 a1 a2 a3).bind fun t327 => (some (decide (t327 ≥ 0)))) else (some false))
theorem spec_IsHolding.mono : ∀ a0 a1 a2 a3 a4 a5 a6 k, LeO (spec_IsHolding.f k a0 a1 a2 a3 a4 a5 a6) (spec_IsHolding.f (k + 1) a0 a1 a2 a3 a4 a5 a6) := by
  intro a0 a1 a2 a3 a4 a5 a6 k
  unfold spec_IsHolding.f
  have m0 := @spec_HopAt.mono
  have m1 := @spec_l19Next.mono
  exact mo
set_option maxHeartbeats 8000000 in
set_option maxRecDepth 100000 in
theorem spec_IsHolding.calls (k : Nat) (a0_0 : Int) (a0_1 : Int) (a0_2 : Int) (A0_3 : Option Addr) (c0_3 : Nat) (l0_3 : List (S106)) (a1 : Int) (a2 : Int) (a3 : Int) (r : Bool) (w : World) (hr0_3 : Kd.C k106 w A0_3 l0_3.length l0_3) (hc0_3 : l0_3.length ≤ c0_3) (h : spec_IsHolding.f k a0_0 a0_1 a0_2 l0_3 a1 a2 a3 = some r) :
    Calls Try.prog 25 #[.agg #[.int .i64 a0_0, .int .i64 a0_1, .int .i64 a0_2, .slice A0_3 l0_3.length c0_3], .int .i64 a1, .int .i64 a2, .int .i64 a3] w fun e w' => e = .returned (.bool r) ∧ Below w.heap.size w w' := by
 have hu29 := Try.underlying29
 have HR0_3 := Aside0.mk hr0_3
 have HC0_3 := Aside0.mk hc0_3
 clear hr0_3 hc0_3
 have HB := Aside0.mk (Below.refl w.heap.size w)
 have H : ((spec_HopAt.f k a0_0 a0_1 a0_2 l0_3 a1 a2 a3).bind fun t326 => (if t326 = (-1) then ((spec_l19Next.f k a0_0 a0_1 a0_2 l0_3 a1 a2 a3).bind fun t327 => (some (decide (t327 ≥ 0)))) else (some false))) = some r := h
 clear h
 obtain ⟨t326, A5, H⟩ := bnd H
 obtain ⟨c6, H⟩ | ⟨c6, H⟩ := ie_ H
 ·have c6b0 : (t326 == (-1)) = true := beq_iff_eq.mpr c6
  have c6b1 : (t326 != (-1)) = false := bne_eq_false_iff_eq.mpr c6
  clear c6
  obtain ⟨t327, A7, H⟩ := bnd H
  obtain rfl := Option.some.inj H
  go_enter Try.func25, Try.ntmps25
  go_wp2_with (first | ((with_reducible refine gate_dst (N := 4) rfl ?_); refine bx 4 #[.int .i64 a0_0, .int .i64 a0_1, .int .i64 a0_2, .slice A0_3 l0_3.length c0_3] 29 ?_; intro gb325 hg w8 hbox hb; have BK325 := Aside0.mk hbox; have GW325 := bz w hg; have GE325 := bz w hg; replace HB := bs hb; clear hb hbox hg; obtain ⟨hcz9_0, hcz9_1, hcz9_2, hcz9_3, hfz9_0, hfz9_1, hfz9_2, hfz9_3⟩ := cc4 BK325) | ((with_reducible refine gate_callee (f := 15) rfl ?_); refine gL (some 13) Try.func15 #[.agg #[.int .i64 a0_0, .int .i64 a0_1, .int .i64 a0_2, .slice A0_3 l0_3.length c0_3], .int .i64 a1, .int .i64 a2, .int .i64 a3] ?_; (with_reducible refine (spec_HopAt.calls k a0_0 a0_1 a0_2 _ _ l0_3 a1 a2 a3 t326 _ ?side1 ?side2 A5.out).mono ?_); (case side1 => exact cb HR0_3); (case side2 => exact HC0_3.out); rintro e w10 ⟨rfl, hb⟩; refine ⟨_, rfl, ?_⟩; replace BK325 := bb BK325 hb; replace HB := bsw hb; (try clear hb); (try clear hb2); (try clear hk); (try clear hi); obtain ⟨hcz11_0, hcz11_1, hcz11_2, hcz11_3, hfz11_0, hfz11_1, hfz11_2, hfz11_3⟩ := cc4 BK325) | (go_at_call 65; (with_reducible refine (spec_l19Next.calls k a0_0 a0_1 a0_2 _ _ l0_3 a1 a2 a3 t327 _ ?side1 ?side2 A7.out).mono ?_); (case side1 => exact cb HR0_3); (case side2 => exact HC0_3.out); rintro e w12 ⟨rfl, hb⟩; replace BK325 := bb BK325 hb; replace HB := bsw hb; (try clear hb); (try clear hb2); (try clear hk); (try clear hi)))
  go_ret
  exact ⟨se, sbw⟩
 ·have c6b0 : (t326 == (-1)) = false := beq_eq_false_iff_ne.mpr c6
  have c6b1 : (t326 != (-1)) = true := bne_iff_ne.mpr c6
  obtain rfl := Option.some.inj H
  go_enter Try.func25, Try.ntmps25
  go_wp2_with (first | ((with_reducible refine gate_dst (N := 4) rfl ?_); refine bx 4 #[.int .i64 a0_0, .int .i64 a0_1, .int .i64 a0_2, .slice A0_3 l0_3.length c0_3] 29 ?_; intro gb325 hg w13 hbox hb; have BK325 := Aside0.mk hbox; have GW325 := bz w hg; have GE325 := bz w hg; replace HB := bs hb; clear hb hbox hg; obtain ⟨hcz14_0, hcz14_1, hcz14_2, hcz14_3, hfz14_0, hfz14_1, hfz14_2, hfz14_3⟩ := cc4 BK325) | ((with_reducible refine gate_callee (f := 15) rfl ?_); refine gL (some 13) Try.func15 #[.agg #[.int .i64 a0_0, .int .i64 a0_1, .int .i64 a0_2, .slice A0_3 l0_3.length c0_3], .int .i64 a1, .int .i64 a2, .int .i64 a3] ?_; (with_reducible refine (spec_HopAt.calls k a0_0 a0_1 a0_2 _ _ l0_3 a1 a2 a3 t326 _ ?side1 ?side2 A5.out).mono ?_); (case side1 => exact cb HR0_3); (case side2 => exact HC0_3.out); rintro e w15 ⟨rfl, hb⟩; refine ⟨_, rfl, ?_⟩; replace BK325 := bb BK325 hb; replace HB := bsw hb; (try clear hb); (try clear hb2); (try clear hk); (try clear hi)))
  go_ret
  exact ⟨se, sbw⟩

-- NOT PRINTED: function 100 (impl_Piece)

/-! ### impl_IsSpan: function 90 -/
def impl_IsSpan.f (a0_0 : Int) (a0_1 : Int) : Option (Bool) := if a0_0 ≥ 0 then (if a0_1 ≤ 1000 then (some (decide (a0_0 < a0_1))) else (some false)) else (some false)
set_option maxHeartbeats 8000000 in
set_option maxRecDepth 100000 in
theorem impl_IsSpan.calls (a0_0 : Int) (a0_1 : Int) (r : Bool) (w : World) (h : impl_IsSpan.f a0_0 a0_1 = some r) :
    Calls Try.prog 90 #[.agg #[.int .i64 a0_0, .int .i64 a0_1]] w fun e w' => e = .returned (.bool r) ∧ Below w.heap.size w w' := by
 have hu91 := Try.underlying91
 have HB := Aside0.mk (Below.refl w.heap.size w)
 have H : (if a0_0 ≥ 0 then (if a0_1 ≤ 1000 then (some (decide (a0_0 < a0_1))) else (some false)) else (some false)) = some r := h
 clear h
 obtain ⟨c2, H⟩ | ⟨c2, H⟩ := ie_ H
 ·have c2b0 := decide_eq_true c2
  clear c2
  obtain ⟨c3, H⟩ | ⟨c3, H⟩ := ie_ H
  ·have c3b0 := decide_eq_true c3
   clear c3
   obtain rfl := Option.some.inj H
   go_enter Try.func90, Try.ntmps90
   go_wp2_with (first | ((with_reducible refine gate_dst (N := 1) rfl ?_); refine bx 1 #[.int .i64 a0_0, .int .i64 a0_1] 91 ?_; intro gb328 hg w4 hbox hb; have BK328 := Aside0.mk hbox; have GW328 := bz w hg; have GE328 := bz w hg; replace HB := bs hb; clear hb hbox hg; obtain ⟨hcz5_0, hcz5_1, hfz5_0, hfz5_1⟩ := cc2 BK328))
   go_ret
   exact ⟨se, sbw⟩
  ·have c3b0 := decide_eq_false c3
   clear c3
   obtain rfl := Option.some.inj H
   go_enter Try.func90, Try.ntmps90
   go_wp2_with (first | ((with_reducible refine gate_dst (N := 1) rfl ?_); refine bx 1 #[.int .i64 a0_0, .int .i64 a0_1] 91 ?_; intro gb328 hg w6 hbox hb; have BK328 := Aside0.mk hbox; have GW328 := bz w hg; have GE328 := bz w hg; replace HB := bs hb; clear hb hbox hg; obtain ⟨hcz7_0, hcz7_1, hfz7_0, hfz7_1⟩ := cc2 BK328))
   go_ret
   exact ⟨se, sbw⟩
 ·have c2b0 := decide_eq_false c2
  clear c2
  obtain rfl := Option.some.inj H
  go_enter Try.func90, Try.ntmps90
  go_wp2_with (first | ((with_reducible refine gate_dst (N := 1) rfl ?_); refine bx 1 #[.int .i64 a0_0, .int .i64 a0_1] 91 ?_; intro gb328 hg w8 hbox hb; have BK328 := Aside0.mk hbox; have GW328 := bz w hg; have GE328 := bz w hg; replace HB := bs hb; clear hb hbox hg; obtain ⟨hcz9_0, hcz9_1, hfz9_0, hfz9_1⟩ := cc2 BK328))
  go_ret
  exact ⟨se, sbw⟩

/-! ### impl_InSpan: function 87 -/
def impl_InSpan.f (a0_0 : Int) (a0_1 : Int) (a1 : Int) : Option (Bool) := (impl_IsSpan.f a0_0 a0_1).bind fun t330 => (if t330 = true then (if a0_0 ≤ a1 then (some (decide (a1 < a0_1))) else (some false)) else (some false))
set_option maxHeartbeats 8000000 in
set_option maxRecDepth 100000 in
theorem impl_InSpan.calls (a0_0 : Int) (a0_1 : Int) (a1 : Int) (r : Bool) (w : World) (h : impl_InSpan.f a0_0 a0_1 a1 = some r) :
    Calls Try.prog 87 #[.agg #[.int .i64 a0_0, .int .i64 a0_1], .int .i64 a1] w fun e w' => e = .returned (.bool r) ∧ Below w.heap.size w w' := by
 have hu91 := Try.underlying91
 have HB := Aside0.mk (Below.refl w.heap.size w)
 have H : ((impl_IsSpan.f a0_0 a0_1).bind fun t330 => (if t330 = true then (if a0_0 ≤ a1 then (some (decide (a1 < a0_1))) else (some false)) else (some false))) = some r := h
 clear h
 obtain ⟨t330, A3, H⟩ := bnd H
 obtain rfl | rfl := tt t330
 ·replace H := ip H
  obtain ⟨c5, H⟩ | ⟨c5, H⟩ := ie_ H
  ·have c5b0 := decide_eq_true c5
   clear c5
   obtain rfl := Option.some.inj H
   go_enter Try.func87, Try.ntmps87
   go_wp2_with (first | ((with_reducible refine gate_dst (N := 2) rfl ?_); refine bx 2 #[.int .i64 a0_0, .int .i64 a0_1] 91 ?_; intro gb329 hg w6 hbox hb; have BK329 := Aside0.mk hbox; have GW329 := bz w hg; have GE329 := bz w hg; replace HB := bs hb; clear hb hbox hg; obtain ⟨hcz7_0, hcz7_1, hfz7_0, hfz7_1⟩ := cc2 BK329) | ((with_reducible refine gate_callee (f := 90) rfl ?_); refine gL (some 6) Try.func90 #[.agg #[.int .i64 a0_0, .int .i64 a0_1]] ?_; (with_reducible refine (impl_IsSpan.calls a0_0 a0_1 true _ A3.out).mono ?_); rintro e w8 ⟨rfl, hb⟩; refine ⟨_, rfl, ?_⟩; replace BK329 := bb BK329 hb; replace HB := bsw hb; (try clear hb); (try clear hb2); (try clear hk); (try clear hi); obtain ⟨hcz9_0, hcz9_1, hfz9_0, hfz9_1⟩ := cc2 BK329))
   go_ret
   exact ⟨se, sbw⟩
  ·have c5b0 := decide_eq_false c5
   clear c5
   obtain rfl := Option.some.inj H
   go_enter Try.func87, Try.ntmps87
   go_wp2_with (first | ((with_reducible refine gate_dst (N := 2) rfl ?_); refine bx 2 #[.int .i64 a0_0, .int .i64 a0_1] 91 ?_; intro gb329 hg w10 hbox hb; have BK329 := Aside0.mk hbox; have GW329 := bz w hg; have GE329 := bz w hg; replace HB := bs hb; clear hb hbox hg; obtain ⟨hcz11_0, hcz11_1, hfz11_0, hfz11_1⟩ := cc2 BK329) | ((with_reducible refine gate_callee (f := 90) rfl ?_); refine gL (some 6) Try.func90 #[.agg #[.int .i64 a0_0, .int .i64 a0_1]] ?_; (with_reducible refine (impl_IsSpan.calls a0_0 a0_1 true _ A3.out).mono ?_); rintro e w12 ⟨rfl, hb⟩; refine ⟨_, rfl, ?_⟩; replace BK329 := bb BK329 hb; replace HB := bsw hb; (try clear hb); (try clear hb2); (try clear hk); (try clear hi); obtain ⟨hcz13_0, hcz13_1, hfz13_0, hfz13_1⟩ := cc2 BK329))
   go_ret
   exact ⟨se, sbw⟩
 ·replace H := im H
  obtain rfl := Option.some.inj H
  go_enter Try.func87, Try.ntmps87
  go_wp2_with (first | ((with_reducible refine gate_dst (N := 2) rfl ?_); refine bx 2 #[.int .i64 a0_0, .int .i64 a0_1] 91 ?_; intro gb329 hg w14 hbox hb; have BK329 := Aside0.mk hbox; have GW329 := bz w hg; have GE329 := bz w hg; replace HB := bs hb; clear hb hbox hg; obtain ⟨hcz15_0, hcz15_1, hfz15_0, hfz15_1⟩ := cc2 BK329) | ((with_reducible refine gate_callee (f := 90) rfl ?_); refine gL (some 6) Try.func90 #[.agg #[.int .i64 a0_0, .int .i64 a0_1]] ?_; (with_reducible refine (impl_IsSpan.calls a0_0 a0_1 false _ A3.out).mono ?_); rintro e w16 ⟨rfl, hb⟩; refine ⟨_, rfl, ?_⟩; replace BK329 := bb BK329 hb; replace HB := bsw hb; (try clear hb); (try clear hb2); (try clear hk); (try clear hi)))
  go_ret
  exact ⟨se, sbw⟩

-- NOT PRINTED: function 101 (impl_PieceAt_1)

/-! ### impl_PieceAt: function 52 -/
def impl_PieceAt.hit (x : S106) (t : Int) : Bool := impl_InSpan.f x.f0.f0 x.f0.f1 t == some true
def impl_PieceAt.go (t : Int) : List S106 → Nat → Int
  | [], _ => -1
  | x :: xs, i => if impl_PieceAt.hit x t = true then (i : Int) else impl_PieceAt.go t xs (i + 1)
def impl_PieceAt.f (a0_0 : Int) (a0_1 : Int) (a0_2 : Int) (l0_3 : List (S106)) (a1 : Int) : Option (Int) := if l0_3.length ≤ 4611686018427387904 then some (impl_PieceAt.go a1 l0_3 0) else none
theorem impl_PieceAt.tot (a b t : Int) : ∃ q, impl_InSpan.f a b t = some q := by
  have h : ∃ q, impl_IsSpan.f a b = some q := by
    unfold impl_IsSpan.f
    repeat' split
    all_goals exact ⟨_, rfl⟩
  obtain ⟨q, hq⟩ := h
  unfold impl_InSpan.f
  rw [hq, Option.bind_some]
  repeat' split
  all_goals exact ⟨_, rfl⟩
set_option maxHeartbeats 8000000 in
set_option maxRecDepth 100000 in
theorem impl_PieceAt.lit (x : S106) (A2 A3 : Option Addr) (n2 c2 n3 c3 : Nat) (t : Int) (gb : Nat) (W : World) (hc : W.cell? ⟨gb, 0, none⟩ = some (.int .i64 t)) :
    Calls Try.prog 101 #[.agg #[.int .i64 x.f0.f0, .int .i64 x.f0.f1, .slice A2 n2 c2, .slice A3 n3 c3], .pointer (some ⟨gb, 0, none⟩)] W fun e w' => e = .returned (.bool (impl_PieceAt.hit x t)) ∧ Below W.heap.size W w' := by
  have hu := Try.underlying106
  have hus := Try.underlying91
  obtain ⟨q, hq⟩ := impl_PieceAt.tot x.f0.f0 x.f0.f1 t
  rw [show impl_PieceAt.hit x t = q from by unfold impl_PieceAt.hit; rw [hq]; cases q <;> rfl]
  have hlt := World.block_lt_of_cell? W _ hc
  go_enter Try.func101, Try.ntmps101
  go_wp2_with (first | ((with_reducible refine gate_dst (N := 2) rfl ?_); refine box_event ?hg (N := 2) ?hd (cs := #[.int .i64 x.f0.f0, .int .i64 x.f0.f1, .slice A2 n2 c2, .slice A3 n3 c3]) (t := 106) ?hr ?_; (case hd => rfl); (case hg => rfl); (case hr => first | (go_simp; done) | (go_simp; rfl)); intro gbx hg w3 hbox hb3; subst hg; have hc3 : w3.cell? ⟨gb, 0, none⟩ = some (.int .i64 t) := (hb3.cell hlt).trans hc; have hx0 : w3.cell? ⟨W.heap.size, 0, none⟩ = some (.int .i64 x.f0.f0) := (blk_cell hbox 0).trans rfl; have hx1 : w3.cell? ⟨W.heap.size, 1, none⟩ = some (.int .i64 x.f0.f1) := (blk_cell hbox 1).trans rfl) | (go_at_call 87; refine (impl_InSpan.calls x.f0.f0 x.f0.f1 t q _ hq).mono ?_; rintro e w' ⟨rfl, hb⟩))
  go_ret
  exact ⟨rfl, below_step hb3 hb⟩
set_option maxHeartbeats 8000000 in
set_option maxRecDepth 100000 in
theorem impl_PieceAt.idx (A0 : Option Addr) (c0 : Nat) (l : List S106) (t : Int) (gb : Nat) (w : World) (hr : Kd.C k106 w A0 l.length l) (hm : l.length ≤ 4611686018427387904) (hc : w.cell? ⟨gb, 0, none⟩ = some (.int .i64 t)) :
    Calls Try.prog 100 #[.slice A0 l.length c0, .func (.func 101) #[] #[.pointer (some ⟨gb, 0, none⟩)]] w fun e w' => e = .returned (.int .i64 (impl_PieceAt.go t l 0)) ∧ Below w.heap.size w w' := by
  have hu := Try.underlying106
  have hlt := World.block_lt_of_cell? w _ hc
  go_enter Try.func100, Try.ntmps100
  go_wp2
  go_loopg [5, 8] l.length (fun gg _ s8 wr => ∃ i : Int, 0 ≤ i ∧ i ≤ (l.length : Int) ∧ (l.length : Int) - i ≤ gg ∧ s8 = .int .i64 i ∧ Aside0 (Below w.heap.size w wr) ∧ Aside0 (impl_PieceAt.go t (l.drop i.toNat) i.toNat = impl_PieceAt.go t l 0))
  case atStart => exact ⟨0, by omega, by omega, by omega, rfl, ⟨Below.refl _ w⟩, ⟨rfl⟩⟩
  case round =>
    obtain ⟨i, hi0, hi1, hg, rfl, BW, HI⟩ := hrel
    by_cases hlt2 : i < (l.length : Int)
    · obtain ⟨ad, A2, c2, A3, c3, e0, hx0, hx1, hx2, hx3, _⟩ := at_T106 hr i hi0 hlt2
      cases e0
      replace hx0 := (BW.out.cell (World.block_lt_of_cell? w _ hx0)).trans hx0
      replace hx1 := (BW.out.cell (World.block_lt_of_cell? w _ hx1)).trans hx1
      replace hx2 := (BW.out.cell (World.block_lt_of_cell? w _ hx2)).trans hx2
      replace hx3 := (BW.out.cell (World.block_lt_of_cell? w _ hx3)).trans hx3
      have hc' : wr.cell? ⟨gb, 0, none⟩ = some (.int .i64 t) := (BW.out.cell hlt).trans hc
      have hcall := impl_PieceAt.lit (rd_T106 l i) A2 A3 (rd_T106 l i).f1.length c2 (rd_T106 l i).f2.length c3 t gb wr hc'
      have hd : l.drop i.toNat = rd_T106 l i :: l.drop (i.toNat + 1) := by
        have hlt3 : i.toNat < l.length := by omega
        rw [List.drop_eq_getElem_cons hlt3, show rd_T106 l i = l.getD i.toNat z106 from rfl, List.getD_eq_getElem?_getD, List.getElem?_eq_getElem hlt3]
        rfl
      cases hq : impl_PieceAt.hit (rd_T106 l i) t with
      | true =>
        rw [hq] at hcall
        go_wp2_with (go_at_call 101; refine hcall.mono ?_; rintro e w' ⟨rfl, hb'⟩)
        go_ret
        refine ⟨?_, below_step BW.out hb'⟩
        rw [← HI.out, hd, impl_PieceAt.go, if_pos hq, Int.toNat_of_nonneg hi0]
        rfl
      | false =>
        rw [hq] at hcall
        go_wp2_with (go_at_call 101; refine hcall.mono ?_; rintro e w' ⟨rfl, hb'⟩)
        go_roundg (l.length - (i.toNat + 1))
        case measure => omega
        case rel =>
          refine ⟨i + 1, by omega, by omega, by omega, by go_num, ⟨below_step BW.out hb'⟩, ⟨?_⟩⟩
          rw [← HI.out, hd, impl_PieceAt.go, if_neg (by rw [hq]; simp), show (i + 1).toNat = i.toNat + 1 by omega]
    · have : i = (l.length : Int) := by omega
      subst this
      go_wp2
      go_ret
      refine ⟨?_, BW.out⟩
      rw [← HI.out, Int.toNat_natCast, List.drop_length, impl_PieceAt.go]
      rfl
set_option maxHeartbeats 8000000 in
set_option maxRecDepth 100000 in
theorem impl_PieceAt.calls (a0_0 : Int) (a0_1 : Int) (a0_2 : Int) (A0_3 : Option Addr) (c0_3 : Nat) (l0_3 : List (S106)) (a1 : Int) (r : Int) (w : World) (hr0_3 : Kd.C k106 w A0_3 l0_3.length l0_3) (hc0_3 : l0_3.length ≤ c0_3) (h : impl_PieceAt.f a0_0 a0_1 a0_2 l0_3 a1 = some r) :
    Calls Try.prog 52 #[.agg #[.int .i64 a0_0, .int .i64 a0_1, .int .i64 a0_2, .slice A0_3 l0_3.length c0_3], .int .i64 a1] w fun e w' => e = .returned (.int .i64 r) ∧ Below w.heap.size w w' := by
 have hu := Try.underlying29
 unfold impl_PieceAt.f at h
 by_cases hm : l0_3.length ≤ 4611686018427387904
 rotate_left
 ·rw [if_neg hm] at h
  cases h
 rw [if_pos hm] at h
 obtain rfl := Option.some.inj h
 go_enter Try.func52, Try.ntmps52
 go_wp2_with (go_at_call 100; refine (impl_PieceAt.idx A0_3 c0_3 l0_3 a1 _ _ (Kd.C_alloc (Kd.C_alloc hr0_3 _) _) hm ?_).mono ?_; (case refine_1 => go_simp); rintro e w' ⟨rfl, hb⟩)
 go_ret
 exact ⟨rfl, below_step (below_alloc (below_alloc (Below.refl _ _) _) _) hb⟩

/-! ### impl_isIndex: function 98 -/
def impl_isIndex.f (a0 : Int) (a1 : Int) : Option (Bool) := if a0 ≥ 0 then (some (decide (a0 < a1))) else (some false)
set_option maxHeartbeats 8000000 in
set_option maxRecDepth 100000 in
theorem impl_isIndex.calls (a0 : Int) (a1 : Int) (r : Bool) (w : World) (h : impl_isIndex.f a0 a1 = some r) :
    Calls Try.prog 98 #[.int .i64 a0, .int .i64 a1] w fun e w' => e = .returned (.bool r) ∧ Drawn0 w w' := by
 have H : (if a0 ≥ 0 then (some (decide (a0 < a1))) else (some false)) = some r := h
 clear h
 obtain ⟨c3, H⟩ | ⟨c3, H⟩ := ie_ H
 ·have c3b0 := decide_eq_true c3
  clear c3
  obtain rfl := Option.some.inj H
  go_enter Try.func98, Try.ntmps98
  go_wp2
  go_ret
  exact ⟨sc, sd⟩
 ·have c3b0 := decide_eq_false c3
  clear c3
  obtain rfl := Option.some.inj H
  go_enter Try.func98, Try.ntmps98
  go_wp2
  go_ret
  exact ⟨sc, sd⟩

/-! ### slices_Clone_int_int: function 146 -/
def slices_Clone_int_int.f (l0 : List Int) : Option (List Int) := if l0.length < 17592186044416 then some l0 else none
set_option maxHeartbeats 8000000 in
set_option maxRecDepth 100000 in
theorem slices_Clone_int_int.calls (A0 : Option Addr) (c0 : Nat) (l0 : List Int) (r : List Int) (w : World) (hr0 : Kd.C (Kd.int .i64) w A0 l0.length l0) (hc0 : l0.length ≤ c0) (h : slices_Clone_int_int.f l0 = some r) :
    Calls Try.prog 146 #[.slice A0 l0.length c0] w fun e w' => ∃ v0_ : Value, e = .returned (v0_) ∧ Kd.R (Kd.int .i64) 3 w' w.heap.size (fun _ => True) v0_ r ∧ Below w.heap.size w w' := by
 have hu := Try.underlying40
 unfold slices_Clone_int_int.f at h
 by_cases hm : l0.length < 17592186044416
 rotate_left
 ·rw [if_neg hm] at h
  cases h
 rw [if_pos hm] at h
 obtain rfl := Option.some.inj h
 cases A0 with
 | none =>
  have hz : l0 = [] := by
   obtain ⟨_, _, h3⟩ := hr0
   refine List.length_eq_zero_iff.mp (Classical.byContradiction fun hne => ?_)
   obtain ⟨ad, e, _⟩ := h3 (by omega)
   cases e
  subst hz
  have he := Go.Lib.run_eql_slice_nil (P := Try.prog) w 40 3 none 0 c0 0 0 hu
  go_enter Try.func146, Try.ntmps146
  go_wp2
  go_ret
  exact ⟨_, rfl, Kd.R_nil _ _ _ _ _, Below.refl _ _⟩
 | some ad =>
  have he := Go.Lib.run_eql_slice_nil (P := Try.prog) w 40 3 (some ad) l0.length c0 0 0 hu
  go_enter Try.func146, Try.ntmps146
  go_wp2_with (first | ((with_reducible refine gate_dst (N := 5) rfl ?_); refine Kd.R_lit (Kd.int .i64) _ 3 ?hg (N := 5) ?hd (xs := ([] : List Int)) (inner := []) (ok := fun _ => True) (okp := fun _ => True) ?hr ?hp (fun _ hk => hk) trivial (Below.refl _ _) (Nat.le_refl _) (by simp) ?_; (case hd => rfl); (case hg => rfl); (case hr => first | (go_simp; done) | (go_simp; rfl)); (case hp => exact (Reps.none _ _)); intro v5 w5 ho5 hb5 hg_ hnew_; clear hg_ hnew_) | ((with_reducible refine gate_dst (N := 7) rfl ?_); refine Kd.R_append_rows (Kd.int .i64) (w0 := w) w.heap.size rfl (.tmp 5) (.tmp 6) 40 3 (.int .i64 0) 8 rfl Try.underlying40 info3 rfl (by decide) (by omega) v5 [] l0 _ _ _ (fun _ => True) (fun _ => False) rfl rfl ?aO ?aR (fun _ _ h => h) (fun _ h => h.elim) ?aF ?aB ?aS ?aL ?_; (case aR => exact Kd.C_below hr0 hb5); (case aB => exact hb5); (case aF => exact (fun _ _ => trivial)); (case aO => exact ho5); (case aS => exact below_size hb5); (case aL => simp only [List.length_nil]; omega); intro v7 w7 ho7 hb7 hg7 hat7))
  go_ret
  rw [List.nil_append] at ho7
  exact ⟨v7, rfl, ho7, hb7⟩

/-! ### impl_cloneTable: function 99 -/
def impl_cloneTable.f (a0_0 : Int) (l0_1 : List Int) (l0_2 : List Int) : Option (Int × List Int × List Int) := (slices_Clone_int_int.f l0_1).bind fun t333 => ((slices_Clone_int_int.f l0_2).bind fun t336 => (some (a0_0, t333, t336)))
def impl_cloneTable.T1 : Bool × List (List Nat × List Nat) := (true, [([], []), ([0], [0]), ([], []), ([2], [2]), ([3], [3]), ([], []), ([5], [5]), ([6, 4], [6]), ([1, 4, 7], [1, 4, 7]), ([8, 7, 0, 1, 2, 3, 4, 5, 6, 7, 8], [8])])
def impl_cloneTable.B1 : List Nat := [0, 1, 0, 4, 12, 0, 32, 124, 255, 511]
theorem impl_cloneTable.tab1 : rtab .any (opsOf Try.f99 1) = impl_cloneTable.T1 := by kernel_rfl
theorem impl_cloneTable.bits1 : waitsOk impl_cloneTable.T1.2 impl_cloneTable.B1 = true := by kernel_rfl
set_option maxHeartbeats 8000000 in
set_option maxRecDepth 100000 in
theorem impl_cloneTable.calls (a0_0 : Int) (A0_1 : Option Addr) (c0_1 : Nat) (l0_1 : List Int) (A0_2 : Option Addr) (c0_2 : Nat) (l0_2 : List Int) (r1 : Int) (r2 : List Int) (r3 : List Int) (w : World) (hr0_1 : Kd.C (Kd.int .i64) w A0_1 l0_1.length l0_1) (hc0_1 : l0_1.length ≤ c0_1) (hr0_2 : Kd.C (Kd.int .i64) w A0_2 l0_2.length l0_2) (hc0_2 : l0_2.length ≤ c0_2) (h : impl_cloneTable.f a0_0 l0_1 l0_2 = some (r1, r2, r3)) :
    Calls Try.prog 99 #[.agg #[.int .i64 a0_0, .slice A0_1 l0_1.length c0_1, .slice A0_2 l0_2.length c0_2]] w fun e w' => ∃ v1_ v2_ : Value, e = .returned (.agg #[.int .i64 r1, v1_, v2_]) ∧ Kd.R (Kd.int .i64) 3 w' w.heap.size (fun k_ => some k_ ≠ (v2_ : Value).ownBlock) v1_ r2 ∧ Kd.R (Kd.int .i64) 3 w' w.heap.size (fun k_ => some k_ ≠ (v1_ : Value).ownBlock) v2_ r3 ∧ Below w.heap.size w w' := by
 have hu65 := Try.underlying65
 have HR0_1 := Aside0.mk hr0_1
 have HC0_1 := Aside0.mk hc0_1
 clear hr0_1 hc0_1
 have HR0_2 := Aside0.mk hr0_2
 have HC0_2 := Aside0.mk hc0_2
 clear hr0_2 hc0_2
 have HB := Aside0.mk (Below.refl w.heap.size w)
 have H : ((slices_Clone_int_int.f l0_1).bind fun t333 => ((slices_Clone_int_int.f l0_2).bind fun t336 => (some (a0_0, t333, t336)))) = some (r1, r2, r3) := h
 clear h
 obtain ⟨t333, A2, H⟩ := bnd H
 obtain ⟨t336, A3, H⟩ := bnd H
 simp only [Option.some.injEq, Prod.mk.injEq] at H
 obtain ⟨rfl, rfl, rfl⟩ := H
 go_enter Try.func99, Try.ntmps99
 try go_wp2_with (first | ((with_reducible refine gate_dst (N := 1) rfl ?_); refine bx 1 #[.int .i64 a0_0, .slice A0_1 l0_1.length c0_1, .slice A0_2 l0_2.length c0_2] 65 ?_; intro gb331 hg w4 hbox hb; have BK331 := Aside0.mk hbox; have GW331 := bz w hg; have GE331 := bz w hg; replace HB := bs hb; clear hb hbox hg) | ((with_reducible refine gate_dst (N := 2) rfl ?_); refine bx 2 #[.int .i64 0, .slice none 0 0, .slice none 0 0] 65 ?_; intro gb332 hg w5 hbox hb; have BK332 := Aside0.mk hbox; have GW332 := bzw w hg; have GE332 := bzw w hg; replace HB := bsw hb; have NB331_332 := nl BK331 hg; have NB332_331 := ng BK331 hg; replace BK331 := bb BK331 hb; clear hb hbox hg))
 replace BK331 := Aside0.mk (blk_drew BK331.out)
 replace BK332 := Aside0.mk (blk_drew BK332.out)
 replace HB := Aside0.mk (below_drew1 HB.out)
 refine start_ (n := 10) (S := fun w' => w'.cell? ⟨gb331, 0, none⟩ = some (.int .i64 a0_0) ∧ w'.cell? ⟨gb331, 1, none⟩ = some (.slice A0_1 l0_1.length c0_1) ∧ w'.cell? ⟨gb331, 2, none⟩ = some (.slice A0_2 l0_2.length c0_2)) (ds := []) #[false, false, false, false, false, false, false, false, false, false] (by kernel_rfl) rfl rfl ⟨bc0 BK331, bc1 BK331, bc2 BK331⟩ (fun hHeld => ?_); refine with_tabW impl_cloneTable.tab1 impl_cloneTable.bits1 (fun HT_ HW_ => ?_)
 generalize w5.drew = w6 at BK331 BK332 HB hHeld ⊢
 refine put 0 3 #[true, false, false, false, false, false, false, false, false, false] HT_ ?_
 refine put 2 5 #[true, false, true, false, false, false, false, false, false, false] HT_ ?_
 refine put 5 8 #[true, false, true, false, false, true, false, false, false, false] HT_ ?_
 refine tat3 1 4 #[true, true, true, false, false, true, false, false, false, false] HT_ HW_ hHeld ?_
 refine tat3 3 6 #[true, true, true, true, false, true, false, false, false, false] HT_ HW_ hHeld ?_
 refine tat3 6 9 #[true, true, true, true, false, true, true, false, false, false] HT_ HW_ hHeld ?_
 refine one_ (i := 4) (N := some 7) #[true, true, true, true, true, true, true, false, false, false] rfl rfl (one_of HT_.out (by kernel_rfl)) (by decide) (fun K hK => ?_)
 refine goes_ Try.func146 (by kernel_rfl) rfl #[.slice A0_1 l0_1.length c0_1] (by rfl) rfl rfl sl ?_
 with_reducible refine (slices_Clone_int_int.calls _ _ l0_1 t333 _ ?side1 ?side2 A2.out).mono ?_
 (case side1 => exact cb HR0_1)
 (case side2 => exact HC0_1.out)
 rintro e w7 ⟨v334, rfl, ho0, hb⟩
 refine ⟨_, rfl, ?_⟩
 have HO335 := Aside0.mk (Kd.R_lower ho0 (below_size (sbw)))
 replace BK331 := bb BK331 hb
 replace BK332 := bb BK332 hb
 replace HB := bsw hb
 (try clear hb)
 (try clear hb2)
 (try clear hk)
 (try clear hi)
 (try clear ho0)
 refine hK.out _ _ ⟨bc0 BK331, bc1 BK331, bc2 BK331⟩ (fun hHeld => ?_)
 clear hK K
 refine norm_ (a' := ?_) ?_ ?_
 rotate_left
 ·show Act.put _ (some 7) _ = _
  simp only [Act.put, List.setIfInBounds_toArray, List.set_cons_zero, List.set_cons_succ, i64_w, i32_w]
  rfl
 refine one_ (i := 7) (N := some 10) #[true, true, true, true, true, true, true, true, false, false] rfl rfl (one_of HT_.out (by kernel_rfl)) (by decide) (fun K hK => ?_)
 refine goes_ Try.func146 (by kernel_rfl) rfl #[.slice A0_2 l0_2.length c0_2] (by rfl) rfl rfl sl ?_
 with_reducible refine (slices_Clone_int_int.calls _ _ l0_2 t336 _ ?side1 ?side2 A3.out).mono ?_
 (case side1 => exact cb HR0_2)
 (case side2 => exact HC0_2.out)
 rintro e w8 ⟨v337, rfl, ho0, hb⟩
 refine ⟨_, rfl, ?_⟩
 have HO338 := Aside0.mk (Kd.R_lower (Kd.R_new' ho0 (Kd.R_lt (sr HO335))) (below_size (sbw)))
 replace HO335 := Aside0.mk (Kd.R_elder' (sr HO335) (Kd.R_base ho0) hb)
 replace BK331 := bb BK331 hb
 replace BK332 := bb BK332 hb
 replace HB := bsw hb
 (try clear hb)
 (try clear hb2)
 (try clear hk)
 (try clear hi)
 (try clear ho0)
 obtain ⟨Ao9, co9, eo9⟩ := Kd.R_slice HO338.out
 (first | subst eo9 | (injection eo9 with f1_ f2_ f3_; have f4_ := f1_.symm; have f5_ := f3_.symm; clear f1_ f2_ f3_; subst f4_; subst f5_))
 obtain ⟨Ao10, co10, eo10⟩ := Kd.R_slice HO335.out
 (first | subst eo10 | (injection eo10 with f1_ f2_ f3_; have f4_ := f1_.symm; have f5_ := f3_.symm; clear f1_ f2_ f3_; subst f4_; subst f5_))
 refine hK.out _ _ ⟨bc0 BK331, bc1 BK331, bc2 BK331⟩ (fun hHeld => ?_)
 clear hK K
 refine norm_ (a' := ?_) ?_ ?_
 rotate_left
 ·show Act.put _ (some 10) _ = _
  simp only [Act.put, List.setIfInBounds_toArray, List.set_cons_zero, List.set_cons_succ, i64_w, i32_w]
  rfl
 refine put 8 11 #[true, true, true, true, true, true, true, true, true, false] HT_ ?_
 refine one_ (i := 9) (N := none) #[true, true, true, true, true, true, true, true, true, true] rfl rfl (one_of HT_.out (by kernel_rfl)) (by decide) (fun K hK => ?_)
 obtain ⟨hs11, hfs11⟩ := cc1 BK332
 have hns11_0 := NB331_332.out
 have hms11_0 := NB332_331.out
 have hs12 := bc1 BK332
 have hfs12 := bf BK332 1
 have hns12_0 := NB331_332.out
 have hms12_0 := NB332_331.out
 have hs13 := bc2 BK332
 have hfs13 := bf BK332 2
 have hns13_0 := NB331_332.out
 have hms13_0 := NB332_331.out
 refine skip_ (w1 := ?_) (by rfl) rfl ?_ ?_
 rotate_left
 ·go_simp
  rfl
 refine hK.out _ _ ⟨((cell_far (p := ⟨gb332, _, none⟩) NB331_332.out _).trans (((cell_far (p := ⟨gb332, _, none⟩) NB331_332.out _).trans (((cell_far (p := ⟨gb332, _, none⟩) NB331_332.out _).trans (hHeld.1)))))), ((cell_far (p := ⟨gb332, _, none⟩) NB331_332.out _).trans (((cell_far (p := ⟨gb332, _, none⟩) NB331_332.out _).trans (((cell_far (p := ⟨gb332, _, none⟩) NB331_332.out _).trans (hHeld.2.1)))))), ((cell_far (p := ⟨gb332, _, none⟩) NB331_332.out _).trans (((cell_far (p := ⟨gb332, _, none⟩) NB331_332.out _).trans (((cell_far (p := ⟨gb332, _, none⟩) NB331_332.out _).trans (hHeld.2.2))))))⟩ (fun hHeld => ?_)
 clear hK K
 refine done_ (done_of HT_.out (by kernel_rfl)) ?_
 try go_wp2
 refine bodyPost_ret (results_cell_row rfl _ _ gb332 65 #[.int .i64 a0_0, .slice Ao10 t333.length co10, .slice Ao9 t336.length co9] (0, 0) _ rfl (sp BK332) Try.underlying65 rfl (by kernel_rfl)) rfl ?_
 exact ⟨_, _, se, by (with_reducible repeat (first | apply Kd.R_alloc | apply Kd.R_drewN | apply Kd.R_drew)); exact Kd.R_mono (Kd.R_far (p := ⟨gb332, 2, none⟩) (Kd.R_far (p := ⟨gb332, 1, none⟩) (Kd.R_far (p := ⟨gb332, 0, none⟩) (Kd.R_types HO335.out BK332.out (by decide)) (fun _ hk => hk.2) (.int .i64 a0_0)) (fun _ hk => hk.2) (.slice Ao10 t333.length co10)) (fun _ hk => hk.2) (.slice Ao9 t336.length co9)) (fun _ hk => hk.1.2), by (with_reducible repeat (first | apply Kd.R_alloc | apply Kd.R_drewN | apply Kd.R_drew)); exact Kd.R_mono (Kd.R_far (p := ⟨gb332, 2, none⟩) (Kd.R_far (p := ⟨gb332, 1, none⟩) (Kd.R_far (p := ⟨gb332, 0, none⟩) (Kd.R_types HO338.out BK332.out (by decide)) (fun _ hk => hk.2) (.int .i64 a0_0)) (fun _ hk => hk.2) (.slice Ao10 t333.length co10)) (fun _ hk => hk.2) (.slice Ao9 t336.length co9)) (fun _ hk => hk.1.2), sbw⟩

/-! ### impl_TableIn: function 51 -/
def impl_TableIn.f (a0_0 : Int) (a0_1 : Int) (a0_2 : Int) (l0_3 : List (S106)) (a1 : Int) (a2 : Int) : Option (Int × List Int × List Int × Bool) := (impl_isIndex.f a1 (l0_3.length : Int)).bind fun t341 => (if t341 = true then (if 0 ≤ a1 then (if a1 < (l0_3.length : Int) then ((impl_isIndex.f a2 (((rd_T106 l0_3 a1).f2).length : Int)).bind fun t343 => (if t343 = true then (if 0 ≤ a2 then (if a2 < (((rd_T106 l0_3 a1).f2).length : Int) then ((impl_cloneTable.f ((rd_T65 ((rd_T106 l0_3 a1).f2) a2).f0) ((rd_T65 ((rd_T106 l0_3 a1).f2) a2).f1) ((rd_T65 ((rd_T106 l0_3 a1).f2) a2).f2)).bind fun bt346 => (some (bt346.1, bt346.2.1, bt346.2.2, true))) else (none)) else (none)) else (some (0, ([] : List Int), ([] : List Int), false)))) else (none)) else (none)) else (some (0, ([] : List Int), ([] : List Int), false)))
set_option maxHeartbeats 8000000 in
set_option maxRecDepth 100000 in
theorem impl_TableIn.calls (a0_0 : Int) (a0_1 : Int) (a0_2 : Int) (A0_3 : Option Addr) (c0_3 : Nat) (l0_3 : List (S106)) (a1 : Int) (a2 : Int) (r1 : Int) (r2 : List Int) (r3 : List Int) (r4 : Bool) (w : World) (hr0_3 : Kd.C k106 w A0_3 l0_3.length l0_3) (hc0_3 : l0_3.length ≤ c0_3) (h : impl_TableIn.f a0_0 a0_1 a0_2 l0_3 a1 a2 = some (r1, r2, r3, r4)) :
    Calls Try.prog 51 #[.agg #[.int .i64 a0_0, .int .i64 a0_1, .int .i64 a0_2, .slice A0_3 l0_3.length c0_3], .int .i64 a1, .int .i64 a2] w fun e w' => ∃ v1_ v2_ : Value, e = .returned (.tuple #[.agg #[.int .i64 r1, v1_, v2_], .bool r4]) ∧ Kd.R (Kd.int .i64) 3 w' w.heap.size (fun k_ => some k_ ≠ (v2_ : Value).ownBlock) v1_ r2 ∧ Kd.R (Kd.int .i64) 3 w' w.heap.size (fun k_ => some k_ ≠ (v1_ : Value).ownBlock) v2_ r3 ∧ Below w.heap.size w w' := by
 have hu29 := Try.underlying29
 have hu65 := Try.underlying65
 have HR0_3 := Aside0.mk hr0_3
 have HC0_3 := Aside0.mk hc0_3
 clear hr0_3 hc0_3
 have HB := Aside0.mk (Below.refl w.heap.size w)
 have H : ((impl_isIndex.f a1 (l0_3.length : Int)).bind fun t341 => (if t341 = true then (if 0 ≤ a1 then (if a1 < (l0_3.length : Int) then ((impl_isIndex.f a2 (((rd_T106 l0_3 a1).f2).length : Int)).bind fun t343 => (if t343 = true then (if 0 ≤ a2 then (if a2 < (((rd_T106 l0_3 a1).f2).length : Int) then ((impl_cloneTable.f ((rd_T65 ((rd_T106 l0_3 a1).f2) a2).f0) ((rd_T65 ((rd_T106 l0_3 a1).f2) a2).f1) ((rd_T65 ((rd_T106 l0_3 a1).f2) a2).f2)).bind fun bt346 => (some (bt346.1, bt346.2.1, bt346.2.2, true))) else (none)) else (none)) else (some (0, ([] : List Int), ([] : List Int), false)))) else (none)) else (none)) else (some (0, ([] : List Int), ([] : List Int), false)))) = some (r1, r2, r3, r4) := h
 clear h
 obtain ⟨t341, A4, H⟩ := bnd H
 obtain rfl | rfl := tt t341
 ·replace H := ip H
  obtain ⟨c6b0, H⟩ := id_ H
  obtain ⟨c7b0, H⟩ := id_ H
  obtain ⟨t343, A8, H⟩ := bnd H
  obtain rfl | rfl := tt t343
  ·replace H := ip H
   obtain ⟨c10b0, H⟩ := id_ H
   obtain ⟨c11b0, H⟩ := id_ H
   obtain ⟨⟨t346, t347, t350⟩, A12, H⟩ := bnd H
   replace H : (some (t346, t347, t350, true)) = some (r1, r2, r3, r4) := H
   simp only [Option.some.injEq, Prod.mk.injEq] at H
   obtain ⟨rfl, rfl, rfl, rfl⟩ := H
   go_enter Try.func51, Try.ntmps51
   go_wp2_with (first | ((with_reducible refine gate_dst (N := 3) rfl ?_); (try (refine gate_guard (by rfl) ?_; dsimp only)); refine bx 3 #[.int .i64 a0_0, .int .i64 a0_1, .int .i64 a0_2, .slice A0_3 l0_3.length c0_3] 29 ?_; intro gb339 hg w13 hbox hb; have BK339 := Aside0.mk hbox; have GW339 := bz w hg; have GE339 := bz w hg; replace HB := bs hb; clear hb hbox hg) | ((with_reducible refine gate_dst (N := 6) rfl ?_); (try (refine gate_guard (by rfl) ?_; dsimp only)); refine bx 6 #[.int .i64 0, .slice none 0 0, .slice none 0 0] 65 ?_; intro gb340 hg w14 hbox hb; have BK340 := Aside0.mk hbox; have GW340 := bzw w hg; have GE340 := bzw w hg; replace HB := bsw hb; have NB339_340 := nl BK339 hg; have NB340_339 := ng BK339 hg; replace BK339 := bb BK339 hb; clear hb hbox hg; have hnb15 := NB339_340.out; have hnc15 := NB340_339.out; obtain ⟨hcz16_0, hcz16_1, hcz16_2, hcz16_3, hfz16_0, hfz16_1, hfz16_2, hfz16_3⟩ := cc4 BK339) | ((with_reducible refine gate_callee (f := 98) rfl ?_); refine gL (some 12) Try.func98 #[.int .i64 a1, .int .i64 (l0_3.length : Int)] ?_; (with_reducible refine (impl_isIndex.calls a1 (l0_3.length : Int) true _ A4.out).mono ?_); rintro e w' ⟨rfl, ⟨nd, rfl⟩⟩; refine ⟨_, rfl, ?_⟩; obtain ⟨p342, q342, ad342, A342_2, c342_2, A342_3, c342_3, e342, _, _, _, _, hx342_0, hx342_1, hx342_2, hx342_3, HC342_2, HR342_2, HC342_3, HR342_3⟩ := aT_T106 HR0_3 HB a1; cases e342) | (go_at_call 98; (with_reducible refine (impl_isIndex.calls a2 (((rd_T106 l0_3 a1).f2).length : Int) true _ A8.out).mono ?_); rintro e w' ⟨rfl, ⟨nd, rfl⟩⟩; obtain ⟨p344, q344, ad344, A344_2, c344_2, A344_3, c344_3, e344, _, _, _, _, hx344_0, hx344_1, hx344_2, hx344_3, HC344_2, HR344_2, HC344_3, HR344_3⟩ := aT_T106 HR0_3 HB a1; obtain rfl : ad342 = ad344 := (by injection e344); have ea_ := Option.some.inj (hx342_2.symm.trans hx344_2); injection ea_ with ea_ en_ ec_; subst ea_; subst ec_; clear en_; have ea_ := Option.some.inj (hx342_3.symm.trans hx344_3); injection ea_ with ea_ en_ ec_; subst ea_; subst ec_; clear en_; obtain ⟨p345, q345, ad345, A345_1, c345_1, A345_2, c345_2, e345, _, _, _, hx345_0, hx345_1, hx345_2, HC345_1, HR345_1, HC345_2, HR345_2⟩ := aT_T65 HR344_3 HB a2; cases e345) | ((with_reducible refine gate_callee (f := 99) rfl ?_); refine gL (some 36) Try.func99 #[.agg #[.int .i64 ((rd_T65 ((rd_T106 l0_3 a1).f2) a2).f0), .slice A345_1 ((rd_T65 ((rd_T106 l0_3 a1).f2) a2).f1).length c345_1, .slice A345_2 ((rd_T65 ((rd_T106 l0_3 a1).f2) a2).f2).length c345_2]] ?_; (with_reducible refine (impl_cloneTable.calls ((rd_T65 ((rd_T106 l0_3 a1).f2) a2).f0) _ _ ((rd_T65 ((rd_T106 l0_3 a1).f2) a2).f1) _ _ ((rd_T65 ((rd_T106 l0_3 a1).f2) a2).f2) t346 t347 t350 _ ?side1 ?side2 ?side3 ?side4 A12.out).mono ?_); (case side1 => exact cb HR345_1); (case side2 => exact HC345_1.out); (case side3 => exact cb HR345_2); (case side4 => exact HC345_2.out); rintro e w17 ⟨v348, v351, rfl, ho0, ho1, hb⟩; refine ⟨_, rfl, ?_⟩; have HO349 := Aside0.mk (Kd.R_lower ho0 (below_size (sbw))); have HO352 := Aside0.mk (Kd.R_lower ho1 (below_size (sbw))); replace BK339 := bb BK339 hb; replace BK340 := bb BK340 hb; replace HB := bsw hb; (try clear hb); (try clear hb2); (try clear hk); (try clear hi); (try clear ho0); (try clear ho1); obtain ⟨hcz18_0, hcz18_1, hcz18_2, hfz18_0, hfz18_1, hfz18_2⟩ := cc3 BK340; obtain ⟨Ao19, co19, eo19⟩ := Kd.R_slice HO349.out; subst eo19; obtain ⟨Ao20, co20, eo20⟩ := Kd.R_slice HO352.out; subst eo20))
   refine bodyPost_ret (results_ct rfl _ _ gb340 65 #[.int .i64 t346, .slice Ao19 t347.length co19, .slice Ao20 t350.length co20] (0, 0) _ rfl (sp BK340) Try.underlying65 rfl (by kernel_rfl)) rfl ?_
   exact ⟨_, _, se, by (with_reducible repeat (first | apply Kd.R_alloc | apply Kd.R_drewN | apply Kd.R_drew)); exact Kd.R_mono (Kd.R_far (p := ⟨gb340, 2, none⟩) (Kd.R_far (p := ⟨gb340, 1, none⟩) (Kd.R_far (p := ⟨gb340, 0, none⟩) (Kd.R_types HO349.out BK340.out (by decide)) (fun _ hk => hk.2) (.int .i64 t346)) (fun _ hk => hk.2) (.slice Ao19 t347.length co19)) (fun _ hk => hk.2) (.slice Ao20 t350.length co20)) (fun _ hk => hk.1), by (with_reducible repeat (first | apply Kd.R_alloc | apply Kd.R_drewN | apply Kd.R_drew)); exact Kd.R_mono (Kd.R_far (p := ⟨gb340, 2, none⟩) (Kd.R_far (p := ⟨gb340, 1, none⟩) (Kd.R_far (p := ⟨gb340, 0, none⟩) (Kd.R_types HO352.out BK340.out (by decide)) (fun _ hk => hk.2) (.int .i64 t346)) (fun _ hk => hk.2) (.slice Ao19 t347.length co19)) (fun _ hk => hk.2) (.slice Ao20 t350.length co20)) (fun _ hk => hk.1), sbw⟩
  ·replace H := im H
   simp only [Option.some.injEq, Prod.mk.injEq] at H
   obtain ⟨rfl, rfl, rfl, rfl⟩ := H
   go_enter Try.func51, Try.ntmps51
   go_wp2_with (first | ((with_reducible refine gate_dst (N := 3) rfl ?_); (try (refine gate_guard (by rfl) ?_; dsimp only)); refine bx 3 #[.int .i64 a0_0, .int .i64 a0_1, .int .i64 a0_2, .slice A0_3 l0_3.length c0_3] 29 ?_; intro gb339 hg w21 hbox hb; have BK339 := Aside0.mk hbox; have GW339 := bz w hg; have GE339 := bz w hg; replace HB := bs hb; clear hb hbox hg) | ((with_reducible refine gate_dst (N := 6) rfl ?_); (try (refine gate_guard (by rfl) ?_; dsimp only)); refine bx 6 #[.int .i64 0, .slice none 0 0, .slice none 0 0] 65 ?_; intro gb340 hg w22 hbox hb; have BK340 := Aside0.mk hbox; have GW340 := bzw w hg; have GE340 := bzw w hg; replace HB := bsw hb; have NB339_340 := nl BK339 hg; have NB340_339 := ng BK339 hg; replace BK339 := bb BK339 hb; clear hb hbox hg; have hnb23 := NB339_340.out; have hnc23 := NB340_339.out; obtain ⟨hcz24_0, hcz24_1, hcz24_2, hcz24_3, hfz24_0, hfz24_1, hfz24_2, hfz24_3⟩ := cc4 BK339) | ((with_reducible refine gate_callee (f := 98) rfl ?_); refine gL (some 12) Try.func98 #[.int .i64 a1, .int .i64 (l0_3.length : Int)] ?_; (with_reducible refine (impl_isIndex.calls a1 (l0_3.length : Int) true _ A4.out).mono ?_); rintro e w' ⟨rfl, ⟨nd, rfl⟩⟩; refine ⟨_, rfl, ?_⟩; obtain ⟨p342, q342, ad342, A342_2, c342_2, A342_3, c342_3, e342, _, _, _, _, hx342_0, hx342_1, hx342_2, hx342_3, HC342_2, HR342_2, HC342_3, HR342_3⟩ := aT_T106 HR0_3 HB a1; cases e342) | (go_at_call 98; (with_reducible refine (impl_isIndex.calls a2 (((rd_T106 l0_3 a1).f2).length : Int) false _ A8.out).mono ?_); rintro e w' ⟨rfl, ⟨nd, rfl⟩⟩; obtain ⟨hcz25_0, hcz25_1, hcz25_2, hfz25_0, hfz25_1, hfz25_2⟩ := cc3 BK340))
   refine bodyPost_ret (results_ct rfl _ _ gb340 65 #[.int .i64 0, .slice none 0 0, .slice none 0 0] (0, 0) _ rfl (sp BK340) Try.underlying65 rfl (by kernel_rfl)) rfl ?_
   exact ⟨_, _, se, sn, sn, sbw⟩
 ·replace H := im H
  simp only [Option.some.injEq, Prod.mk.injEq] at H
  obtain ⟨rfl, rfl, rfl, rfl⟩ := H
  go_enter Try.func51, Try.ntmps51
  go_wp2_with (first | ((with_reducible refine gate_dst (N := 3) rfl ?_); (try (refine gate_guard (by rfl) ?_; dsimp only)); refine bx 3 #[.int .i64 a0_0, .int .i64 a0_1, .int .i64 a0_2, .slice A0_3 l0_3.length c0_3] 29 ?_; intro gb339 hg w26 hbox hb; have BK339 := Aside0.mk hbox; have GW339 := bz w hg; have GE339 := bz w hg; replace HB := bs hb; clear hb hbox hg) | ((with_reducible refine gate_dst (N := 6) rfl ?_); (try (refine gate_guard (by rfl) ?_; dsimp only)); refine bx 6 #[.int .i64 0, .slice none 0 0, .slice none 0 0] 65 ?_; intro gb340 hg w27 hbox hb; have BK340 := Aside0.mk hbox; have GW340 := bzw w hg; have GE340 := bzw w hg; replace HB := bsw hb; have NB339_340 := nl BK339 hg; have NB340_339 := ng BK339 hg; replace BK339 := bb BK339 hb; clear hb hbox hg; have hnb28 := NB339_340.out; have hnc28 := NB340_339.out; obtain ⟨hcz29_0, hcz29_1, hcz29_2, hcz29_3, hfz29_0, hfz29_1, hfz29_2, hfz29_3⟩ := cc4 BK339) | ((with_reducible refine gate_callee (f := 98) rfl ?_); refine gL (some 12) Try.func98 #[.int .i64 a1, .int .i64 (l0_3.length : Int)] ?_; (with_reducible refine (impl_isIndex.calls a1 (l0_3.length : Int) false _ A4.out).mono ?_); rintro e w' ⟨rfl, ⟨nd, rfl⟩⟩; refine ⟨_, rfl, ?_⟩; obtain ⟨hcz30_0, hcz30_1, hcz30_2, hfz30_0, hfz30_1, hfz30_2⟩ := cc3 BK340))
  refine bodyPost_ret (results_ct rfl _ _ gb340 65 #[.int .i64 0, .slice none 0 0, .slice none 0 0] (0, 0) _ rfl (sp BK340) Try.underlying65 rfl (by kernel_rfl)) rfl ?_
  exact ⟨_, _, se, sn, sn, sbw⟩

/-! ### impl_nextIn: function 67 -/
def impl_nextIn.f (a0_0 : Int) (a0_1 : Int) (a0_2 : Int) (l0_3 : List (S106)) (a1 : Int) (a2 : Int) (a3 : Int) : Option (Int × Bool) := (impl_TableIn.f a0_0 a0_1 a0_2 l0_3 a1 a2).bind fun bt354 => (if bt354.2.2.2 = true then ((impl_isIndex.f a3 (bt354.2.2.1.length : Int)).bind fun t363 => (if t363 = true then (if 0 ≤ a3 then (if a3 < (bt354.2.2.1.length : Int) then (some (rd bt354.2.2.1 a3, true)) else (none)) else (none)) else (some ((-1), false)))) else (some ((-1), false)))
set_option maxHeartbeats 8000000 in
set_option maxRecDepth 100000 in
theorem impl_nextIn.calls (a0_0 : Int) (a0_1 : Int) (a0_2 : Int) (A0_3 : Option Addr) (c0_3 : Nat) (l0_3 : List (S106)) (a1 : Int) (a2 : Int) (a3 : Int) (r1 : Int) (r2 : Bool) (w : World) (hr0_3 : Kd.C k106 w A0_3 l0_3.length l0_3) (hc0_3 : l0_3.length ≤ c0_3) (h : impl_nextIn.f a0_0 a0_1 a0_2 l0_3 a1 a2 a3 = some (r1, r2)) :
    Calls Try.prog 67 #[.agg #[.int .i64 a0_0, .int .i64 a0_1, .int .i64 a0_2, .slice A0_3 l0_3.length c0_3], .int .i64 a1, .int .i64 a2, .int .i64 a3] w fun e w' => e = .returned (.tuple #[.int .i64 r1, .bool r2]) ∧ Below w.heap.size w w' := by
 have hu29 := Try.underlying29
 have hu65 := Try.underlying65
 have HR0_3 := Aside0.mk hr0_3
 have HC0_3 := Aside0.mk hc0_3
 clear hr0_3 hc0_3
 have HB := Aside0.mk (Below.refl w.heap.size w)
 have H : ((impl_TableIn.f a0_0 a0_1 a0_2 l0_3 a1 a2).bind fun bt354 => (if bt354.2.2.2 = true then ((impl_isIndex.f a3 (bt354.2.2.1.length : Int)).bind fun t363 => (if t363 = true then (if 0 ≤ a3 then (if a3 < (bt354.2.2.1.length : Int) then (some (rd bt354.2.2.1 a3, true)) else (none)) else (none)) else (some ((-1), false)))) else (some ((-1), false)))) = some (r1, r2) := h
 clear h
 obtain ⟨⟨t354, t355, t358, t361⟩, A5, H⟩ := bnd H
 replace H : (if t361 = true then ((impl_isIndex.f a3 (t358.length : Int)).bind fun t363 => (if t363 = true then (if 0 ≤ a3 then (if a3 < (t358.length : Int) then (some (rd t358 a3, true)) else (none)) else (none)) else (some ((-1), false)))) else (some ((-1), false))) = some (r1, r2) := H
 obtain rfl | rfl := tt t361
 ·replace H := ip H
  obtain ⟨t363, A7, H⟩ := bnd H
  obtain rfl | rfl := tt t363
  ·replace H := ip H
   obtain ⟨c9b0, H⟩ := id_ H
   obtain ⟨c10b0, H⟩ := id_ H
   simp only [Option.some.injEq, Prod.mk.injEq] at H
   obtain ⟨rfl, rfl⟩ := H
   go_enter Try.func67, Try.ntmps67
   go_wp2_with (first | ((with_reducible refine gate_dst (N := 4) rfl ?_); (try (refine gate_guard (by rfl) ?_; dsimp only)); refine bx 4 #[.int .i64 a0_0, .int .i64 a0_1, .int .i64 a0_2, .slice A0_3 l0_3.length c0_3] 29 ?_; intro gb353 hg w11 hbox hb; have BK353 := Aside0.mk hbox; have GW353 := bz w hg; have GE353 := bz w hg; replace HB := bs hb; clear hb hbox hg; obtain ⟨hcz12_0, hcz12_1, hcz12_2, hcz12_3, hfz12_0, hfz12_1, hfz12_2, hfz12_3⟩ := cc4 BK353) | ((with_reducible refine gate_callee (f := 51) rfl ?_); refine gL (some 16) Try.func51 #[.agg #[.int .i64 a0_0, .int .i64 a0_1, .int .i64 a0_2, .slice A0_3 l0_3.length c0_3], .int .i64 a1, .int .i64 a2] ?_; (with_reducible refine (impl_TableIn.calls a0_0 a0_1 a0_2 _ _ l0_3 a1 a2 t354 t355 t358 true _ ?side1 ?side2 A5.out).mono ?_); (case side1 => exact cb HR0_3); (case side2 => exact HC0_3.out); rintro e w13 ⟨v356, v359, rfl, ho0, ho1, hb⟩; refine ⟨_, rfl, ?_⟩; have HO357 := Aside0.mk (Kd.R_lower ho0 (below_size (sbw))); have HO360 := Aside0.mk (Kd.R_lower ho1 (below_size (sbw))); replace BK353 := bb BK353 hb; replace HB := bsw hb; (try clear hb); (try clear hb2); (try clear hk); (try clear hi); (try clear ho0); (try clear ho1)) | ((with_reducible refine gate_dst (N := 10) rfl ?_); (try (refine gate_guard (by rfl) ?_; dsimp only)); refine bx 10 #[.int .i64 0, .slice none 0 0, .slice none 0 0] 65 ?_; intro gb362 hg w14 hbox hb; replace HO357 := Aside0.mk (Kd.R_below (sr HO357) hb); replace HO360 := Aside0.mk (Kd.R_below (sr HO360) hb); have BK362 := Aside0.mk hbox; have GW362 := bzw w hg; have GE362 := bzw w hg; replace HB := bsw hb; have NB353_362 := nl BK353 hg; have NB362_353 := ng BK353 hg; replace BK353 := bb BK353 hb; clear hb hbox hg; have hnb15 := NB362_353.out; have hnc15 := NB353_362.out; obtain ⟨hcz16_0, hcz16_1, hcz16_2, hfz16_0, hfz16_1, hfz16_2⟩ := cc3 BK362; obtain ⟨Ao17, co17, eo17⟩ := Kd.R_slice HO357.out; subst eo17; obtain ⟨Ao18, co18, eo18⟩ := Kd.R_slice HO360.out; subst eo18) | (go_at_call 98; (with_reducible refine (impl_isIndex.calls a3 (t358.length : Int) true _ A7.out).mono ?_); rintro e w' ⟨rfl, ⟨nd, rfl⟩⟩; have p364 : 0 ≤ (a3 : Int) := sa; have q364 : a3 < (t358.length : Int) := sa; obtain ⟨ad364, e364, hx364_0⟩ := Kd.at_int (Kd.R_reads' HO360.out).2.2 a3 p364 q364; cases e364; have hn364_0 : ad364.block ≠ gb362 := Kd.own_blk (Kd.R_ne HO360.out BK362.out (by decide)); have hn364_1 : ad364.block ≠ gb362 := Kd.own_blk (Kd.R_ne HO360.out BK362.out (by decide)); have hn364_2 : ad364.block ≠ gb362 := Kd.own_blk (Kd.R_ne HO360.out BK362.out (by decide)); replace hx364_0 := (cell_far (p := ⟨gb362, 0, none⟩) (by first | (rw [add_block]; exact hn364_0) | (show (Addr.add _ _).block ≠ _; rw [add_block]; exact hn364_0) | exact hn364_0) (.int .i64 t354)).trans hx364_0; replace hx364_0 := (cell_far (p := ⟨gb362, 1, none⟩) (by first | (rw [add_block]; exact hn364_1) | (show (Addr.add _ _).block ≠ _; rw [add_block]; exact hn364_1) | exact hn364_1) (.slice Ao17 t355.length co17)).trans hx364_0; replace hx364_0 := (cell_far (p := ⟨gb362, 2, none⟩) (by first | (rw [add_block]; exact hn364_2) | (show (Addr.add _ _).block ≠ _; rw [add_block]; exact hn364_2) | exact hn364_2) (.slice (some ad364) t358.length co18)).trans hx364_0; clear hn364_0; clear hn364_1; clear hn364_2; replace p364 := eq_true p364; replace q364 := eq_true q364))
   go_ret2
   exact ⟨se, sbw⟩
  ·replace H := im H
   simp only [Option.some.injEq, Prod.mk.injEq] at H
   obtain ⟨rfl, rfl⟩ := H
   go_enter Try.func67, Try.ntmps67
   go_wp2_with (first | ((with_reducible refine gate_dst (N := 4) rfl ?_); (try (refine gate_guard (by rfl) ?_; dsimp only)); refine bx 4 #[.int .i64 a0_0, .int .i64 a0_1, .int .i64 a0_2, .slice A0_3 l0_3.length c0_3] 29 ?_; intro gb353 hg w19 hbox hb; have BK353 := Aside0.mk hbox; have GW353 := bz w hg; have GE353 := bz w hg; replace HB := bs hb; clear hb hbox hg; obtain ⟨hcz20_0, hcz20_1, hcz20_2, hcz20_3, hfz20_0, hfz20_1, hfz20_2, hfz20_3⟩ := cc4 BK353) | ((with_reducible refine gate_callee (f := 51) rfl ?_); refine gL (some 16) Try.func51 #[.agg #[.int .i64 a0_0, .int .i64 a0_1, .int .i64 a0_2, .slice A0_3 l0_3.length c0_3], .int .i64 a1, .int .i64 a2] ?_; (with_reducible refine (impl_TableIn.calls a0_0 a0_1 a0_2 _ _ l0_3 a1 a2 t354 t355 t358 true _ ?side1 ?side2 A5.out).mono ?_); (case side1 => exact cb HR0_3); (case side2 => exact HC0_3.out); rintro e w21 ⟨v356, v359, rfl, ho0, ho1, hb⟩; refine ⟨_, rfl, ?_⟩; have HO357 := Aside0.mk (Kd.R_lower ho0 (below_size (sbw))); have HO360 := Aside0.mk (Kd.R_lower ho1 (below_size (sbw))); replace BK353 := bb BK353 hb; replace HB := bsw hb; (try clear hb); (try clear hb2); (try clear hk); (try clear hi); (try clear ho0); (try clear ho1)) | ((with_reducible refine gate_dst (N := 10) rfl ?_); (try (refine gate_guard (by rfl) ?_; dsimp only)); refine bx 10 #[.int .i64 0, .slice none 0 0, .slice none 0 0] 65 ?_; intro gb362 hg w22 hbox hb; replace HO357 := Aside0.mk (Kd.R_below (sr HO357) hb); replace HO360 := Aside0.mk (Kd.R_below (sr HO360) hb); have BK362 := Aside0.mk hbox; have GW362 := bzw w hg; have GE362 := bzw w hg; replace HB := bsw hb; have NB353_362 := nl BK353 hg; have NB362_353 := ng BK353 hg; replace BK353 := bb BK353 hb; clear hb hbox hg; have hnb23 := NB362_353.out; have hnc23 := NB353_362.out; obtain ⟨hcz24_0, hcz24_1, hcz24_2, hfz24_0, hfz24_1, hfz24_2⟩ := cc3 BK362; obtain ⟨Ao25, co25, eo25⟩ := Kd.R_slice HO357.out; subst eo25; obtain ⟨Ao26, co26, eo26⟩ := Kd.R_slice HO360.out; subst eo26) | (go_at_call 98; (with_reducible refine (impl_isIndex.calls a3 (t358.length : Int) false _ A7.out).mono ?_); rintro e w' ⟨rfl, ⟨nd, rfl⟩⟩))
   go_ret2
   exact ⟨se, sbw⟩
 ·replace H := im H
  simp only [Option.some.injEq, Prod.mk.injEq] at H
  obtain ⟨rfl, rfl⟩ := H
  go_enter Try.func67, Try.ntmps67
  go_wp2_with (first | ((with_reducible refine gate_dst (N := 4) rfl ?_); (try (refine gate_guard (by rfl) ?_; dsimp only)); refine bx 4 #[.int .i64 a0_0, .int .i64 a0_1, .int .i64 a0_2, .slice A0_3 l0_3.length c0_3] 29 ?_; intro gb353 hg w27 hbox hb; have BK353 := Aside0.mk hbox; have GW353 := bz w hg; have GE353 := bz w hg; replace HB := bs hb; clear hb hbox hg; obtain ⟨hcz28_0, hcz28_1, hcz28_2, hcz28_3, hfz28_0, hfz28_1, hfz28_2, hfz28_3⟩ := cc4 BK353) | ((with_reducible refine gate_callee (f := 51) rfl ?_); refine gL (some 16) Try.func51 #[.agg #[.int .i64 a0_0, .int .i64 a0_1, .int .i64 a0_2, .slice A0_3 l0_3.length c0_3], .int .i64 a1, .int .i64 a2] ?_; (with_reducible refine (impl_TableIn.calls a0_0 a0_1 a0_2 _ _ l0_3 a1 a2 t354 t355 t358 false _ ?side1 ?side2 A5.out).mono ?_); (case side1 => exact cb HR0_3); (case side2 => exact HC0_3.out); rintro e w29 ⟨v356, v359, rfl, ho0, ho1, hb⟩; refine ⟨_, rfl, ?_⟩; have HO357 := Aside0.mk (Kd.R_lower ho0 (below_size (sbw))); have HO360 := Aside0.mk (Kd.R_lower ho1 (below_size (sbw))); replace BK353 := bb BK353 hb; replace HB := bsw hb; (try clear hb); (try clear hb2); (try clear hk); (try clear hi); (try clear ho0); (try clear ho1)) | ((with_reducible refine gate_dst (N := 10) rfl ?_); (try (refine gate_guard (by rfl) ?_; dsimp only)); refine bx 10 #[.int .i64 0, .slice none 0 0, .slice none 0 0] 65 ?_; intro gb362 hg w30 hbox hb; replace HO357 := Aside0.mk (Kd.R_below (sr HO357) hb); replace HO360 := Aside0.mk (Kd.R_below (sr HO360) hb); have BK362 := Aside0.mk hbox; have GW362 := bzw w hg; have GE362 := bzw w hg; replace HB := bsw hb; have NB353_362 := nl BK353 hg; have NB362_353 := ng BK353 hg; replace BK353 := bb BK353 hb; clear hb hbox hg; have hnb31 := NB362_353.out; have hnc31 := NB353_362.out; obtain ⟨hcz32_0, hcz32_1, hcz32_2, hfz32_0, hfz32_1, hfz32_2⟩ := cc3 BK362; obtain ⟨Ao33, co33, eo33⟩ := Kd.R_slice HO357.out; subst eo33; obtain ⟨Ao34, co34, eo34⟩ := Kd.R_slice HO360.out; subst eo34))
  go_ret2
  exact ⟨se, sbw⟩

/-! ### impl_InRange: function 89 -/
def impl_InRange.f (a0 : Int) (a1 : Int) (a2 : Int) : Option (Bool) := if a1 ≤ a0 then (some (decide (a0 ≤ a2))) else (some false)
set_option maxHeartbeats 8000000 in
set_option maxRecDepth 100000 in
theorem impl_InRange.calls (a0 : Int) (a1 : Int) (a2 : Int) (r : Bool) (w : World) (h : impl_InRange.f a0 a1 a2 = some r) :
    Calls Try.prog 89 #[.int .i64 a0, .int .i64 a1, .int .i64 a2] w fun e w' => e = .returned (.bool r) ∧ Drawn0 w w' := by
 have H : (if a1 ≤ a0 then (some (decide (a0 ≤ a2))) else (some false)) = some r := h
 clear h
 obtain ⟨c4, H⟩ | ⟨c4, H⟩ := ie_ H
 ·have c4b0 := decide_eq_true c4
  clear c4
  obtain rfl := Option.some.inj H
  go_enter Try.func89, Try.ntmps89
  go_wp2
  go_ret
  exact ⟨sc, sd⟩
 ·have c4b0 := decide_eq_false c4
  clear c4
  obtain rfl := Option.some.inj H
  go_enter Try.func89, Try.ntmps89
  go_wp2
  go_ret
  exact ⟨sc, sd⟩

/-! ### impl_isSkewed: function 68 -/
def impl_isSkewed.f (a0_0 : Int) (a0_1 : Int) (a0_2 : Int) (l0_3 : List (S106)) (a1 : Int) : Option (Bool) := (impl_InRange.f a0_2 0 5).bind fun t366 => (if t366 = true then ((impl_InRange.f a1 0 1000).bind fun t367 => (some t367)) else (some false))
set_option maxHeartbeats 8000000 in
set_option maxRecDepth 100000 in
theorem impl_isSkewed.calls (a0_0 : Int) (a0_1 : Int) (a0_2 : Int) (A0_3 : Option Addr) (c0_3 : Nat) (l0_3 : List (S106)) (a1 : Int) (r : Bool) (w : World) (hr0_3 : Kd.C k106 w A0_3 l0_3.length l0_3) (hc0_3 : l0_3.length ≤ c0_3) (h : impl_isSkewed.f a0_0 a0_1 a0_2 l0_3 a1 = some r) :
    Calls Try.prog 68 #[.agg #[.int .i64 a0_0, .int .i64 a0_1, .int .i64 a0_2, .slice A0_3 l0_3.length c0_3], .int .i64 a1] w fun e w' => e = .returned (.bool r) ∧ Below w.heap.size w w' := by
 have hu29 := Try.underlying29
 have HR0_3 := Aside0.mk hr0_3
 have HC0_3 := Aside0.mk hc0_3
 clear hr0_3 hc0_3
 have HB := Aside0.mk (Below.refl w.heap.size w)
 have H : ((impl_InRange.f a0_2 0 5).bind fun t366 => (if t366 = true then ((impl_InRange.f a1 0 1000).bind fun t367 => (some t367)) else (some false))) = some r := h
 clear h
 obtain ⟨t366, A3, H⟩ := bnd H
 obtain rfl | rfl := tt t366
 ·replace H := ip H
  obtain ⟨t367, A5, H⟩ := bnd H
  obtain rfl := Option.some.inj H
  go_enter Try.func68, Try.ntmps68
  go_wp2_with (first | ((with_reducible refine gate_dst (N := 2) rfl ?_); refine bx 2 #[.int .i64 a0_0, .int .i64 a0_1, .int .i64 a0_2, .slice A0_3 l0_3.length c0_3] 29 ?_; intro gb365 hg w6 hbox hb; have BK365 := Aside0.mk hbox; have GW365 := bz w hg; have GE365 := bz w hg; replace HB := bs hb; clear hb hbox hg; obtain ⟨hcz7_0, hcz7_1, hcz7_2, hcz7_3, hfz7_0, hfz7_1, hfz7_2, hfz7_3⟩ := cc4 BK365) | ((with_reducible refine gate_callee (f := 89) rfl ?_); refine gL (some 7) Try.func89 #[.int .i64 a0_2, .int .i64 0, .int .i64 5] ?_; (with_reducible refine (impl_InRange.calls a0_2 0 5 true _ A3.out).mono ?_); rintro e w' ⟨rfl, ⟨nd, rfl⟩⟩; refine ⟨_, rfl, ?_⟩) | (go_at_call 89; (with_reducible refine (impl_InRange.calls a1 0 1000 t367 _ A5.out).mono ?_); rintro e w' ⟨rfl, ⟨nd, rfl⟩⟩))
  go_ret
  exact ⟨se, sbw⟩
 ·replace H := im H
  obtain rfl := Option.some.inj H
  go_enter Try.func68, Try.ntmps68
  go_wp2_with (first | ((with_reducible refine gate_dst (N := 2) rfl ?_); refine bx 2 #[.int .i64 a0_0, .int .i64 a0_1, .int .i64 a0_2, .slice A0_3 l0_3.length c0_3] 29 ?_; intro gb365 hg w8 hbox hb; have BK365 := Aside0.mk hbox; have GW365 := bz w hg; have GE365 := bz w hg; replace HB := bs hb; clear hb hbox hg; obtain ⟨hcz9_0, hcz9_1, hcz9_2, hcz9_3, hfz9_0, hfz9_1, hfz9_2, hfz9_3⟩ := cc4 BK365) | ((with_reducible refine gate_callee (f := 89) rfl ?_); refine gL (some 7) Try.func89 #[.int .i64 a0_2, .int .i64 0, .int .i64 5] ?_; (with_reducible refine (impl_InRange.calls a0_2 0 5 false _ A3.out).mono ?_); rintro e w' ⟨rfl, ⟨nd, rfl⟩⟩; refine ⟨_, rfl, ?_⟩))
  go_ret
  exact ⟨se, sbw⟩

end Go.Proofs.Ytlakjlolahjphaa.QFnExactIsHolding
