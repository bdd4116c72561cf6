/- What the Go functions of the law FnExactBuildProgram come to, as Lean functions, and that they do: by a program of the session, out of the kit's printer. Conditions: none. (squeezed). -/
import Derived.Test.YtcjlbgbenjmkgaaVFnExactBuildProgramSq
import Derived.Test.YtcjlbgbenjmkgaaVFnExactBuildProgramQFnExactBuildProgramx0
namespace Go.Proofs.Ytcjlbgbenjmkgaa.QFnExactBuildProgram
open Go.RowKit Go.Proofs.YtcjlbgbenjmkgaaW.PrintWords Go.Proofs.YtcjlbgbenjmkgaaW.PrintLast Go.Proofs.YtcjlbgbenjmkgaaW.PrintMore Go.Proofs.Ytcjlbgbenjmkgaa.Open Go.Proofs.Ytcjlbgbenjmkgaa.Sq
attribute [local go_sem] max2_int min2_int max_two min_two max_three min_three max_four min_four   -- for this text's walks alone
attribute [local go_sem] isSome_set
set_option linter.unusedVariables false
set_option linter.unusedSimpArgs false

/-! ### laws_szContactS: function 4 -/
def laws_szContactS.f (l0 : List (S51)) (a1 : Int) : Option (Int) := if (wrap64 (a1 - (l0.length : Int))) < 0 then (some (-1)) else (some (wrap64 (a1 - (l0.length : Int))))
set_option maxHeartbeats 8000000 in
set_option maxRecDepth 100000 in
theorem laws_szContactS.calls (A0 : Option Addr) (c0 : Nat) (l0 : List (S51)) (a1 : Int) (r : Int) (w : World) (hr0 : Kd.C k51 w A0 l0.length l0) (hc0 : l0.length ≤ c0) (h : laws_szContactS.f l0 a1 = some r) :
    Calls Try.prog 4 #[.slice A0 l0.length c0, .int .i64 a1] w fun e w' => e = .returned (.int .i64 r) ∧ Drawn0 w w' := by
 have HR0 := Aside0.mk hr0
 have HC0 := Aside0.mk hc0
 clear hr0 hc0
 have H : (if (wrap64 (a1 - (l0.length : Int))) < 0 then (some (-1)) else (some (wrap64 (a1 - (l0.length : Int))))) = some r := h
 clear h
 obtain ⟨c3, H⟩ | ⟨c3, H⟩ := ie_ H
 ·have c3b0 := decide_eq_true c3
  clear c3
  obtain rfl := Option.some.inj H
  go_enter Try.func4, Try.ntmps4
  go_wp2
  go_ret
  exact ⟨sc, sd⟩
 ·have c3b0 := decide_eq_false c3
  clear c3
  obtain rfl := Option.some.inj H
  go_enter Try.func4, Try.ntmps4
  go_wp2
  go_ret
  exact ⟨sc, sd⟩

/-! ### spec_l1In: function 16 -/
def spec_l1In.f (a0 : Int) (a1 : Int) (a2 : Int) : Option (Bool) := if a0 ≥ a1 then (some (decide (a0 ≤ a2))) else (some false)
set_option maxHeartbeats 8000000 in
set_option maxRecDepth 100000 in
theorem spec_l1In.calls (a0 : Int) (a1 : Int) (a2 : Int) (r : Bool) (w : World) (h : spec_l1In.f a0 a1 a2 = some r) :
    Calls Try.prog 16 #[.int .i64 a0, .int .i64 a1, .int .i64 a2] w fun e w' => e = .returned (.bool r) ∧ Drawn0 w w' := by
 have H : (if a0 ≥ a1 then (some (decide (a0 ≤ a2))) else (some false)) = some r := h
 clear h
 obtain ⟨c4, H⟩ | ⟨c4, H⟩ := ie_ H
 ·have c4b0 := decide_eq_true c4
  clear c4
  obtain rfl := Option.some.inj H
  go_enter Try.func16, Try.ntmps16
  go_wp2
  go_ret
  exact ⟨sc, sd⟩
 ·have c4b0 := decide_eq_false c4
  clear c4
  obtain rfl := Option.some.inj H
  go_enter Try.func16, Try.ntmps16
  go_wp2
  go_ret
  exact ⟨sc, sd⟩

/-! ### spec_l17Frame: function 13 -/
def spec_l17Frame.f (a0 : Int) (a1 : Int) (a2 : Int) : Option (Bool) := (spec_l1In.f a0 1 12).bind fun t101 => (if t101 = true then ((spec_l1In.f a1 0 a0).bind fun t102 => (if t102 = true then ((spec_l1In.f a2 0 5).bind fun t103 => (some t103)) else (some false))) else (some false))
set_option maxHeartbeats 8000000 in
set_option maxRecDepth 100000 in
theorem spec_l17Frame.calls (a0 : Int) (a1 : Int) (a2 : Int) (r : Bool) (w : World) (h : spec_l17Frame.f a0 a1 a2 = some r) :
    Calls Try.prog 13 #[.int .i64 a0, .int .i64 a1, .int .i64 a2] w fun e w' => e = .returned (.bool r) ∧ Drawn0 w w' := by
 have H : ((spec_l1In.f a0 1 12).bind fun t101 => (if t101 = true then ((spec_l1In.f a1 0 a0).bind fun t102 => (if t102 = true then ((spec_l1In.f a2 0 5).bind fun t103 => (some t103)) else (some false))) else (some false))) = some r := h
 clear h
 obtain ⟨t101, A4, H⟩ := bnd H
 obtain rfl | rfl := tt t101
 ·replace H := ip H
  obtain ⟨t102, A6, H⟩ := bnd H
  obtain rfl | rfl := tt t102
  ·replace H := ip H
   obtain ⟨t103, A8, H⟩ := bnd H
   obtain rfl := Option.some.inj H
   go_enter Try.func13, Try.ntmps13
   go_wp2_with (first | ((with_reducible refine gate_callee (f := 16) rfl ?_); refine gL (some 8) Try.func16 #[.int .i64 a0, .int .i64 1, .int .i64 12] ?_; (with_reducible refine (spec_l1In.calls a0 1 12 true _ A4.out).mono ?_); rintro e w' ⟨rfl, ⟨nd, rfl⟩⟩; refine ⟨_, rfl, ?_⟩) | (go_at_call 16; (with_reducible refine (spec_l1In.calls a1 0 a0 true _ A6.out).mono ?_); rintro e w' ⟨rfl, ⟨nd, rfl⟩⟩) | (go_at_call 16; (with_reducible refine (spec_l1In.calls a2 0 5 t103 _ A8.out).mono ?_); rintro e w' ⟨rfl, ⟨nd, rfl⟩⟩))
   go_ret
   exact ⟨sc, sd⟩
  ·replace H := im H
   obtain rfl := Option.some.inj H
   go_enter Try.func13, Try.ntmps13
   go_wp2_with (first | ((with_reducible refine gate_callee (f := 16) rfl ?_); refine gL (some 8) Try.func16 #[.int .i64 a0, .int .i64 1, .int .i64 12] ?_; (with_reducible refine (spec_l1In.calls a0 1 12 true _ A4.out).mono ?_); rintro e w' ⟨rfl, ⟨nd, rfl⟩⟩; refine ⟨_, rfl, ?_⟩) | (go_at_call 16; (with_reducible refine (spec_l1In.calls a1 0 a0 false _ A6.out).mono ?_); rintro e w' ⟨rfl, ⟨nd, rfl⟩⟩))
   go_ret
   exact ⟨sc, sd⟩
 ·replace H := im H
  obtain rfl := Option.some.inj H
  go_enter Try.func13, Try.ntmps13
  go_wp2_with (first | ((with_reducible refine gate_callee (f := 16) rfl ?_); refine gL (some 8) Try.func16 #[.int .i64 a0, .int .i64 1, .int .i64 12] ?_; (with_reducible refine (spec_l1In.calls a0 1 12 false _ A4.out).mono ?_); rintro e w' ⟨rfl, ⟨nd, rfl⟩⟩; refine ⟨_, rfl, ?_⟩))
  go_ret
  exact ⟨sc, sd⟩

/-! ### spec_IsSpan: function 32 -/
def spec_IsSpan.f (a0_0 : Int) (a0_1 : Int) : Option (Bool) := if a0_0 ≥ 0 then (if a0_1 ≤ 1000 then (some (decide (a0_0 < a0_1))) else (some false)) else (some false)
set_option maxHeartbeats 8000000 in
set_option maxRecDepth 100000 in
theorem spec_IsSpan.calls (a0_0 : Int) (a0_1 : Int) (r : Bool) (w : World) (h : spec_IsSpan.f a0_0 a0_1 = some r) :
    Calls Try.prog 32 #[.agg #[.int .i64 a0_0, .int .i64 a0_1]] w fun e w' => e = .returned (.bool r) ∧ Below w.heap.size w w' := by
 have hu43 := Try.underlying43
 have HB := Aside0.mk (Below.refl w.heap.size w)
 have H : (if a0_0 ≥ 0 then (if a0_1 ≤ 1000 then (some (decide (a0_0 < a0_1))) else (some false)) else (some false)) = some r := h
 clear h
 obtain ⟨c2, H⟩ | ⟨c2, H⟩ := ie_ H
 ·have c2b0 := decide_eq_true c2
  clear c2
  obtain ⟨c3, H⟩ | ⟨c3, H⟩ := ie_ H
  ·have c3b0 := decide_eq_true c3
   clear c3
   obtain rfl := Option.some.inj H
   go_enter Try.func32, Try.ntmps32
   go_wp2_with (first | ((with_reducible refine gate_dst (N := 1) rfl ?_); refine bx 1 #[.int .i64 a0_0, .int .i64 a0_1] 43 ?_; intro gb104 hg w4 hbox hb; have GW104 := bz w hg; have GE104 := bz w hg; replace HB := bs hb; have BK104 := Aside0.mk hbox; clear hb hbox hg; obtain ⟨hcz5_0, hcz5_1, hfz5_0, hfz5_1⟩ := cc2 BK104))
   go_ret
   exact ⟨se, sbw⟩
  ·have c3b0 := decide_eq_false c3
   clear c3
   obtain rfl := Option.some.inj H
   go_enter Try.func32, Try.ntmps32
   go_wp2_with (first | ((with_reducible refine gate_dst (N := 1) rfl ?_); refine bx 1 #[.int .i64 a0_0, .int .i64 a0_1] 43 ?_; intro gb104 hg w6 hbox hb; have GW104 := bz w hg; have GE104 := bz w hg; replace HB := bs hb; have BK104 := Aside0.mk hbox; clear hb hbox hg; obtain ⟨hcz7_0, hcz7_1, hfz7_0, hfz7_1⟩ := cc2 BK104))
   go_ret
   exact ⟨se, sbw⟩
 ·have c2b0 := decide_eq_false c2
  clear c2
  obtain rfl := Option.some.inj H
  go_enter Try.func32, Try.ntmps32
  go_wp2_with (first | ((with_reducible refine gate_dst (N := 1) rfl ?_); refine bx 1 #[.int .i64 a0_0, .int .i64 a0_1] 43 ?_; intro gb104 hg w8 hbox hb; have GW104 := bz w hg; have GE104 := bz w hg; replace HB := bs hb; have BK104 := Aside0.mk hbox; clear hb hbox hg; obtain ⟨hcz9_0, hcz9_1, hfz9_0, hfz9_1⟩ := cc2 BK104))
  go_ret
  exact ⟨se, sbw⟩

/-! ### spec_IsContact: function 30 -/
def spec_IsContact.f (a0_0 : Int) (a0_1 : Int) (a0_2 : Int) (a0_3 : Int) (a1 : Int) : Option (Bool) := if a0_0 ≥ 0 then (if a0_0 < a0_1 then (if a0_1 < a1 then ((spec_IsSpan.f a0_2 a0_3).bind fun t106 => (some t106)) else (some false)) else (some false)) else (some false)
set_option maxHeartbeats 8000000 in
set_option maxRecDepth 100000 in
theorem spec_IsContact.calls (a0_0 : Int) (a0_1 : Int) (a0_2 : Int) (a0_3 : Int) (a1 : Int) (r : Bool) (w : World) (h : spec_IsContact.f a0_0 a0_1 a0_2 a0_3 a1 = some r) :
    Calls Try.prog 30 #[.agg #[.int .i64 a0_0, .int .i64 a0_1, .int .i64 a0_2, .int .i64 a0_3], .int .i64 a1] w fun e w' => e = .returned (.bool r) ∧ Below w.heap.size w w' := by
 have hu49 := Try.underlying49
 have hu43 := Try.underlying43
 have HB := Aside0.mk (Below.refl w.heap.size w)
 have H : (if a0_0 ≥ 0 then (if a0_0 < a0_1 then (if a0_1 < a1 then ((spec_IsSpan.f a0_2 a0_3).bind fun t106 => (some t106)) else (some false)) else (some false)) else (some false)) = some r := h
 clear h
 obtain ⟨c3, H⟩ | ⟨c3, H⟩ := ie_ H
 ·have c3b0 := decide_eq_true c3
  clear c3
  obtain ⟨c4, H⟩ | ⟨c4, H⟩ := ie_ H
  ·have c4b0 := decide_eq_true c4
   clear c4
   obtain ⟨c5, H⟩ | ⟨c5, H⟩ := ie_ H
   ·have c5b0 := decide_eq_true c5
    clear c5
    obtain ⟨t106, A6, H⟩ := bnd H
    obtain rfl := Option.some.inj H
    go_enter Try.func30, Try.ntmps30
    go_wp2_with (first | ((with_reducible refine gate_dst (N := 2) rfl ?_); refine bx 2 #[.int .i64 a0_0, .int .i64 a0_1, .int .i64 a0_2, .int .i64 a0_3] 49 ?_; intro gb105 hg w7 hbox hb; have GW105 := bz w hg; have GE105 := bz w hg; replace HB := bs hb; have BK105 := Aside0.mk hbox; clear hb hbox hg; obtain ⟨hcz8_0, hcz8_1, hcz8_2, hcz8_3, hfz8_0, hfz8_1, hfz8_2, hfz8_3⟩ := cc4 BK105) | (go_at_call 32; (with_reducible refine (spec_IsSpan.calls a0_2 a0_3 t106 _ A6.out).mono ?_); rintro e w9 ⟨rfl, hb⟩; replace BK105 := bb BK105 hb; replace HB := bsw hb; (try clear hb); (try clear hb2); (try clear hk); (try clear hi)))
    go_ret
    exact ⟨se, sbw⟩
   ·have c5b0 := decide_eq_false c5
    clear c5
    obtain rfl := Option.some.inj H
    go_enter Try.func30, Try.ntmps30
    go_wp2_with (first | ((with_reducible refine gate_dst (N := 2) rfl ?_); refine bx 2 #[.int .i64 a0_0, .int .i64 a0_1, .int .i64 a0_2, .int .i64 a0_3] 49 ?_; intro gb105 hg w10 hbox hb; have GW105 := bz w hg; have GE105 := bz w hg; replace HB := bs hb; have BK105 := Aside0.mk hbox; clear hb hbox hg; obtain ⟨hcz11_0, hcz11_1, hcz11_2, hcz11_3, hfz11_0, hfz11_1, hfz11_2, hfz11_3⟩ := cc4 BK105))
    go_ret
    exact ⟨se, sbw⟩
  ·have c4b0 := decide_eq_false c4
   clear c4
   obtain rfl := Option.some.inj H
   go_enter Try.func30, Try.ntmps30
   go_wp2_with (first | ((with_reducible refine gate_dst (N := 2) rfl ?_); refine bx 2 #[.int .i64 a0_0, .int .i64 a0_1, .int .i64 a0_2, .int .i64 a0_3] 49 ?_; intro gb105 hg w12 hbox hb; have GW105 := bz w hg; have GE105 := bz w hg; replace HB := bs hb; have BK105 := Aside0.mk hbox; clear hb hbox hg; obtain ⟨hcz13_0, hcz13_1, hcz13_2, hcz13_3, hfz13_0, hfz13_1, hfz13_2, hfz13_3⟩ := cc4 BK105))
   go_ret
   exact ⟨se, sbw⟩
 ·have c3b0 := decide_eq_false c3
  clear c3
  obtain rfl := Option.some.inj H
  go_enter Try.func30, Try.ntmps30
  go_wp2_with (first | ((with_reducible refine gate_dst (N := 2) rfl ?_); refine bx 2 #[.int .i64 a0_0, .int .i64 a0_1, .int .i64 a0_2, .int .i64 a0_3] 49 ?_; intro gb105 hg w14 hbox hb; have GW105 := bz w hg; have GE105 := bz w hg; replace HB := bs hb; have BK105 := Aside0.mk hbox; clear hb hbox hg; obtain ⟨hcz15_0, hcz15_1, hcz15_2, hcz15_3, hfz15_0, hfz15_1, hfz15_2, hfz15_3⟩ := cc4 BK105))
  go_ret
  exact ⟨se, sbw⟩

/-! ### spec_l11Before: function 31 -/
def spec_l11Before.f (a0_0 : Int) (a0_1 : Int) (a0_2 : Int) (a0_3 : Int) (a1_0 : Int) (a1_1 : Int) (a1_2 : Int) (a1_3 : Int) : Option (Bool) := if a0_0 = a1_0 then (if a0_1 = a1_1 then (some (decide (a0_3 < a1_2))) else (some (decide (a0_1 < a1_1)))) else (some (decide (a0_0 < a1_0)))
set_option maxHeartbeats 8000000 in
set_option maxRecDepth 100000 in
theorem spec_l11Before.calls (a0_0 : Int) (a0_1 : Int) (a0_2 : Int) (a0_3 : Int) (a1_0 : Int) (a1_1 : Int) (a1_2 : Int) (a1_3 : Int) (r : Bool) (w : World) (h : spec_l11Before.f a0_0 a0_1 a0_2 a0_3 a1_0 a1_1 a1_2 a1_3 = some r) :
    Calls Try.prog 31 #[.agg #[.int .i64 a0_0, .int .i64 a0_1, .int .i64 a0_2, .int .i64 a0_3], .agg #[.int .i64 a1_0, .int .i64 a1_1, .int .i64 a1_2, .int .i64 a1_3]] w fun e w' => e = .returned (.bool r) ∧ Below w.heap.size w w' := by
 have hu49 := Try.underlying49
 have HB := Aside0.mk (Below.refl w.heap.size w)
 have H : (if a0_0 = a1_0 then (if a0_1 = a1_1 then (some (decide (a0_3 < a1_2))) else (some (decide (a0_1 < a1_1)))) else (some (decide (a0_0 < a1_0)))) = some r := h
 clear h
 obtain ⟨c3, H⟩ | ⟨c3, H⟩ := ie_ H
 ·have c3b0 : (a0_0 == a1_0) = true := beq_iff_eq.mpr c3
  have c3b1 : (a0_0 != a1_0) = false := bne_eq_false_iff_eq.mpr c3
  clear c3
  obtain ⟨c4, H⟩ | ⟨c4, H⟩ := ie_ H
  ·have c4b0 : (a0_1 == a1_1) = true := beq_iff_eq.mpr c4
   have c4b1 : (a0_1 != a1_1) = false := bne_eq_false_iff_eq.mpr c4
   clear c4
   obtain rfl := Option.some.inj H
   go_enter Try.func31, Try.ntmps31
   go_wp2_with (first | ((with_reducible refine gate_dst (N := 2) rfl ?_); refine bx 2 #[.int .i64 a0_0, .int .i64 a0_1, .int .i64 a0_2, .int .i64 a0_3] 49 ?_; intro gb107 hg w5 hbox hb; have GW107 := bz w hg; have GE107 := bz w hg; replace HB := bs hb; have BK107 := Aside0.mk hbox; clear hb hbox hg) | ((with_reducible refine gate_dst (N := 3) rfl ?_); refine bx 3 #[.int .i64 a1_0, .int .i64 a1_1, .int .i64 a1_2, .int .i64 a1_3] 49 ?_; intro gb108 hg w6 hbox hb; have GW108 := bzw w hg; have GE108 := bzw w hg; replace HB := bsw hb; have BK108 := Aside0.mk hbox; have NB107_108 := nl BK107 hg; have NB108_107 := ng BK107 hg; replace BK107 := bb BK107 hb; clear hb hbox hg; have hnb7 := NB107_108.out; have hnc7 := NB108_107.out; obtain ⟨hcz8_0, hcz8_1, hcz8_2, hcz8_3, hfz8_0, hfz8_1, hfz8_2, hfz8_3⟩ := cc4 BK107; obtain ⟨hcz9_0, hcz9_1, hcz9_2, hcz9_3, hfz9_0, hfz9_1, hfz9_2, hfz9_3⟩ := cc4 BK108))
   go_ret
   exact ⟨se, sbw⟩
  ·have c4b0 : (a0_1 == a1_1) = false := beq_eq_false_iff_ne.mpr c4
   have c4b1 : (a0_1 != a1_1) = true := bne_iff_ne.mpr c4
   obtain rfl := Option.some.inj H
   go_enter Try.func31, Try.ntmps31
   go_wp2_with (first | ((with_reducible refine gate_dst (N := 2) rfl ?_); refine bx 2 #[.int .i64 a0_0, .int .i64 a0_1, .int .i64 a0_2, .int .i64 a0_3] 49 ?_; intro gb107 hg w10 hbox hb; have GW107 := bz w hg; have GE107 := bz w hg; replace HB := bs hb; have BK107 := Aside0.mk hbox; clear hb hbox hg) | ((with_reducible refine gate_dst (N := 3) rfl ?_); refine bx 3 #[.int .i64 a1_0, .int .i64 a1_1, .int .i64 a1_2, .int .i64 a1_3] 49 ?_; intro gb108 hg w11 hbox hb; have GW108 := bzw w hg; have GE108 := bzw w hg; replace HB := bsw hb; have BK108 := Aside0.mk hbox; have NB107_108 := nl BK107 hg; have NB108_107 := ng BK107 hg; replace BK107 := bb BK107 hb; clear hb hbox hg; have hnb12 := NB107_108.out; have hnc12 := NB108_107.out; obtain ⟨hcz13_0, hcz13_1, hcz13_2, hcz13_3, hfz13_0, hfz13_1, hfz13_2, hfz13_3⟩ := cc4 BK107; obtain ⟨hcz14_0, hcz14_1, hcz14_2, hcz14_3, hfz14_0, hfz14_1, hfz14_2, hfz14_3⟩ := cc4 BK108))
   go_ret
   exact ⟨se, sbw⟩
 ·have c3b0 : (a0_0 == a1_0) = false := beq_eq_false_iff_ne.mpr c3
  have c3b1 : (a0_0 != a1_0) = true := bne_iff_ne.mpr c3
  obtain rfl := Option.some.inj H
  go_enter Try.func31, Try.ntmps31
  go_wp2_with (first | ((with_reducible refine gate_dst (N := 2) rfl ?_); refine bx 2 #[.int .i64 a0_0, .int .i64 a0_1, .int .i64 a0_2, .int .i64 a0_3] 49 ?_; intro gb107 hg w15 hbox hb; have GW107 := bz w hg; have GE107 := bz w hg; replace HB := bs hb; have BK107 := Aside0.mk hbox; clear hb hbox hg) | ((with_reducible refine gate_dst (N := 3) rfl ?_); refine bx 3 #[.int .i64 a1_0, .int .i64 a1_1, .int .i64 a1_2, .int .i64 a1_3] 49 ?_; intro gb108 hg w16 hbox hb; have GW108 := bzw w hg; have GE108 := bzw w hg; replace HB := bsw hb; have BK108 := Aside0.mk hbox; have NB107_108 := nl BK107 hg; have NB108_107 := ng BK107 hg; replace BK107 := bb BK107 hb; clear hb hbox hg; have hnb17 := NB107_108.out; have hnc17 := NB108_107.out; obtain ⟨hcz18_0, hcz18_1, hcz18_2, hcz18_3, hfz18_0, hfz18_1, hfz18_2, hfz18_3⟩ := cc4 BK107; obtain ⟨hcz19_0, hcz19_1, hcz19_2, hcz19_3, hfz19_0, hfz19_1, hfz19_2, hfz19_3⟩ := cc4 BK108))
  go_ret
  exact ⟨se, sbw⟩

end Go.Proofs.Ytcjlbgbenjmkgaa.QFnExactBuildProgram
