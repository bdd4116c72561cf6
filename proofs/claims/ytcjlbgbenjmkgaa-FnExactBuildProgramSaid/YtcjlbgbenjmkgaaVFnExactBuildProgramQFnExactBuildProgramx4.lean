/- What the Go functions of the law FnExactBuildProgram come to, as Lean functions, and that they do: by a program of the session, out of the kit's printer. Conditions: none. (squeezed). -/
import Derived.Test.YtcjlbgbenjmkgaaVFnExactBuildProgramSq
import Derived.Test.YtcjlbgbenjmkgaaVFnExactBuildProgramQFnExactBuildProgramx0
import Derived.Test.YtcjlbgbenjmkgaaVFnExactBuildProgramQFnExactBuildProgramx2
namespace Go.Proofs.Ytcjlbgbenjmkgaa.QFnExactBuildProgram
open Go.RowKit Go.Proofs.YtcjlbgbenjmkgaaW.PrintWords Go.Proofs.YtcjlbgbenjmkgaaW.PrintLast Go.Proofs.YtcjlbgbenjmkgaaW.PrintMore Go.Proofs.Ytcjlbgbenjmkgaa.Open Go.Proofs.Ytcjlbgbenjmkgaa.Sq
attribute [local go_sem] max2_int min2_int max_two min_two max_three min_three max_four min_four   -- for this text's walks alone
attribute [local go_sem] isSome_set
set_option linter.unusedVariables false
set_option linter.unusedSimpArgs false

/-! ### spec_InSpan: function 34 -/
def spec_InSpan.f (a0_0 : Int) (a0_1 : Int) (a1 : Int) : Option (Bool) := (spec_IsSpan.f a0_0 a0_1).bind fun t115 => (if t115 = true then (if a0_0 ≤ a1 then (some (decide (a1 < a0_1))) else (some false)) else (some false))
set_option maxHeartbeats 8000000 in
set_option maxRecDepth 100000 in
theorem spec_InSpan.calls (a0_0 : Int) (a0_1 : Int) (a1 : Int) (r : Bool) (w : World) (h : spec_InSpan.f a0_0 a0_1 a1 = some r) :
    Calls Try.prog 34 #[.agg #[.int .i64 a0_0, .int .i64 a0_1], .int .i64 a1] w fun e w' => e = .returned (.bool r) ∧ Below w.heap.size w w' := by
 have hu43 := Try.underlying43
 have HB := Aside0.mk (Below.refl w.heap.size w)
 have H : ((spec_IsSpan.f a0_0 a0_1).bind fun t115 => (if t115 = true then (if a0_0 ≤ a1 then (some (decide (a1 < a0_1))) else (some false)) else (some false))) = some r := h
 clear h
 obtain ⟨t115, A3, H⟩ := bnd H
 obtain rfl | rfl := tt t115
 ·replace H := ip H
  obtain ⟨c5, H⟩ | ⟨c5, H⟩ := ie_ H
  ·have c5b0 := decide_eq_true c5
   clear c5
   obtain rfl := Option.some.inj H
   go_enter Try.func34, Try.ntmps34
   go_wp2_with (first | ((with_reducible refine gate_dst (N := 2) rfl ?_); refine bx 2 #[.int .i64 a0_0, .int .i64 a0_1] 43 ?_; intro gb114 hg w6 hbox hb; have GW114 := bz w hg; have GE114 := bz w hg; replace HB := bs hb; have BK114 := Aside0.mk hbox; clear hb hbox hg; obtain ⟨hcz7_0, hcz7_1, hfz7_0, hfz7_1⟩ := cc2 BK114) | ((with_reducible refine gate_callee (f := 32) rfl ?_); refine gL (some 6) Try.func32 #[.agg #[.int .i64 a0_0, .int .i64 a0_1]] ?_; (with_reducible refine (spec_IsSpan.calls a0_0 a0_1 true _ A3.out).mono ?_); rintro e w8 ⟨rfl, hb⟩; refine ⟨_, rfl, ?_⟩; replace BK114 := bb BK114 hb; replace HB := bsw hb; (try clear hb); (try clear hb2); (try clear hk); (try clear hi); obtain ⟨hcz9_0, hcz9_1, hfz9_0, hfz9_1⟩ := cc2 BK114))
   go_ret
   exact ⟨se, sbw⟩
  ·have c5b0 := decide_eq_false c5
   clear c5
   obtain rfl := Option.some.inj H
   go_enter Try.func34, Try.ntmps34
   go_wp2_with (first | ((with_reducible refine gate_dst (N := 2) rfl ?_); refine bx 2 #[.int .i64 a0_0, .int .i64 a0_1] 43 ?_; intro gb114 hg w10 hbox hb; have GW114 := bz w hg; have GE114 := bz w hg; replace HB := bs hb; have BK114 := Aside0.mk hbox; clear hb hbox hg; obtain ⟨hcz11_0, hcz11_1, hfz11_0, hfz11_1⟩ := cc2 BK114) | ((with_reducible refine gate_callee (f := 32) rfl ?_); refine gL (some 6) Try.func32 #[.agg #[.int .i64 a0_0, .int .i64 a0_1]] ?_; (with_reducible refine (spec_IsSpan.calls a0_0 a0_1 true _ A3.out).mono ?_); rintro e w12 ⟨rfl, hb⟩; refine ⟨_, rfl, ?_⟩; replace BK114 := bb BK114 hb; replace HB := bsw hb; (try clear hb); (try clear hb2); (try clear hk); (try clear hi); obtain ⟨hcz13_0, hcz13_1, hfz13_0, hfz13_1⟩ := cc2 BK114))
   go_ret
   exact ⟨se, sbw⟩
 ·replace H := im H
  obtain rfl := Option.some.inj H
  go_enter Try.func34, Try.ntmps34
  go_wp2_with (first | ((with_reducible refine gate_dst (N := 2) rfl ?_); refine bx 2 #[.int .i64 a0_0, .int .i64 a0_1] 43 ?_; intro gb114 hg w14 hbox hb; have GW114 := bz w hg; have GE114 := bz w hg; replace HB := bs hb; have BK114 := Aside0.mk hbox; clear hb hbox hg; obtain ⟨hcz15_0, hcz15_1, hfz15_0, hfz15_1⟩ := cc2 BK114) | ((with_reducible refine gate_callee (f := 32) rfl ?_); refine gL (some 6) Try.func32 #[.agg #[.int .i64 a0_0, .int .i64 a0_1]] ?_; (with_reducible refine (spec_IsSpan.calls a0_0 a0_1 false _ A3.out).mono ?_); rintro e w16 ⟨rfl, hb⟩; refine ⟨_, rfl, ?_⟩; replace BK114 := bb BK114 hb; replace HB := bsw hb; (try clear hb); (try clear hb2); (try clear hk); (try clear hi)))
  go_ret
  exact ⟨se, sbw⟩

end Go.Proofs.Ytcjlbgbenjmkgaa.QFnExactBuildProgram
