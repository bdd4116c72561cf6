/- Printed by a program of the session. Conditions: none. (squeezed). -/
import Derived.Test.YthnlkgbhohchoaaGreatVFnExactRepairedAtQFnExactRepairedAtx4
import Derived.Test.YthnlkgbhohchoaaGreatVFnExactRepairedAtQFnExactRepairedAtx6
namespace Go.Proofs.YthnlkgbhohchoaaGreat.QFnExactRepairedAt
set_option maxHeartbeats 8000000
set_option maxRecDepth 100000
open Go.RowKit Go.Proofs.YthnlkgbhohchoaaGreatW.PrintWords Go.Proofs.YthnlkgbhohchoaaGreatW.PrintLast Go.Proofs.YthnlkgbhohchoaaGreatW.PrintMore Go.Proofs.YthnlkgbhohchoaaGreat.Open Go.Proofs.YthnlkgbhohchoaaGreat.Sq
attribute [local go_sem] max2_int min2_int max_two min_two max_three min_three max_four min_four   -- for this text's walks alone
attribute [local go_sem] isSome_set
set_option linter.unusedVariables false
set_option linter.unusedSimpArgs false

def spec_HopAt.f (k : Nat) (a0_0 : Int) (a0_1 : Int) (a0_2 : Int) (l0_3 : List (S76)) (a1 : Int) (a2 : Int) (a3 : Int) : Option (Int) := (spec_l1In.f a0_2 0 5).bind fun t231 => (if t231 = true then ((spec_l1In.f a3 0 1000).bind fun t232 => (if t232 = true then ((spec_IsSafeMix.f k a0_0 a0_1 a0_2 l0_3 a2 (wrap64 (a3 - (wrap64 (2 * a0_2)))) (wrap64 (a3 + (wrap64 (2 * a0_2))))).bind fun t233 => (if t233 = true then ((spec_l19Next.f k a0_0 a0_1 a0_2 l0_3 a1 a2 a3).bind fun t234 => (some t234)) else (some (-1)))) else (some (-1)))) else (some (-1)))
theorem spec_HopAt.mono : ∀ a0 a1 a2 a3 a4 a5 a6 k, LeO (spec_HopAt.f k a0 a1 a2 a3 a4 a5 a6) (spec_HopAt.f (k + 1) a0 a1 a2 a3 a4 a5 a6) := by
  intro a0 a1 a2 a3 a4 a5 a6 k
  unfold spec_HopAt.f
  have m0 := @spec_IsSafeMix.mono
  have m1 := @spec_l19Next.mono
  exact mo
theorem e7_0 {P : Prop} (h : P := by
 obtain rfl := Option.some.inj H
 go_enter Tryz.func62, Tryz.ntmps62
 go_wp2_with (first | ((with_reducible refine gd 4 rfl ?_); refine bx 4 #[.int .i64 a0_0, .int .i64 a0_1, .int .i64 a0_2, .slice A0_3 l0_3.length c0_3] 32 ?_; intro gb230 hg w12 hbox hb; have GW230 := bz w hg; have GE230 := bz w hg; replace HB := bs hb; have BK230 := am hbox; clear hb hbox hg; obtain ⟨_, _, _, _, _, _, _, _⟩ := cc4 BK230) | (have _ := A7; (with_reducible refine gc 31 rfl ?_); refine gL (some 11) Tryz.func31 #[.int .i64 a0_2, .int .i64 0, .int .i64 5] ?_; (with_reducible refine (spec_l1In.calls a0_2 0 5 true _ A5.out).mono ?_); rintro e w' ⟨rfl, ⟨nd, rfl⟩⟩; refine ⟨_, rfl, ?_⟩) | (have _ := A9; go_at_call 31; (with_reducible refine (spec_l1In.calls a3 0 1000 true _ A7.out).mono ?_); rintro e w' ⟨rfl, ⟨nd, rfl⟩⟩) | (have _ := A11; go_at_call 97; (try simp only [i64_w, i32_w]); (with_reducible refine (spec_IsSafeMix.calls k a0_0 a0_1 a0_2 _ _ l0_3 a2 (wrap64 (a3 - (wrap64 (2 * a0_2)))) (wrap64 (a3 + (wrap64 (2 * a0_2)))) true _ ?side1 ?side2 A9.out).mono ?_); (case side1 => exact cbw HR0_3); (case side2 => exact HC0_3.out); rintro e w14 ⟨rfl, hb⟩; replace BK230 := bb BK230 hb; replace HB := bsw hb; (try clear hb); obtain ⟨_, _, _, _, _, _, _, _⟩ := cc4 BK230) | (have _ := A11; (with_reducible refine gc 98 rfl ?_); refine gL (some 38) Tryz.func98 #[.agg #[.int .i64 a0_0, .int .i64 a0_1, .int .i64 a0_2, .slice A0_3 l0_3.length c0_3], .int .i64 a1, .int .i64 a2, .int .i64 a3] ?_; (with_reducible refine (spec_l19Next.calls k a0_0 a0_1 a0_2 _ _ l0_3 a1 a2 a3 t234 _ ?side1 ?side2 A11.out).mono ?_); (case side1 => exact cb HR0_3); (case side2 => exact HC0_3.out); rintro e w16 ⟨rfl, hb⟩; refine ⟨_, rfl, ?_⟩; replace BK230 := bb BK230 hb; replace HB := bsw hb; (try clear hb)) | (have _ := A9; go_at_call 97; (try simp only [i64_w, i32_w]); (with_reducible refine (spec_IsSafeMix.calls k a0_0 a0_1 a0_2 _ _ l0_3 a2 (wrap64 (a3 - (wrap64 (2 * a0_2)))) (wrap64 (a3 + (wrap64 (2 * a0_2)))) false _ ?side1 ?side2 A9.out).mono ?_); (case side1 => exact cbw HR0_3); (case side2 => exact HC0_3.out); rintro e w19 ⟨rfl, hb⟩; replace BK230 := bb BK230 hb; replace HB := bsw hb; (try clear hb)) | (have _ := A7; go_at_call 31; (with_reducible refine (spec_l1In.calls a3 0 1000 false _ A7.out).mono ?_); rintro e w' ⟨rfl, ⟨nd, rfl⟩⟩) | ((with_reducible refine gc 31 rfl ?_); refine gL (some 11) Tryz.func31 #[.int .i64 a0_2, .int .i64 0, .int .i64 5] ?_; (with_reducible refine (spec_l1In.calls a0_2 0 5 false _ A5.out).mono ?_); rintro e w' ⟨rfl, ⟨nd, rfl⟩⟩; refine ⟨_, rfl, ?_⟩))
 first
 | have _ := A7
   go_ret
   exact ⟨se, sbw⟩
 | go_ret
   exact ⟨se, sbw⟩
   ) : P := h
theorem spec_HopAt.calls (k : Nat) (a0_0 : Int) (a0_1 : Int) (a0_2 : Int) (A0_3 : Option Addr) (c0_3 : Nat) (l0_3 : List (S76)) (a1 : Int) (a2 : Int) (a3 : Int) (r : Int) (w : World) (hr0_3 : Kd.C k76 w A0_3 l0_3.length l0_3) (hc0_3 : l0_3.length ≤ c0_3) (h : spec_HopAt.f k a0_0 a0_1 a0_2 l0_3 a1 a2 a3 = some r) :
    Calls Tryz.prog 62 #[.agg #[.int .i64 a0_0, .int .i64 a0_1, .int .i64 a0_2, .slice A0_3 l0_3.length c0_3], .int .i64 a1, .int .i64 a2, .int .i64 a3] w fun e w' => e = .returned (.int .i64 r) ∧ Below w.heap.size w w' := by
 have hu32 := Tryz.underlying32
 have HR0_3 := am hr0_3
 have HC0_3 := am hc0_3
 clear hr0_3 hc0_3
 have HB := am (Below.refl w.heap.size w)
 have H := h; unfold spec_HopAt.f at H
 clear h
 obtain ⟨t231, A5, H⟩ := bnd H
 obtain rfl | rfl := tt t231
 ·replace H := ip H
  obtain ⟨t232, A7, H⟩ := bnd H
  obtain rfl | rfl := tt t232
  ·replace H := ip H
   obtain ⟨t233, A9, H⟩ := bnd H
   obtain rfl | rfl := tt t233
   ·replace H := ip H
    obtain ⟨t234, A11, H⟩ := bnd H
    exact e7_0
   ·replace H := im H
    exact e7_0
  ·replace H := im H
   exact e7_0
 ·replace H := im H
  exact e7_0
def spec_IsCalm.f (k : Nat) (a0_0 : Int) (a0_1 : Int) (a0_2 : Int) (l0_3 : List (S76)) (a1 : Int) : Option (Bool) := (spec_l1In.f a0_2 0 5).bind fun t236 => (if t236 = true then ((spec_l1In.f a1 0 1000).bind fun t237 => (if t237 = true then ((spec_PiecesIn.f k a0_0 a0_1 a0_2 l0_3 (wrap64 (a1 - (wrap64 (2 * a0_2)))) (wrap64 (a1 + (wrap64 (2 * a0_2))))).bind fun t238 => (some ((t238.length : Int) == 1))) else (some false))) else (some false))
theorem spec_IsCalm.mono : ∀ a0 a1 a2 a3 a4 k, LeO (spec_IsCalm.f k a0 a1 a2 a3 a4) (spec_IsCalm.f (k + 1) a0 a1 a2 a3 a4) := by
  intro a0 a1 a2 a3 a4 k
  unfold spec_IsCalm.f
  have m0 := @spec_PiecesIn.mono
  exact mo
theorem e7_1 {P : Prop} (h : P := by
 obtain rfl := Option.some.inj H
 go_enter Tryz.func66, Tryz.ntmps66
 go_wp2_with (first | ((with_reducible refine gd 2 rfl ?_); (try (refine gate_guard (by rfl) ?_; dsimp only)); refine bx 2 #[.int .i64 a0_0, .int .i64 a0_1, .int .i64 a0_2, .slice A0_3 l0_3.length c0_3] 32 ?_; intro gb235 hg w8 hbox hb; have GW235 := bz w hg; have GE235 := bz w hg; replace HB := bs hb; have BK235 := am hbox; clear hb hbox hg; obtain ⟨_, _, _, _, _, _, _, _⟩ := cc4 BK235) | (have _ := A5; (with_reducible refine gc 31 rfl ?_); refine gL (some 7) Tryz.func31 #[.int .i64 a0_2, .int .i64 0, .int .i64 5] ?_; (with_reducible refine (spec_l1In.calls a0_2 0 5 true _ A3.out).mono ?_); rintro e w' ⟨rfl, ⟨nd, rfl⟩⟩; refine ⟨_, rfl, ?_⟩) | (have _ := A7; go_at_call 31; (with_reducible refine (spec_l1In.calls a1 0 1000 true _ A5.out).mono ?_); rintro e w' ⟨rfl, ⟨nd, rfl⟩⟩) | (have _ := A7; go_at_call 101; (try simp only [i64_w, i32_w]); (with_reducible refine (spec_PiecesIn.calls k a0_0 a0_1 a0_2 _ _ l0_3 (wrap64 (a1 - (wrap64 (2 * a0_2)))) (wrap64 (a1 + (wrap64 (2 * a0_2)))) t238 _ ?side1 ?side2 A7.out).mono ?_); (case side1 => exact cbw HR0_3); (case side2 => exact HC0_3.out); rintro e w10 ⟨v239, rfl, ho0, hb⟩; have HO240 := am (Kd.R_lower ho0 (below_size (sbw))); replace BK235 := bb BK235 hb; replace HB := bsw hb; (try clear hb); (try clear ho0); obtain ⟨Ao11, co11, eo11⟩ := Kd.R_slice HO240.out; subst eo11) | (have _ := A5; go_at_call 31; (with_reducible refine (spec_l1In.calls a1 0 1000 false _ A5.out).mono ?_); rintro e w' ⟨rfl, ⟨nd, rfl⟩⟩) | ((with_reducible refine gc 31 rfl ?_); refine gL (some 7) Tryz.func31 #[.int .i64 a0_2, .int .i64 0, .int .i64 5] ?_; (with_reducible refine (spec_l1In.calls a0_2 0 5 false _ A3.out).mono ?_); rintro e w' ⟨rfl, ⟨nd, rfl⟩⟩; refine ⟨_, rfl, ?_⟩))
 first
 | have _ := A5
   go_ret
   exact ⟨se, sbw⟩
 | go_ret
   exact ⟨se, sbw⟩
   ) : P := h
theorem spec_IsCalm.calls (k : Nat) (a0_0 : Int) (a0_1 : Int) (a0_2 : Int) (A0_3 : Option Addr) (c0_3 : Nat) (l0_3 : List (S76)) (a1 : Int) (r : Bool) (w : World) (hr0_3 : Kd.C k76 w A0_3 l0_3.length l0_3) (hc0_3 : l0_3.length ≤ c0_3) (h : spec_IsCalm.f k a0_0 a0_1 a0_2 l0_3 a1 = some r) :
    Calls Tryz.prog 66 #[.agg #[.int .i64 a0_0, .int .i64 a0_1, .int .i64 a0_2, .slice A0_3 l0_3.length c0_3], .int .i64 a1] w fun e w' => e = .returned (.bool r) ∧ Below w.heap.size w w' := by
 have hu32 := Tryz.underlying32
 have HR0_3 := am hr0_3
 have HC0_3 := am hc0_3
 clear hr0_3 hc0_3
 have HB := am (Below.refl w.heap.size w)
 have H := h; unfold spec_IsCalm.f at H
 clear h
 obtain ⟨t236, A3, H⟩ := bnd H
 obtain rfl | rfl := tt t236
 ·replace H := ip H
  obtain ⟨t237, A5, H⟩ := bnd H
  obtain rfl | rfl := tt t237
  ·replace H := ip H
   obtain ⟨t238, A7, H⟩ := bnd H
   exact e7_1
  ·replace H := im H
   exact e7_1
 ·replace H := im H
  exact e7_1
end Go.Proofs.YthnlkgbhohchoaaGreat.QFnExactRepairedAt
