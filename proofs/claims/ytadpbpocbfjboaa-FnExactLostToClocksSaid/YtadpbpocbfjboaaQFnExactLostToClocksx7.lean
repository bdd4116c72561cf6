/- What the Go functions of the law FnExactLostToClocks come to, as Lean functions, and that they do: by a program of the session, out of the kit's printer. Conditions: none. (squeezed). -/
import Derived.Test.YtadpbpocbfjboaaSq
import Derived.Test.YtadpbpocbfjboaaQFnExactLostToClocksx0
import Derived.Test.YtadpbpocbfjboaaQFnExactLostToClocksx6
namespace Go.Proofs.Ytadpbpocbfjboaa.QFnExactLostToClocks
open Go.RowKit Go.Proofs.YtadpbpocbfjboaaW.PrintWords Go.Proofs.YtadpbpocbfjboaaW.PrintLast Go.Proofs.YtadpbpocbfjboaaW.PrintMore Go.Proofs.Ytadpbpocbfjboaa.Open Go.Proofs.Ytadpbpocbfjboaa.Sq
attribute [local go_sem] max2_int min2_int max_two min_two max_three min_three max_four min_four   -- for this text's walks alone
attribute [local go_sem] isSome_set
set_option linter.unusedVariables false
set_option linter.unusedSimpArgs false

/-! ### spec_LostToClocks: function 49 -/
def spec_LostToClocks.l0 : Nat → Int → Int → Int → Int → Int → Int → Int → Int → List (S69) → Option (Int)
  | 0, _, _, _, _, _, _, _, _, _ => none
  | k + 1, x1, x2, x7, x8, x9, x232000, x232001, x232002, x232003 => if x9 < x8 then ((spec_IsLinked.f k x232000 x232001 x232002 x232003 x1 x2 x9).bind fun t233 => (if t233 = true then ((spec_MayUse.f k x232000 x232001 x232002 x232003 x1 x2 x9).bind fun t234 => (if t234 = true then (spec_LostToClocks.l0 k x1 x2 x7 x8 (wrap64 (x9 + 1)) x232000 x232001 x232002 x232003) else (spec_LostToClocks.l0 k x1 x2 (wrap64 (x7 + 1)) x8 (wrap64 (x9 + 1)) x232000 x232001 x232002 x232003))) else (spec_LostToClocks.l0 k x1 x2 x7 x8 (wrap64 (x9 + 1)) x232000 x232001 x232002 x232003))) else (some x7)
def spec_LostToClocks.f (k : Nat) (a0_0 : Int) (a0_1 : Int) (a0_2 : Int) (l0_3 : List (S69)) (a1 : Int) (a2 : Int) : Option (Int) := (spec_l20Last.f k a0_0 a0_1 a0_2 l0_3).bind fun t232 => (spec_LostToClocks.l0 k a1 a2 0 t232 0 a0_0 a0_1 a0_2 l0_3)
theorem spec_LostToClocks.mono_l : ∀ k, (∀ y0 y1 y2 y3 y4 y5 y6 y7 y8, LeO (spec_LostToClocks.l0 k y0 y1 y2 y3 y4 y5 y6 y7 y8) (spec_LostToClocks.l0 (k + 1) y0 y1 y2 y3 y4 y5 y6 y7 y8))
  | 0 => fun _ _ _ _ _ _ _ _ _ r h => by simp [spec_LostToClocks.l0] at h
  | k + 1 => by
    have ih0 := spec_LostToClocks.mono_l k
    · intro y0 y1 y2 y3 y4 y5 y6 y7 y8
      unfold spec_LostToClocks.l0
      have m0 := @spec_IsLinked.mono
      have m1 := @spec_MayUse.mono
      have m2 := @spec_l20Last.mono
      exact mo
theorem spec_LostToClocks.mono : ∀ a0 a1 a2 a3 a4 a5 k, LeO (spec_LostToClocks.f k a0 a1 a2 a3 a4 a5) (spec_LostToClocks.f (k + 1) a0 a1 a2 a3 a4 a5) := by
  intro a0 a1 a2 a3 a4 a5 k
  have ih0 := spec_LostToClocks.mono_l k
  unfold spec_LostToClocks.f
  have m0 := @spec_IsLinked.mono
  have m1 := @spec_MayUse.mono
  have m2 := @spec_l20Last.mono
  exact mo
set_option maxHeartbeats 8000000 in
set_option maxRecDepth 100000 in
theorem spec_LostToClocks.calls (k : Nat) (a0_0 : Int) (a0_1 : Int) (a0_2 : Int) (A0_3 : Option Addr) (c0_3 : Nat) (l0_3 : List (S69)) (a1 : Int) (a2 : Int) (r : Int) (w : World) (hr0_3 : Kd.C k69 w A0_3 l0_3.length l0_3) (hc0_3 : l0_3.length ≤ c0_3) (h : spec_LostToClocks.f k a0_0 a0_1 a0_2 l0_3 a1 a2 = some r) :
    Calls Try.prog 49 #[.agg #[.int .i64 a0_0, .int .i64 a0_1, .int .i64 a0_2, .slice A0_3 l0_3.length c0_3], .int .i64 a1, .int .i64 a2] w fun e w' => e = .returned (.int .i64 r) ∧ Below w.heap.size w w' := by
 have hu29 := Try.underlying29
 have HR0_3 := Aside0.mk hr0_3
 have HC0_3 := Aside0.mk hc0_3
 clear hr0_3 hc0_3
 have HB := Aside0.mk (Below.refl w.heap.size w)
 have H : ((spec_l20Last.f k a0_0 a0_1 a0_2 l0_3).bind fun t232 => (spec_LostToClocks.l0 k a1 a2 0 t232 0 a0_0 a0_1 a0_2 l0_3)) = some r := h
 clear h
 obtain ⟨t232, A4, H⟩ := bnd H
 have H' := Aside0.mk H
 clear H
 go_enter Try.func49, Try.ntmps49
 go_wp2_with (first | ((with_reducible refine gate_dst (N := 3) rfl ?_); refine bx 3 #[.int .i64 a0_0, .int .i64 a0_1, .int .i64 a0_2, .slice A0_3 l0_3.length c0_3] 29 ?_; intro gb231 hg w5 hbox hb; have BK231 := Aside0.mk hbox; have GW231 := bz w hg; have GE231 := bz w hg; replace HB := bs hb; clear hb hbox hg; obtain ⟨hcz6_0, hcz6_1, hcz6_2, hcz6_3, hfz6_0, hfz6_1, hfz6_2, hfz6_3⟩ := cc4 BK231) | ((with_reducible refine gate_callee (f := 75) rfl ?_); refine gL (some 11) Try.func75 #[.agg #[.int .i64 a0_0, .int .i64 a0_1, .int .i64 a0_2, .slice A0_3 l0_3.length c0_3]] ?_; (with_reducible refine (spec_l20Last.calls k a0_0 a0_1 a0_2 _ _ l0_3 t232 _ ?side1 ?side2 A4.out).mono ?_); (case side1 => exact cb HR0_3); (case side2 => exact HC0_3.out); rintro e w7 ⟨rfl, hb⟩; refine ⟨_, rfl, ?_⟩; replace BK231 := bb BK231 hb; replace HB := bsw hb; (try clear hb); (try clear hb2); (try clear hk); (try clear hi)))
 go_loopg [7, 9] k (fun kq v7 v9 w' => ∃ (x7_1 : Int) (x9_1 : Int), v7 = .int .i64 x7_1 ∧ v9 = .int .i64 x9_1 ∧ Aside0 (spec_LostToClocks.l0 kq a1 a2 x7_1 t232 x9_1 a0_0 a0_1 a0_2 l0_3 = some r) ∧ Aside0 (kq ≤ k) ∧ Aside0 (w'.heap[gb231]? = some (.cells #[.int .i64 a0_0, .int .i64 a0_1, .int .i64 a0_2, (.slice A0_3 l0_3.length c0_3)] 29 (0, 0))) ∧ Aside0 (Below w.heap.size w w'))
 case atStart => exact ⟨(0), (0), sc, sc, H', kk0, ⟨sk BK231⟩, ⟨sbw⟩⟩
 case round =>
  clear H'
  obtain ⟨x7_1, x9_1, rfl, rfl, HA, HK1, BK231, HB⟩ := hrel
  cases gk with
  | zero => exact absurd HA.out (by simp [spec_LostToClocks.l0])
  | succ k1 =>
   have H := HA.out
   clear HA
   simp only [spec_LostToClocks.l0] at H
   obtain ⟨c8, H⟩ | ⟨c8, H⟩ := ie_ H
   ·have c8b0 := decide_eq_true c8
    clear c8
    obtain ⟨t233, A9, H⟩ := bnd H
    obtain rfl | rfl := tt t233
    ·replace H := ip H
     obtain ⟨t234, A11, H⟩ := bnd H
     obtain rfl | rfl := tt t234
     ·replace H := ip H
      have H' := Aside0.mk H
      clear H
      obtain ⟨hcz13_0, hcz13_1, hcz13_2, hcz13_3, hfz13_0, hfz13_1, hfz13_2, hfz13_3⟩ := cc4 BK231
      go_wp2_with (first | ((with_reducible refine gate_callee (f := 22) rfl ?_); refine gL (some 21) Try.func22 #[.agg #[.int .i64 a0_0, .int .i64 a0_1, .int .i64 a0_2, .slice A0_3 l0_3.length c0_3], .int .i64 a1, .int .i64 a2, .int .i64 x9_1] ?_; (with_reducible refine (spec_IsLinked.calls k1 a0_0 a0_1 a0_2 _ _ l0_3 a1 a2 x9_1 true _ ?side1 ?side2 A9.out).mono ?_); (case side1 => exact cb HR0_3); (case side2 => exact HC0_3.out); rintro e w14 ⟨rfl, hb⟩; refine ⟨_, rfl, ?_⟩; replace BK231 := bb BK231 hb; replace HB := bsw hb; (try clear hb); (try clear hb2); (try clear hk); (try clear hi); obtain ⟨hcz15_0, hcz15_1, hcz15_2, hcz15_3, hfz15_0, hfz15_1, hfz15_2, hfz15_3⟩ := cc4 BK231) | (go_at_call 32; (with_reducible refine (spec_MayUse.calls k1 a0_0 a0_1 a0_2 _ _ l0_3 a1 a2 x9_1 true _ ?side1 ?side2 A11.out).mono ?_); (case side1 => exact cb HR0_3); (case side2 => exact HC0_3.out); rintro e w16 ⟨rfl, hb⟩; replace BK231 := bb BK231 hb; replace HB := bsw hb; (try clear hb); (try clear hb2); (try clear hk); (try clear hi)))
      go_roundg k1
      case measure => have := HK1.out; omega
      case rel => exact ⟨(x7_1), (wrap64 (x9_1 + 1)), sc, sc, H', kk1, ⟨sk BK231⟩, ⟨sbw⟩⟩
     ·replace H := im H
      have H' := Aside0.mk H
      clear H
      obtain ⟨hcz17_0, hcz17_1, hcz17_2, hcz17_3, hfz17_0, hfz17_1, hfz17_2, hfz17_3⟩ := cc4 BK231
      go_wp2_with (first | ((with_reducible refine gate_callee (f := 22) rfl ?_); refine gL (some 21) Try.func22 #[.agg #[.int .i64 a0_0, .int .i64 a0_1, .int .i64 a0_2, .slice A0_3 l0_3.length c0_3], .int .i64 a1, .int .i64 a2, .int .i64 x9_1] ?_; (with_reducible refine (spec_IsLinked.calls k1 a0_0 a0_1 a0_2 _ _ l0_3 a1 a2 x9_1 true _ ?side1 ?side2 A9.out).mono ?_); (case side1 => exact cb HR0_3); (case side2 => exact HC0_3.out); rintro e w18 ⟨rfl, hb⟩; refine ⟨_, rfl, ?_⟩; replace BK231 := bb BK231 hb; replace HB := bsw hb; (try clear hb); (try clear hb2); (try clear hk); (try clear hi); obtain ⟨hcz19_0, hcz19_1, hcz19_2, hcz19_3, hfz19_0, hfz19_1, hfz19_2, hfz19_3⟩ := cc4 BK231) | (go_at_call 32; (with_reducible refine (spec_MayUse.calls k1 a0_0 a0_1 a0_2 _ _ l0_3 a1 a2 x9_1 false _ ?side1 ?side2 A11.out).mono ?_); (case side1 => exact cb HR0_3); (case side2 => exact HC0_3.out); rintro e w20 ⟨rfl, hb⟩; replace BK231 := bb BK231 hb; replace HB := bsw hb; (try clear hb); (try clear hb2); (try clear hk); (try clear hi)))
      go_roundg k1
      case measure => have := HK1.out; omega
      case rel => exact ⟨(wrap64 (x7_1 + 1)), (wrap64 (x9_1 + 1)), sc, sc, H', kk1, ⟨sk BK231⟩, ⟨sbw⟩⟩
    ·replace H := im H
     have H' := Aside0.mk H
     clear H
     obtain ⟨hcz21_0, hcz21_1, hcz21_2, hcz21_3, hfz21_0, hfz21_1, hfz21_2, hfz21_3⟩ := cc4 BK231
     go_wp2_with (first | ((with_reducible refine gate_callee (f := 22) rfl ?_); refine gL (some 21) Try.func22 #[.agg #[.int .i64 a0_0, .int .i64 a0_1, .int .i64 a0_2, .slice A0_3 l0_3.length c0_3], .int .i64 a1, .int .i64 a2, .int .i64 x9_1] ?_; (with_reducible refine (spec_IsLinked.calls k1 a0_0 a0_1 a0_2 _ _ l0_3 a1 a2 x9_1 false _ ?side1 ?side2 A9.out).mono ?_); (case side1 => exact cb HR0_3); (case side2 => exact HC0_3.out); rintro e w22 ⟨rfl, hb⟩; refine ⟨_, rfl, ?_⟩; replace BK231 := bb BK231 hb; replace HB := bsw hb; (try clear hb); (try clear hb2); (try clear hk); (try clear hi)))
     go_roundg k1
     case measure => have := HK1.out; omega
     case rel => exact ⟨(x7_1), (wrap64 (x9_1 + 1)), sc, sc, H', kk1, ⟨sk BK231⟩, ⟨sbw⟩⟩
   ·have c8b0 := decide_eq_false c8
    clear c8
    obtain rfl := Option.some.inj H
    go_wp2
    go_ret
    exact ⟨se, sbw⟩

-- impl_spansWhere: at each literal
/-! ### impl_IsSpan: function 67 -/
def impl_IsSpan.f (a0_0 : Int) (a0_1 : Int) : Option (Bool) := if a0_0 ≥ 0 then (if a0_1 ≤ 1000 then (some (decide (a0_0 < a0_1))) else (some false)) else (some false)
set_option maxHeartbeats 8000000 in
set_option maxRecDepth 100000 in
theorem impl_IsSpan.calls (a0_0 : Int) (a0_1 : Int) (r : Bool) (w : World) (h : impl_IsSpan.f a0_0 a0_1 = some r) :
    Calls Try.prog 67 #[.agg #[.int .i64 a0_0, .int .i64 a0_1]] w fun e w' => e = .returned (.bool r) ∧ Below w.heap.size w w' := by
 have hu65 := Try.underlying65
 have HB := Aside0.mk (Below.refl w.heap.size w)
 have H : (if a0_0 ≥ 0 then (if a0_1 ≤ 1000 then (some (decide (a0_0 < a0_1))) else (some false)) else (some false)) = some r := h
 clear h
 obtain ⟨c2, H⟩ | ⟨c2, H⟩ := ie_ H
 ·have c2b0 := decide_eq_true c2
  clear c2
  obtain ⟨c3, H⟩ | ⟨c3, H⟩ := ie_ H
  ·have c3b0 := decide_eq_true c3
   clear c3
   obtain rfl := Option.some.inj H
   go_enter Try.func67, Try.ntmps67
   go_wp2_with (first | ((with_reducible refine gate_dst (N := 1) rfl ?_); refine bx 1 #[.int .i64 a0_0, .int .i64 a0_1] 65 ?_; intro gb248 hg w4 hbox hb; have BK248 := Aside0.mk hbox; have GW248 := bz w hg; have GE248 := bz w hg; replace HB := bs hb; clear hb hbox hg; obtain ⟨hcz5_0, hcz5_1, hfz5_0, hfz5_1⟩ := cc2 BK248))
   go_ret
   exact ⟨se, sbw⟩
  ·have c3b0 := decide_eq_false c3
   clear c3
   obtain rfl := Option.some.inj H
   go_enter Try.func67, Try.ntmps67
   go_wp2_with (first | ((with_reducible refine gate_dst (N := 1) rfl ?_); refine bx 1 #[.int .i64 a0_0, .int .i64 a0_1] 65 ?_; intro gb248 hg w6 hbox hb; have BK248 := Aside0.mk hbox; have GW248 := bz w hg; have GE248 := bz w hg; replace HB := bs hb; clear hb hbox hg; obtain ⟨hcz7_0, hcz7_1, hfz7_0, hfz7_1⟩ := cc2 BK248))
   go_ret
   exact ⟨se, sbw⟩
 ·have c2b0 := decide_eq_false c2
  clear c2
  obtain rfl := Option.some.inj H
  go_enter Try.func67, Try.ntmps67
  go_wp2_with (first | ((with_reducible refine gate_dst (N := 1) rfl ?_); refine bx 1 #[.int .i64 a0_0, .int .i64 a0_1] 65 ?_; intro gb248 hg w8 hbox hb; have BK248 := Aside0.mk hbox; have GW248 := bz w hg; have GE248 := bz w hg; replace HB := bs hb; clear hb hbox hg; obtain ⟨hcz9_0, hcz9_1, hfz9_0, hfz9_1⟩ := cc2 BK248))
  go_ret
  exact ⟨se, sbw⟩

/-! ### impl_ticks: function 115 -/
mutual
def impl_ticks.l0 : Nat → List Bool → List (S65) → Int → Int → Option (List Bool)
  | 0, _, _, _, _ => none
  | k + 1, x3, x8, x9, x10 => if x10 < x9 then (if 0 ≤ x10 then (if x10 < (x8.length : Int) then ((impl_IsSpan.f ((rd_T65 x8 x10).f0) ((rd_T65 x8 x10).f1)).bind fun t254 => (if t254 = true then (impl_ticks.l1 k x3 ((rd_T65 x8 x10).f0) x8 x9 x10 ((rd_T65 x8 x10).f0) ((rd_T65 x8 x10).f1)) else (impl_ticks.l0 k x3 x8 x9 (wrap64 (x10 + 1))))) else (none)) else (none)) else (some x3)
def impl_ticks.l1 : Nat → List Bool → Int → List (S65) → Int → Int → Int → Int → Option (List Bool)
  | 0, _, _, _, _, _, _, _ => none
  | k + 1, x3, x6, x8, x9, x10, x254000, x254001 => if x6 < x254001 then (if 0 ≤ x6 then (if x6 < (x3.length : Int) then (impl_ticks.l1 k (x3.set (x6 : Int).toNat true) (wrap64 (x6 + 1)) x8 x9 x10 x254000 x254001) else (none)) else (none)) else (impl_ticks.l0 k x3 x8 x9 (wrap64 (x10 + 1)))
end
def impl_ticks.f (k : Nat) (l0 : List (S65)) : Option (List Bool) := if 1000 ≤ 281474976710656 then (impl_ticks.l0 k (List.replicate 1000 false) l0 (l0.length : Int) 0) else (none)
theorem impl_ticks.mono_l : ∀ k, (∀ y0 y1 y2 y3, LeO (impl_ticks.l0 k y0 y1 y2 y3) (impl_ticks.l0 (k + 1) y0 y1 y2 y3)) ∧ (∀ y0 y1 y2 y3 y4 y5 y6, LeO (impl_ticks.l1 k y0 y1 y2 y3 y4 y5 y6) (impl_ticks.l1 (k + 1) y0 y1 y2 y3 y4 y5 y6))
  | 0 => ⟨fun _ _ _ _ r h => by simp [impl_ticks.l0] at h, fun _ _ _ _ _ _ _ r h => by simp [impl_ticks.l1] at h⟩
  | k + 1 => by
    obtain ⟨ih0, ih1⟩ := impl_ticks.mono_l k
    refine ⟨?_, ?_⟩
    · intro y0 y1 y2 y3
      unfold impl_ticks.l0
      exact mo
    · intro y0 y1 y2 y3 y4 y5 y6
      unfold impl_ticks.l1
      exact mo
theorem impl_ticks.mono : ∀ a0 k, LeO (impl_ticks.f k a0) (impl_ticks.f (k + 1) a0) := by
  intro a0 k
  obtain ⟨ih0, ih1⟩ := impl_ticks.mono_l k
  unfold impl_ticks.f
  exact mo
set_option maxHeartbeats 8000000 in
set_option maxRecDepth 100000 in
theorem impl_ticks.calls (k : Nat) (A0 : Option Addr) (c0 : Nat) (l0 : List (S65)) (r : List Bool) (w : World) (hr0 : Kd.C k65 w A0 l0.length l0) (hc0 : l0.length ≤ c0) (h : impl_ticks.f k l0 = some r) :
    Calls Try.prog 115 #[.slice A0 l0.length c0] w fun e w' => ∃ v0_ : Value, e = .returned (v0_) ∧ Kd.R Kd.bool 4 w' w.heap.size (fun _ => True) v0_ r ∧ Below w.heap.size w w' := by
 have hu65 := Try.underlying65
 have HR0 := Aside0.mk hr0
 have HC0 := Aside0.mk hc0
 clear hr0 hc0
 have HB := Aside0.mk (Below.refl w.heap.size w)
 have H : (if 1000 ≤ 281474976710656 then (impl_ticks.l0 k (List.replicate 1000 false) l0 (l0.length : Int) 0) else (none)) = some r := h
 clear h
 obtain ⟨c2, H⟩ := ia_ H
 have c2b0 := eq_true c2
 have c2b1 := decide_eq_true c2
 clear c2
 obtain ⟨y249, hy249⟩ : ∃ y_ : List Bool, y_ = (List.replicate 1000 false) := ⟨_, rfl⟩
 replace H : (impl_ticks.l0 k y249 l0 (l0.length : Int) 0) = some r := by first | (rw [hy249]; with_reducible exact H) | (have H2_ := (Option.bind_some _ _).symm.trans H; rw [hy249]; with_reducible exact H2_) | (have H2_ := (Option.bind_some _ _).symm.trans H; with_reducible exact H2_) | with_reducible exact H | (rw [hy249]; exact H) | exact H
 have Ny249 := Aside0.mk hy249
 clear hy249
 have H' := Aside0.mk H
 clear H
 go_enter Try.func115, Try.ntmps115
 go_wp2_with (first | ((with_reducible refine gate_dst (N := 7) rfl ?_); refine Kd.R_make Kd.bool _ 4 rfl (N := 7) rfl 86 _ _ rfl 1000 rfl rfl Try.underlying86 (.bool false) 1 info4 rfl (by decide) (by omega) false (ok := fun _ => True) (okp := fun _ => True) rfl (fun _ hk => hk) trivial (by omega) (by omega) (Below.refl _ _) (Nat.le_refl _) ?_; intro v250 w3 ho4 hb hg_ hnew_; clear hg_ hnew_; (first | rw [← Ny249.out] at ho4 | (simp only [Int.reduceToNat] at ho4; rw [← Ny249.out] at ho4)); have HO251 := Aside0.mk (Kd.R_lower ho4 (below_size (sb))); replace HB := bs hb; clear hb ho4))
 go_loopg [10] k (fun kq v10 w' => ∃ (x3_1 : List Bool) (x10_1 : Int), v10 = .int .i64 x10_1 ∧ Aside0 (impl_ticks.l0 kq x3_1 l0 (l0.length : Int) x10_1 = some r) ∧ Aside0 (kq ≤ k) ∧ Aside0 (Kd.R Kd.bool 4 w' w.heap.size (fun _ => True) v250 x3_1) ∧ Aside0 (Below w.heap.size w w'))
 case atStart => exact ⟨(y249), (0), sc, H', kk0, ⟨sr HO251⟩, ⟨sb⟩⟩
 case round =>
  clear H'
  try clear c2
  try clear c2b0
  try clear c2b1
  obtain ⟨x3_1, x10_1, rfl, HA, HK1, HO_3, HB⟩ := hrel
  cases gk with
  | zero => exact absurd HA.out (by simp [impl_ticks.l0])
  | succ k1 =>
   have H := HA.out
   clear HA
   simp only [impl_ticks.l0] at H
   obtain ⟨c5, H⟩ | ⟨c5, H⟩ := ie_ H
   ·have c5b0 := decide_eq_true c5
    clear c5
    obtain ⟨c6b0, H⟩ := id_ H
    obtain ⟨c7b0, H⟩ := id_ H
    obtain ⟨t254, A8, H⟩ := bnd H
    obtain rfl | rfl := tt t254
    ·replace H := ip H
     have H' := Aside0.mk H
     clear H
     obtain ⟨p252, q252, ad252, e252, _, _, hx252_0, hx252_1⟩ := aT_T65 HR0 HB x10_1
     cases e252
     go_wp2_with (first | ((with_reducible refine gate_dst (N := 5) rfl ?_); refine bx 5 #[.int .i64 0, .int .i64 0] 65 ?_; intro gb253 hg w10 hbox hb; replace HO_3 := Aside0.mk (Kd.R_below (sr HO_3) hb); have BK253 := Aside0.mk hbox; have GW253 := bz w hg; have GE253 := bz w hg; replace HB := bs hb; clear hb hbox hg; obtain ⟨hcz11_0, hcz11_1, hfz11_0, hfz11_1⟩ := cc2 BK253) | ((with_reducible refine gate_callee (f := 67) rfl ?_); refine gL (some 15) Try.func67 #[.agg #[.int .i64 ((rd_T65 l0 x10_1).f0), .int .i64 ((rd_T65 l0 x10_1).f1)]] ?_; (with_reducible refine (impl_IsSpan.calls ((rd_T65 l0 x10_1).f0) ((rd_T65 l0 x10_1).f1) true _ A8.out).mono ?_); rintro e w12 ⟨rfl, hb⟩; refine ⟨_, rfl, ?_⟩; replace HO_3 := Aside0.mk (Kd.R_below (by (with_reducible repeat (first | apply Kd.R_alloc | apply Kd.R_drewN | apply Kd.R_drew)); exact (Kd.R_mono (Kd.R_far (p := ⟨gb253, 1, none⟩) (Kd.R_far (p := ⟨gb253, 0, none⟩) (Kd.R_types HO_3.out BK253.out (by decide)) (fun _ hk => hk.2) (.int .i64 ((rd_T65 l0 x10_1).f0))) (fun _ hk => hk.2) (.int .i64 ((rd_T65 l0 x10_1).f1))) (fun _ h_ => h_.1))) hb); replace BK253 := Aside0.mk (blk_below (g := gb253) (o := .cells #[.int .i64 ((rd_T65 l0 x10_1).f0), .int .i64 ((rd_T65 l0 x10_1).f1)] 65 (0, 0)) (sp BK253) hb); replace HB := bsw hb; (try clear hb); (try clear hb2); (try clear hk); (try clear hi); obtain ⟨hcz13_0, hcz13_1, hfz13_0, hfz13_1⟩ := cc2 BK253))
     go_loopg [6] k1 (fun kq v6 w' => ∃ (x3_2 : List Bool) (x6_2 : Int), v6 = .int .i64 x6_2 ∧ Aside0 (impl_ticks.l1 kq x3_2 x6_2 l0 (l0.length : Int) x10_1 ((rd_T65 l0 x10_1).f0) ((rd_T65 l0 x10_1).f1) = some r) ∧ Aside0 (kq ≤ k1) ∧ Aside0 (Kd.R Kd.bool 4 w' w.heap.size (fun _ => True) v250 x3_2) ∧ Aside0 (w'.heap[gb253]? = some (.cells #[.int .i64 ((rd_T65 l0 x10_1).f0), .int .i64 ((rd_T65 l0 x10_1).f1)] 65 (0, 0))) ∧ Aside0 (Below w.heap.size w w'))
     case atStart => exact ⟨(x3_1), ((rd_T65 l0 x10_1).f0), sc, H', kk0, ⟨sr HO_3⟩, ⟨sk BK253⟩, ⟨sbw⟩⟩
     case round =>
      clear H'
      try clear c2
      try clear c2b0
      try clear c2b1
      try clear c5
      try clear c5b0
      try clear c6b0
      try clear c7b0
      try clear hx252_0
      try clear hx252_1
      try clear p252
      try clear q252
      obtain ⟨x3_2, x6_2, rfl, HA, HK2, HO_3, BK253, HB⟩ := hrel
      cases gk with
      | zero => exact absurd HA.out (by simp [impl_ticks.l1])
      | succ k2 =>
       have H := HA.out
       clear HA
       simp only [impl_ticks.l1] at H
       obtain ⟨c14, H⟩ | ⟨c14, H⟩ := ie_ H
       ·have c14b0 := decide_eq_true c14
        clear c14
        obtain ⟨c15b0, H⟩ := id_ H
        obtain ⟨c16b0, H⟩ := id_ H
        obtain ⟨y255, hy255⟩ : ∃ y_ : List Bool, y_ = (x3_2.set (x6_2 : Int).toNat true) := ⟨_, rfl⟩
        replace H : (impl_ticks.l1 k2 y255 (wrap64 (x6_2 + 1)) l0 (l0.length : Int) x10_1 ((rd_T65 l0 x10_1).f0) ((rd_T65 l0 x10_1).f1)) = some r := by first | (rw [hy255]; with_reducible exact H) | (have H2_ := (Option.bind_some _ _).symm.trans H; rw [hy255]; with_reducible exact H2_) | (have H2_ := (Option.bind_some _ _).symm.trans H; with_reducible exact H2_) | with_reducible exact H | (rw [hy255]; exact H) | exact H
        have Ny255 := Aside0.mk hy255
        clear hy255
        have H' := Aside0.mk H
        clear H
        obtain ⟨hcz18_0, hcz18_1, hfz18_0, hfz18_1⟩ := cc2 BK253
        have p17 : 0 ≤ (x6_2 : Int) := sa
        have q17 : (x6_2 : Int) < ((x3_2.length : Int) : Int) := sa
        obtain ⟨go17, co17, eo17, gb17, gl17, cl17, HG17⟩ := Kd.R_form HO_3.out (by omega)
        (first | cases eo17 | (injection eo17 with ea_ en_ ec_; (first | subst ea_ | (injection ea_ with ea_; subst ea_)); subst ec_; clear en_))
        have GB17 := Aside0.mk gb17
        have GG17 := Aside0.mk HG17
        clear gb17 gl17 HG17
        obtain ⟨hx17_0, hf17_0⟩ := Kd.R_celln false HO_3.out (x6_2 : Int) p17 q17
        replace p17 := eq_true p17
        replace q17 := eq_true q17
        have HP19 := Kd.R_putg HO_3.out (x6_2 : Int) true
        go_wp2_with (first | ((with_reducible refine gate_store (t := 4) (p := 26) rfl ?_); refine store_event (t := 4) (p := 26) (v := ?vo_w20) (w1 := (wr.setCell ⟨go17, (x6_2 : Int).toNat, none⟩ (.bool true))) ?hg ?ho ?hn ?hr ?_; (case ho => rfl); (case hg => rfl); (case hn => rfl); (case hr => first | (go_simp; done) | (go_simp; rfl)); intro w20 hw; have hg : wr.grownBy w20 (some go17) := (by rw [hw]; exact HP19.2); have hp_ : Kd.R Kd.bool 4 w20 w.heap.size (fun _ => True) (.slice (some ⟨go17, 0, none⟩) x3_2.length co17) y255 := (by rw [hw, Ny255.out]; exact HP19.1); clear HP19; replace BK253 := Aside0.mk (blk_grown (g := gb253) (o := .cells #[.int .i64 ((rd_T65 l0 x10_1).f0), .int .i64 ((rd_T65 l0 x10_1).f1)] 65 (0, 0)) (sk BK253) hg (Kd.R_ne HO_3.out BK253.out (by decide))); replace HO_3 := Aside0.mk hp_; replace HB := Aside0.mk ((by rw [hw]; exact below_set (HB.out) GB17.out : Below w.heap.size w w20)); clear hg hw hp_))
        go_roundg k2
        case measure => have := HK1.out; have := HK2.out; omega
        case rel => exact ⟨(y255), (wrap64 (x6_2 + 1)), sc, H', kk2, ⟨sr HO_3⟩, ⟨sk BK253⟩, ⟨sbw⟩⟩
       ·have c14b0 := decide_eq_false c14
        clear c14
        have H' := Aside0.mk H
        clear H
        obtain ⟨hcz21_0, hcz21_1, hfz21_0, hfz21_1⟩ := cc2 BK253
        go_wp2
        go_roundg k2
        case measure => have := HK1.out; have := HK2.out; omega
        case rel => exact ⟨(x3_2), (wrap64 (x10_1 + 1)), sc, H', kk2, ⟨sr HO_3⟩, ⟨sbw⟩⟩
    ·replace H := im H
     have H' := Aside0.mk H
     clear H
     obtain ⟨p252, q252, ad252, e252, _, _, hx252_0, hx252_1⟩ := aT_T65 HR0 HB x10_1
     cases e252
     go_wp2_with (first | ((with_reducible refine gate_dst (N := 5) rfl ?_); refine bx 5 #[.int .i64 0, .int .i64 0] 65 ?_; intro gb253 hg w22 hbox hb; replace HO_3 := Aside0.mk (Kd.R_below (sr HO_3) hb); have BK253 := Aside0.mk hbox; have GW253 := bz w hg; have GE253 := bz w hg; replace HB := bs hb; clear hb hbox hg; obtain ⟨hcz23_0, hcz23_1, hfz23_0, hfz23_1⟩ := cc2 BK253) | ((with_reducible refine gate_callee (f := 67) rfl ?_); refine gL (some 15) Try.func67 #[.agg #[.int .i64 ((rd_T65 l0 x10_1).f0), .int .i64 ((rd_T65 l0 x10_1).f1)]] ?_; (with_reducible refine (impl_IsSpan.calls ((rd_T65 l0 x10_1).f0) ((rd_T65 l0 x10_1).f1) false _ A8.out).mono ?_); rintro e w24 ⟨rfl, hb⟩; refine ⟨_, rfl, ?_⟩; replace HO_3 := Aside0.mk (Kd.R_below (by (with_reducible repeat (first | apply Kd.R_alloc | apply Kd.R_drewN | apply Kd.R_drew)); exact (Kd.R_mono (Kd.R_far (p := ⟨gb253, 1, none⟩) (Kd.R_far (p := ⟨gb253, 0, none⟩) (Kd.R_types HO_3.out BK253.out (by decide)) (fun _ hk => hk.2) (.int .i64 ((rd_T65 l0 x10_1).f0))) (fun _ hk => hk.2) (.int .i64 ((rd_T65 l0 x10_1).f1))) (fun _ h_ => h_.1))) hb); replace BK253 := Aside0.mk (blk_below (g := gb253) (o := .cells #[.int .i64 ((rd_T65 l0 x10_1).f0), .int .i64 ((rd_T65 l0 x10_1).f1)] 65 (0, 0)) (sp BK253) hb); replace HB := bsw hb; (try clear hb); (try clear hb2); (try clear hk); (try clear hi)))
     go_roundg k1
     case measure => have := HK1.out; omega
     case rel => exact ⟨(x3_1), (wrap64 (x10_1 + 1)), sc, H', kk1, ⟨sr HO_3⟩, ⟨sbw⟩⟩
   ·have c5b0 := decide_eq_false c5
    clear c5
    obtain rfl := Option.some.inj H
    go_wp2
    go_ret
    exact ⟨_, se, sr HO_3, sb⟩

-- NOT PRINTED: function 116 (impl_JoinSpans_1)

/-! ### impl_JoinSpans: function 100 (with impl.spansWhere at its literal) -/
set_option maxHeartbeats 8000000 in
set_option maxRecDepth 100000 in
theorem impl_JoinSpans.lit (A : Option Addr) (c : Nat) (bs : List Bool) (t : Int) (q : Bool) (g : Nat) (W : World) (hr : Kd.C Kd.bool W A bs.length bs) (hg : W.cell? ⟨g, 0, none⟩ = some (.slice A bs.length c)) (h : (if 0 ≤ t then (if t < (bs.length : Int) then some (rdOf false bs t) else none) else none) = some q) :
    Calls Try.prog 116 #[.int .i64 t, .pointer (some ⟨g, 0, none⟩)] W fun e w' => e = .returned (.bool q) ∧ Below W.heap.size W w' := by
  by_cases h0 : 0 ≤ t
  · rw [if_pos h0] at h
    by_cases h1 : t < (bs.length : Int)
    · rw [if_pos h1] at h
      obtain rfl := Option.some.inj h
      obtain ⟨ad, rfl, hx⟩ := Kd.at_bool hr t h0 h1
      have p5 : (0 ≤ t) = True := eq_true h0
      have q5 : (t < (bs.length : Int)) = True := eq_true h1
      go_enter Try.func116, Try.ntmps116
      go_wp2
      go_ret
      refine ⟨rfl, ?_⟩
      repeat (first | (with_reducible first | exact Below.refl _ _ | apply below_alloc | apply pw_below_drewN | apply below_drew1) | exact Below.refl _ _)
    · rw [if_neg h1] at h
      cases h
  · rw [if_neg h0] at h
    cases h
def impl_JoinSpans.sw.l0 (h_ : Int → Option Bool) : Nat → Int → List (S65) → Int → Option ((List (S65)))
  | 0, _, _, _ => none
  | k + 1, x1, x7, x8 => if x8 < (mn x1 1000) then ((h_ x8).bind fun t238 => (if t238 = true then (if (wrap64 ((x7.length : Int) - 1)) ≥ 0 then (if 0 ≤ (wrap64 ((x7.length : Int) - 1)) then (if (wrap64 ((x7.length : Int) - 1)) < (x7.length : Int) then (if ((rd_T65 x7 (wrap64 ((x7.length : Int) - 1))).f1) = x8 then (impl_JoinSpans.sw.l0 h_ k x1 (x7.set ((wrap64 ((x7.length : Int) - 1)) : Int).toNat (⟨(rd_T65 x7 (wrap64 ((x7.length : Int) - 1))).f0, wrap64 (((rd_T65 x7 (wrap64 ((x7.length : Int) - 1))).f1) + 1)⟩ : S65)) (wrap64 (x8 + 1))) else (if x7.length < 8796093022208 then (impl_JoinSpans.sw.l0 h_ k x1 (x7 ++ [(⟨x8, wrap64 (x8 + 1)⟩ : S65)]) (wrap64 (x8 + 1))) else (none))) else (none)) else (none)) else (if x7.length < 8796093022208 then (impl_JoinSpans.sw.l0 h_ k x1 (x7 ++ [(⟨x8, wrap64 (x8 + 1)⟩ : S65)]) (wrap64 (x8 + 1))) else (none))) else (impl_JoinSpans.sw.l0 h_ k x1 x7 (wrap64 (x8 + 1))))) else (some x7)
def impl_JoinSpans.sw.f (h_ : Int → Option Bool) (k : Nat) (a0 : Int) (a1 : Int) (a2 : Int) : Option ((List (S65))) := impl_JoinSpans.sw.l0 h_ k a1 (([] : List (S65))) (mx a0 0)
theorem impl_JoinSpans.sw.mono_l (h_ : Int → Option Bool) : ∀ k, (∀ y0 y1 y2, LeO (impl_JoinSpans.sw.l0 h_ k y0 y1 y2) (impl_JoinSpans.sw.l0 h_ (k + 1) y0 y1 y2))
  | 0 => fun _ _ _ r h => by simp [impl_JoinSpans.sw.l0] at h
  | k + 1 => by
    have ih0 := impl_JoinSpans.sw.mono_l h_ k
    · intro y0 y1 y2
      unfold impl_JoinSpans.sw.l0
      exact mo
theorem impl_JoinSpans.sw.mono (h_ : Int → Option Bool) : ∀ a0 a1 a2 k, LeO (impl_JoinSpans.sw.f h_ k a0 a1 a2) (impl_JoinSpans.sw.f h_ (k + 1) a0 a1 a2) := by
  intro a0 a1 a2 k
  have ih0 := impl_JoinSpans.sw.mono_l h_ k
  unfold impl_JoinSpans.sw.f
  exact mo
theorem impl_JoinSpans.sw.mono_h {h_ h2_ : Int → Option Bool} (hh : ∀ t, LeO (h_ t) (h2_ t)) : ∀ k, (∀ y0 y1 y2, LeO (impl_JoinSpans.sw.l0 h_ k y0 y1 y2) (impl_JoinSpans.sw.l0 h2_ k y0 y1 y2))
  | 0 => fun _ _ _ r h => by simp [impl_JoinSpans.sw.l0] at h
  | k + 1 => by
    have ih0 := impl_JoinSpans.sw.mono_h hh k
    have m7 := hh
    intro y0 y1 y2
    unfold impl_JoinSpans.sw.l0
    exact mo
set_option maxHeartbeats 8000000 in
set_option maxRecDepth 100000 in
theorem impl_JoinSpans.sw.calls (h_ : Int → Option Bool) (gp : Nat) (k : Nat) (a0 : Int) (a1 : Int) (a2 : Int) (r : List (S65)) (w : World) (hh : ∀ (t : Int) (q : Bool) (W : World), Below w.heap.size w W → h_ t = some q → Calls Try.prog 116 #[.int .i64 t, .pointer (some ⟨gp, 0, none⟩)] W fun e w' => e = .returned (.bool q) ∧ Below W.heap.size W w') (h : impl_JoinSpans.sw.f h_ k a0 a1 a2 = some r) :
    Calls Try.prog 77 #[.int .i64 a0, .int .i64 a1, .func (.func 116) #[] #[.pointer (some ⟨gp, 0, none⟩)]] w fun e w' => ∃ v0_ : Value, e = .returned (v0_) ∧ Kd.R k65 65 w' w.heap.size (fun _ => True) v0_ r ∧ Below w.heap.size w w' := by
 have hu65 := Try.underlying65
 have HB := Aside0.mk (Below.refl w.heap.size w)
 have H : (impl_JoinSpans.sw.l0 h_ k a1 (([] : List (S65))) (mx a0 0)) = some r := h
 clear h
 obtain ⟨y235, hy235⟩ : ∃ y_ : List (S65), y_ = (([] : List (S65))) := ⟨_, rfl⟩
 replace H : (impl_JoinSpans.sw.l0 h_ k a1 y235 (mx a0 0)) = some r := by first | (rw [hy235]; with_reducible exact H) | (have H2_ := (Option.bind_some _ _).symm.trans H; rw [hy235]; with_reducible exact H2_) | (have H2_ := (Option.bind_some _ _).symm.trans H; with_reducible exact H2_) | with_reducible exact H | (rw [hy235]; exact H) | exact H
 have Ny235 := Aside0.mk hy235
 clear hy235
 obtain ⟨ji4, hji4⟩ : ∃ j_ : Int, (mx a0 0) = j_ := ⟨_, rfl⟩
 replace H : (impl_JoinSpans.sw.l0 h_ k a1 y235 ji4) = some r := by first | (rw [hji4] at H; exact H) | (simp only [hji4] at H ⊢; exact H)
 (try (have hji4l : 0 ≤ ji4 := by (rw [← hji4]; unfold mx; (repeat' split) <;> omega)))
 (try (have hji4m : 0 ≤ ji4 := by omega))
 have hji4_ : (if a0 < 0 then 0 else a0) = ji4 := hji4
 have H' := Aside0.mk H
 clear H
 go_enter Try.func77, Try.ntmps77
 go_wp2_with (first | ((with_reducible refine gate_dst (N := 10) rfl ?_); refine Kd.R_lit k65 _ 65 ?hg (N := 10) ?hd (xs := ([] : List (S65))) (inner := []) (ok := fun _ => True) (okp := fun _ => True) ?hr ?hp (fun _ hk => hk) trivial (Below.refl _ _) (Nat.le_refl _) (by simp) ?_; (case hd => rfl); (case hg => rfl); (case hr => first | (go_simp; done) | (go_simp; rfl)); (case hp => exact (Reps.none _ _)); intro v236 w5 ho6 hb hg_ hnew_; clear hg_ hnew_; (first | rw [← Ny235.out] at ho6 | (simp only [Int.reduceToNat] at ho6; rw [← Ny235.out] at ho6)); have HO237 := Aside0.mk (Kd.R_lower ho6 (below_size (sb))); replace HB := bs hb; clear hb ho6))
 go_loopg [7, 8] k (fun kq v7 v8 w' => ∃ (x7_1 : List (S65)) (x8_1 : Int), v8 = .int .i64 x8_1 ∧ Aside0 (impl_JoinSpans.sw.l0 h_ kq a1 x7_1 x8_1 = some r) ∧ Aside0 (kq ≤ k) ∧ Aside0 (Kd.R k65 65 w' w.heap.size (fun _ => True) v7 x7_1) ∧ Aside0 (Below w.heap.size w w'))
 case atStart => exact ⟨(y235), (ji4), (by first | rfl | (simp; done) | (simp only [← hji4] <;> (first | rfl | simp)) | (simp [*]; done)), H', kk0, ⟨sr HO237⟩, ⟨sb⟩⟩
 case round =>
  clear H'
  obtain ⟨x7_1, x8_1, rfl, HA, HK1, HO_7, HB⟩ := hrel
  cases gk with
  | zero => exact absurd HA.out (by simp [impl_JoinSpans.sw.l0])
  | succ k1 =>
   have H := HA.out
   clear HA
   simp only [impl_JoinSpans.sw.l0] at H
   obtain ⟨ji7, hji7⟩ : ∃ j_ : Int, (mn a1 1000) = j_ := ⟨_, rfl⟩
   replace H : (if x8_1 < (ji7) then ((h_ x8_1).bind fun t238 => (if t238 = true then (if (wrap64 ((x7_1.length : Int) - 1)) ≥ 0 then (if 0 ≤ (wrap64 ((x7_1.length : Int) - 1)) then (if (wrap64 ((x7_1.length : Int) - 1)) < (x7_1.length : Int) then (if ((rd_T65 x7_1 (wrap64 ((x7_1.length : Int) - 1))).f1) = x8_1 then (impl_JoinSpans.sw.l0 h_ k1 a1 (x7_1.set ((wrap64 ((x7_1.length : Int) - 1)) : Int).toNat (⟨(rd_T65 x7_1 (wrap64 ((x7_1.length : Int) - 1))).f0, wrap64 (((rd_T65 x7_1 (wrap64 ((x7_1.length : Int) - 1))).f1) + 1)⟩ : S65)) (wrap64 (x8_1 + 1))) else (if x7_1.length < 8796093022208 then (impl_JoinSpans.sw.l0 h_ k1 a1 (x7_1 ++ [(⟨x8_1, wrap64 (x8_1 + 1)⟩ : S65)]) (wrap64 (x8_1 + 1))) else (none))) else (none)) else (none)) else (if x7_1.length < 8796093022208 then (impl_JoinSpans.sw.l0 h_ k1 a1 (x7_1 ++ [(⟨x8_1, wrap64 (x8_1 + 1)⟩ : S65)]) (wrap64 (x8_1 + 1))) else (none))) else (impl_JoinSpans.sw.l0 h_ k1 a1 x7_1 (wrap64 (x8_1 + 1))))) else (some x7_1)) = some r := by first | (rw [hji7] at H; exact H) | (simp only [hji7] at H ⊢; exact H)
   have hji7_ : (if 1000 < a1 then 1000 else a1) = ji7 := hji7
   obtain ⟨c8, H⟩ | ⟨c8, H⟩ := ie_ H
   ·have c8b0 := decide_eq_true c8
    clear c8
    obtain ⟨t238, A9, H⟩ := bnd H
    obtain rfl | rfl := tt t238
    ·replace H := ip H
     obtain ⟨c11, H⟩ | ⟨c11, H⟩ := ie_ H
     ·have c11b0 := decide_eq_true c11
      clear c11
      obtain ⟨ji12, hji12⟩ : ∃ j_ : Int, (wrap64 ((x7_1.length : Int) - 1)) = j_ := ⟨_, rfl⟩
      replace H : (if 0 ≤ (ji12) then (if (ji12) < (x7_1.length : Int) then (if ((rd_T65 x7_1 (ji12)).f1) = x8_1 then (impl_JoinSpans.sw.l0 h_ k1 a1 (x7_1.set ((ji12) : Int).toNat (⟨(rd_T65 x7_1 (ji12)).f0, wrap64 (((rd_T65 x7_1 (ji12)).f1) + 1)⟩ : S65)) (wrap64 (x8_1 + 1))) else (if x7_1.length < 8796093022208 then (impl_JoinSpans.sw.l0 h_ k1 a1 (x7_1 ++ [(⟨x8_1, wrap64 (x8_1 + 1)⟩ : S65)]) (wrap64 (x8_1 + 1))) else (none))) else (none)) else (none)) = some r := by first | (rw [hji12] at H; exact H) | (simp only [hji12] at H ⊢; exact H)
      (try rw [hji12] at c11b0)
      (try rw [hji12] at A9)
      have hji12w : (IntKind.i64.wrap ((x7_1.length : Int) - 1)) = ji12 := (i64_w _).trans hji12
      obtain ⟨c13b0, H⟩ := id_ H
      obtain ⟨c14b0, H⟩ := id_ H
      obtain ⟨c15, H⟩ | ⟨c15, H⟩ := ie_ H
      ·have c15b0 : (((rd_T65 x7_1 (ji12)).f1) == x8_1) = true := beq_iff_eq.mpr c15
       have c15b1 : (((rd_T65 x7_1 (ji12)).f1) != x8_1) = false := bne_eq_false_iff_eq.mpr c15
       clear c15
       obtain ⟨y241, hy241⟩ : ∃ y_ : List (S65), y_ = (x7_1.set ((ji12) : Int).toNat (⟨(rd_T65 x7_1 (ji12)).f0, wrap64 (((rd_T65 x7_1 (ji12)).f1) + 1)⟩ : S65)) := ⟨_, rfl⟩
       replace H : (impl_JoinSpans.sw.l0 h_ k1 a1 y241 (wrap64 (x8_1 + 1))) = some r := by first | (rw [hy241]; with_reducible exact H) | (have H2_ := (Option.bind_some _ _).symm.trans H; rw [hy241]; with_reducible exact H2_) | (have H2_ := (Option.bind_some _ _).symm.trans H; with_reducible exact H2_) | with_reducible exact H | (rw [hy241]; exact H) | exact H
       have Ny241 := Aside0.mk hy241
       clear hy241
       have H' := Aside0.mk H
       clear H
       go_wp2_with (first | (go_at_call 116; refine (hh x8_1 true _ (sb) A9.out).mono ?_; rintro e w17 ⟨rfl, hb⟩; replace HO_7 := Aside0.mk (Kd.R_below (sr HO_7) hb); replace HB := bs hb; (try clear hb); (try clear hb2); (try clear hk); (try clear hi); obtain ⟨Ao18, co18, eo18⟩ := Kd.R_slice HO_7.out; subst eo18; have p239 : 0 ≤ ((ji12) : Int) := sa; have q239 : (ji12) < (x7_1.length : Int) := sa; obtain ⟨ad239, e239, hx239_0, hx239_1⟩ := at_T65 (Kd.R_reads' HO_7.out).2.2 (ji12) p239 q239; cases e239; replace p239 := eq_true p239; replace q239 := eq_true q239; have p240 : 0 ≤ ((ji12) : Int) := sa; have q240 : (ji12) < (x7_1.length : Int) := sa; obtain ⟨ad240, e240, hx240_0, hx240_1⟩ := at_T65 (Kd.R_reads' HO_7.out).2.2 (ji12) p240 q240; obtain rfl : ad239 = ad240 := (by injection e240); replace p240 := eq_true p240; replace q240 := eq_true q240; have p16 : 0 ≤ ((ji12) : Int) := sa; have q16 : ((ji12) : Int) < ((x7_1.length : Int) : Int) := sa; obtain ⟨go16, co16, eo16, gb16, gl16, cl16, HG16⟩ := Kd.R_form HO_7.out (by omega); (first | cases eo16 | (injection eo16 with ea_ en_ ec_; (first | subst ea_ | (injection ea_ with ea_; subst ea_)); subst ec_; clear en_)); have GB16 := Aside0.mk gb16; have GG16 := Aside0.mk HG16; clear gb16 gl16 HG16; (first | simp only [add_plain] at hx239_0 | skip); (first | simp only [add_plain] at hx239_1 | skip); (first | simp only [add_plain] at hx240_0 | skip); (first | simp only [add_plain] at hx240_1 | skip); obtain ⟨ce16, hcl16, hM16, hcc16, hfr16⟩ := Kd.R_elem HO_7.out z65 ((ji12) : Int) p16 q16; obtain rfl := k65_openM hM16; have hx16_0 : w17.cell? ⟨go16, ((ji12) : Int).toNat * 2, none⟩ = some (.int .i64 ((rd_T65 x7_1 (ji12)).f0)) := hcc16 0 _ rfl; have hx16_1 : w17.cell? ⟨go16, ((ji12) : Int).toNat * 2 + 1, none⟩ = some (.int .i64 ((rd_T65 x7_1 (ji12)).f1)) := hcc16 1 _ rfl; have hf16_0 : w17.frozen? ⟨go16, ((ji12) : Int).toNat * 2, none⟩ = false := hfr16 0; have hf16_1 : w17.frozen? ⟨go16, ((ji12) : Int).toNat * 2 + 1, none⟩ = false := hfr16 1; (try clear hcl16); (try clear hcc16); (try clear hfr16); (try clear hM16); replace p16 := eq_true p16; replace q16 := eq_true q16; have HX19 := Aside0.mk (show Kd.R k65 65 w17 w.heap.size (fun _ => True) (.slice (some ⟨go16, 0, none⟩) x7_1.length co18) x7_1 from (sr HO_7)); obtain ⟨ce19, hcl19, hM19, hcc19, hfr19⟩ := Kd.R_elem HX19.out z65 ((ji12) : Int) (sa) (by have h_ : ((ji12) : Int) < ((x7_1.length : Int) : Int) := sa; first | exact h_ | (have e_ := (Kd.R_reads' HO_7.out).1; omega) | simpa using h_); obtain rfl := k65_openM hM19; have HP19 := Kd.R_seg HX19.out ((ji12) : Int) (sa) (by have h_ : ((ji12) : Int) < ((x7_1.length : Int) : Int) := sa; first | exact h_ | (have e_ := (Kd.R_reads' HO_7.out).1; omega) | simpa using h_) (seg := [.int .i64 (wrap64 (((rd_T65 x7_1 (ji12)).f1) + 1))]) (j := 1) hcl19 hcc19 (show 2 ≤ 2 from by decide) (x' := (⟨(rd_T65 x7_1 (ji12)).f0, wrap64 (((rd_T65 x7_1 (ji12)).f1) + 1)⟩ : S65)) (k65_mkM _ _ _ (⟨(rd_T65 x7_1 (ji12)).f0, wrap64 (((rd_T65 x7_1 (ji12)).f1) + 1)⟩ : S65) ) (fun _ hk => hk); have hx19_1 := hcc19 1 _ rfl; (try simp only [show (k65).sz = 2 from rfl, Nat.mul_one, Nat.add_zero] at hx19_1); have hf19_1 := hfr19 1; (try simp only [show (k65).sz = 2 from rfl, Nat.mul_one, Nat.add_zero] at hf19_1); (try clear hcl19); (try clear hcc19); (try clear hfr19); (try clear hM19)) | ((with_reducible refine gate_store (t := 3) (p := 44) rfl ?_); refine store_event (t := 3) (p := 44) (v := ?vo_w20) (w1 := (w17.setCell ⟨go16, ((ji12) : Int).toNat * 2 + 1, none⟩ (.int .i64 (wrap64 (((rd_T65 x7_1 (ji12)).f1) + 1))))) ?hg ?ho ?hn ?hr ?_; (case ho => rfl); (case hg => rfl); (case hn => rfl); (case hr => first | (go_simp; done) | (go_simp; rfl)); intro w20 hw; have hg : w17.grownBy w20 (some go16) := (by rw [hw]; exact HP19.2); have hp_ : Kd.R k65 65 w20 w.heap.size (fun _ => True) (.slice (some ⟨go16, 0, none⟩) x7_1.length co18) y241 := (by rw [hw, Ny241.out]; exact HP19.1); clear HP19; replace HO_7 := Aside0.mk hp_; replace HB := Aside0.mk ((by rw [hw]; exact below_set (HB.out) GB16.out : Below w.heap.size w w20)); clear hg hw hp_))
       go_roundg k1
       case measure => have := HK1.out; omega
       case rel => exact ⟨(y241), (wrap64 (x8_1 + 1)), sc, H', kk1, ⟨sr HO_7⟩, ⟨sb⟩⟩
      ·have c15b0 : (((rd_T65 x7_1 (ji12)).f1) == x8_1) = false := beq_eq_false_iff_ne.mpr c15
       have c15b1 : (((rd_T65 x7_1 (ji12)).f1) != x8_1) = true := bne_iff_ne.mpr c15
       obtain ⟨LMc21, H⟩ := il_ H
       obtain ⟨y242, hy242⟩ : ∃ y_ : List (S65), y_ = (x7_1 ++ [(⟨x8_1, wrap64 (x8_1 + 1)⟩ : S65)]) := ⟨_, rfl⟩
       replace H : (impl_JoinSpans.sw.l0 h_ k1 a1 y242 (wrap64 (x8_1 + 1))) = some r := by first | (rw [hy242]; with_reducible exact H) | (have H2_ := (Option.bind_some _ _).symm.trans H; rw [hy242]; with_reducible exact H2_) | (have H2_ := (Option.bind_some _ _).symm.trans H; with_reducible exact H2_) | with_reducible exact H | (rw [hy242]; exact H) | exact H
       have Ny242 := Aside0.mk hy242
       clear hy242
       have H' := Aside0.mk H
       clear H
       go_wp2_with (first | (go_at_call 116; refine (hh x8_1 true _ (sb) A9.out).mono ?_; rintro e w22 ⟨rfl, hb⟩; replace HO_7 := Aside0.mk (Kd.R_below (sr HO_7) hb); replace HB := bs hb; (try clear hb); (try clear hb2); (try clear hk); (try clear hi); obtain ⟨Ao23, co23, eo23⟩ := Kd.R_slice HO_7.out; subst eo23; have p239 : 0 ≤ ((ji12) : Int) := sa; have q239 : (ji12) < (x7_1.length : Int) := sa; obtain ⟨ad239, e239, hx239_0, hx239_1⟩ := at_T65 (Kd.R_reads' HO_7.out).2.2 (ji12) p239 q239; cases e239; replace p239 := eq_true p239; replace q239 := eq_true q239) | ((with_reducible refine gate_builtin (b := .append) (xs := #[.tmp 45, .tmp 50]) rfl ?_); at_builtin; refine Kd.R_append k65 (w0 := w) w.heap.size rfl (.tmp 45) (.tmp 50) 89 65 (.agg #[(.int .i64 0), (.int .i64 0)]) 16 rfl Try.underlying89 info65 rfl (by decide) (by omega) (.slice (some ad239) x7_1.length co23) x7_1 (⟨x8_1, wrap64 (x8_1 + 1)⟩ : S65) [.int .i64 x8_1, .int .i64 (wrap64 (x8_1 + 1))] (fun _ => True) (fun _ => False) rfl rfl ?aP (fun _ hk => hk.elim) ?aF ?aO ?aB ?aS ?aL ?_; (case aP => exact k65_mkM _ _ _ (⟨x8_1, wrap64 (x8_1 + 1)⟩ : S65)); (case aB => exact (sb)); (case aF => exact (fun _ _ => trivial)); (case aO => exact (sr HO_7)); (case aS => exact (below_size (sb))); (case aL => have := LMc21.out; omega); intro v243 w24 ho hb hg hat; rw [← Ny242.out] at ho; replace HB := Aside0.mk hb; have HO244 := Aside0.mk ho; clear HO_7; clear ho hb hg hat))
       go_roundg k1
       case measure => have := HK1.out; omega
       case rel => exact ⟨(y242), (wrap64 (x8_1 + 1)), sc, H', kk1, ⟨sr HO244⟩, ⟨sb⟩⟩
     ·have c11b0 := decide_eq_false c11
      clear c11
      obtain ⟨LMc25, H⟩ := il_ H
      obtain ⟨y245, hy245⟩ : ∃ y_ : List (S65), y_ = (x7_1 ++ [(⟨x8_1, wrap64 (x8_1 + 1)⟩ : S65)]) := ⟨_, rfl⟩
      replace H : (impl_JoinSpans.sw.l0 h_ k1 a1 y245 (wrap64 (x8_1 + 1))) = some r := by first | (rw [hy245]; with_reducible exact H) | (have H2_ := (Option.bind_some _ _).symm.trans H; rw [hy245]; with_reducible exact H2_) | (have H2_ := (Option.bind_some _ _).symm.trans H; with_reducible exact H2_) | with_reducible exact H | (rw [hy245]; exact H) | exact H
      have Ny245 := Aside0.mk hy245
      clear hy245
      have H' := Aside0.mk H
      clear H
      go_wp2_with (first | (go_at_call 116; refine (hh x8_1 true _ (sb) A9.out).mono ?_; rintro e w26 ⟨rfl, hb⟩; replace HO_7 := Aside0.mk (Kd.R_below (sr HO_7) hb); replace HB := bs hb; (try clear hb); (try clear hb2); (try clear hk); (try clear hi); obtain ⟨Ao27, co27, eo27⟩ := Kd.R_slice HO_7.out; subst eo27) | ((with_reducible refine gate_builtin (b := .append) (xs := #[.tmp 45, .tmp 50]) rfl ?_); at_builtin; refine Kd.R_append k65 (w0 := w) w.heap.size rfl (.tmp 45) (.tmp 50) 89 65 (.agg #[(.int .i64 0), (.int .i64 0)]) 16 rfl Try.underlying89 info65 rfl (by decide) (by omega) (.slice Ao27 x7_1.length co27) x7_1 (⟨x8_1, wrap64 (x8_1 + 1)⟩ : S65) [.int .i64 x8_1, .int .i64 (wrap64 (x8_1 + 1))] (fun _ => True) (fun _ => False) rfl rfl ?aP (fun _ hk => hk.elim) ?aF ?aO ?aB ?aS ?aL ?_; (case aP => exact k65_mkM _ _ _ (⟨x8_1, wrap64 (x8_1 + 1)⟩ : S65)); (case aB => exact (sb)); (case aF => exact (fun _ _ => trivial)); (case aO => exact (sr HO_7)); (case aS => exact (below_size (sb))); (case aL => have := LMc25.out; omega); intro v246 w28 ho hb hg hat; rw [← Ny245.out] at ho; replace HB := Aside0.mk hb; have HO247 := Aside0.mk ho; clear HO_7; clear ho hb hg hat))
      go_roundg k1
      case measure => have := HK1.out; omega
      case rel => exact ⟨(y245), (wrap64 (x8_1 + 1)), sc, H', kk1, ⟨sr HO247⟩, ⟨sb⟩⟩
    ·replace H := im H
     have H' := Aside0.mk H
     clear H
     go_wp2_with (first | (go_at_call 116; refine (hh x8_1 false _ (sb) A9.out).mono ?_; rintro e w29 ⟨rfl, hb⟩; replace HO_7 := Aside0.mk (Kd.R_below (sr HO_7) hb); replace HB := bs hb; (try clear hb); (try clear hb2); (try clear hk); (try clear hi)))
     go_roundg k1
     case measure => have := HK1.out; omega
     case rel => exact ⟨(x7_1), (wrap64 (x8_1 + 1)), sc, H', kk1, ⟨sr HO_7⟩, ⟨sb⟩⟩
   ·have c8b0 := decide_eq_false c8
    clear c8
    obtain rfl := Option.some.inj H
    go_wp2
    go_ret
    exact ⟨_, by first | rfl | (simp [errW_none, errW_some] <;> rfl) | (simp only [← hji4, ← hji7]; first | rfl | (simp [errW_none, errW_some] <;> rfl)) | (simp [*, errW_none, errW_some] <;> rfl), sr HO_7, sb⟩

def impl_JoinSpans.o (bs : List Bool) (t : Int) : Option Bool := if 0 ≤ t then (if t < (bs.length : Int) then some (rdOf false bs t) else none) else none
def impl_JoinSpans.f (k : Nat) (l0 : List (S65)) : Option (List (S65)) := (impl_ticks.f k l0).bind fun bs => impl_JoinSpans.sw.f (impl_JoinSpans.o bs) k 0 1000 0
theorem impl_JoinSpans.mono : ∀ a0 k, LeO (impl_JoinSpans.f k a0) (impl_JoinSpans.f (k + 1) a0) := fun a0 k =>
  LeO.bind (impl_ticks.mono a0 k) fun bs => impl_JoinSpans.sw.mono _ _ _ _ _
set_option maxHeartbeats 8000000 in
set_option maxRecDepth 100000 in
theorem impl_JoinSpans.calls (k : Nat) (A0 : Option Addr) (c0 : Nat) (l0 : List (S65)) (r : List (S65)) (w : World) (hr0 : Kd.C k65 w A0 l0.length l0) (hc0 : l0.length ≤ c0) (h : impl_JoinSpans.f k l0 = some r) :
    Calls Try.prog 100 #[.slice A0 l0.length c0] w fun e w' => ∃ v0_ : Value, e = .returned (v0_) ∧ Kd.R k65 65 w' w.heap.size (fun _ => True) v0_ r ∧ Below w.heap.size w w' := by
 unfold impl_JoinSpans.f at h
 obtain ⟨bs, hbs, h⟩ := Option.bind_eq_some_iff.mp h
 have H := Aside0.mk h
 have H0 := Aside0.mk hbs
 clear h hbs
 go_enter Try.func100, Try.ntmps100
 go_wp2_with (first | (go_at_call 115; refine (impl_ticks.calls k A0 c0 l0 bs _ hr0 hc0 H0.out).mono ?_; rintro e w4 ⟨v4, rfl, ho4, hb4⟩; have HO4 := Aside0.mk ho4; have M4 := Aside0.mk hb4; clear ho4 hb4; obtain ⟨A4, c4, e4⟩ := Kd.R_slice HO4.out; subst e4) | ((with_reducible refine gate_dst (N := 3) rfl ?_); refine bx 3 #[.slice none 0 0] 86 ?_; intro g5 hg5 w5 hbox5 hb5; have G5 := Aside0.mk ((by rw [hg5]; exact M4.out.size) : w.heap.size ≤ g5); clear hg5; have B5 := Aside0.mk hbox5; have HO5 := Aside0.mk (Kd.R_types (Kd.R_below HO4.out hb5) hbox5 (by decide)); have M5 := Aside0.mk (below_step M4.out hb5); obtain ⟨hx5, hf5⟩ := cc1 B5; clear hbox5 hb5) | ((with_reducible refine gate_store (t := 86) (p := 3) rfl ?_); refine store_event (t := 86) (p := 3) (v := ?vo_w8) (w1 := (w5.setCell ⟨g5, 0, none⟩ (.slice A4 bs.length c4))) ?hg ?ho ?hn ?hr ?_; (case ho => rfl); (case hg => rfl); (case hn => rfl); (case hr => first | (go_simp; done) | (go_simp; rfl)); intro w6 hw; have M6 := Aside0.mk ((by rw [hw]; exact below_set M5.out G5.out) : Below w.heap.size w w6); have B6 : Aside0 (w6.cell? ⟨g5, 0, none⟩ = some (.slice A4 bs.length c4)) := ⟨by rw [hw]; exact (blk_cell (blk_put B5.out 0 _ rfl) 0).trans rfl⟩; have HO6 := Aside0.mk ((by rw [hw]; exact Kd.R_far HO5.out (fun _ hk => hk.2) _) : Kd.R Kd.bool 4 w6 w.heap.size _ (.slice A4 bs.length c4) bs); clear hw) | (go_at_call 77; refine (impl_JoinSpans.sw.calls (impl_JoinSpans.o bs) g5 k 0 1000 0 r _ (fun t q W hB hq => impl_JoinSpans.lit A4 c4 bs t q g5 W (Kd.C_below (Kd.R_reads' HO6.out).2.2 hB) ((hB.cell (World.block_lt_of_cell? _ _ B6.out)).trans B6.out) hq) H.out).mono ?_; rintro e w7 ⟨v7, rfl, ho7, hb7⟩; have HO7 := Aside0.mk ho7; have M7 := Aside0.mk hb7; clear ho7 hb7))
 go_ret
 exact ⟨_, rfl, Kd.R_lower HO7.out (below_size M6.out), below_step M6.out M7.out⟩

/-! ### impl_TicksOf: function 76 -/
def impl_TicksOf.l0 : Nat → Int → List (S65) → Int → Int → Option (Int)
  | 0, _, _, _, _ => none
  | k + 1, x3, x7, x8, x9 => if x9 < x8 then (if 0 ≤ x9 then (if x9 < (x7.length : Int) then (impl_TicksOf.l0 k (wrap64 (x3 + (wrap64 (((rd_T65 x7 x9).f1) - ((rd_T65 x7 x9).f0))))) x7 x8 (wrap64 (x9 + 1))) else (none)) else (none)) else (some x3)
def impl_TicksOf.f (k : Nat) (l0 : List (S65)) : Option (Int) := (impl_JoinSpans.f k l0).bind fun t256 => (impl_TicksOf.l0 k 0 t256 (t256.length : Int) 0)
theorem impl_TicksOf.mono_l : ∀ k, (∀ y0 y1 y2 y3, LeO (impl_TicksOf.l0 k y0 y1 y2 y3) (impl_TicksOf.l0 (k + 1) y0 y1 y2 y3))
  | 0 => fun _ _ _ _ r h => by simp [impl_TicksOf.l0] at h
  | k + 1 => by
    have ih0 := impl_TicksOf.mono_l k
    · intro y0 y1 y2 y3
      unfold impl_TicksOf.l0
      have m0 := @impl_JoinSpans.mono
      exact mo
theorem impl_TicksOf.mono : ∀ a0 k, LeO (impl_TicksOf.f k a0) (impl_TicksOf.f (k + 1) a0) := by
  intro a0 k
  have ih0 := impl_TicksOf.mono_l k
  unfold impl_TicksOf.f
  have m0 := @impl_JoinSpans.mono
  exact mo
set_option maxHeartbeats 8000000 in
set_option maxRecDepth 100000 in
theorem impl_TicksOf.calls (k : Nat) (A0 : Option Addr) (c0 : Nat) (l0 : List (S65)) (r : Int) (w : World) (hr0 : Kd.C k65 w A0 l0.length l0) (hc0 : l0.length ≤ c0) (h : impl_TicksOf.f k l0 = some r) :
    Calls Try.prog 76 #[.slice A0 l0.length c0] w fun e w' => e = .returned (.int .i64 r) ∧ Below w.heap.size w w' := by
 have hu65 := Try.underlying65
 have HR0 := Aside0.mk hr0
 have HC0 := Aside0.mk hc0
 clear hr0 hc0
 have HB := Aside0.mk (Below.refl w.heap.size w)
 have H : ((impl_JoinSpans.f k l0).bind fun t256 => (impl_TicksOf.l0 k 0 t256 (t256.length : Int) 0)) = some r := h
 clear h
 obtain ⟨t256, A2, H⟩ := bnd H
 have H' := Aside0.mk H
 clear H
 go_enter Try.func76, Try.ntmps76
 go_wp2_with (first | ((with_reducible refine gate_callee (f := 100) rfl ?_); refine gL (some 7) Try.func100 #[.slice A0 l0.length c0] ?_; (with_reducible refine (impl_JoinSpans.calls k _ _ l0 t256 _ ?side1 ?side2 A2.out).mono ?_); (case side1 => repeat (first | exact HR0.out | (with_reducible refine Kd.C_alloc ?_ _) | (with_reducible refine Kd.C_drewN ?_ _) | (with_reducible refine Kd.C_drew ?_))); (case side2 => exact HC0.out); rintro e w3 ⟨v257, rfl, ho0, hb⟩; refine ⟨_, rfl, ?_⟩; have HO258 := Aside0.mk (Kd.R_lower ho0 (below_size (sb))); replace HB := bs hb; (try clear hb); (try clear hb2); (try clear hk); (try clear hi); (try clear ho0); obtain ⟨Ao4, co4, eo4⟩ := Kd.R_slice HO258.out; subst eo4))
 go_loopg [3, 9] k (fun kq v3 v9 w' => ∃ (x3_1 : Int) (x9_1 : Int), v3 = .int .i64 x3_1 ∧ v9 = .int .i64 x9_1 ∧ Aside0 (impl_TicksOf.l0 kq x3_1 t256 (t256.length : Int) x9_1 = some r) ∧ Aside0 (kq ≤ k) ∧ Aside0 (Kd.R k65 65 w' w.heap.size (fun _ => True) (.slice Ao4 t256.length co4) t256) ∧ Aside0 (Below w.heap.size w w'))
 case atStart => exact ⟨(0), (0), sc, sc, H', kk0, ⟨sr HO258⟩, ⟨sb⟩⟩
 case round =>
  clear H'
  obtain ⟨x3_1, x9_1, rfl, rfl, HA, HK1, HO_7, HB⟩ := hrel
  cases gk with
  | zero => exact absurd HA.out (by simp [impl_TicksOf.l0])
  | succ k1 =>
   have H := HA.out
   clear HA
   simp only [impl_TicksOf.l0] at H
   obtain ⟨c5, H⟩ | ⟨c5, H⟩ := ie_ H
   ·have c5b0 := decide_eq_true c5
    clear c5
    obtain ⟨c6b0, H⟩ := id_ H
    obtain ⟨c7b0, H⟩ := id_ H
    have H' := Aside0.mk H
    clear H
    have p259 : 0 ≤ (x9_1 : Int) := sa
    have q259 : x9_1 < (t256.length : Int) := sa
    obtain ⟨ad259, e259, hx259_0, hx259_1⟩ := at_T65 (Kd.R_reads' HO_7.out).2.2 x9_1 p259 q259
    cases e259
    replace p259 := eq_true p259
    replace q259 := eq_true q259
    go_wp2_with (first | ((with_reducible refine gate_dst (N := 5) rfl ?_); refine bx 5 #[.int .i64 0, .int .i64 0] 65 ?_; intro gb260 hg w8 hbox hb; replace HO_7 := Aside0.mk (Kd.R_below (Kd.R_elderB (sr HO_7) gb260 (Nat.le_of_eq hg.symm)) hb); have BK260 := Aside0.mk hbox; have GW260 := bz w hg; have GE260 := bz w hg; replace HB := bs hb; clear hb hbox hg; obtain ⟨hcz9_0, hcz9_1, hfz9_0, hfz9_1⟩ := cc2 BK260))
    go_roundg k1
    case measure => have := HK1.out; omega
    case rel => exact ⟨(wrap64 (x3_1 + (wrap64 (((rd_T65 t256 x9_1).f1) - ((rd_T65 t256 x9_1).f0))))), (wrap64 (x9_1 + 1)), sc, sc, H', kk1, ⟨by (with_reducible repeat (first | apply Kd.R_alloc | apply Kd.R_drewN | apply Kd.R_drew)); exact Kd.R_mono (Kd.R_far (p := ⟨gb260, 1, none⟩) (Kd.R_far (p := ⟨gb260, 0, none⟩) (Kd.R_mono HO_7.out (fun k_ hk => (⟨hk, hk.2⟩ : _ ∧ k_ ≠ gb260))) (fun _ hk => hk.2) (.int .i64 ((rd_T65 t256 x9_1).f0))) (fun _ hk => hk.2) (.int .i64 ((rd_T65 t256 x9_1).f1))) (fun _ hk => trivial)⟩, ⟨sbw⟩⟩
   ·have c5b0 := decide_eq_false c5
    clear c5
    obtain rfl := Option.some.inj H
    go_wp2
    go_ret
    exact ⟨se, sb⟩

/-! ### impl_isIndex: function 57 -/
def impl_isIndex.f (a0 : Int) (a1 : Int) : Option (Bool) := if a0 ≥ 0 then (some (decide (a0 < a1))) else (some false)
set_option maxHeartbeats 8000000 in
set_option maxRecDepth 100000 in
theorem impl_isIndex.calls (a0 : Int) (a1 : Int) (r : Bool) (w : World) (h : impl_isIndex.f a0 a1 = some r) :
    Calls Try.prog 57 #[.int .i64 a0, .int .i64 a1] w fun e w' => e = .returned (.bool r) ∧ Drawn0 w w' := by
 have H : (if a0 ≥ 0 then (some (decide (a0 < a1))) else (some false)) = some r := h
 clear h
 obtain ⟨c3, H⟩ | ⟨c3, H⟩ := ie_ H
 ·have c3b0 := decide_eq_true c3
  clear c3
  obtain rfl := Option.some.inj H
  go_enter Try.func57, Try.ntmps57
  go_wp2
  go_ret
  exact ⟨sc, sd⟩
 ·have c3b0 := decide_eq_false c3
  clear c3
  obtain rfl := Option.some.inj H
  go_enter Try.func57, Try.ntmps57
  go_wp2
  go_ret
  exact ⟨sc, sd⟩

-- NOT PRINTED: function 83 (impl_Link_83)

-- NOT PRINTED: function 58 (impl_Link_58)

-- NOT PRINTED: function 59 (impl_HasLink_1)

end Go.Proofs.Ytadpbpocbfjboaa.QFnExactLostToClocks
