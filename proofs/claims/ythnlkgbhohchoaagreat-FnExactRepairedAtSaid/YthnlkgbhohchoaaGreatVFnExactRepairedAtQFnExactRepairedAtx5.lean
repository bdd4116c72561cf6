/- Printed by a program of the session. Conditions: none. (squeezed). -/
import Derived.Test.YthnlkgbhohchoaaGreatVFnExactRepairedAtQFnExactRepairedAtx2
namespace Go.Proofs.YthnlkgbhohchoaaGreat.QFnExactRepairedAt
set_option maxHeartbeats 8000000
set_option maxRecDepth 100000
open Go.RowKit Go.Proofs.YthnlkgbhohchoaaGreatW.PrintWords Go.Proofs.YthnlkgbhohchoaaGreatW.PrintLast Go.Proofs.YthnlkgbhohchoaaGreatW.PrintMore Go.Proofs.YthnlkgbhohchoaaGreat.Open Go.Proofs.YthnlkgbhohchoaaGreat.Sq
attribute [local go_sem] max2_int min2_int max_two min_two max_three min_three max_four min_four   -- for this text's walks alone
attribute [local go_sem] isSome_set
set_option linter.unusedVariables false
set_option linter.unusedSimpArgs false

def spec_InSpan.f (a0_0 : Int) (a0_1 : Int) (a1 : Int) : Option (Bool) := (spec_IsSpan.f a0_0 a0_1).bind fun t213 => (if t213 = true then (if a0_0 ≤ a1 then (some (decide (a1 < a0_1))) else (some false)) else (some false))
theorem e5_0 {P : Prop} (h : P := by
 obtain rfl := Option.some.inj H
 go_enter Tryz.func99, Tryz.ntmps99
 go_wp2_with (first | ((with_reducible refine gd 2 rfl ?_); refine bx 2 #[.int .i64 a0_0, .int .i64 a0_1] 73 ?_; intro gb212 hg w6 hbox hb; have GW212 := bz w hg; have GE212 := bz w hg; replace HB := bs hb; have BK212 := am hbox; clear hb hbox hg; obtain ⟨_, _, _, _⟩ := cc2 BK212) | (have _ := c5b0; (with_reducible refine gc 121 rfl ?_); refine gL (some 6) Tryz.func121 #[.agg #[.int .i64 a0_0, .int .i64 a0_1]] ?_; (with_reducible refine (spec_IsSpan.calls a0_0 a0_1 true _ A3.out).mono ?_); rintro e w8 ⟨rfl, hb⟩; refine ⟨_, rfl, ?_⟩; replace BK212 := bb BK212 hb; replace HB := bsw hb; (try clear hb); obtain ⟨_, _, _, _⟩ := cc2 BK212) | ((with_reducible refine gc 121 rfl ?_); refine gL (some 6) Tryz.func121 #[.agg #[.int .i64 a0_0, .int .i64 a0_1]] ?_; (with_reducible refine (spec_IsSpan.calls a0_0 a0_1 false _ A3.out).mono ?_); rintro e w16 ⟨rfl, hb⟩; refine ⟨_, rfl, ?_⟩; replace BK212 := bb BK212 hb; replace HB := bsw hb; (try clear hb)))
 first
 | have _ := c5b0
   go_ret
   exact ⟨se, sbw⟩
 | go_ret
   exact ⟨se, sbw⟩
   ) : P := h
theorem spec_InSpan.calls (a0_0 : Int) (a0_1 : Int) (a1 : Int) (r : Bool) (w : World) (h : spec_InSpan.f a0_0 a0_1 a1 = some r) :
    Calls Tryz.prog 99 #[.agg #[.int .i64 a0_0, .int .i64 a0_1], .int .i64 a1] w fun e w' => e = .returned (.bool r) ∧ Below w.heap.size w w' := by
 have hu73 := Tryz.underlying73
 have HB := am (Below.refl w.heap.size w)
 have H := h; unfold spec_InSpan.f at H
 clear h
 obtain ⟨t213, A3, H⟩ := bnd H
 obtain rfl | rfl := tt t213
 ·replace H := ip H
  obtain ⟨-, c5b0, H⟩ | ⟨-, c5b0, H⟩ := ic_ H
  ·exact e5_0
  ·exact e5_0
 ·replace H := im H
  exact e5_0
def spec_PieceAt.l0 : Nat → Int → Int → Int → Int → Int → List (S76) → Option (Int)
  | 0, _, _, _, _, _, _ => none
  | k + 1, x1, x5, x215000, x215001, x215002, x215003 => if x5 < (x215003.length : Int) then (if 0 ≤ x5 then ((spec_InSpan.f ((rd_T76 x215003 x5).f0.f0) ((rd_T76 x215003 x5).f0.f1) x1).bind fun t216 => (if t216 = true then (some x5) else (spec_PieceAt.l0 k x1 (wrap64 (x5 + 1)) x215000 x215001 x215002 x215003))) else (none)) else (some (-1))
def spec_PieceAt.f (k : Nat) (a0_0 : Int) (a0_1 : Int) (a0_2 : Int) (l0_3 : List (S76)) (a1 : Int) : Option (Int) := spec_PieceAt.l0 k a1 0 a0_0 a0_1 a0_2 l0_3
theorem spec_PieceAt.mono_l : ∀ k, (∀ y0 y1 y2 y3 y4 y5, LeO (spec_PieceAt.l0 k y0 y1 y2 y3 y4 y5) (spec_PieceAt.l0 (k + 1) y0 y1 y2 y3 y4 y5))
  | 0 => fun _ _ _ _ _ _ r h => by simp [spec_PieceAt.l0] at h
  | k + 1 => by
    have ih0 := spec_PieceAt.mono_l k
    · intro y0 y1 y2 y3 y4 y5
      unfold spec_PieceAt.l0
      exact mo
theorem spec_PieceAt.mono : ∀ a0 a1 a2 a3 a4 k, LeO (spec_PieceAt.f k a0 a1 a2 a3 a4) (spec_PieceAt.f (k + 1) a0 a1 a2 a3 a4) := by
  intro a0 a1 a2 a3 a4 k
  have ih0 := spec_PieceAt.mono_l k
  unfold spec_PieceAt.f
  exact mo
theorem spec_PieceAt.calls (k : Nat) (a0_0 : Int) (a0_1 : Int) (a0_2 : Int) (A0_3 : Option Addr) (c0_3 : Nat) (l0_3 : List (S76)) (a1 : Int) (r : Int) (w : World) (hr0_3 : Kd.C k76 w A0_3 l0_3.length l0_3) (hc0_3 : l0_3.length ≤ c0_3) (h : spec_PieceAt.f k a0_0 a0_1 a0_2 l0_3 a1 = some r) :
    Calls Tryz.prog 64 #[.agg #[.int .i64 a0_0, .int .i64 a0_1, .int .i64 a0_2, .slice A0_3 l0_3.length c0_3], .int .i64 a1] w fun e w' => e = .returned (.int .i64 r) ∧ Below w.heap.size w w' := by
 have hu32 := Tryz.underlying32
 have hu73 := Tryz.underlying73
 have HR0_3 := am hr0_3
 have HC0_3 := am hc0_3
 clear hr0_3 hc0_3
 have HB := am (Below.refl w.heap.size w)
 have H := h; unfold spec_PieceAt.f at H
 clear h
 have H' := am H
 clear H
 go_enter Tryz.func64, Tryz.ntmps64
 go_wp2_with (first | ((with_reducible refine gd 2 rfl ?_); refine bx 2 #[.int .i64 a0_0, .int .i64 a0_1, .int .i64 a0_2, .slice A0_3 l0_3.length c0_3] 32 ?_; intro gb214 hg w3 hbox hb; have GW214 := bz w hg; have GE214 := bz w hg; replace HB := bs hb; have BK214 := am hbox; clear hb hbox hg))
 go_loopg [5] k (fun kq v5 w' => ∃ (x5_1 : Int), v5 = .int .i64 x5_1 ∧ Aside0 (spec_PieceAt.l0 kq a1 x5_1 a0_0 a0_1 a0_2 l0_3 = some r) ∧ Aside0 (kq ≤ k) ∧ Aside0 (w'.heap[gb214]? = some (.cells #[.int .i64 a0_0, .int .i64 a0_1, .int .i64 a0_2, (.slice A0_3 l0_3.length c0_3)] 32 (0, 0))) ∧ Aside0 (Below w.heap.size w w'))
 case atStart => exact ⟨(0), sc, H', kk0, ⟨sk BK214⟩, ⟨sbw⟩⟩
 case round =>
  clear H'
  obtain ⟨x5_1, rfl, HA, HK1, BK214, HB⟩ := hrel
  cases gk with
  | zero => exact absurd HA.out (by simp [spec_PieceAt.l0])
  | succ k1 =>
   have H := HA.out
   clear HA
   simp only [spec_PieceAt.l0] at H
   obtain ⟨-, c4b0, H⟩ | ⟨-, c4b0, H⟩ := ic_ H
   ·obtain ⟨c5b0, H⟩ := id_ H
    obtain ⟨t216, A6, H⟩ := bnd H
    obtain rfl | rfl := tt t216
    ·replace H := ip H
     obtain rfl := Option.some.inj H
     obtain ⟨_, _, _, _, _, _, _, _⟩ := cc4 BK214
     obtain ⟨p215, q215, ad215, A215_2, c215_2, A215_3, c215_3, e215, _, _, _, _, hx215_0, hx215_1, hx215_2, hx215_3, HC215_2, HR215_2, HC215_3, HR215_3⟩ := aT_T76 HR0_3 HB x5_1
     cases e215
     go_wp2_with (first | ((with_reducible refine gc 99 rfl ?_); refine gL (some 20) Tryz.func99 #[.agg #[.int .i64 ((rd_T76 l0_3 x5_1).f0.f0), .int .i64 ((rd_T76 l0_3 x5_1).f0.f1)], .int .i64 a1] ?_; (with_reducible refine (spec_InSpan.calls ((rd_T76 l0_3 x5_1).f0.f0) ((rd_T76 l0_3 x5_1).f0.f1) a1 true _ A6.out).mono ?_); rintro e w9 ⟨rfl, hb⟩; refine ⟨_, rfl, ?_⟩; replace BK214 := bb BK214 hb; replace HB := bsw hb; (try clear hb)))
     go_ret
     exact ⟨se, sbw⟩
    ·replace H := im H
     have H' := am H
     clear H
     obtain ⟨_, _, _, _, _, _, _, _⟩ := cc4 BK214
     obtain ⟨p215, q215, ad215, A215_2, c215_2, A215_3, c215_3, e215, _, _, _, _, hx215_0, hx215_1, hx215_2, hx215_3, HC215_2, HR215_2, HC215_3, HR215_3⟩ := aT_T76 HR0_3 HB x5_1
     cases e215
     go_wp2_with (first | ((with_reducible refine gc 99 rfl ?_); refine gL (some 20) Tryz.func99 #[.agg #[.int .i64 ((rd_T76 l0_3 x5_1).f0.f0), .int .i64 ((rd_T76 l0_3 x5_1).f0.f1)], .int .i64 a1] ?_; (with_reducible refine (spec_InSpan.calls ((rd_T76 l0_3 x5_1).f0.f0) ((rd_T76 l0_3 x5_1).f0.f1) a1 false _ A6.out).mono ?_); rintro e w11 ⟨rfl, hb⟩; refine ⟨_, rfl, ?_⟩; replace BK214 := bb BK214 hb; replace HB := bsw hb; (try clear hb)))
     go_roundg k1
     case measure => have := HK1.out; omega
     case rel => exact ⟨(wrap64 (x5_1 + 1)), sc, H', kk1, ⟨sk BK214⟩, ⟨sbw⟩⟩
   ·obtain rfl := Option.some.inj H
    obtain ⟨_, _, _, _, _, _, _, _⟩ := cc4 BK214
    go_wp2
    go_ret
    exact ⟨se, sbw⟩

end Go.Proofs.YthnlkgbhohchoaaGreat.QFnExactRepairedAt
