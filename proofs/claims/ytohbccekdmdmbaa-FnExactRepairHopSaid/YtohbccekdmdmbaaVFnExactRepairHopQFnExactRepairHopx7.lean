/- Printed by a program of the session. Conditions: none. (squeezed). -/
import Derived.Test.YtohbccekdmdmbaaVFnExactRepairHopQFnExactRepairHopx4
namespace Go.Proofs.Ytohbccekdmdmbaa.QFnExactRepairHop
set_option maxHeartbeats 8000000
set_option maxRecDepth 100000
open Go.RowKit Go.Proofs.YtohbccekdmdmbaaW.PrintWords Go.Proofs.YtohbccekdmdmbaaW.PrintLast Go.Proofs.YtohbccekdmdmbaaW.PrintMore Go.Proofs.Ytohbccekdmdmbaa.Open Go.Proofs.Ytohbccekdmdmbaa.Sq
attribute [local go_sem] max2_int min2_int max_two min_two max_three min_three max_four min_four   -- for this text's walks alone
attribute [local go_sem] isSome_set
set_option linter.unusedVariables false
set_option linter.unusedSimpArgs false

def spec_InSpan.f (a0_0 : Int) (a0_1 : Int) (a1 : Int) : Option (Bool) := (spec_IsSpan.f a0_0 a0_1).bind fun t355 => (if t355 = true then (if a0_0 ≤ a1 then (some (decide (a1 < a0_1))) else (some false)) else (some false))
theorem e7_0 {P : Prop} (h : P := by
 obtain rfl := Option.some.inj H
 go_enter Try.func57, Try.ntmps57
 go_wp2_with (first | ((with_reducible refine gd 2 rfl ?_); refine bx 2 #[.int .i64 a0_0, .int .i64 a0_1] 72 ?_; intro gb354 hg w6 hbox hb; have GW354 := bz w hg; have GE354 := bz w hg; replace HB := bs hb; have BK354 := am hbox; clear hb hbox hg; obtain ⟨hcz7_0, hcz7_1, hfz7_0, hfz7_1⟩ := cc2 BK354) | (have _ := c5b0; (with_reducible refine gc 77 rfl ?_); refine gL (some 6) Try.func77 #[.agg #[.int .i64 a0_0, .int .i64 a0_1]] ?_; (with_reducible refine (spec_IsSpan.calls a0_0 a0_1 true _ A3.out).mono ?_); rintro e w8 ⟨rfl, hb⟩; refine ⟨_, rfl, ?_⟩; replace BK354 := bb BK354 hb; replace HB := bsw hb; (try clear hb); obtain ⟨hcz9_0, hcz9_1, hfz9_0, hfz9_1⟩ := cc2 BK354) | ((with_reducible refine gc 77 rfl ?_); refine gL (some 6) Try.func77 #[.agg #[.int .i64 a0_0, .int .i64 a0_1]] ?_; (with_reducible refine (spec_IsSpan.calls a0_0 a0_1 false _ A3.out).mono ?_); rintro e w16 ⟨rfl, hb⟩; refine ⟨_, rfl, ?_⟩; replace BK354 := bb BK354 hb; replace HB := bsw hb; (try clear hb)))
 first
 | have _ := c5b0
   go_ret
   exact ⟨se, sbw⟩
 | go_ret
   exact ⟨se, sbw⟩
   ) : P := h
theorem spec_InSpan.calls (a0_0 : Int) (a0_1 : Int) (a1 : Int) (r : Bool) (w : World) (h : spec_InSpan.f a0_0 a0_1 a1 = some r) :
    Calls Try.prog 57 #[.agg #[.int .i64 a0_0, .int .i64 a0_1], .int .i64 a1] w fun e w' => e = .returned (.bool r) ∧ Below w.heap.size w w' := by
 have hu72 := Try.underlying72
 have HB := am (Below.refl w.heap.size w)
 have H := h; unfold spec_InSpan.f at H
 clear h
 obtain ⟨t355, A3, H⟩ := bnd H
 obtain rfl | rfl := tt t355
 ·replace H := ip H
  obtain ⟨-, c5b0, H⟩ | ⟨-, c5b0, H⟩ := ic_ H
  ·exact e7_0
  ·exact e7_0
 ·replace H := im H
  exact e7_0
def spec_PieceAt.l0 : Nat → Int → Int → Int → Int → Int → List (S75) → Option (Int)
  | 0, _, _, _, _, _, _ => none
  | k + 1, x1, x5, x357000, x357001, x357002, x357003 => if x5 < (x357003.length : Int) then (if 0 ≤ x5 then ((spec_InSpan.f ((rd_T75 x357003 x5).f0.f0) ((rd_T75 x357003 x5).f0.f1) x1).bind fun t358 => (if t358 = true then (some x5) else (spec_PieceAt.l0 k x1 (wrap64 (x5 + 1)) x357000 x357001 x357002 x357003))) else (none)) else (some (-1))
def spec_PieceAt.f (k : Nat) (a0_0 : Int) (a0_1 : Int) (a0_2 : Int) (l0_3 : List (S75)) (a1 : Int) : Option (Int) := spec_PieceAt.l0 k a1 0 a0_0 a0_1 a0_2 l0_3
theorem spec_PieceAt.mono_l : ∀ k, (∀ y0 y1 y2 y3 y4 y5, LeO (spec_PieceAt.l0 k y0 y1 y2 y3 y4 y5) (spec_PieceAt.l0 (k + 1) y0 y1 y2 y3 y4 y5))
  | 0 => fun _ _ _ _ _ _ r h => by simp [spec_PieceAt.l0] at h
  | k + 1 => by
    have ih0 := spec_PieceAt.mono_l k
    · intro y0 y1 y2 y3 y4 y5
      unfold spec_PieceAt.l0
      exact mo
theorem spec_PieceAt.mono : ∀ a0 a1 a2 a3 a4 k, LeO (spec_PieceAt.f k a0 a1 a2 a3 a4) (spec_PieceAt.f (k + 1) a0 a1 a2 a3 a4) := by
  intro a0 a1 a2 a3 a4 k
  have ih0 := spec_PieceAt.mono_l k
  unfold spec_PieceAt.f
  exact mo
theorem spec_PieceAt.calls (k : Nat) (a0_0 : Int) (a0_1 : Int) (a0_2 : Int) (A0_3 : Option Addr) (c0_3 : Nat) (l0_3 : List (S75)) (a1 : Int) (r : Int) (w : World) (hr0_3 : Kd.C k75 w A0_3 l0_3.length l0_3) (hc0_3 : l0_3.length ≤ c0_3) (h : spec_PieceAt.f k a0_0 a0_1 a0_2 l0_3 a1 = some r) :
    Calls Try.prog 40 #[.agg #[.int .i64 a0_0, .int .i64 a0_1, .int .i64 a0_2, .slice A0_3 l0_3.length c0_3], .int .i64 a1] w fun e w' => e = .returned (.int .i64 r) ∧ Below w.heap.size w w' := by
 have hu49 := Try.underlying49
 have hu72 := Try.underlying72
 have HR0_3 := am hr0_3
 have HC0_3 := am hc0_3
 clear hr0_3 hc0_3
 have HB := am (Below.refl w.heap.size w)
 have H := h; unfold spec_PieceAt.f at H
 clear h
 have H' := am H
 clear H
 go_enter Try.func40, Try.ntmps40
 go_wp2_with (first | ((with_reducible refine gd 2 rfl ?_); refine bx 2 #[.int .i64 a0_0, .int .i64 a0_1, .int .i64 a0_2, .slice A0_3 l0_3.length c0_3] 49 ?_; intro gb356 hg w3 hbox hb; have GW356 := bz w hg; have GE356 := bz w hg; replace HB := bs hb; have BK356 := am hbox; clear hb hbox hg))
 go_loopg [5] k (fun kq v5 w' => ∃ (x5_1 : Int), v5 = .int .i64 x5_1 ∧ Aside0 (spec_PieceAt.l0 kq a1 x5_1 a0_0 a0_1 a0_2 l0_3 = some r) ∧ Aside0 (kq ≤ k) ∧ Aside0 (w'.heap[gb356]? = some (.cells #[.int .i64 a0_0, .int .i64 a0_1, .int .i64 a0_2, (.slice A0_3 l0_3.length c0_3)] 49 (0, 0))) ∧ Aside0 (Below w.heap.size w w'))
 case atStart => exact ⟨(0), sc, H', kk0, ⟨sk BK356⟩, ⟨sbw⟩⟩
 case round =>
  clear H'
  obtain ⟨x5_1, rfl, HA, HK1, BK356, HB⟩ := hrel
  cases gk with
  | zero => exact absurd HA.out (by simp [spec_PieceAt.l0])
  | succ k1 =>
   have H := HA.out
   clear HA
   simp only [spec_PieceAt.l0] at H
   obtain ⟨-, c4b0, H⟩ | ⟨-, c4b0, H⟩ := ic_ H
   ·obtain ⟨c5b0, H⟩ := id_ H
    obtain ⟨t358, A6, H⟩ := bnd H
    obtain rfl | rfl := tt t358
    ·replace H := ip H
     obtain rfl := Option.some.inj H
     obtain ⟨hcz8_0, hcz8_1, hcz8_2, hcz8_3, hfz8_0, hfz8_1, hfz8_2, hfz8_3⟩ := cc4 BK356
     obtain ⟨p357, q357, ad357, A357_2, c357_2, A357_3, c357_3, e357, _, _, _, _, hx357_0, hx357_1, hx357_2, hx357_3, HC357_2, HR357_2, HC357_3, HR357_3⟩ := aT_T75 HR0_3 HB x5_1
     cases e357
     go_wp2_with (first | ((with_reducible refine gc 57 rfl ?_); refine gL (some 20) Try.func57 #[.agg #[.int .i64 ((rd_T75 l0_3 x5_1).f0.f0), .int .i64 ((rd_T75 l0_3 x5_1).f0.f1)], .int .i64 a1] ?_; (with_reducible refine (spec_InSpan.calls ((rd_T75 l0_3 x5_1).f0.f0) ((rd_T75 l0_3 x5_1).f0.f1) a1 true _ A6.out).mono ?_); rintro e w9 ⟨rfl, hb⟩; refine ⟨_, rfl, ?_⟩; replace BK356 := bb BK356 hb; replace HB := bsw hb; (try clear hb)))
     go_ret
     exact ⟨se, sbw⟩
    ·replace H := im H
     have H' := am H
     clear H
     obtain ⟨hcz10_0, hcz10_1, hcz10_2, hcz10_3, hfz10_0, hfz10_1, hfz10_2, hfz10_3⟩ := cc4 BK356
     obtain ⟨p357, q357, ad357, A357_2, c357_2, A357_3, c357_3, e357, _, _, _, _, hx357_0, hx357_1, hx357_2, hx357_3, HC357_2, HR357_2, HC357_3, HR357_3⟩ := aT_T75 HR0_3 HB x5_1
     cases e357
     go_wp2_with (first | ((with_reducible refine gc 57 rfl ?_); refine gL (some 20) Try.func57 #[.agg #[.int .i64 ((rd_T75 l0_3 x5_1).f0.f0), .int .i64 ((rd_T75 l0_3 x5_1).f0.f1)], .int .i64 a1] ?_; (with_reducible refine (spec_InSpan.calls ((rd_T75 l0_3 x5_1).f0.f0) ((rd_T75 l0_3 x5_1).f0.f1) a1 false _ A6.out).mono ?_); rintro e w11 ⟨rfl, hb⟩; refine ⟨_, rfl, ?_⟩; replace BK356 := bb BK356 hb; replace HB := bsw hb; (try clear hb)))
     go_roundg k1
     case measure => have := HK1.out; omega
     case rel => exact ⟨(wrap64 (x5_1 + 1)), sc, H', kk1, ⟨sk BK356⟩, ⟨sbw⟩⟩
   ·obtain rfl := Option.some.inj H
    obtain ⟨hcz12_0, hcz12_1, hcz12_2, hcz12_3, hfz12_0, hfz12_1, hfz12_2, hfz12_3⟩ := cc4 BK356
    go_wp2
    go_ret
    exact ⟨se, sbw⟩

end Go.Proofs.Ytohbccekdmdmbaa.QFnExactRepairHop
