/- Printed by a program of the session. Conditions: none. (squeezed). -/
import Derived.Test.YtiihaabhjphaeaaVFnProgramsQFnProgramsx3
namespace Go.Proofs.Ytiihaabhjphaeaa.QFnPrograms
set_option maxHeartbeats 8000000
set_option maxRecDepth 100000
open Go.RowKit Go.Proofs.YtiihaabhjphaeaaW.PrintWords Go.Proofs.YtiihaabhjphaeaaW.PrintLast Go.Proofs.YtiihaabhjphaeaaW.PrintMore Go.Proofs.Ytiihaabhjphaeaa.Open Go.Proofs.Ytiihaabhjphaeaa.Sq
attribute [local go_sem] max2_int min2_int max_two min_two max_three min_three max_four min_four   -- for this text's walks alone
attribute [local go_sem] isSome_set
set_option linter.unusedVariables false
set_option linter.unusedSimpArgs false

mutual
def impl_IsTable.j0 : Nat → Int → Int → Bool → Int → List Int → List Int → Option (Bool)
  | 0, _, _, _, _, _, _ => none
  | k + 1, x1, x2, x33, x692000, x692001, x692002 => if x33 = true then (some false) else (impl_IsTable.l0 k x1 x2 x692001 (x692001.length : Int) 0 x692000 x692001 x692002)
def impl_IsTable.l0 : Nat → Int → Int → List Int → Int → Int → Int → List Int → List Int → Option (Bool)
  | 0, _, _, _, _, _, _, _, _ => none
  | k + 1, x1, x2, x35, x36, x37, x692000, x692001, x692002 => if x37 < x36 then (if 0 ≤ x37 then (if x37 < (x35.length : Int) then (if x37 < (x692002.length : Int) then (if x37 = x692000 then (if (rd x35 x37) = 0 then (if (rd x692002 x37) = (-1) then (impl_IsTable.l0 k x1 x2 x35 x36 (wrap64 (x37 + 1)) x692000 x692001 x692002) else (some false)) else (some false)) else (if (rd x35 x37) = (-1) then (if (rd x692002 x37) = (-1) then (impl_IsTable.l0 k x1 x2 x35 x36 (wrap64 (x37 + 1)) x692000 x692001 x692002) else (some false)) else ((impl_InRange.f (rd x35 x37) 1 (wrap64 (x1 - 1))).bind fun t696 => (if t696 = true then ((impl_isIndex.f (rd x692002 x37) x1).bind fun t697 => (if t697 = true then (if (rd x692002 x37) ≥ x2 then (if (rd x692002 x37) = x692000 then (if 0 ≤ (rd x692002 x37) then (if (rd x692002 x37) < (x692001.length : Int) then (if (rd x692001 (rd x692002 x37)) = (wrap64 ((rd x35 x37) - 1)) then (impl_IsTable.l0 k x1 x2 x35 x36 (wrap64 (x37 + 1)) x692000 x692001 x692002) else (some false)) else (none)) else (none)) else (some false)) else (if 0 ≤ (rd x692002 x37) then (if (rd x692002 x37) < (x692001.length : Int) then (if (rd x692001 (rd x692002 x37)) = (wrap64 ((rd x35 x37) - 1)) then (impl_IsTable.l0 k x1 x2 x35 x36 (wrap64 (x37 + 1)) x692000 x692001 x692002) else (some false)) else (none)) else (none))) else (some false))) else (some false))))) else (none)) else (none)) else (none)) else (some true)
end
def impl_IsTable.f (k : Nat) (a0_0 : Int) (l0_1 : List Int) (l0_2 : List Int) (a1 : Int) (a2 : Int) : Option (Bool) := (impl_isNumber.f a1).bind fun t692 => (if t692 = true then ((impl_isIndex.f a0_0 a1).bind fun t693 => (if t693 = true then (if (l0_1.length : Int) = a1 then (impl_IsTable.j0 k a1 a2 ((l0_2.length : Int) != a1) a0_0 l0_1 l0_2) else (impl_IsTable.j0 k a1 a2 true a0_0 l0_1 l0_2)) else (impl_IsTable.j0 k a1 a2 true a0_0 l0_1 l0_2))) else (impl_IsTable.j0 k a1 a2 true a0_0 l0_1 l0_2))
theorem impl_IsTable.mono_l : ∀ k, (∀ y0 y1 y2 y3 y4 y5, LeO (impl_IsTable.j0 k y0 y1 y2 y3 y4 y5) (impl_IsTable.j0 (k + 1) y0 y1 y2 y3 y4 y5)) ∧ (∀ y0 y1 y2 y3 y4 y5 y6 y7, LeO (impl_IsTable.l0 k y0 y1 y2 y3 y4 y5 y6 y7) (impl_IsTable.l0 (k + 1) y0 y1 y2 y3 y4 y5 y6 y7))
  | 0 => ⟨fun _ _ _ _ _ _ r h => by simp [impl_IsTable.j0] at h, fun _ _ _ _ _ _ _ _ r h => by simp [impl_IsTable.l0] at h⟩
  | k + 1 => by
    obtain ⟨ih0, ih1⟩ := impl_IsTable.mono_l k
    refine ⟨?_, ?_⟩
    · intro y0 y1 y2 y3 y4 y5
      unfold impl_IsTable.j0
      exact mo
    · intro y0 y1 y2 y3 y4 y5 y6 y7
      unfold impl_IsTable.l0
      exact mo
theorem impl_IsTable.mono : ∀ a0 a1 a2 a3 a4 k, LeO (impl_IsTable.f k a0 a1 a2 a3 a4) (impl_IsTable.f (k + 1) a0 a1 a2 a3 a4) := by
  intro a0 a1 a2 a3 a4 k
  obtain ⟨ih0, ih1⟩ := impl_IsTable.mono_l k
  unfold impl_IsTable.f
  exact mo
theorem impl_IsTable.calls (k : Nat) (a0_0 : Int) (A0_1 : Option Addr) (c0_1 : Nat) (l0_1 : List Int) (A0_2 : Option Addr) (c0_2 : Nat) (l0_2 : List Int) (a1 : Int) (a2 : Int) (r : Bool) (w : World) (hr0_1 : Kd.C (Kd.int .i64) w A0_1 l0_1.length l0_1) (hc0_1 : l0_1.length ≤ c0_1) (hr0_2 : Kd.C (Kd.int .i64) w A0_2 l0_2.length l0_2) (hc0_2 : l0_2.length ≤ c0_2) (h : impl_IsTable.f k a0_0 l0_1 l0_2 a1 a2 = some r) :
    Calls Try.prog 49 #[.agg #[.int .i64 a0_0, .slice A0_1 l0_1.length c0_1, .slice A0_2 l0_2.length c0_2], .int .i64 a1, .int .i64 a2] w fun e w' => e = .returned (.bool r) ∧ Below w.heap.size w w' := by
 have hu55 := Try.underlying55
 have HR0_1 := am hr0_1
 have HC0_1 := am hc0_1
 clear hr0_1 hc0_1
 have HR0_2 := am hr0_2
 have HC0_2 := am hc0_2
 clear hr0_2 hc0_2
 have HB := am (Below.refl w.heap.size w)
 have H := h; unfold impl_IsTable.f at H
 clear h
 have HC4 := am H
 clear H
 go_enter Try.func49, Try.ntmps49
 go_upto_region 1 with (first | ((with_reducible refine gd 3 rfl ?_); (try (refine gate_guard (by rfl) ?_; dsimp only)); refine bx 3 #[.int .i64 a0_0, .slice A0_1 l0_1.length c0_1, .slice A0_2 l0_2.length c0_2] 55 ?_; intro gb691 hg w5 hbox hb; have GW691 := bz w hg; have GE691 := bz w hg; replace HB := bs hb; have BK691 := am hbox; clear hb hbox hg))
 (try simp only [Act.put, List.setIfInBounds_toArray, List.set_cons_zero, List.set_cons_succ])
 go_cut [33] (fun v33 wc => ∃ (kq : Nat) (x33_3 : Bool), v33 = .bool x33_3 ∧ Aside0 (impl_IsTable.j0 kq a1 a2 x33_3 a0_0 l0_1 l0_2 = some r) ∧ Aside0 (kq ≤ k) ∧ Aside0 (wc.heap[gb691]? = some (.cells #[.int .i64 a0_0, (.slice A0_1 l0_1.length c0_1), (.slice A0_2 l0_2.length c0_2)] 55 (0, 0))) ∧ Aside0 (Below w.heap.size w wc))
 case first =>
  have H := HC4.out
  clear HC4
  obtain ⟨t692, A6, H⟩ := bnd H
  obtain rfl | rfl := tt t692
  ·replace H := ip H
   obtain ⟨t693, A8, H⟩ := bnd H
   obtain rfl | rfl := tt t693
   ·replace H := ip H
    obtain ⟨c10, H⟩ | ⟨c10, H⟩ := ie_ H
    ·have c10b0 : ((l0_1.length : Int) == a1) = true := beq_iff_eq.mpr c10
     have c10b1 : ((l0_1.length : Int) != a1) = false := bne_eq_false_iff_eq.mpr c10
     clear c10
     (first | rw [c10b0] | (simp only [i64_w, i32_w]; rw [c10b0]) | rw [c10b1] | skip)
     have H' := am H
     clear H
     go_wp2_with (first | ((with_reducible refine gc 120 rfl ?_); refine gL (some 11) Try.func120 #[.int .i64 a1] ?_; (with_reducible refine (impl_isNumber.calls a1 true _ A6.out).mono ?_); rintro e w' ⟨rfl, ⟨nd, rfl⟩⟩; refine ⟨_, rfl, ?_⟩; obtain ⟨hcz11_0, hcz11_1, hcz11_2, hfz11_0, hfz11_1, hfz11_2⟩ := cc3 BK691) | (go_at_call 77; (with_reducible refine (impl_isIndex.calls a0_0 a1 true _ A8.out).mono ?_); rintro e w' ⟨rfl, ⟨nd, rfl⟩⟩))
     go_meet
     case rel => exact ⟨_, (((l0_2.length : Int) != a1)), sc, H', ⟨by first | omega | exact Nat.le_refl _⟩, ⟨sk BK691⟩, ⟨sbw⟩⟩
    ·have c10b0 : ((l0_1.length : Int) == a1) = false := beq_eq_false_iff_ne.mpr c10
     have c10b1 : ((l0_1.length : Int) != a1) = true := bne_iff_ne.mpr c10
     (first | rw [c10b0] | (simp only [i64_w, i32_w]; rw [c10b0]) | rw [c10b1] | skip)
     have H' := am H
     clear H
     go_wp2_with (first | ((with_reducible refine gc 120 rfl ?_); refine gL (some 11) Try.func120 #[.int .i64 a1] ?_; (with_reducible refine (impl_isNumber.calls a1 true _ A6.out).mono ?_); rintro e w' ⟨rfl, ⟨nd, rfl⟩⟩; refine ⟨_, rfl, ?_⟩; obtain ⟨hcz12_0, hcz12_1, hcz12_2, hfz12_0, hfz12_1, hfz12_2⟩ := cc3 BK691) | (go_at_call 77; (with_reducible refine (impl_isIndex.calls a0_0 a1 true _ A8.out).mono ?_); rintro e w' ⟨rfl, ⟨nd, rfl⟩⟩))
     go_meet
     case rel => exact ⟨_, (true), sc, H', ⟨by first | omega | exact Nat.le_refl _⟩, ⟨sk BK691⟩, ⟨sbw⟩⟩
   ·replace H := im H
    have H' := am H
    clear H
    go_wp2_with (first | ((with_reducible refine gc 120 rfl ?_); refine gL (some 11) Try.func120 #[.int .i64 a1] ?_; (with_reducible refine (impl_isNumber.calls a1 true _ A6.out).mono ?_); rintro e w' ⟨rfl, ⟨nd, rfl⟩⟩; refine ⟨_, rfl, ?_⟩; obtain ⟨hcz13_0, hcz13_1, hcz13_2, hfz13_0, hfz13_1, hfz13_2⟩ := cc3 BK691) | (go_at_call 77; (with_reducible refine (impl_isIndex.calls a0_0 a1 false _ A8.out).mono ?_); rintro e w' ⟨rfl, ⟨nd, rfl⟩⟩))
    go_meet
    case rel => exact ⟨_, (true), sc, H', ⟨by first | omega | exact Nat.le_refl _⟩, ⟨sk BK691⟩, ⟨sbw⟩⟩
  ·replace H := im H
   have H' := am H
   clear H
   go_wp2_with (first | ((with_reducible refine gc 120 rfl ?_); refine gL (some 11) Try.func120 #[.int .i64 a1] ?_; (with_reducible refine (impl_isNumber.calls a1 false _ A6.out).mono ?_); rintro e w' ⟨rfl, ⟨nd, rfl⟩⟩; refine ⟨_, rfl, ?_⟩))
   go_meet
   case rel => exact ⟨_, (true), sc, H', ⟨by first | omega | exact Nat.le_refl _⟩, ⟨sk BK691⟩, ⟨sbw⟩⟩
 case rest =>
  clear HC4
  try clear c10
  try clear c10b0
  try clear c10b1
  try clear hcz11_0
  try clear hcz11_1
  try clear hcz11_2
  try clear hcz12_0
  try clear hcz12_1
  try clear hcz12_2
  try clear hcz13_0
  try clear hcz13_1
  try clear hcz13_2
  try clear hfz11_0
  try clear hfz11_1
  try clear hfz11_2
  try clear hfz12_0
  try clear hfz12_1
  try clear hfz12_2
  try clear hfz13_0
  try clear hfz13_1
  try clear hfz13_2
  obtain ⟨kq, x33_3, rfl, HA, HJ3, BK691, HB⟩ := hcut
  cases kq with
  | zero => exact absurd HA.out (by simp [impl_IsTable.j0])
  | succ kj3 =>
   have H := HA.out
   clear HA
   simp only [impl_IsTable.j0] at H
   obtain rfl | rfl := tt x33_3
   ·replace H := ip H
    obtain rfl := Option.some.inj H
    go_wp2
    go_ret
    exact ⟨se, sbw⟩
   ·replace H := im H
    have H' := am H
    clear H
    obtain ⟨hcz15_0, hcz15_1, hcz15_2, hfz15_0, hfz15_1, hfz15_2⟩ := cc3 BK691
    go_wp2
    go_loopg [37] kj3 (fun kq v37 w' => ∃ (x37_2 : Int), v37 = .int .i64 x37_2 ∧ Aside0 (impl_IsTable.l0 kq a1 a2 l0_1 (l0_1.length : Int) x37_2 a0_0 l0_1 l0_2 = some r) ∧ Aside0 (kq ≤ kj3) ∧ Aside0 (w'.heap[gb691]? = some (.cells #[.int .i64 a0_0, (.slice A0_1 l0_1.length c0_1), (.slice A0_2 l0_2.length c0_2)] 55 (0, 0))) ∧ Aside0 (Below w.heap.size w w'))
    case atStart => exact ⟨(0), sc, H', kk0, ⟨sk BK691⟩, ⟨sbw⟩⟩
    case round =>
     clear H'
     try clear c10
     try clear c10b0
     try clear c10b1
     try clear hcz11_0
     try clear hcz11_1
     try clear hcz11_2
     try clear hcz12_0
     try clear hcz12_1
     try clear hcz12_2
     try clear hcz13_0
     try clear hcz13_1
     try clear hcz13_2
     try clear hcz15_0
     try clear hcz15_1
     try clear hcz15_2
     try clear hfz11_0
     try clear hfz11_1
     try clear hfz11_2
     try clear hfz12_0
     try clear hfz12_1
     try clear hfz12_2
     try clear hfz13_0
     try clear hfz13_1
     try clear hfz13_2
     try clear hfz15_0
     try clear hfz15_1
     try clear hfz15_2
     obtain ⟨x37_2, rfl, HA, HK2, BK691, HB⟩ := hrel
     cases gk with
     | zero => exact absurd HA.out (by simp [impl_IsTable.l0])
     | succ k2 =>
      have H := HA.out
      clear HA
      simp only [impl_IsTable.l0] at H
      obtain ⟨c16, H⟩ | ⟨c16, H⟩ := ie_ H
      ·have c16b0 := decide_eq_true c16
       clear c16
       obtain ⟨c17b0, H⟩ := id_ H
       obtain ⟨c18b0, H⟩ := id_ H
       obtain ⟨c19b0, H⟩ := id_ H
       obtain ⟨c20, H⟩ | ⟨c20, H⟩ := ie_ H
       ·have c20b0 : (x37_2 == a0_0) = true := beq_iff_eq.mpr c20
        have c20b1 : (x37_2 != a0_0) = false := bne_eq_false_iff_eq.mpr c20
        clear c20
        obtain ⟨c21, H⟩ | ⟨c21, H⟩ := ie_ H
        ·have c21b0 : ((rd l0_1 x37_2) == 0) = true := beq_iff_eq.mpr c21
         have c21b1 : ((rd l0_1 x37_2) != 0) = false := bne_eq_false_iff_eq.mpr c21
         clear c21
         obtain ⟨c22, H⟩ | ⟨c22, H⟩ := ie_ H
         ·have c22b0 : ((rd l0_2 x37_2) == (-1)) = true := beq_iff_eq.mpr c22
          have c22b1 : ((rd l0_2 x37_2) != (-1)) = false := bne_eq_false_iff_eq.mpr c22
          clear c22
          have H' := am H
          clear H
          obtain ⟨p694, q694, ad694, e694, _, hx694_0⟩ := at_i HR0_1 HB x37_2
          cases e694
          obtain ⟨hcz23_0, hcz23_1, hcz23_2, hfz23_0, hfz23_1, hfz23_2⟩ := cc3 BK691
          obtain ⟨p695, q695, ad695, e695, _, hx695_0⟩ := at_i HR0_2 HB x37_2
          cases e695
          go_wp2
          go_roundg k2
          case measure => have := HJ3.out; have := HK2.out; omega
          case rel => exact ⟨(wrap64 (x37_2 + 1)), sc, H', ⟨by have := HJ3.out; have := HK2.out; omega⟩, ⟨sk BK691⟩, ⟨sbw⟩⟩
         ·have c22b0 : ((rd l0_2 x37_2) == (-1)) = false := beq_eq_false_iff_ne.mpr c22
          have c22b1 : ((rd l0_2 x37_2) != (-1)) = true := bne_iff_ne.mpr c22
          obtain rfl := Option.some.inj H
          obtain ⟨p694, q694, ad694, e694, _, hx694_0⟩ := at_i HR0_1 HB x37_2
          cases e694
          obtain ⟨hcz24_0, hcz24_1, hcz24_2, hfz24_0, hfz24_1, hfz24_2⟩ := cc3 BK691
          obtain ⟨p695, q695, ad695, e695, _, hx695_0⟩ := at_i HR0_2 HB x37_2
          cases e695
          go_wp2
          go_ret
          exact ⟨se, sbw⟩
        ·have c21b0 : ((rd l0_1 x37_2) == 0) = false := beq_eq_false_iff_ne.mpr c21
         have c21b1 : ((rd l0_1 x37_2) != 0) = true := bne_iff_ne.mpr c21
         obtain rfl := Option.some.inj H
         obtain ⟨p694, q694, ad694, e694, _, hx694_0⟩ := at_i HR0_1 HB x37_2
         cases e694
         obtain ⟨hcz25_0, hcz25_1, hcz25_2, hfz25_0, hfz25_1, hfz25_2⟩ := cc3 BK691
         obtain ⟨p695, q695, ad695, e695, _, hx695_0⟩ := at_i HR0_2 HB x37_2
         cases e695
         go_wp2
         go_ret
         exact ⟨se, sbw⟩
       ·have c20b0 : (x37_2 == a0_0) = false := beq_eq_false_iff_ne.mpr c20
        have c20b1 : (x37_2 != a0_0) = true := bne_iff_ne.mpr c20
        obtain ⟨c26, H⟩ | ⟨c26, H⟩ := ie_ H
        ·have c26b0 : ((rd l0_1 x37_2) == (-1)) = true := beq_iff_eq.mpr c26
         have c26b1 : ((rd l0_1 x37_2) != (-1)) = false := bne_eq_false_iff_eq.mpr c26
         clear c26
         obtain ⟨c27, H⟩ | ⟨c27, H⟩ := ie_ H
         ·have c27b0 : ((rd l0_2 x37_2) == (-1)) = true := beq_iff_eq.mpr c27
          have c27b1 : ((rd l0_2 x37_2) != (-1)) = false := bne_eq_false_iff_eq.mpr c27
          clear c27
          have H' := am H
          clear H
          obtain ⟨p694, q694, ad694, e694, _, hx694_0⟩ := at_i HR0_1 HB x37_2
          cases e694
          obtain ⟨hcz28_0, hcz28_1, hcz28_2, hfz28_0, hfz28_1, hfz28_2⟩ := cc3 BK691
          obtain ⟨p695, q695, ad695, e695, _, hx695_0⟩ := at_i HR0_2 HB x37_2
          cases e695
          go_wp2
          go_roundg k2
          case measure => have := HJ3.out; have := HK2.out; omega
          case rel => exact ⟨(wrap64 (x37_2 + 1)), sc, H', ⟨by have := HJ3.out; have := HK2.out; omega⟩, ⟨sk BK691⟩, ⟨sbw⟩⟩
         ·have c27b0 : ((rd l0_2 x37_2) == (-1)) = false := beq_eq_false_iff_ne.mpr c27
          have c27b1 : ((rd l0_2 x37_2) != (-1)) = true := bne_iff_ne.mpr c27
          obtain rfl := Option.some.inj H
          obtain ⟨p694, q694, ad694, e694, _, hx694_0⟩ := at_i HR0_1 HB x37_2
          cases e694
          obtain ⟨hcz29_0, hcz29_1, hcz29_2, hfz29_0, hfz29_1, hfz29_2⟩ := cc3 BK691
          obtain ⟨p695, q695, ad695, e695, _, hx695_0⟩ := at_i HR0_2 HB x37_2
          cases e695
          go_wp2
          go_ret
          exact ⟨se, sbw⟩
        ·have c26b0 : ((rd l0_1 x37_2) == (-1)) = false := beq_eq_false_iff_ne.mpr c26
         have c26b1 : ((rd l0_1 x37_2) != (-1)) = true := bne_iff_ne.mpr c26
         obtain ⟨t696, A30, H⟩ := bnd H
         obtain rfl | rfl := tt t696
         ·replace H := ip H
          obtain ⟨t697, A32, H⟩ := bnd H
          obtain rfl | rfl := tt t697
          ·replace H := ip H
           obtain ⟨c34, H⟩ | ⟨c34, H⟩ := ie_ H
           ·have c34b0 := decide_eq_true c34
            clear c34
            obtain ⟨c35, H⟩ | ⟨c35, H⟩ := ie_ H
            ·have c35b0 : ((rd l0_2 x37_2) == a0_0) = true := beq_iff_eq.mpr c35
             have c35b1 : ((rd l0_2 x37_2) != a0_0) = false := bne_eq_false_iff_eq.mpr c35
             clear c35
             obtain ⟨c36b0, H⟩ := id_ H
             obtain ⟨c37b0, H⟩ := id_ H
             obtain ⟨c38, H⟩ | ⟨c38, H⟩ := ie_ H
             ·have c38b0 : ((rd l0_1 (rd l0_2 x37_2)) == (wrap64 ((rd l0_1 x37_2) - 1))) = true := beq_iff_eq.mpr c38
              have c38b1 : ((rd l0_1 (rd l0_2 x37_2)) != (wrap64 ((rd l0_1 x37_2) - 1))) = false := bne_eq_false_iff_eq.mpr c38
              clear c38
              have H' := am H
              clear H
              obtain ⟨p694, q694, ad694, e694, _, hx694_0⟩ := at_i HR0_1 HB x37_2
              cases e694
              obtain ⟨hcz39_0, hcz39_1, hcz39_2, hfz39_0, hfz39_1, hfz39_2⟩ := cc3 BK691
              obtain ⟨p695, q695, ad695, e695, _, hx695_0⟩ := at_i HR0_2 HB x37_2
              cases e695
              go_wp2_with (first | ((with_reducible refine gc 95 rfl ?_); refine gL (some 50) Try.func95 #[.int .i64 (rd l0_1 x37_2), .int .i64 1, .int .i64 (wrap64 (a1 - 1))] ?_; (with_reducible refine (impl_InRange.calls (rd l0_1 x37_2) 1 (wrap64 (a1 - 1)) true _ A30.out).mono ?_); rintro e w' ⟨rfl, ⟨nd, rfl⟩⟩; refine ⟨_, rfl, ?_⟩) | (go_at_call 77; (with_reducible refine (impl_isIndex.calls (rd l0_2 x37_2) a1 true _ A32.out).mono ?_); rintro e w' ⟨rfl, ⟨nd, rfl⟩⟩; obtain ⟨p698, q698, ad698, e698, _, hx698_0⟩ := at_i HR0_1 HB (rd l0_2 x37_2); obtain rfl : ad694 = ad698 := (by injection e698)))
              go_roundg k2
              case measure => have := HJ3.out; have := HK2.out; omega
              case rel => exact ⟨(wrap64 (x37_2 + 1)), sc, H', ⟨by have := HJ3.out; have := HK2.out; omega⟩, ⟨sk BK691⟩, ⟨sbw⟩⟩
             ·have c38b0 : ((rd l0_1 (rd l0_2 x37_2)) == (wrap64 ((rd l0_1 x37_2) - 1))) = false := beq_eq_false_iff_ne.mpr c38
              have c38b1 : ((rd l0_1 (rd l0_2 x37_2)) != (wrap64 ((rd l0_1 x37_2) - 1))) = true := bne_iff_ne.mpr c38
              obtain rfl := Option.some.inj H
              obtain ⟨p694, q694, ad694, e694, _, hx694_0⟩ := at_i HR0_1 HB x37_2
              cases e694
              obtain ⟨hcz40_0, hcz40_1, hcz40_2, hfz40_0, hfz40_1, hfz40_2⟩ := cc3 BK691
              obtain ⟨p695, q695, ad695, e695, _, hx695_0⟩ := at_i HR0_2 HB x37_2
              cases e695
              go_wp2_with (first | ((with_reducible refine gc 95 rfl ?_); refine gL (some 50) Try.func95 #[.int .i64 (rd l0_1 x37_2), .int .i64 1, .int .i64 (wrap64 (a1 - 1))] ?_; (with_reducible refine (impl_InRange.calls (rd l0_1 x37_2) 1 (wrap64 (a1 - 1)) true _ A30.out).mono ?_); rintro e w' ⟨rfl, ⟨nd, rfl⟩⟩; refine ⟨_, rfl, ?_⟩) | (go_at_call 77; (with_reducible refine (impl_isIndex.calls (rd l0_2 x37_2) a1 true _ A32.out).mono ?_); rintro e w' ⟨rfl, ⟨nd, rfl⟩⟩; obtain ⟨p698, q698, ad698, e698, _, hx698_0⟩ := at_i HR0_1 HB (rd l0_2 x37_2); obtain rfl : ad694 = ad698 := (by injection e698)))
              go_ret
              exact ⟨se, sbw⟩
            ·have c35b0 : ((rd l0_2 x37_2) == a0_0) = false := beq_eq_false_iff_ne.mpr c35
             have c35b1 : ((rd l0_2 x37_2) != a0_0) = true := bne_iff_ne.mpr c35
             obtain rfl := Option.some.inj H
             obtain ⟨p694, q694, ad694, e694, _, hx694_0⟩ := at_i HR0_1 HB x37_2
             cases e694
             obtain ⟨hcz41_0, hcz41_1, hcz41_2, hfz41_0, hfz41_1, hfz41_2⟩ := cc3 BK691
             obtain ⟨p695, q695, ad695, e695, _, hx695_0⟩ := at_i HR0_2 HB x37_2
             cases e695
             go_wp2_with (first | ((with_reducible refine gc 95 rfl ?_); refine gL (some 50) Try.func95 #[.int .i64 (rd l0_1 x37_2), .int .i64 1, .int .i64 (wrap64 (a1 - 1))] ?_; (with_reducible refine (impl_InRange.calls (rd l0_1 x37_2) 1 (wrap64 (a1 - 1)) true _ A30.out).mono ?_); rintro e w' ⟨rfl, ⟨nd, rfl⟩⟩; refine ⟨_, rfl, ?_⟩) | (go_at_call 77; (with_reducible refine (impl_isIndex.calls (rd l0_2 x37_2) a1 true _ A32.out).mono ?_); rintro e w' ⟨rfl, ⟨nd, rfl⟩⟩))
             go_ret
             exact ⟨se, sbw⟩
           ·have c34b0 := decide_eq_false c34
            clear c34
            obtain ⟨c42b0, H⟩ := id_ H
            obtain ⟨c43b0, H⟩ := id_ H
            obtain ⟨c44, H⟩ | ⟨c44, H⟩ := ie_ H
            ·have c44b0 : ((rd l0_1 (rd l0_2 x37_2)) == (wrap64 ((rd l0_1 x37_2) - 1))) = true := beq_iff_eq.mpr c44
             have c44b1 : ((rd l0_1 (rd l0_2 x37_2)) != (wrap64 ((rd l0_1 x37_2) - 1))) = false := bne_eq_false_iff_eq.mpr c44
             clear c44
             have H' := am H
             clear H
             obtain ⟨p694, q694, ad694, e694, _, hx694_0⟩ := at_i HR0_1 HB x37_2
             cases e694
             obtain ⟨hcz45_0, hcz45_1, hcz45_2, hfz45_0, hfz45_1, hfz45_2⟩ := cc3 BK691
             obtain ⟨p695, q695, ad695, e695, _, hx695_0⟩ := at_i HR0_2 HB x37_2
             cases e695
             go_wp2_with (first | ((with_reducible refine gc 95 rfl ?_); refine gL (some 50) Try.func95 #[.int .i64 (rd l0_1 x37_2), .int .i64 1, .int .i64 (wrap64 (a1 - 1))] ?_; (with_reducible refine (impl_InRange.calls (rd l0_1 x37_2) 1 (wrap64 (a1 - 1)) true _ A30.out).mono ?_); rintro e w' ⟨rfl, ⟨nd, rfl⟩⟩; refine ⟨_, rfl, ?_⟩) | (go_at_call 77; (with_reducible refine (impl_isIndex.calls (rd l0_2 x37_2) a1 true _ A32.out).mono ?_); rintro e w' ⟨rfl, ⟨nd, rfl⟩⟩; obtain ⟨p699, q699, ad699, e699, _, hx699_0⟩ := at_i HR0_1 HB (rd l0_2 x37_2); obtain rfl : ad694 = ad699 := (by injection e699)))
             go_roundg k2
             case measure => have := HJ3.out; have := HK2.out; omega
             case rel => exact ⟨(wrap64 (x37_2 + 1)), sc, H', ⟨by have := HJ3.out; have := HK2.out; omega⟩, ⟨sk BK691⟩, ⟨sbw⟩⟩
            ·have c44b0 : ((rd l0_1 (rd l0_2 x37_2)) == (wrap64 ((rd l0_1 x37_2) - 1))) = false := beq_eq_false_iff_ne.mpr c44
             have c44b1 : ((rd l0_1 (rd l0_2 x37_2)) != (wrap64 ((rd l0_1 x37_2) - 1))) = true := bne_iff_ne.mpr c44
             obtain rfl := Option.some.inj H
             obtain ⟨p694, q694, ad694, e694, _, hx694_0⟩ := at_i HR0_1 HB x37_2
             cases e694
             obtain ⟨hcz46_0, hcz46_1, hcz46_2, hfz46_0, hfz46_1, hfz46_2⟩ := cc3 BK691
             obtain ⟨p695, q695, ad695, e695, _, hx695_0⟩ := at_i HR0_2 HB x37_2
             cases e695
             go_wp2_with (first | ((with_reducible refine gc 95 rfl ?_); refine gL (some 50) Try.func95 #[.int .i64 (rd l0_1 x37_2), .int .i64 1, .int .i64 (wrap64 (a1 - 1))] ?_; (with_reducible refine (impl_InRange.calls (rd l0_1 x37_2) 1 (wrap64 (a1 - 1)) true _ A30.out).mono ?_); rintro e w' ⟨rfl, ⟨nd, rfl⟩⟩; refine ⟨_, rfl, ?_⟩) | (go_at_call 77; (with_reducible refine (impl_isIndex.calls (rd l0_2 x37_2) a1 true _ A32.out).mono ?_); rintro e w' ⟨rfl, ⟨nd, rfl⟩⟩; obtain ⟨p699, q699, ad699, e699, _, hx699_0⟩ := at_i HR0_1 HB (rd l0_2 x37_2); obtain rfl : ad694 = ad699 := (by injection e699)))
             go_ret
             exact ⟨se, sbw⟩
          ·replace H := im H
           obtain rfl := Option.some.inj H
           obtain ⟨p694, q694, ad694, e694, _, hx694_0⟩ := at_i HR0_1 HB x37_2
           cases e694
           obtain ⟨hcz47_0, hcz47_1, hcz47_2, hfz47_0, hfz47_1, hfz47_2⟩ := cc3 BK691
           obtain ⟨p695, q695, ad695, e695, _, hx695_0⟩ := at_i HR0_2 HB x37_2
           cases e695
           go_wp2_with (first | ((with_reducible refine gc 95 rfl ?_); refine gL (some 50) Try.func95 #[.int .i64 (rd l0_1 x37_2), .int .i64 1, .int .i64 (wrap64 (a1 - 1))] ?_; (with_reducible refine (impl_InRange.calls (rd l0_1 x37_2) 1 (wrap64 (a1 - 1)) true _ A30.out).mono ?_); rintro e w' ⟨rfl, ⟨nd, rfl⟩⟩; refine ⟨_, rfl, ?_⟩) | (go_at_call 77; (with_reducible refine (impl_isIndex.calls (rd l0_2 x37_2) a1 false _ A32.out).mono ?_); rintro e w' ⟨rfl, ⟨nd, rfl⟩⟩))
           go_ret
           exact ⟨se, sbw⟩
         ·replace H := im H
          obtain rfl := Option.some.inj H
          obtain ⟨p694, q694, ad694, e694, _, hx694_0⟩ := at_i HR0_1 HB x37_2
          cases e694
          obtain ⟨hcz48_0, hcz48_1, hcz48_2, hfz48_0, hfz48_1, hfz48_2⟩ := cc3 BK691
          obtain ⟨p695, q695, ad695, e695, _, hx695_0⟩ := at_i HR0_2 HB x37_2
          cases e695
          go_wp2_with (first | ((with_reducible refine gc 95 rfl ?_); refine gL (some 50) Try.func95 #[.int .i64 (rd l0_1 x37_2), .int .i64 1, .int .i64 (wrap64 (a1 - 1))] ?_; (with_reducible refine (impl_InRange.calls (rd l0_1 x37_2) 1 (wrap64 (a1 - 1)) false _ A30.out).mono ?_); rintro e w' ⟨rfl, ⟨nd, rfl⟩⟩; refine ⟨_, rfl, ?_⟩))
          go_ret
          exact ⟨se, sbw⟩
      ·have c16b0 := decide_eq_false c16
       clear c16
       obtain rfl := Option.some.inj H
       go_wp2
       go_ret
       exact ⟨se, sbw⟩

end Go.Proofs.Ytiihaabhjphaeaa.QFnPrograms
