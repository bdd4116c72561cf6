/- Printed by a program of the session. Conditions: none. (squeezed). -/
import Derived.Test.YtohbccekdmdmbaaVFnExactCountAltsQFnExactCountAltsx5
namespace Go.Proofs.Ytohbccekdmdmbaa.QFnExactCountAlts
set_option maxHeartbeats 8000000
set_option maxRecDepth 100000
open Go.RowKit Go.Proofs.YtohbccekdmdmbaaW.PrintWords Go.Proofs.YtohbccekdmdmbaaW.PrintLast Go.Proofs.YtohbccekdmdmbaaW.PrintMore Go.Proofs.Ytohbccekdmdmbaa.Open Go.Proofs.Ytohbccekdmdmbaa.Sq
attribute [local go_sem] max2_int min2_int max_two min_two max_three min_three max_four min_four   -- for this text's walks alone
attribute [local go_sem] isSome_set
set_option linter.unusedVariables false
set_option linter.unusedSimpArgs false

theorem a6_0 {P : Prop} (h : P := by first | simpa using c3 | (simp at c3 ⊢; omega)) : P := h
def impl_CountAlts.l0 : Nat → List (S55) → Int → Int → Int → Int → Int → List Int → List Int → Option (Int)
  | 0, _, _, _, _, _, _, _, _ => none
  | k + 1, x1, x2, x7, x11, x12, x323000, x323001, x323002 => if x12 < x11 then ((impl_AltsOf.f k x323000 x323001 x323002 x1 x2 x12).bind fun t323 => (if (t323.length : Int) > 0 then (impl_CountAlts.l0 k x1 x2 (wrap64 (x7 + 1)) x11 (wrap64 (x12 + 1)) x323000 x323001 x323002) else (impl_CountAlts.l0 k x1 x2 x7 x11 (wrap64 (x12 + 1)) x323000 x323001 x323002))) else (some x7)
def impl_CountAlts.f (k : Nat) (a0_0 : Int) (l0_1 : List Int) (l0_2 : List Int) (l1 : List (S55)) (a2 : Int) : Option (Int) := impl_CountAlts.l0 k l1 a2 0 (l0_2.length : Int) 0 a0_0 l0_1 l0_2
theorem impl_CountAlts.mono_l : ∀ k, (∀ y0 y1 y2 y3 y4 y5 y6 y7, LeO (impl_CountAlts.l0 k y0 y1 y2 y3 y4 y5 y6 y7) (impl_CountAlts.l0 (k + 1) y0 y1 y2 y3 y4 y5 y6 y7))
  | 0 => fun _ _ _ _ _ _ _ _ r h => by simp [impl_CountAlts.l0] at h
  | k + 1 => by
    have ih0 := impl_CountAlts.mono_l k
    · intro y0 y1 y2 y3 y4 y5 y6 y7
      unfold impl_CountAlts.l0
      have m0 := @impl_AltsOf.mono
      exact mo
theorem impl_CountAlts.mono : ∀ a0 a1 a2 a3 a4 k, LeO (impl_CountAlts.f k a0 a1 a2 a3 a4) (impl_CountAlts.f (k + 1) a0 a1 a2 a3 a4) := by
  intro a0 a1 a2 a3 a4 k
  have ih0 := impl_CountAlts.mono_l k
  unfold impl_CountAlts.f
  have m0 := @impl_AltsOf.mono
  exact mo
theorem impl_CountAlts.calls (k : Nat) (a0_0 : Int) (A0_1 : Option Addr) (c0_1 : Nat) (l0_1 : List Int) (A0_2 : Option Addr) (c0_2 : Nat) (l0_2 : List Int) (A1 : Option Addr) (c1 : Nat) (l1 : List (S55)) (a2 : Int) (r : Int) (w : World) (hr0_1 : Kd.C (Kd.int .i64) w A0_1 l0_1.length l0_1) (hc0_1 : l0_1.length ≤ c0_1) (hr0_2 : Kd.C (Kd.int .i64) w A0_2 l0_2.length l0_2) (hc0_2 : l0_2.length ≤ c0_2) (hr1 : Kd.C k55 w A1 l1.length l1) (hc1 : l1.length ≤ c1) (h : impl_CountAlts.f k a0_0 l0_1 l0_2 l1 a2 = some r) :
    Calls Try.prog 11 #[.agg #[.int .i64 a0_0, .slice A0_1 l0_1.length c0_1, .slice A0_2 l0_2.length c0_2], .slice A1 l1.length c1, .int .i64 a2] w fun e w' => e = .returned (.int .i64 r) ∧ Below w.heap.size w w' := by
 have hu29 := Try.underlying29
 have HR0_1 := am hr0_1
 have HC0_1 := am hc0_1
 clear hr0_1 hc0_1
 have HR0_2 := am hr0_2
 have HC0_2 := am hc0_2
 clear hr0_2 hc0_2
 have HR1 := am hr1
 have HC1 := am hc1
 clear hr1 hc1
 have HB := am (Below.refl w.heap.size w)
 have H := h; unfold impl_CountAlts.f at H
 clear h
 have H' := am H
 clear H
 go_enter Try.func11, Try.ntmps11
 go_wp2_with (first | ((with_reducible refine gd 3 rfl ?_); refine bx 3 #[.int .i64 a0_0, .slice A0_1 l0_1.length c0_1, .slice A0_2 l0_2.length c0_2] 29 ?_; intro gb322 hg w4 hbox hb; have GW322 := bz w hg; have GE322 := bz w hg; replace HB := bs hb; have BK322 := am hbox; clear hb hbox hg; obtain ⟨hcz5_0, hcz5_1, hcz5_2, hfz5_0, hfz5_1, hfz5_2⟩ := cc3 BK322))
 go_loopg [7, 12] k (fun kq v7 v12 w' => ∃ (x7_1 : Int) (x12_1 : Int), v7 = .int .i64 x7_1 ∧ v12 = .int .i64 x12_1 ∧ Aside0 (impl_CountAlts.l0 kq l1 a2 x7_1 (l0_2.length : Int) x12_1 a0_0 l0_1 l0_2 = some r) ∧ Aside0 (kq ≤ k) ∧ Aside0 (w'.heap[gb322]? = some (.cells #[.int .i64 a0_0, (.slice A0_1 l0_1.length c0_1), (.slice A0_2 l0_2.length c0_2)] 29 (0, 0))) ∧ Aside0 (Below w.heap.size w w'))
 case atStart => exact ⟨(0), (0), sc, sc, H', kk0, ⟨sk BK322⟩, ⟨sbw⟩⟩
 case round =>
  clear H'
  try clear hcz5_0
  try clear hcz5_1
  try clear hcz5_2
  try clear hfz5_0
  try clear hfz5_1
  try clear hfz5_2
  obtain ⟨x7_1, x12_1, rfl, rfl, HA, HK1, BK322, HB⟩ := hrel
  cases gk with
  | zero => exact absurd HA.out (by simp [impl_CountAlts.l0])
  | succ k1 =>
   have H := HA.out
   clear HA
   simp only [impl_CountAlts.l0] at H
   obtain ⟨-, c6b0, H⟩ | ⟨-, c6b0, H⟩ := ic_ H
   ·obtain ⟨t323, A7, H⟩ := bnd H
    obtain ⟨c8, c8b0, H⟩ | ⟨c8, c8b0, H⟩ := ic_ H
    ·have c8b1 : decide (0 < t323.length) = true := decide_eq_true (by omega)
     clear c8
     have H' := am H
     clear H
     obtain ⟨hcz9_0, hcz9_1, hcz9_2, hfz9_0, hfz9_1, hfz9_2⟩ := cc3 BK322
     go_wp2_with (first | ((with_reducible refine gc 15 rfl ?_); refine gL (some 19) Try.func15 #[.agg #[.int .i64 a0_0, .slice A0_1 l0_1.length c0_1, .slice A0_2 l0_2.length c0_2], .slice A1 l1.length c1, .int .i64 a2, .int .i64 x12_1] ?_; (with_reducible refine (impl_AltsOf.calls k1 a0_0 _ _ l0_1 _ _ l0_2 _ _ l1 a2 x12_1 t323 _ ?side1 ?side2 ?side3 ?side4 ?side5 ?side6 A7.out).mono ?_); (case side1 => exact cb HR0_1); (case side2 => exact HC0_1.out); (case side3 => exact cb HR0_2); (case side4 => exact HC0_2.out); (case side5 => exact cb HR1); (case side6 => exact HC1.out); rintro e w10 ⟨v324, rfl, ho0, hb⟩; refine ⟨_, rfl, ?_⟩; have HO325 := am (Kd.R_lower ho0 (below_size (sbw))); replace BK322 := bb BK322 hb; replace HB := bsw hb; (try clear hb); (try clear ho0); obtain ⟨Ao11, co11, eo11⟩ := Kd.R_slice HO325.out; subst eo11))
     go_roundg k1
     case measure => have := HK1.out; omega
     case rel => exact ⟨(wrap64 (x7_1 + 1)), (wrap64 (x12_1 + 1)), sc, sc, H', kk1, ⟨sk BK322⟩, ⟨sbw⟩⟩
    ·have c8b1 : decide (0 < t323.length) = false := decide_eq_false (by omega)
     clear c8
     have H' := am H
     clear H
     obtain ⟨hcz12_0, hcz12_1, hcz12_2, hfz12_0, hfz12_1, hfz12_2⟩ := cc3 BK322
     go_wp2_with (first | ((with_reducible refine gc 15 rfl ?_); refine gL (some 19) Try.func15 #[.agg #[.int .i64 a0_0, .slice A0_1 l0_1.length c0_1, .slice A0_2 l0_2.length c0_2], .slice A1 l1.length c1, .int .i64 a2, .int .i64 x12_1] ?_; (with_reducible refine (impl_AltsOf.calls k1 a0_0 _ _ l0_1 _ _ l0_2 _ _ l1 a2 x12_1 t323 _ ?side1 ?side2 ?side3 ?side4 ?side5 ?side6 A7.out).mono ?_); (case side1 => exact cb HR0_1); (case side2 => exact HC0_1.out); (case side3 => exact cb HR0_2); (case side4 => exact HC0_2.out); (case side5 => exact cb HR1); (case side6 => exact HC1.out); rintro e w13 ⟨v324, rfl, ho0, hb⟩; refine ⟨_, rfl, ?_⟩; have HO325 := am (Kd.R_lower ho0 (below_size (sbw))); replace BK322 := bb BK322 hb; replace HB := bsw hb; (try clear hb); (try clear ho0); obtain ⟨Ao14, co14, eo14⟩ := Kd.R_slice HO325.out; subst eo14))
     go_roundg k1
     case measure => have := HK1.out; omega
     case rel => exact ⟨(x7_1), (wrap64 (x12_1 + 1)), sc, sc, H', kk1, ⟨sk BK322⟩, ⟨sbw⟩⟩
   ·obtain rfl := Option.some.inj H
    go_wp2
    go_ret
    exact ⟨se, sbw⟩

def laws_eqIntS.l0 : Nat → List Int → List Int → Int → Option (Bool)
  | 0, _, _, _ => none
  | k + 1, x0, x1, x5 => if x5 < (x0.length : Int) then (if 0 ≤ x5 then (if x5 < (x1.length : Int) then (if (rd x0 x5) = (rd x1 x5) then (laws_eqIntS.l0 k x0 x1 (wrap64 (x5 + 1))) else (some false)) else (none)) else (none)) else (some true)
def laws_eqIntS.f (k : Nat) (l0 : List Int) (l1 : List Int) : Option (Bool) := if (l0.length : Int) = (l1.length : Int) then (laws_eqIntS.l0 k l0 l1 0) else (some false)
theorem laws_eqIntS.mono_l : ∀ k, (∀ y0 y1 y2, LeO (laws_eqIntS.l0 k y0 y1 y2) (laws_eqIntS.l0 (k + 1) y0 y1 y2))
  | 0 => fun _ _ _ r h => by simp [laws_eqIntS.l0] at h
  | k + 1 => by
    have ih0 := laws_eqIntS.mono_l k
    · intro y0 y1 y2
      unfold laws_eqIntS.l0
      exact mo
theorem laws_eqIntS.mono : ∀ a0 a1 k, LeO (laws_eqIntS.f k a0 a1) (laws_eqIntS.f (k + 1) a0 a1) := by
  intro a0 a1 k
  have ih0 := laws_eqIntS.mono_l k
  unfold laws_eqIntS.f
  exact mo
theorem laws_eqIntS.calls (k : Nat) (A0 : Option Addr) (c0 : Nat) (l0 : List Int) (A1 : Option Addr) (c1 : Nat) (l1 : List Int) (r : Bool) (w : World) (hr0 : Kd.C (Kd.int .i64) w A0 l0.length l0) (hc0 : l0.length ≤ c0) (hr1 : Kd.C (Kd.int .i64) w A1 l1.length l1) (hc1 : l1.length ≤ c1) (h : laws_eqIntS.f k l0 l1 = some r) :
    Calls Try.prog 16 #[.slice A0 l0.length c0, .slice A1 l1.length c1] w fun e w' => e = .returned (.bool r) ∧ Drawn0 w w' := by
 have HR0 := am hr0
 have HC0 := am hc0
 clear hr0 hc0
 have HR1 := am hr1
 have HC1 := am hc1
 clear hr1 hc1
 have H := h; unfold laws_eqIntS.f at H
 clear h
 obtain ⟨c3, c3b0, c3b1, H⟩ | ⟨c3, c3b0, c3b1, H⟩ := ib_ H
 ·have c3b2 : (l0.length == l1.length) = true := a6_0
  clear c3
  have H' := am H
  clear H
  go_enter Try.func16, Try.ntmps16
  go_wp2
  repeat (go_quiet (fail); try go_wp2)
  go_loopg [5] k (fun kq v5 w' => ∃ (x5_1 : Int), v5 = .int .i64 x5_1 ∧ Aside0 (laws_eqIntS.l0 kq l0 l1 x5_1 = some r) ∧ Aside0 (kq ≤ k) ∧ Drawn0 w w')
  case atStart => exact ⟨(0), sc, H', kk0, sd⟩
  case round =>
   clear H'
   try clear c3
   try clear c3b0
   try clear c3b1
   try clear c3b2
   obtain ⟨x5_1, rfl, HA, HK1, ⟨m1, rfl⟩⟩ := hrel
   cases gk with
   | zero => exact absurd HA.out (by simp [laws_eqIntS.l0])
   | succ k1 =>
    have H := HA.out
    clear HA
    simp only [laws_eqIntS.l0] at H
    obtain ⟨-, c4b0, H⟩ | ⟨-, c4b0, H⟩ := ic_ H
    ·obtain ⟨c5b0, H⟩ := id_ H
     obtain ⟨c6b0, H⟩ := id_ H
     obtain ⟨-, c7b0, c7b1, H⟩ | ⟨c7, c7b0, c7b1, H⟩ := ib_ H
     ·have H' := am H
      clear H
      have p326 : 0 ≤ (x5_1 : Int) := sa
      have q326 : x5_1 < (l0.length : Int) := sa
      obtain ⟨ad326, e326, hx326_0⟩ := Kd.at_int HR0.out x5_1 p326 q326
      cases e326
      replace p326 := eq_true p326
      replace q326 := eq_true q326
      have p327 : 0 ≤ (x5_1 : Int) := sa
      have q327 : x5_1 < (l1.length : Int) := sa
      obtain ⟨ad327, e327, hx327_0⟩ := Kd.at_int HR1.out x5_1 p327 q327
      cases e327
      replace p327 := eq_true p327
      replace q327 := eq_true q327
      go_wp2
      repeat (go_quiet (fail); try go_wp2)
      go_roundg k1
      case measure => have := HK1.out; omega
      case rel => exact ⟨(wrap64 (x5_1 + 1)), sc, H', kk1, sd⟩
     ·obtain rfl := Option.some.inj H
      have p326 : 0 ≤ (x5_1 : Int) := sa
      have q326 : x5_1 < (l0.length : Int) := sa
      obtain ⟨ad326, e326, hx326_0⟩ := Kd.at_int HR0.out x5_1 p326 q326
      cases e326
      replace p326 := eq_true p326
      replace q326 := eq_true q326
      have p327 : 0 ≤ (x5_1 : Int) := sa
      have q327 : x5_1 < (l1.length : Int) := sa
      obtain ⟨ad327, e327, hx327_0⟩ := Kd.at_int HR1.out x5_1 p327 q327
      cases e327
      replace p327 := eq_true p327
      replace q327 := eq_true q327
      go_wp2
      repeat (go_quiet (fail); try go_wp2)
      go_ret
      exact ⟨sc, sd⟩
    ·obtain rfl := Option.some.inj H
     go_wp2
     repeat (go_quiet (fail); try go_wp2)
     go_ret
     exact ⟨sc, sd⟩
 ·have c3b2 : (l0.length == l1.length) = false := a6_0
  obtain rfl := Option.some.inj H
  go_enter Try.func16, Try.ntmps16
  go_wp2
  repeat (go_quiet (fail); try go_wp2)
  go_ret
  exact ⟨sc, sd⟩

def laws_eqTable.f (k : Nat) (a0_0 : Int) (l0_1 : List Int) (l0_2 : List Int) (a1_0 : Int) (l1_1 : List Int) (l1_2 : List Int) : Option (Bool) := if a0_0 = a1_0 then ((laws_eqIntS.f k l0_1 l1_1).bind fun t330 => (if t330 = true then ((laws_eqIntS.f k l0_2 l1_2).bind fun t331 => (if t331 = true then (some true) else (some false))) else (some false))) else (some false)
theorem laws_eqTable.mono : ∀ a0 a1 a2 a3 a4 a5 k, LeO (laws_eqTable.f k a0 a1 a2 a3 a4 a5) (laws_eqTable.f (k + 1) a0 a1 a2 a3 a4 a5) := by
  intro a0 a1 a2 a3 a4 a5 k
  unfold laws_eqTable.f
  have m0 := @laws_eqIntS.mono
  exact mo
theorem e6_0 {P : Prop} (h : P := by
 obtain rfl := Option.some.inj H
 go_enter Try.func12, Try.ntmps12
 go_wp2_with (first | ((with_reducible refine gd 2 rfl ?_); refine bx 2 #[.int .i64 a0_0, .slice A0_1 l0_1.length c0_1, .slice A0_2 l0_2.length c0_2] 29 ?_; intro gb328 hg w8 hbox hb; have GW328 := bz w hg; have GE328 := bz w hg; replace HB := bs hb; have BK328 := am hbox; clear hb hbox hg) | ((with_reducible refine gd 3 rfl ?_); refine bx 3 #[.int .i64 a1_0, .slice A1_1 l1_1.length c1_1, .slice A1_2 l1_2.length c1_2] 29 ?_; intro gb329 hg w9 hbox hb; have GW329 := bzw w hg; have GE329 := bzw w hg; replace HB := bsw hb; have BK329 := am hbox; have NB328_329 := nl BK328 hg; have NB329_328 := ng BK328 hg; replace BK328 := bb BK328 hb; clear hb hbox hg; have hnb10 := NB328_329.out; have hnc10 := NB329_328.out; obtain ⟨hcz11_0, hcz11_1, hcz11_2, hfz11_0, hfz11_1, hfz11_2⟩ := cc3 BK328; obtain ⟨hcz12_0, hcz12_1, hcz12_2, hfz12_0, hfz12_1, hfz12_2⟩ := cc3 BK329) | (have _ := A6; (with_reducible refine gc 16 rfl ?_); refine gL (some 14) Try.func16 #[.slice A0_1 l0_1.length c0_1, .slice A1_1 l1_1.length c1_1] ?_; (with_reducible refine (laws_eqIntS.calls k _ _ l0_1 _ _ l1_1 true _ ?side1 ?side2 ?side3 ?side4 A4.out).mono ?_); (case side1 => exact cb HR0_1); (case side2 => exact HC0_1.out); (case side3 => exact cb HR1_1); (case side4 => exact HC1_1.out); rintro e w' ⟨rfl, ⟨nd, rfl⟩⟩; refine ⟨_, rfl, ?_⟩) | ((with_reducible refine gc 16 rfl ?_); refine gL (some 20) Try.func16 #[.slice A0_2 l0_2.length c0_2, .slice A1_2 l1_2.length c1_2] ?_; (with_reducible refine (laws_eqIntS.calls k _ _ l0_2 _ _ l1_2 true _ ?side1 ?side2 ?side3 ?side4 A6.out).mono ?_); (case side1 => exact cbw HR0_2); (case side2 => exact HC0_2.out); (case side3 => exact cbw HR1_2); (case side4 => exact HC1_2.out); rintro e w' ⟨rfl, ⟨nd, rfl⟩⟩; refine ⟨_, rfl, ?_⟩) | ((with_reducible refine gc 16 rfl ?_); refine gL (some 14) Try.func16 #[.slice A0_1 l0_1.length c0_1, .slice A1_1 l1_1.length c1_1] ?_; (with_reducible refine (laws_eqIntS.calls k _ _ l0_1 _ _ l1_1 false _ ?side1 ?side2 ?side3 ?side4 A4.out).mono ?_); (case side1 => exact cb HR0_1); (case side2 => exact HC0_1.out); (case side3 => exact cb HR1_1); (case side4 => exact HC1_1.out); rintro e w' ⟨rfl, ⟨nd, rfl⟩⟩; refine ⟨_, rfl, ?_⟩))
 first
 | have _ := A4
   go_ret
   exact ⟨se, sbw⟩
 | go_ret
   exact ⟨se, sbw⟩
   ) : P := h
theorem laws_eqTable.calls (k : Nat) (a0_0 : Int) (A0_1 : Option Addr) (c0_1 : Nat) (l0_1 : List Int) (A0_2 : Option Addr) (c0_2 : Nat) (l0_2 : List Int) (a1_0 : Int) (A1_1 : Option Addr) (c1_1 : Nat) (l1_1 : List Int) (A1_2 : Option Addr) (c1_2 : Nat) (l1_2 : List Int) (r : Bool) (w : World) (hr0_1 : Kd.C (Kd.int .i64) w A0_1 l0_1.length l0_1) (hc0_1 : l0_1.length ≤ c0_1) (hr0_2 : Kd.C (Kd.int .i64) w A0_2 l0_2.length l0_2) (hc0_2 : l0_2.length ≤ c0_2) (hr1_1 : Kd.C (Kd.int .i64) w A1_1 l1_1.length l1_1) (hc1_1 : l1_1.length ≤ c1_1) (hr1_2 : Kd.C (Kd.int .i64) w A1_2 l1_2.length l1_2) (hc1_2 : l1_2.length ≤ c1_2) (h : laws_eqTable.f k a0_0 l0_1 l0_2 a1_0 l1_1 l1_2 = some r) :
    Calls Try.prog 12 #[.agg #[.int .i64 a0_0, .slice A0_1 l0_1.length c0_1, .slice A0_2 l0_2.length c0_2], .agg #[.int .i64 a1_0, .slice A1_1 l1_1.length c1_1, .slice A1_2 l1_2.length c1_2]] w fun e w' => e = .returned (.bool r) ∧ Below w.heap.size w w' := by
 have hu29 := Try.underlying29
 have HR0_1 := am hr0_1
 have HC0_1 := am hc0_1
 clear hr0_1 hc0_1
 have HR0_2 := am hr0_2
 have HC0_2 := am hc0_2
 clear hr0_2 hc0_2
 have HR1_1 := am hr1_1
 have HC1_1 := am hc1_1
 clear hr1_1 hc1_1
 have HR1_2 := am hr1_2
 have HC1_2 := am hc1_2
 clear hr1_2 hc1_2
 have HB := am (Below.refl w.heap.size w)
 have H := h; unfold laws_eqTable.f at H
 clear h
 obtain ⟨-, c3b0, c3b1, H⟩ | ⟨c3, c3b0, c3b1, H⟩ := ib_ H
 ·obtain ⟨t330, A4, H⟩ := bnd H
  obtain rfl | rfl := tt t330
  ·replace H := ip H
   obtain ⟨t331, A6, H⟩ := bnd H
   obtain rfl | rfl := tt t331
   ·replace H := ip H
    exact e6_0
   ·replace H := im H
    obtain rfl := Option.some.inj H
    go_enter Try.func12, Try.ntmps12
    go_wp2_with (first | ((with_reducible refine gd 2 rfl ?_); refine bx 2 #[.int .i64 a0_0, .slice A0_1 l0_1.length c0_1, .slice A0_2 l0_2.length c0_2] 29 ?_; intro gb328 hg w13 hbox hb; have GW328 := bz w hg; have GE328 := bz w hg; replace HB := bs hb; have BK328 := am hbox; clear hb hbox hg) | ((with_reducible refine gd 3 rfl ?_); refine bx 3 #[.int .i64 a1_0, .slice A1_1 l1_1.length c1_1, .slice A1_2 l1_2.length c1_2] 29 ?_; intro gb329 hg w14 hbox hb; have GW329 := bzw w hg; have GE329 := bzw w hg; replace HB := bsw hb; have BK329 := am hbox; have NB328_329 := nl BK328 hg; have NB329_328 := ng BK328 hg; replace BK328 := bb BK328 hb; clear hb hbox hg; have hnb15 := NB328_329.out; have hnc15 := NB329_328.out; obtain ⟨hcz16_0, hcz16_1, hcz16_2, hfz16_0, hfz16_1, hfz16_2⟩ := cc3 BK328; obtain ⟨hcz17_0, hcz17_1, hcz17_2, hfz17_0, hfz17_1, hfz17_2⟩ := cc3 BK329) | ((with_reducible refine gc 16 rfl ?_); refine gL (some 14) Try.func16 #[.slice A0_1 l0_1.length c0_1, .slice A1_1 l1_1.length c1_1] ?_; (with_reducible refine (laws_eqIntS.calls k _ _ l0_1 _ _ l1_1 true _ ?side1 ?side2 ?side3 ?side4 A4.out).mono ?_); (case side1 => exact cb HR0_1); (case side2 => exact HC0_1.out); (case side3 => exact cb HR1_1); (case side4 => exact HC1_1.out); rintro e w' ⟨rfl, ⟨nd, rfl⟩⟩; refine ⟨_, rfl, ?_⟩) | ((with_reducible refine gc 16 rfl ?_); refine gL (some 20) Try.func16 #[.slice A0_2 l0_2.length c0_2, .slice A1_2 l1_2.length c1_2] ?_; (with_reducible refine (laws_eqIntS.calls k _ _ l0_2 _ _ l1_2 false _ ?side1 ?side2 ?side3 ?side4 A6.out).mono ?_); (case side1 => exact cbw HR0_2); (case side2 => exact HC0_2.out); (case side3 => exact cbw HR1_2); (case side4 => exact HC1_2.out); rintro e w' ⟨rfl, ⟨nd, rfl⟩⟩; refine ⟨_, rfl, ?_⟩))
    go_ret
    exact ⟨se, sbw⟩
  ·replace H := im H
   exact e6_0
 ·exact e6_0
def laws_eqLink.f (a0_0 : Int) (a0_1 : Int) (a1_0 : Int) (a1_1 : Int) : Option (Bool) := if a0_0 = a1_0 then (if a0_1 = a1_1 then (some true) else (some false)) else (some false)
theorem e6_1 {P : Prop} (h : P := by
 obtain rfl := Option.some.inj H
 go_enter Try.func29, Try.ntmps29
 go_wp2_with (first | ((with_reducible refine gd 2 rfl ?_); refine bx 2 #[.int .i64 a0_0, .int .i64 a0_1] 55 ?_; intro gb332 hg w5 hbox hb; have GW332 := bz w hg; have GE332 := bz w hg; replace HB := bs hb; have BK332 := am hbox; clear hb hbox hg) | ((with_reducible refine gd 3 rfl ?_); refine bx 3 #[.int .i64 a1_0, .int .i64 a1_1] 55 ?_; intro gb333 hg w6 hbox hb; have GW333 := bzw w hg; have GE333 := bzw w hg; replace HB := bsw hb; have BK333 := am hbox; have NB332_333 := nl BK332 hg; have NB333_332 := ng BK332 hg; replace BK332 := bb BK332 hb; clear hb hbox hg; have hnb7 := NB332_333.out; have hnc7 := NB333_332.out; obtain ⟨hcz8_0, hcz8_1, hfz8_0, hfz8_1⟩ := cc2 BK332; obtain ⟨hcz9_0, hcz9_1, hfz9_0, hfz9_1⟩ := cc2 BK333))
 first
 | have _ := c4b0
   go_ret
   exact ⟨se, sbw⟩
 | go_ret
   exact ⟨se, sbw⟩
   ) : P := h
theorem laws_eqLink.calls (a0_0 : Int) (a0_1 : Int) (a1_0 : Int) (a1_1 : Int) (r : Bool) (w : World) (h : laws_eqLink.f a0_0 a0_1 a1_0 a1_1 = some r) :
    Calls Try.prog 29 #[.agg #[.int .i64 a0_0, .int .i64 a0_1], .agg #[.int .i64 a1_0, .int .i64 a1_1]] w fun e w' => e = .returned (.bool r) ∧ Below w.heap.size w w' := by
 have hu55 := Try.underlying55
 have HB := am (Below.refl w.heap.size w)
 have H := h; unfold laws_eqLink.f at H
 clear h
 obtain ⟨-, c3b0, c3b1, H⟩ | ⟨c3, c3b0, c3b1, H⟩ := ib_ H
 ·obtain ⟨-, c4b0, c4b1, H⟩ | ⟨c4, c4b0, c4b1, H⟩ := ib_ H
  ·exact e6_1
  ·exact e6_1
 ·exact e6_1
def laws_eqLinkS.l0 : Nat → List (S55) → List (S55) → Int → Option (Bool)
  | 0, _, _, _ => none
  | k + 1, x0, x1, x5 => if x5 < (x0.length : Int) then (if 0 ≤ x5 then (if x5 < (x1.length : Int) then ((laws_eqLink.f ((rd_T55 x0 x5).f0) ((rd_T55 x0 x5).f1) ((rd_T55 x1 x5).f0) ((rd_T55 x1 x5).f1)).bind fun t336 => (if t336 = true then (laws_eqLinkS.l0 k x0 x1 (wrap64 (x5 + 1))) else (some false))) else (none)) else (none)) else (some true)
def laws_eqLinkS.f (k : Nat) (l0 : List (S55)) (l1 : List (S55)) : Option (Bool) := if (l0.length : Int) = (l1.length : Int) then (laws_eqLinkS.l0 k l0 l1 0) else (some false)
theorem laws_eqLinkS.mono_l : ∀ k, (∀ y0 y1 y2, LeO (laws_eqLinkS.l0 k y0 y1 y2) (laws_eqLinkS.l0 (k + 1) y0 y1 y2))
  | 0 => fun _ _ _ r h => by simp [laws_eqLinkS.l0] at h
  | k + 1 => by
    have ih0 := laws_eqLinkS.mono_l k
    · intro y0 y1 y2
      unfold laws_eqLinkS.l0
      exact mo
theorem laws_eqLinkS.mono : ∀ a0 a1 k, LeO (laws_eqLinkS.f k a0 a1) (laws_eqLinkS.f (k + 1) a0 a1) := by
  intro a0 a1 k
  have ih0 := laws_eqLinkS.mono_l k
  unfold laws_eqLinkS.f
  exact mo
def laws_eqLinkS.T6 : Bool × List (List Nat × List Nat) := (true, [([], []), ([], []), ([0, 1], [0, 1]), ([2], [2]), ([], []), ([], []), ([4, 5], [4, 5]), ([6], [6]), ([3, 7], [3, 7]), ([8], [8])])
def laws_eqLinkS.B6 : List Nat := [0, 0, 3, 7, 0, 0, 48, 112, 255, 511]
theorem laws_eqLinkS.tab6 : rtab .any (opsOf Try.f13 6) = laws_eqLinkS.T6 := by kernel_rfl
theorem laws_eqLinkS.bits6 : waitsOk laws_eqLinkS.T6.2 laws_eqLinkS.B6 = true := by kernel_rfl
theorem laws_eqLinkS.calls (k : Nat) (A0 : Option Addr) (c0 : Nat) (l0 : List (S55)) (A1 : Option Addr) (c1 : Nat) (l1 : List (S55)) (r : Bool) (w : World) (hr0 : Kd.C k55 w A0 l0.length l0) (hc0 : l0.length ≤ c0) (hr1 : Kd.C k55 w A1 l1.length l1) (hc1 : l1.length ≤ c1) (h : laws_eqLinkS.f k l0 l1 = some r) :
    Calls Try.prog 13 #[.slice A0 l0.length c0, .slice A1 l1.length c1] w fun e w' => e = .returned (.bool r) ∧ Below w.heap.size w w' := by
 have hu55 := Try.underlying55
 have HR0 := am hr0
 have HC0 := am hc0
 clear hr0 hc0
 have HR1 := am hr1
 have HC1 := am hc1
 clear hr1 hc1
 have HB := am (Below.refl w.heap.size w)
 have H := h; unfold laws_eqLinkS.f at H
 clear h
 obtain ⟨c3, c3b0, c3b1, H⟩ | ⟨c3, c3b0, c3b1, H⟩ := ib_ H
 ·have c3b2 : (l0.length == l1.length) = true := a6_0
  clear c3
  have H' := am H
  clear H
  go_enter Try.func13, Try.ntmps13
  go_wp2
  go_loopg [5] k (fun kq v5 w' => ∃ (x5_1 : Int), v5 = .int .i64 x5_1 ∧ Aside0 (laws_eqLinkS.l0 kq l0 l1 x5_1 = some r) ∧ Aside0 (kq ≤ k) ∧ Aside0 (Below w.heap.size w w'))
  case atStart => exact ⟨(0), sc, H', kk0, ⟨sb⟩⟩
  case round =>
   clear H'
   try clear c3
   try clear c3b0
   try clear c3b1
   try clear c3b2
   obtain ⟨x5_1, rfl, HA, HK1, HB⟩ := hrel
   cases gk with
   | zero => exact absurd HA.out (by simp [laws_eqLinkS.l0])
   | succ k1 =>
    have H := HA.out
    clear HA
    simp only [laws_eqLinkS.l0] at H
    obtain ⟨-, c4b0, H⟩ | ⟨-, c4b0, H⟩ := ic_ H
    ·obtain ⟨c5b0, H⟩ := id_ H
     obtain ⟨c6b0, H⟩ := id_ H
     obtain ⟨t336, A7, H⟩ := bnd H
     obtain rfl | rfl := tt t336
     ·replace H := ip H
      have H' := am H
      clear H
      try go_wp2
      replace HB := am (below_drew1 HB.out)
      obtain ⟨p334, q334, ad334, e334, hw334_0, hw334_1, hx334_0, hx334_1⟩ := aT_T55 HR0 HB x5_1
      cases e334
      obtain ⟨p335, q335, ad335, e335, hw335_0, hw335_1, hx335_0, hx335_1⟩ := aT_T55 HR1 HB x5_1
      cases e335
      refine start_ (n := 10) (S := fun w' => w'.cell? (ad334.add ((x5_1).toNat * 2)) = some (.int .i64 ((rd_T55 l0 x5_1).f0)) ∧ w'.cell? ⟨(ad334.add ((x5_1).toNat * 2)).block, (ad334.add ((x5_1).toNat * 2)).off + 1, none⟩ = some (.int .i64 ((rd_T55 l0 x5_1).f1)) ∧ w'.cell? (ad335.add ((x5_1).toNat * 2)) = some (.int .i64 ((rd_T55 l1 x5_1).f0)) ∧ w'.cell? ⟨(ad335.add ((x5_1).toNat * 2)).block, (ad335.add ((x5_1).toNat * 2)).off + 1, none⟩ = some (.int .i64 ((rd_T55 l1 x5_1).f1))) (ds := []) #[false, false, false, false, false, false, false, false, false, false] (by kernel_rfl) rfl rfl ⟨(hb_ HB hw334_0), (hb_ HB hw334_1), (hb_ HB hw335_0), (hb_ HB hw335_1)⟩ (fun hHeld => ?_); refine with_tabW laws_eqLinkS.tab6 laws_eqLinkS.bits6 (fun HT_ HW_ => ?_)
      generalize wr.drew = w9 at HB hx334_0 hx334_1 hx335_0 hx335_1 hHeld ⊢
      refine put 0 17 (bt 10 1) HT_ ?_
      refine put 1 18 (bt 10 3) HT_ ?_
      refine put 2 19 (bt 10 7) HT_ ?_
      refine put 4 21 (bt 10 23) HT_ ?_
      refine put 5 22 (bt 10 55) HT_ ?_
      refine put 6 23 (bt 10 119) HT_ ?_
      refine tat4 3 20 (bt 10 127) HT_ HW_ hHeld ?_
      refine tat4 7 24 (bt 10 255) HT_ HW_ hHeld ?_
      refine on 8 25 (bt 10 511) HT_ (fun K hK => ?_)
      refine goes_ Try.func29 (by kernel_rfl) rfl #[.agg #[.int .i64 ((rd_T55 l0 x5_1).f0), .int .i64 ((rd_T55 l0 x5_1).f1)], .agg #[.int .i64 ((rd_T55 l1 x5_1).f0), .int .i64 ((rd_T55 l1 x5_1).f1)]] (by rfl) rfl rfl sl ?_
      with_reducible refine (laws_eqLink.calls ((rd_T55 l0 x5_1).f0) ((rd_T55 l0 x5_1).f1) ((rd_T55 l1 x5_1).f0) ((rd_T55 l1 x5_1).f1) true _ A7.out).mono ?_
      rintro e w10 ⟨rfl, hb⟩
      refine ⟨_, rfl, ?_⟩
      replace HB := bs hb
      (try clear hb)
      (try clear hb2)
      (try clear hk)
      (try clear hi)
      refine hK.out _ _ ⟨(hb_ HB hw334_0), (hb_ HB hw334_1), (hb_ HB hw335_0), (hb_ HB hw335_1)⟩ (fun hHeld => ?_)
      clear hK K
      refine nm 25 ?_
      refine put 9 26 (bt 10 1023) HT_ ?_
      refine done_ (done_of HT_.out (by kernel_rfl)) ?_
      try go_wp2
      go_roundg k1
      case measure => have := HK1.out; omega
      case rel => exact ⟨(wrap64 (x5_1 + 1)), sc, H', kk1, ⟨sb⟩⟩
     ·replace H := im H
      obtain rfl := Option.some.inj H
      try go_wp2
      replace HB := am (below_drew1 HB.out)
      obtain ⟨p334, q334, ad334, e334, hw334_0, hw334_1, hx334_0, hx334_1⟩ := aT_T55 HR0 HB x5_1
      cases e334
      obtain ⟨p335, q335, ad335, e335, hw335_0, hw335_1, hx335_0, hx335_1⟩ := aT_T55 HR1 HB x5_1
      cases e335
      refine start_ (n := 10) (S := fun w' => w'.cell? (ad334.add ((x5_1).toNat * 2)) = some (.int .i64 ((rd_T55 l0 x5_1).f0)) ∧ w'.cell? ⟨(ad334.add ((x5_1).toNat * 2)).block, (ad334.add ((x5_1).toNat * 2)).off + 1, none⟩ = some (.int .i64 ((rd_T55 l0 x5_1).f1)) ∧ w'.cell? (ad335.add ((x5_1).toNat * 2)) = some (.int .i64 ((rd_T55 l1 x5_1).f0)) ∧ w'.cell? ⟨(ad335.add ((x5_1).toNat * 2)).block, (ad335.add ((x5_1).toNat * 2)).off + 1, none⟩ = some (.int .i64 ((rd_T55 l1 x5_1).f1))) (ds := []) #[false, false, false, false, false, false, false, false, false, false] (by kernel_rfl) rfl rfl ⟨(hb_ HB hw334_0), (hb_ HB hw334_1), (hb_ HB hw335_0), (hb_ HB hw335_1)⟩ (fun hHeld => ?_); refine with_tabW laws_eqLinkS.tab6 laws_eqLinkS.bits6 (fun HT_ HW_ => ?_)
      generalize wr.drew = w11 at HB hx334_0 hx334_1 hx335_0 hx335_1 hHeld ⊢
      refine put 0 17 (bt 10 1) HT_ ?_
      refine put 1 18 (bt 10 3) HT_ ?_
      refine put 2 19 (bt 10 7) HT_ ?_
      refine put 4 21 (bt 10 23) HT_ ?_
      refine put 5 22 (bt 10 55) HT_ ?_
      refine put 6 23 (bt 10 119) HT_ ?_
      refine tat4 3 20 (bt 10 127) HT_ HW_ hHeld ?_
      refine tat4 7 24 (bt 10 255) HT_ HW_ hHeld ?_
      refine on 8 25 (bt 10 511) HT_ (fun K hK => ?_)
      refine goes_ Try.func29 (by kernel_rfl) rfl #[.agg #[.int .i64 ((rd_T55 l0 x5_1).f0), .int .i64 ((rd_T55 l0 x5_1).f1)], .agg #[.int .i64 ((rd_T55 l1 x5_1).f0), .int .i64 ((rd_T55 l1 x5_1).f1)]] (by rfl) rfl rfl sl ?_
      with_reducible refine (laws_eqLink.calls ((rd_T55 l0 x5_1).f0) ((rd_T55 l0 x5_1).f1) ((rd_T55 l1 x5_1).f0) ((rd_T55 l1 x5_1).f1) false _ A7.out).mono ?_
      rintro e w12 ⟨rfl, hb⟩
      refine ⟨_, rfl, ?_⟩
      replace HB := bs hb
      (try clear hb)
      (try clear hb2)
      (try clear hk)
      (try clear hi)
      refine hK.out _ _ ⟨(hb_ HB hw334_0), (hb_ HB hw334_1), (hb_ HB hw335_0), (hb_ HB hw335_1)⟩ (fun hHeld => ?_)
      clear hK K
      refine nm 25 ?_
      refine put 9 26 (bt 10 1023) HT_ ?_
      refine done_ (done_of HT_.out (by kernel_rfl)) ?_
      try go_wp2
      go_ret
      exact ⟨se, sb⟩
    ·obtain rfl := Option.some.inj H
     go_wp2
     go_ret
     exact ⟨se, sb⟩
 ·have c3b2 : (l0.length == l1.length) = false := a6_0
  obtain rfl := Option.some.inj H
  go_enter Try.func13, Try.ntmps13
  go_wp2
  go_ret
  exact ⟨se, sb⟩

end Go.Proofs.Ytohbccekdmdmbaa.QFnExactCountAlts
