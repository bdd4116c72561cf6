/- Printed by a program of the session. Conditions: none. (squeezed). -/
import Derived.Test.YtohbccekdmdmbaaVFnExactRepairHopSq2
import Derived.Test.YtohbccekdmdmbaaVFnExactRepairHopQFnExactRepairHopx1
namespace Go.Proofs.Ytohbccekdmdmbaa.QFnExactRepairHop
set_option maxHeartbeats 8000000
set_option maxRecDepth 100000
open Go.RowKit Go.Proofs.YtohbccekdmdmbaaW.PrintWords Go.Proofs.YtohbccekdmdmbaaW.PrintLast Go.Proofs.YtohbccekdmdmbaaW.PrintMore Go.Proofs.Ytohbccekdmdmbaa.Open Go.Proofs.Ytohbccekdmdmbaa.Sq
attribute [local go_sem] max2_int min2_int max_two min_two max_three min_three max_four min_four   -- for this text's walks alone
attribute [local go_sem] isSome_set
set_option linter.unusedVariables false
set_option linter.unusedSimpArgs false

def spec_l15Has.l0 : Nat → List Int → Int → Int → Option (Bool)
  | 0, _, _, _ => none
  | k + 1, x0, x1, x5 => if x5 < (x0.length : Int) then (if 0 ≤ x5 then (if (rd x0 x5) = x1 then (some true) else (spec_l15Has.l0 k x0 x1 (wrap64 (x5 + 1)))) else (none)) else (some false)
def spec_l15Has.f (k : Nat) (l0 : List Int) (a1 : Int) : Option (Bool) := spec_l15Has.l0 k l0 a1 0
theorem spec_l15Has.mono_l : ∀ k, (∀ y0 y1 y2, LeO (spec_l15Has.l0 k y0 y1 y2) (spec_l15Has.l0 (k + 1) y0 y1 y2))
  | 0 => fun _ _ _ r h => by simp [spec_l15Has.l0] at h
  | k + 1 => by
    have ih0 := spec_l15Has.mono_l k
    · intro y0 y1 y2
      unfold spec_l15Has.l0
      exact mo
theorem spec_l15Has.mono : ∀ a0 a1 k, LeO (spec_l15Has.f k a0 a1) (spec_l15Has.f (k + 1) a0 a1) := by
  intro a0 a1 k
  have ih0 := spec_l15Has.mono_l k
  unfold spec_l15Has.f
  exact mo
theorem spec_l15Has.calls (k : Nat) (A0 : Option Addr) (c0 : Nat) (l0 : List Int) (a1 : Int) (r : Bool) (w : World) (hr0 : Kd.C (Kd.int .i64) w A0 l0.length l0) (hc0 : l0.length ≤ c0) (h : spec_l15Has.f k l0 a1 = some r) :
    Calls Try.prog 39 #[.slice A0 l0.length c0, .int .i64 a1] w fun e w' => e = .returned (.bool r) ∧ Drawn0 w w' := by
 have HR0 := am hr0
 have HC0 := am hc0
 clear hr0 hc0
 have H := h; unfold spec_l15Has.f at H
 clear h
 have H' := am H
 clear H
 go_enter Try.func39, Try.ntmps39
 go_wp2
 go_loopg [5] k (fun kq v5 w' => ∃ (x5_1 : Int), v5 = .int .i64 x5_1 ∧ Aside0 (spec_l15Has.l0 kq l0 a1 x5_1 = some r) ∧ Aside0 (kq ≤ k) ∧ Drawn0 w w')
 case atStart => exact ⟨(0), sc, H', kk0, sd⟩
 case round =>
  clear H'
  obtain ⟨x5_1, rfl, HA, HK1, ⟨m1, rfl⟩⟩ := hrel
  cases gk with
  | zero => exact absurd HA.out (by simp [spec_l15Has.l0])
  | succ k1 =>
   have H := HA.out
   clear HA
   simp only [spec_l15Has.l0] at H
   obtain ⟨-, c3b0, H⟩ | ⟨-, c3b0, H⟩ := ic_ H
   ·obtain ⟨c4b0, H⟩ := id_ H
    obtain ⟨-, c5b0, c5b1, H⟩ | ⟨c5, c5b0, c5b1, H⟩ := ib_ H
    ·obtain rfl := Option.some.inj H
     have p300 : 0 ≤ (x5_1 : Int) := sa
     have q300 : x5_1 < (l0.length : Int) := sa
     obtain ⟨ad300, e300, hx300_0⟩ := Kd.at_int HR0.out x5_1 p300 q300
     cases e300
     replace p300 := eq_true p300
     replace q300 := eq_true q300
     go_wp2
     go_ret
     exact ⟨sc, sd⟩
    ·have H' := am H
     clear H
     have p300 : 0 ≤ (x5_1 : Int) := sa
     have q300 : x5_1 < (l0.length : Int) := sa
     obtain ⟨ad300, e300, hx300_0⟩ := Kd.at_int HR0.out x5_1 p300 q300
     cases e300
     replace p300 := eq_true p300
     replace q300 := eq_true q300
     go_wp2
     go_roundg k1
     case measure => have := HK1.out; omega
     case rel => exact ⟨(wrap64 (x5_1 + 1)), sc, H', kk1, sd⟩
   ·obtain rfl := Option.some.inj H
    go_wp2
    go_ret
    exact ⟨sc, sd⟩

def spec_Max.f (a0 : Int) (a1 : Int) : Option (Int) := if a1 > a0 then (some a1) else (some a0)
theorem spec_Max.calls (a0 : Int) (a1 : Int) (r : Int) (w : World) (h : spec_Max.f a0 a1 = some r) :
    Calls Try.prog 106 #[.int .i64 a0, .int .i64 a1] w fun e w' => e = .returned (.int .i64 r) ∧ Drawn0 w w' := by
 have H := h; unfold spec_Max.f at H
 clear h
 obtain ⟨-, c3b0, H⟩ | ⟨-, c3b0, H⟩ := ic_ H
 ·obtain rfl := Option.some.inj H
  go_enter Try.func106, Try.ntmps106
  go_wp2
  go_ret
  exact ⟨sc, sd⟩
 ·obtain rfl := Option.some.inj H
  go_enter Try.func106, Try.ntmps106
  go_wp2
  go_ret
  exact ⟨sc, sd⟩

def spec_l18Size.l0 : Nat → List (List Int) → Int → Int → Option (Int)
  | 0, _, _, _ => none
  | k + 1, x0, x3, x4 => if x4 < (x0.length : Int) then (if 0 ≤ x4 then ((spec_Max.f x3 ((rd_L2 x0 x4).length : Int)).bind fun t302 => (spec_l18Size.l0 k x0 t302 (wrap64 (x4 + 1)))) else (none)) else (some x3)
def spec_l18Size.f (k : Nat) (l0 : List (List Int)) : Option (Int) := spec_l18Size.l0 k l0 0 0
theorem spec_l18Size.mono_l : ∀ k, (∀ y0 y1 y2, LeO (spec_l18Size.l0 k y0 y1 y2) (spec_l18Size.l0 (k + 1) y0 y1 y2))
  | 0 => fun _ _ _ r h => by simp [spec_l18Size.l0] at h
  | k + 1 => by
    have ih0 := spec_l18Size.mono_l k
    · intro y0 y1 y2
      unfold spec_l18Size.l0
      exact mo
theorem spec_l18Size.mono : ∀ a0 k, LeO (spec_l18Size.f k a0) (spec_l18Size.f (k + 1) a0) := by
  intro a0 k
  have ih0 := spec_l18Size.mono_l k
  unfold spec_l18Size.f
  exact mo
theorem spec_l18Size.calls (k : Nat) (A0 : Option Addr) (c0 : Nat) (l0 : List (List Int)) (r : Int) (w : World) (hr0 : Kd.C (Kd.slice 3 (Kd.int .i64)) w A0 l0.length l0) (hc0 : l0.length ≤ c0) (h : spec_l18Size.f k l0 = some r) :
    Calls Try.prog 98 #[.slice A0 l0.length c0] w fun e w' => e = .returned (.int .i64 r) ∧ Drawn0 w w' := by
 have HR0 := am hr0
 have HC0 := am hc0
 clear hr0 hc0
 have H := h; unfold spec_l18Size.f at H
 clear h
 have H' := am H
 clear H
 go_enter Try.func98, Try.ntmps98
 go_wp2
 go_loopg [3, 4] k (fun kq v3 v4 w' => ∃ (x3_1 : Int) (x4_1 : Int), v3 = .int .i64 x3_1 ∧ v4 = .int .i64 x4_1 ∧ Aside0 (spec_l18Size.l0 kq l0 x3_1 x4_1 = some r) ∧ Aside0 (kq ≤ k) ∧ Drawn0 w w')
 case atStart => exact ⟨(0), (0), sc, sc, H', kk0, sd⟩
 case round =>
  clear H'
  obtain ⟨x3_1, x4_1, rfl, rfl, HA, HK1, ⟨m1, rfl⟩⟩ := hrel
  cases gk with
  | zero => exact absurd HA.out (by simp [spec_l18Size.l0])
  | succ k1 =>
   have H := HA.out
   clear HA
   simp only [spec_l18Size.l0] at H
   obtain ⟨-, c2b0, H⟩ | ⟨-, c2b0, H⟩ := ic_ H
   ·obtain ⟨c3b0, H⟩ := id_ H
    obtain ⟨t302, A4, H⟩ := bnd H
    have H' := am H
    clear H
    have p301 : 0 ≤ (x4_1 : Int) := sa
    have q301 : x4_1 < (l0.length : Int) := sa
    obtain ⟨ad301, A301_0, c301_0, e301, hx301_0, hl301_0, hi301_0⟩ := at_L2 HR0.out x4_1 p301 q301
    cases e301
    have HR301_0 := am hi301_0
    have HC301_0 := am hl301_0
    clear hi301_0 hl301_0
    replace p301 := eq_true p301
    replace q301 := eq_true q301
    go_wp2_with (first | ((with_reducible refine gc 106 rfl ?_); refine gL (some 17) Try.func106 #[.int .i64 x3_1, .int .i64 ((rd_L2 l0 x4_1).length : Int)] ?_; (with_reducible refine (spec_Max.calls x3_1 ((rd_L2 l0 x4_1).length : Int) t302 _ A4.out).mono ?_); rintro e w' ⟨rfl, ⟨nd, rfl⟩⟩; refine ⟨_, rfl, ?_⟩))
    go_roundg k1
    case measure => have := HK1.out; omega
    case rel => exact ⟨(t302), (wrap64 (x4_1 + 1)), sc, sc, H', kk1, sd⟩
   ·obtain rfl := Option.some.inj H
    go_wp2
    go_ret
    exact ⟨sc, sd⟩

def spec_l18Steps.l0 : Nat → List (List Int) → Int → Int → List Int → Int → Option (List Int)
  | 0, _, _, _, _, _ => none
  | k + 1, x0, x1, x2, x7, x8 => if x8 < (x0.length : Int) then (if 0 ≤ x8 then (if x2 < ((rd_L2 x0 x8).length : Int) then (if 0 ≤ x2 then ((spec_l1In.f (rd (rd_L2 x0 x8) x2) 0 (wrap64 (x1 - 1))).bind fun t309 => (if t309 = true then ((spec_l15Has.f k x7 (rd (rd_L2 x0 x8) x2)).bind fun t312 => (if t312 = true then (spec_l18Steps.l0 k x0 x1 x2 x7 (wrap64 (x8 + 1))) else (if x7.length < 17592186044416 then (spec_l18Steps.l0 k x0 x1 x2 (x7 ++ [rd (rd_L2 x0 x8) x2]) (wrap64 (x8 + 1))) else (none)))) else (spec_l18Steps.l0 k x0 x1 x2 x7 (wrap64 (x8 + 1))))) else (none)) else (spec_l18Steps.l0 k x0 x1 x2 x7 (wrap64 (x8 + 1)))) else (none)) else (some x7)
def spec_l18Steps.f (k : Nat) (l0 : List (List Int)) (a1 : Int) (a2 : Int) : Option (List Int) := spec_l18Steps.l0 k l0 a1 a2 (([] : List Int)) 0
theorem spec_l18Steps.mono_l : ∀ k, (∀ y0 y1 y2 y3 y4, LeO (spec_l18Steps.l0 k y0 y1 y2 y3 y4) (spec_l18Steps.l0 (k + 1) y0 y1 y2 y3 y4))
  | 0 => fun _ _ _ _ _ r h => by simp [spec_l18Steps.l0] at h
  | k + 1 => by
    have ih0 := spec_l18Steps.mono_l k
    · intro y0 y1 y2 y3 y4
      unfold spec_l18Steps.l0
      have m0 := @spec_l15Has.mono
      exact mo
theorem spec_l18Steps.mono : ∀ a0 a1 a2 k, LeO (spec_l18Steps.f k a0 a1 a2) (spec_l18Steps.f (k + 1) a0 a1 a2) := by
  intro a0 a1 a2 k
  have ih0 := spec_l18Steps.mono_l k
  unfold spec_l18Steps.f
  have m0 := @spec_l15Has.mono
  exact mo
theorem e5_0 {P : Prop} (h : P := by
 go_wp2_with (first | (have _ := A12; go_at_call 30; (try simp only [i64_w, i32_w]); (with_reducible refine (spec_l1In.calls (rd (rd_L2 l0 x8_1) a2) 0 (wrap64 (a1 - 1)) true _ A10.out).mono ?_); rintro e w' ⟨rfl, ⟨nd, rfl⟩⟩; obtain ⟨p310, q310, ad310, A310_0, c310_0, e310, _, hx310_0, HC310_0, HR310_0⟩ := aT_L2 HR0 HB x8_1; obtain rfl : ad306 = ad310 := (by injection e310); have ea_ := Option.some.inj (hx306_0.symm.trans hx310_0); injection ea_ with ea_ en_ ec_; subst ea_; subst ec_; clear en_; obtain ⟨p311, q311, ad311, e311, _, hx311_0⟩ := at_i HR310_0 HB a2; cases e311; obtain ⟨Ao14, co14, eo14⟩ := Kd.R_slice HO_7.out; subst eo14) | (have _ := y315; go_at_call 39; (with_reducible refine (spec_l15Has.calls k1 _ _ x7_1 (rd (rd_L2 l0 x8_1) a2) false _ ?side1 ?side2 A12.out).mono ?_); (case side1 => exact cr HO_7); (case side2 => exact (Kd.R_reads' HO_7.out).2.1); rintro e w' ⟨rfl, ⟨nd, rfl⟩⟩; obtain ⟨p313, q313, ad313, A313_0, c313_0, e313, _, hx313_0, HC313_0, HR313_0⟩ := aT_L2 HR0 HB x8_1; obtain rfl : ad306 = ad313 := (by injection e313); have ea_ := Option.some.inj (hx306_0.symm.trans hx313_0); injection ea_ with ea_ en_ ec_; subst ea_; subst ec_; clear en_; obtain ⟨p314, q314, ad314, e314, _, hx314_0⟩ := at_i HR313_0 HB a2; cases e314) | (have _ := y315; (with_reducible refine gate_builtin (b := .append) (xs := #[.tmp 47, .tmp 55]) rfl ?_); at_builtin; refine Kd.R_append (Kd.int .i64) (w0 := w) w.heap.size rfl (.tmp 47) (.tmp 55) 22 3 (.int .i64 0) 8 rfl Try.underlying22 info3 rfl (by decide) (by omega) (.slice Ao14 x7_1.length co14) x7_1 (rd (rd_L2 l0 x8_1) a2) [.int .i64 (rd (rd_L2 l0 x8_1) a2)] (fun _ => True) (fun _ => False) rfl rfl ?aP (fun _ hk => hk.elim) ?aF ?aO ?aB ?aS ?aL ?_; (case aP => exact rfl); (case aB => exact (sb)); (case aF => exact (fun _ _ => trivial)); (case aO => exact (sr HO_7)); (case aS => exact (below_size (sb))); (case aL => have := LMc15.out; omega); intro v316 w17 ho hb hg hat; rw [← Ny315.out] at ho; replace HB := am hb; have HO317 := am ho; clear HO_7; clear ho hb hg hat) | (have _ := A12; go_at_call 39; (with_reducible refine (spec_l15Has.calls k1 _ _ x7_1 (rd (rd_L2 l0 x8_1) a2) true _ ?side1 ?side2 A12.out).mono ?_); (case side1 => exact cr HO_7); (case side2 => exact (Kd.R_reads' HO_7.out).2.1); rintro e w' ⟨rfl, ⟨nd, rfl⟩⟩) | (go_at_call 30; (try simp only [i64_w, i32_w]); (with_reducible refine (spec_l1In.calls (rd (rd_L2 l0 x8_1) a2) 0 (wrap64 (a1 - 1)) false _ A10.out).mono ?_); rintro e w' ⟨rfl, ⟨nd, rfl⟩⟩))
 first
 | have _ := y315
   go_roundg k1
   case measure => have := HK1.out; omega
   case rel => exact ⟨(y315), (wrap64 (x8_1 + 1)), sc, H', kk1, ⟨sr HO317⟩, ⟨sb⟩⟩
 | go_roundg k1
   case measure => have := HK1.out; omega
   case rel => exact ⟨(x7_1), (wrap64 (x8_1 + 1)), sc, H', kk1, ⟨sr HO_7⟩, ⟨sb⟩⟩) : P := h
theorem spec_l18Steps.calls (k : Nat) (A0 : Option Addr) (c0 : Nat) (l0 : List (List Int)) (a1 : Int) (a2 : Int) (r : List Int) (w : World) (hr0 : Kd.C (Kd.slice 3 (Kd.int .i64)) w A0 l0.length l0) (hc0 : l0.length ≤ c0) (h : spec_l18Steps.f k l0 a1 a2 = some r) :
    Calls Try.prog 99 #[.slice A0 l0.length c0, .int .i64 a1, .int .i64 a2] w fun e w' => ∃ v0_ : Value, e = .returned (v0_) ∧ Kd.R (Kd.int .i64) 3 w' w.heap.size (fun _ => True) v0_ r ∧ Below w.heap.size w w' := by
 have HR0 := am hr0
 have HC0 := am hc0
 clear hr0 hc0
 have HB := am (Below.refl w.heap.size w)
 have H := h; unfold spec_l18Steps.f at H
 clear h
 obtain ⟨y303, hy303⟩ : ∃ y_ : List Int, y_ = (([] : List Int)) := ⟨_, rfl⟩
 replace H : (spec_l18Steps.l0 k l0 a1 a2 y303 0) = some r := ry hy303 H
 have Ny303 := am hy303
 clear hy303
 have H' := am H
 clear H
 go_enter Try.func99, Try.ntmps99
 go_wp2_with (first | ((with_reducible refine gd 9 rfl ?_); refine Kd.R_lit (Kd.int .i64) _ 3 ?hg (N := 9) ?hd (xs := ([] : List Int)) (inner := []) (ok := fun _ => True) (okp := fun _ => True) ?hr ?hp (fun _ hk => hk) trivial (Below.refl _ _) (Nat.le_refl _) (by simp) ?_; (case hd => rfl); (case hg => rfl); (case hr => first | (go_simp; done) | (go_simp; rfl)); (case hp => exact (Reps.none _ _)); intro v304 w4 ho5 hb hg_ hnew_; clear hg_ hnew_; (first | rw [← Ny303.out] at ho5 | (simp only [Int.reduceToNat] at ho5; rw [← Ny303.out] at ho5)); have HO305 := am (Kd.R_lower ho5 (below_size (sb))); replace HB := bs hb; clear hb ho5))
 go_loopg [7, 8] k (fun kq v7 v8 w' => ∃ (x7_1 : List Int) (x8_1 : Int), v8 = .int .i64 x8_1 ∧ Aside0 (spec_l18Steps.l0 kq l0 a1 a2 x7_1 x8_1 = some r) ∧ Aside0 (kq ≤ k) ∧ Aside0 (Kd.R (Kd.int .i64) 3 w' w.heap.size (fun _ => True) v7 x7_1) ∧ Aside0 (Below w.heap.size w w'))
 case atStart => exact ⟨(y303), (0), sc, H', kk0, ⟨sr HO305⟩, ⟨sb⟩⟩
 case round =>
  clear H'
  obtain ⟨x7_1, x8_1, rfl, HA, HK1, HO_7, HB⟩ := hrel
  cases gk with
  | zero => exact absurd HA.out (by simp [spec_l18Steps.l0])
  | succ k1 =>
   have H := HA.out
   clear HA
   simp only [spec_l18Steps.l0] at H
   obtain ⟨-, c6b0, H⟩ | ⟨-, c6b0, H⟩ := ic_ H
   ·obtain ⟨c7b0, H⟩ := id_ H
    obtain ⟨-, c8b0, H⟩ | ⟨-, c8b0, H⟩ := ic_ H
    ·obtain ⟨c9b0, H⟩ := id_ H
     obtain ⟨t309, A10, H⟩ := bnd H
     obtain rfl | rfl := tt t309
     ·replace H := ip H
      obtain ⟨t312, A12, H⟩ := bnd H
      obtain rfl | rfl := tt t312
      ·replace H := ip H
       have H' := am H
       clear H
       obtain ⟨p306, q306, ad306, A306_0, c306_0, e306, _, hx306_0, HC306_0, HR306_0⟩ := aT_L2 HR0 HB x8_1
       cases e306
       obtain ⟨p307, q307, ad307, A307_0, c307_0, e307, _, hx307_0, HC307_0, HR307_0⟩ := aT_L2 HR0 HB x8_1
       obtain rfl : ad306 = ad307 := (by injection e307)
       have ea_ := Option.some.inj (hx306_0.symm.trans hx307_0)
       injection ea_ with ea_ en_ ec_
       subst ea_
       subst ec_
       clear en_
       obtain ⟨p308, q308, ad308, e308, _, hx308_0⟩ := at_i HR307_0 HB a2
       cases e308
       exact e5_0
      ·replace H := im H
       obtain ⟨LMc15, H⟩ := il_ H
       obtain ⟨y315, hy315⟩ : ∃ y_ : List Int, y_ = (x7_1 ++ [rd (rd_L2 l0 x8_1) a2]) := ⟨_, rfl⟩
       replace H : (spec_l18Steps.l0 k1 l0 a1 a2 y315 (wrap64 (x8_1 + 1))) = some r := ry hy315 H
       have Ny315 := am hy315
       clear hy315
       have H' := am H
       clear H
       obtain ⟨p306, q306, ad306, A306_0, c306_0, e306, _, hx306_0, HC306_0, HR306_0⟩ := aT_L2 HR0 HB x8_1
       cases e306
       obtain ⟨p307, q307, ad307, A307_0, c307_0, e307, _, hx307_0, HC307_0, HR307_0⟩ := aT_L2 HR0 HB x8_1
       obtain rfl : ad306 = ad307 := (by injection e307)
       have ea_ := Option.some.inj (hx306_0.symm.trans hx307_0)
       injection ea_ with ea_ en_ ec_
       subst ea_
       subst ec_
       clear en_
       obtain ⟨p308, q308, ad308, e308, _, hx308_0⟩ := at_i HR307_0 HB a2
       cases e308
       exact e5_0
     ·replace H := im H
      have H' := am H
      clear H
      obtain ⟨p306, q306, ad306, A306_0, c306_0, e306, _, hx306_0, HC306_0, HR306_0⟩ := aT_L2 HR0 HB x8_1
      cases e306
      obtain ⟨p307, q307, ad307, A307_0, c307_0, e307, _, hx307_0, HC307_0, HR307_0⟩ := aT_L2 HR0 HB x8_1
      obtain rfl : ad306 = ad307 := (by injection e307)
      have ea_ := Option.some.inj (hx306_0.symm.trans hx307_0)
      injection ea_ with ea_ en_ ec_
      subst ea_
      subst ec_
      clear en_
      obtain ⟨p308, q308, ad308, e308, _, hx308_0⟩ := at_i HR307_0 HB a2
      cases e308
      exact e5_0
    ·have H' := am H
     clear H
     obtain ⟨p306, q306, ad306, A306_0, c306_0, e306, _, hx306_0, HC306_0, HR306_0⟩ := aT_L2 HR0 HB x8_1
     cases e306
     go_wp2
     go_roundg k1
     case measure => have := HK1.out; omega
     case rel => exact ⟨(x7_1), (wrap64 (x8_1 + 1)), sc, H', kk1, ⟨sr HO_7⟩, ⟨sb⟩⟩
   ·obtain rfl := Option.some.inj H
    go_wp2
    go_ret
    exact ⟨_, se, sr HO_7, sb⟩

mutual
def spec_UnionHasLoop.l0 : Nat → List (List Int) → Int → Int → Option (Bool)
  | 0, _, _, _ => none
  | k + 1, x0, x3, x4 => if x4 < x3 then ((spec_l18Steps.f k x0 x3 x4).bind fun t319 => (spec_UnionHasLoop.l1 k x0 x3 x4 t319 0)) else (some false)
def spec_UnionHasLoop.l1 : Nat → List (List Int) → Int → Int → List Int → Int → Option (Bool)
  | 0, _, _, _, _, _ => none
  | k + 1, x0, x3, x4, x5, x6 => if x6 < (x5.length : Int) then (if 0 ≤ x6 then (if (rd x5 x6) = x4 then (some true) else ((spec_l18Steps.f k x0 x3 (rd x5 x6)).bind fun t324 => (spec_UnionHasLoop.l2 k x0 x3 x4 x5 x6 t324 0))) else (none)) else (spec_UnionHasLoop.l0 k x0 x3 (wrap64 (x4 + 1)))
def spec_UnionHasLoop.l2 : Nat → List (List Int) → Int → Int → List Int → Int → List Int → Int → Option (Bool)
  | 0, _, _, _, _, _, _, _ => none
  | k + 1, x0, x3, x4, x5, x6, x7, x8 => if x8 < (x7.length : Int) then (if 0 ≤ x8 then ((spec_l15Has.f k x5 (rd x7 x8)).bind fun t328 => (if t328 = true then (spec_UnionHasLoop.l2 k x0 x3 x4 x5 x6 x7 (wrap64 (x8 + 1))) else (if x5.length < 17592186044416 then (spec_UnionHasLoop.l2 k x0 x3 x4 (x5 ++ [rd x7 x8]) x6 x7 (wrap64 (x8 + 1))) else (none)))) else (none)) else (spec_UnionHasLoop.l1 k x0 x3 x4 x5 (wrap64 (x6 + 1)))
end
def spec_UnionHasLoop.f (k : Nat) (l0 : List (List Int)) : Option (Bool) := (spec_l18Size.f k l0).bind fun t318 => (spec_UnionHasLoop.l0 k l0 t318 0)
theorem spec_UnionHasLoop.mono_l : ∀ k, (∀ y0 y1 y2, LeO (spec_UnionHasLoop.l0 k y0 y1 y2) (spec_UnionHasLoop.l0 (k + 1) y0 y1 y2)) ∧ (∀ y0 y1 y2 y3 y4, LeO (spec_UnionHasLoop.l1 k y0 y1 y2 y3 y4) (spec_UnionHasLoop.l1 (k + 1) y0 y1 y2 y3 y4)) ∧ (∀ y0 y1 y2 y3 y4 y5 y6, LeO (spec_UnionHasLoop.l2 k y0 y1 y2 y3 y4 y5 y6) (spec_UnionHasLoop.l2 (k + 1) y0 y1 y2 y3 y4 y5 y6))
  | 0 => ⟨fun _ _ _ r h => by simp [spec_UnionHasLoop.l0] at h, fun _ _ _ _ _ r h => by simp [spec_UnionHasLoop.l1] at h, fun _ _ _ _ _ _ _ r h => by simp [spec_UnionHasLoop.l2] at h⟩
  | k + 1 => by
    obtain ⟨ih0, ih1, ih2⟩ := spec_UnionHasLoop.mono_l k
    refine ⟨?_, ?_, ?_⟩
    · intro y0 y1 y2
      unfold spec_UnionHasLoop.l0
      have m0 := @spec_l15Has.mono
      have m1 := @spec_l18Size.mono
      have m2 := @spec_l18Steps.mono
      exact mo
    · intro y0 y1 y2 y3 y4
      unfold spec_UnionHasLoop.l1
      have m0 := @spec_l15Has.mono
      have m1 := @spec_l18Size.mono
      have m2 := @spec_l18Steps.mono
      exact mo
    · intro y0 y1 y2 y3 y4 y5 y6
      unfold spec_UnionHasLoop.l2
      have m0 := @spec_l15Has.mono
      have m1 := @spec_l18Size.mono
      have m2 := @spec_l18Steps.mono
      exact mo
theorem spec_UnionHasLoop.mono : ∀ a0 k, LeO (spec_UnionHasLoop.f k a0) (spec_UnionHasLoop.f (k + 1) a0) := by
  intro a0 k
  obtain ⟨ih0, ih1, ih2⟩ := spec_UnionHasLoop.mono_l k
  unfold spec_UnionHasLoop.f
  have m0 := @spec_l15Has.mono
  have m1 := @spec_l18Size.mono
  have m2 := @spec_l18Steps.mono
  exact mo
theorem spec_UnionHasLoop.calls (k : Nat) (A0 : Option Addr) (c0 : Nat) (l0 : List (List Int)) (r : Bool) (w : World) (hr0 : Kd.C (Kd.slice 3 (Kd.int .i64)) w A0 l0.length l0) (hc0 : l0.length ≤ c0) (h : spec_UnionHasLoop.f k l0 = some r) :
    Calls Try.prog 76 #[.slice A0 l0.length c0] w fun e w' => e = .returned (.bool r) ∧ Below w.heap.size w w' := by
 have HR0 := am hr0
 have HC0 := am hc0
 clear hr0 hc0
 have HB := am (Below.refl w.heap.size w)
 have H := h; unfold spec_UnionHasLoop.f at H
 clear h
 obtain ⟨t318, A2, H⟩ := bnd H
 have H' := am H
 clear H
 go_enter Try.func76, Try.ntmps76
 go_wp2_with (first | ((with_reducible refine gc 98 rfl ?_); refine gL (some 10) Try.func98 #[.slice A0 l0.length c0] ?_; (with_reducible refine (spec_l18Size.calls k _ _ l0 t318 _ ?side1 ?side2 A2.out).mono ?_); (case side1 => repeat (first | exact HR0.out | (with_reducible refine Kd.C_alloc ?_ _) | (with_reducible refine Kd.C_drewN ?_ _) | (with_reducible refine Kd.C_drew ?_))); (case side2 => exact HC0.out); rintro e w' ⟨rfl, ⟨nd, rfl⟩⟩; refine ⟨_, rfl, ?_⟩))
 go_loopg [4] k (fun kq v4 w' => ∃ (x4_1 : Int), v4 = .int .i64 x4_1 ∧ Aside0 (spec_UnionHasLoop.l0 kq l0 t318 x4_1 = some r) ∧ Aside0 (kq ≤ k) ∧ Aside0 (Below w.heap.size w w'))
 case atStart => exact ⟨(0), sc, H', kk0, ⟨sb⟩⟩
 case round =>
  clear H'
  obtain ⟨x4_1, rfl, HA, HK1, HB⟩ := hrel
  cases gk with
  | zero => exact absurd HA.out (by simp [spec_UnionHasLoop.l0])
  | succ k1 =>
   have H := HA.out
   clear HA
   simp only [spec_UnionHasLoop.l0] at H
   obtain ⟨-, c3b0, H⟩ | ⟨-, c3b0, H⟩ := ic_ H
   ·obtain ⟨t319, A4, H⟩ := bnd H
    have H' := am H
    clear H
    go_wp2_with (first | ((with_reducible refine gc 99 rfl ?_); refine gL (some 19) Try.func99 #[.slice A0 l0.length c0, .int .i64 t318, .int .i64 x4_1] ?_; (with_reducible refine (spec_l18Steps.calls k1 _ _ l0 t318 x4_1 t319 _ ?side1 ?side2 A4.out).mono ?_); (case side1 => exact cb HR0); (case side2 => exact HC0.out); rintro e w5 ⟨v320, rfl, ho0, hb⟩; refine ⟨_, rfl, ?_⟩; have HO321 := am (Kd.R_lower ho0 (below_size (sb))); replace HB := bs hb; (try clear hb); (try clear ho0)))
    go_loopg [5, 6] k1 (fun kq v5 v6 w' => ∃ (x5_2 : List Int) (x6_2 : Int), v6 = .int .i64 x6_2 ∧ Aside0 (spec_UnionHasLoop.l1 kq l0 t318 x4_1 x5_2 x6_2 = some r) ∧ Aside0 (kq ≤ k1) ∧ Aside0 (Kd.R (Kd.int .i64) 3 w' w.heap.size (fun _ => True) v5 x5_2) ∧ Aside0 (Below w.heap.size w w'))
    case atStart => exact ⟨(t319), (0), sc, H', kk0, ⟨sr HO321⟩, ⟨sb⟩⟩
    case round =>
     clear H'
     try clear c3
     try clear c3b0
     obtain ⟨x5_2, x6_2, rfl, HA, HK2, HO_5, HB⟩ := hrel
     cases gk with
     | zero => exact absurd HA.out (by simp [spec_UnionHasLoop.l1])
     | succ k2 =>
      have H := HA.out
      clear HA
      simp only [spec_UnionHasLoop.l1] at H
      obtain ⟨-, c6b0, H⟩ | ⟨-, c6b0, H⟩ := ic_ H
      ·obtain ⟨c7b0, H⟩ := id_ H
       obtain ⟨-, c8b0, c8b1, H⟩ | ⟨c8, c8b0, c8b1, H⟩ := ib_ H
       ·obtain rfl := Option.some.inj H
        obtain ⟨Ao9, co9, eo9⟩ := Kd.R_slice HO_5.out
        subst eo9
        have p322 : 0 ≤ (x6_2 : Int) := sa
        have q322 : x6_2 < (x5_2.length : Int) := sa
        obtain ⟨ad322, e322, hx322_0⟩ := Kd.at_int (Kd.R_reads' HO_5.out).2.2 x6_2 p322 q322
        cases e322
        replace p322 := eq_true p322
        replace q322 := eq_true q322
        go_wp2
        go_ret
        exact ⟨se, sb⟩
       ·obtain ⟨t324, A10, H⟩ := bnd H
        have H' := am H
        clear H
        obtain ⟨Ao11, co11, eo11⟩ := Kd.R_slice HO_5.out
        subst eo11
        have p322 : 0 ≤ (x6_2 : Int) := sa
        have q322 : x6_2 < (x5_2.length : Int) := sa
        obtain ⟨ad322, e322, hx322_0⟩ := Kd.at_int (Kd.R_reads' HO_5.out).2.2 x6_2 p322 q322
        cases e322
        replace p322 := eq_true p322
        replace q322 := eq_true q322
        have p323 : 0 ≤ (x6_2 : Int) := sa
        have q323 : x6_2 < (x5_2.length : Int) := sa
        obtain ⟨ad323, e323, hx323_0⟩ := Kd.at_int (Kd.R_reads' HO_5.out).2.2 x6_2 p323 q323
        obtain rfl : ad322 = ad323 := (by injection e323)
        replace p323 := eq_true p323
        replace q323 := eq_true q323
        go_wp2_with (first | ((with_reducible refine gc 99 rfl ?_); refine gL (some 38) Try.func99 #[.slice A0 l0.length c0, .int .i64 t318, .int .i64 (rd x5_2 x6_2)] ?_; (with_reducible refine (spec_l18Steps.calls k2 _ _ l0 t318 (rd x5_2 x6_2) t324 _ ?side1 ?side2 A10.out).mono ?_); (case side1 => exact cb HR0); (case side2 => exact HC0.out); rintro e w12 ⟨v325, rfl, ho0, hb⟩; refine ⟨_, rfl, ?_⟩; have HO326 := am (Kd.R_lower (Kd.R_new' ho0 (Kd.R_lt (sr HO_5))) (below_size (sb))); replace HO_5 := am (Kd.R_elder' (sr HO_5) (Kd.R_base ho0) hb); replace HB := bs hb; (try clear hb); (try clear ho0)))
        go_loopg [5, 8] k2 (fun kq v5 v8 w' => ∃ (x5_3 : List Int) (x8_3 : Int), v8 = .int .i64 x8_3 ∧ Aside0 (spec_UnionHasLoop.l2 kq l0 t318 x4_1 x5_3 x6_2 t324 x8_3 = some r) ∧ Aside0 (kq ≤ k2) ∧ Aside0 (Kd.R (Kd.int .i64) 3 w' w.heap.size (fun k_ => some k_ ≠ (v325 : Value).ownBlock) v5 x5_3) ∧ Aside0 (Kd.R (Kd.int .i64) 3 w' w.heap.size (fun k_ => some k_ ≠ (v5 : Value).ownBlock) v325 t324) ∧ Aside0 (Below w.heap.size w w'))
        case atStart => exact ⟨(x5_2), (0), sc, H', kk0, ⟨by exact rm HO_5 (fun _ hk => hk.2)⟩, ⟨by exact rm HO326 (fun _ hk => hk.2)⟩, ⟨sb⟩⟩
        case round =>
         clear H'
         try clear c3
         try clear c3b0
         try clear c6
         try clear c6b0
         try clear c7b0
         try clear c8
         try clear c8b0
         try clear c8b1
         try clear hx322_0
         try clear hx323_0
         try clear p322
         try clear p323
         try clear q322
         try clear q323
         obtain ⟨x5_3, x8_3, rfl, HA, HK3, HO_5, HO_7, HB⟩ := hrel
         cases gk with
         | zero => exact absurd HA.out (by simp [spec_UnionHasLoop.l2])
         | succ k3 =>
          have H := HA.out
          clear HA
          simp only [spec_UnionHasLoop.l2] at H
          obtain ⟨-, c13b0, H⟩ | ⟨-, c13b0, H⟩ := ic_ H
          ·obtain ⟨c14b0, H⟩ := id_ H
           obtain ⟨t328, A15, H⟩ := bnd H
           obtain rfl | rfl := tt t328
           ·replace H := ip H
            have H' := am H
            clear H
            obtain ⟨Ao17, co17, eo17⟩ := Kd.R_slice HO_7.out
            subst eo17
            have p327 : 0 ≤ (x8_3 : Int) := sa
            have q327 : x8_3 < (t324.length : Int) := sa
            obtain ⟨ad327, e327, hx327_0⟩ := Kd.at_int (Kd.R_reads' HO_7.out).2.2 x8_3 p327 q327
            cases e327
            replace p327 := eq_true p327
            replace q327 := eq_true q327
            obtain ⟨Ao18, co18, eo18⟩ := Kd.R_slice HO_5.out
            subst eo18
            go_wp2_with (first | ((with_reducible refine gc 39 rfl ?_); refine gL (some 50) Try.func39 #[.slice Ao18 x5_3.length co18, .int .i64 (rd t324 x8_3)] ?_; (with_reducible refine (spec_l15Has.calls k3 _ _ x5_3 (rd t324 x8_3) true _ ?side1 ?side2 A15.out).mono ?_); (case side1 => exact cr HO_5); (case side2 => exact (Kd.R_reads' HO_5.out).2.1); rintro e w' ⟨rfl, ⟨nd, rfl⟩⟩; refine ⟨_, rfl, ?_⟩))
            go_roundg k3
            case measure => have := HK1.out; have := HK2.out; have := HK3.out; omega
            case rel => exact ⟨(x5_3), (wrap64 (x8_3 + 1)), sc, H', kk3, ⟨sr HO_5⟩, ⟨sr HO_7⟩, ⟨sb⟩⟩
           ·replace H := im H
            obtain ⟨LMc19, H⟩ := il_ H
            obtain ⟨y330, hy330⟩ : ∃ y_ : List Int, y_ = (x5_3 ++ [rd t324 x8_3]) := ⟨_, rfl⟩
            replace H : (spec_UnionHasLoop.l2 k3 l0 t318 x4_1 y330 x6_2 t324 (wrap64 (x8_3 + 1))) = some r := ry hy330 H
            have Ny330 := am hy330
            clear hy330
            have H' := am H
            clear H
            obtain ⟨Ao20, co20, eo20⟩ := Kd.R_slice HO_7.out
            subst eo20
            have p327 : 0 ≤ (x8_3 : Int) := sa
            have q327 : x8_3 < (t324.length : Int) := sa
            obtain ⟨ad327, e327, hx327_0⟩ := Kd.at_int (Kd.R_reads' HO_7.out).2.2 x8_3 p327 q327
            cases e327
            replace p327 := eq_true p327
            replace q327 := eq_true q327
            obtain ⟨Ao21, co21, eo21⟩ := Kd.R_slice HO_5.out
            subst eo21
            go_wp2_with (first | ((with_reducible refine gc 39 rfl ?_); refine gL (some 50) Try.func39 #[.slice Ao21 x5_3.length co21, .int .i64 (rd t324 x8_3)] ?_; (with_reducible refine (spec_l15Has.calls k3 _ _ x5_3 (rd t324 x8_3) false _ ?side1 ?side2 A15.out).mono ?_); (case side1 => exact cr HO_5); (case side2 => exact (Kd.R_reads' HO_5.out).2.1); rintro e w' ⟨rfl, ⟨nd, rfl⟩⟩; refine ⟨_, rfl, ?_⟩; have p329 : 0 ≤ (x8_3 : Int) := sa; have q329 : x8_3 < (t324.length : Int) := sa; obtain ⟨ad329, e329, hx329_0⟩ := Kd.at_int (Kd.R_reads' HO_7.out).2.2 x8_3 p329 q329; obtain rfl : ad327 = ad329 := (by injection e329); replace p329 := eq_true p329; replace q329 := eq_true q329) | ((with_reducible refine gate_builtin (b := .append) (xs := #[.tmp 52, .tmp 57]) rfl ?_); at_builtin; refine Kd.R_append (Kd.int .i64) (w0 := w) w.heap.size rfl (.tmp 52) (.tmp 57) 22 3 (.int .i64 0) 8 rfl Try.underlying22 info3 rfl (by decide) (by omega) (.slice Ao21 x5_3.length co21) x5_3 (rd t324 x8_3) [.int .i64 (rd t324 x8_3)] (fun k_ => some k_ ≠ (.slice (some ad327) t324.length co20 : Value).ownBlock) (fun _ => False) rfl rfl ?aP (fun _ hk => hk.elim) ?aF ?aO ?aB ?aS ?aL ?_; (case aP => exact rfl); (case aB => exact (sb)); (case aF => exact (fun k_ hk => Kd.fresh' (Kd.R_lt (sr HO_7)) k_ hk)); (case aO => exact (sr HO_5)); (case aS => exact (below_size (sb))); (case aL => have := LMc19.out; omega); intro v331 w22 ho hb hg hat; rw [← Ny330.out] at ho; replace HO_7 := am (Kd.R_after (ok := (fun _ => True)) (by exact rm HO_7 (fun _ hk => ⟨trivial, hk⟩)) hg hat); replace HB := am hb; have HO332 := am ho; clear HO_5; clear ho hb hg hat))
            go_roundg k3
            case measure => have := HK1.out; have := HK2.out; have := HK3.out; omega
            case rel => exact ⟨(y330), (wrap64 (x8_3 + 1)), sc, H', kk3, ⟨sr HO332⟩, ⟨by exact rm HO_7 (fun _ hk => hk.2)⟩, ⟨sb⟩⟩
          ·have H' := am H
           clear H
           obtain ⟨Ao23, co23, eo23⟩ := Kd.R_slice HO_7.out
           subst eo23
           go_wp2
           go_roundg k3
           case measure => have := HK1.out; have := HK2.out; have := HK3.out; omega
           case rel => exact ⟨(x5_3), (wrap64 (x6_2 + 1)), sc, H', kk3, ⟨by exact rm HO_5 (fun _ hk => trivial)⟩, ⟨sb⟩⟩
      ·have H' := am H
       clear H
       obtain ⟨Ao24, co24, eo24⟩ := Kd.R_slice HO_5.out
       subst eo24
       go_wp2
       go_roundg k2
       case measure => have := HK1.out; have := HK2.out; omega
       case rel => exact ⟨(wrap64 (x4_1 + 1)), sc, H', kk2, ⟨sb⟩⟩
   ·obtain rfl := Option.some.inj H
    go_wp2
    go_ret
    exact ⟨se, sb⟩

end Go.Proofs.Ytohbccekdmdmbaa.QFnExactRepairHop
