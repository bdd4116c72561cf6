/- What the Go functions of the law FnExactHeldAt come to, as Lean functions, and that they do: by a program of the session, out of the kit's printer. Conditions: none. (squeezed). -/
import Derived.Test.YtlakjlolahjphaaSq
import Derived.Test.YtlakjlolahjphaaQFnExactHeldAtx0
import Derived.Test.YtlakjlolahjphaaQFnExactHeldAtx4
namespace Go.Proofs.Ytlakjlolahjphaa.QFnExactHeldAt
open Go.RowKit Go.Proofs.YtlakjlolahjphaaW.PrintWords Go.Proofs.YtlakjlolahjphaaW.PrintLast Go.Proofs.YtlakjlolahjphaaW.PrintMore Go.Proofs.Ytlakjlolahjphaa.Open Go.Proofs.Ytlakjlolahjphaa.Sq
attribute [local go_sem] max2_int min2_int max_two min_two max_three min_three max_four min_four   -- for this text's walks alone
attribute [local go_sem] isSome_set
set_option linter.unusedVariables false
set_option linter.unusedSimpArgs false

/-! ### spec_l15Has: function 102 -/
def spec_l15Has.l0 : Nat → List Int → Int → Int → Option (Bool)
  | 0, _, _, _ => none
  | k + 1, x0, x1, x5 => if x5 < (x0.length : Int) then (if 0 ≤ x5 then (if (rd x0 x5) = x1 then (some true) else (spec_l15Has.l0 k x0 x1 (wrap64 (x5 + 1)))) else (none)) else (some false)
def spec_l15Has.f (k : Nat) (l0 : List Int) (a1 : Int) : Option (Bool) := spec_l15Has.l0 k l0 a1 0
theorem spec_l15Has.mono_l : ∀ k, (∀ y0 y1 y2, LeO (spec_l15Has.l0 k y0 y1 y2) (spec_l15Has.l0 (k + 1) y0 y1 y2))
  | 0 => fun _ _ _ r h => by simp [spec_l15Has.l0] at h
  | k + 1 => by
    have ih0 := spec_l15Has.mono_l k
    · intro y0 y1 y2
      unfold spec_l15Has.l0
      exact mo
theorem spec_l15Has.mono : ∀ a0 a1 k, LeO (spec_l15Has.f k a0 a1) (spec_l15Has.f (k + 1) a0 a1) := by
  intro a0 a1 k
  have ih0 := spec_l15Has.mono_l k
  unfold spec_l15Has.f
  exact mo
set_option maxHeartbeats 8000000 in
set_option maxRecDepth 100000 in
theorem spec_l15Has.calls (k : Nat) (A0 : Option Addr) (c0 : Nat) (l0 : List Int) (a1 : Int) (r : Bool) (w : World) (hr0 : Kd.C (Kd.int .i64) w A0 l0.length l0) (hc0 : l0.length ≤ c0) (h : spec_l15Has.f k l0 a1 = some r) :
    Calls Try.prog 102 #[.slice A0 l0.length c0, .int .i64 a1] w fun e w' => e = .returned (.bool r) ∧ Drawn0 w w' := by
 have HR0 := Aside0.mk hr0
 have HC0 := Aside0.mk hc0
 clear hr0 hc0
 have H : (spec_l15Has.l0 k l0 a1 0) = some r := h
 clear h
 have H' := Aside0.mk H
 clear H
 go_enter Try.func102, Try.ntmps102
 go_wp2
 go_loopg [5] k (fun kq v5 w' => ∃ (x5_1 : Int), v5 = .int .i64 x5_1 ∧ Aside0 (spec_l15Has.l0 kq l0 a1 x5_1 = some r) ∧ Aside0 (kq ≤ k) ∧ Drawn0 w w')
 case atStart => exact ⟨(0), sc, H', kk0, sd⟩
 case round =>
  clear H'
  obtain ⟨x5_1, rfl, HA, HK1, ⟨m1, rfl⟩⟩ := hrel
  cases gk with
  | zero => exact absurd HA.out (by simp [spec_l15Has.l0])
  | succ k1 =>
   have H := HA.out
   clear HA
   simp only [spec_l15Has.l0] at H
   obtain ⟨c3, H⟩ | ⟨c3, H⟩ := ie_ H
   ·have c3b0 := decide_eq_true c3
    clear c3
    obtain ⟨c4b0, H⟩ := id_ H
    obtain ⟨c5, H⟩ | ⟨c5, H⟩ := ie_ H
    ·have c5b0 : ((rd l0 x5_1) == a1) = true := beq_iff_eq.mpr c5
     have c5b1 : ((rd l0 x5_1) != a1) = false := bne_eq_false_iff_eq.mpr c5
     clear c5
     obtain rfl := Option.some.inj H
     have p248 : 0 ≤ (x5_1 : Int) := sa
     have q248 : x5_1 < (l0.length : Int) := sa
     obtain ⟨ad248, e248, hx248_0⟩ := Kd.at_int HR0.out x5_1 p248 q248
     cases e248
     replace p248 := eq_true p248
     replace q248 := eq_true q248
     go_wp2
     go_ret
     exact ⟨sc, sd⟩
    ·have c5b0 : ((rd l0 x5_1) == a1) = false := beq_eq_false_iff_ne.mpr c5
     have c5b1 : ((rd l0 x5_1) != a1) = true := bne_iff_ne.mpr c5
     have H' := Aside0.mk H
     clear H
     have p248 : 0 ≤ (x5_1 : Int) := sa
     have q248 : x5_1 < (l0.length : Int) := sa
     obtain ⟨ad248, e248, hx248_0⟩ := Kd.at_int HR0.out x5_1 p248 q248
     cases e248
     replace p248 := eq_true p248
     replace q248 := eq_true q248
     go_wp2
     go_roundg k1
     case measure => have := HK1.out; omega
     case rel => exact ⟨(wrap64 (x5_1 + 1)), sc, H', kk1, sd⟩
   ·have c3b0 := decide_eq_false c3
    clear c3
    obtain rfl := Option.some.inj H
    go_wp2
    go_ret
    exact ⟨sc, sd⟩

/-! ### spec_Max: function 132 -/
def spec_Max.f (a0 : Int) (a1 : Int) : Option (Int) := if a1 > a0 then (some a1) else (some a0)
set_option maxHeartbeats 8000000 in
set_option maxRecDepth 100000 in
theorem spec_Max.calls (a0 : Int) (a1 : Int) (r : Int) (w : World) (h : spec_Max.f a0 a1 = some r) :
    Calls Try.prog 132 #[.int .i64 a0, .int .i64 a1] w fun e w' => e = .returned (.int .i64 r) ∧ Drawn0 w w' := by
 have H : (if a1 > a0 then (some a1) else (some a0)) = some r := h
 clear h
 obtain ⟨c3, H⟩ | ⟨c3, H⟩ := ie_ H
 ·have c3b0 := decide_eq_true c3
  clear c3
  obtain rfl := Option.some.inj H
  go_enter Try.func132, Try.ntmps132
  go_wp2
  go_ret
  exact ⟨sc, sd⟩
 ·have c3b0 := decide_eq_false c3
  clear c3
  obtain rfl := Option.some.inj H
  go_enter Try.func132, Try.ntmps132
  go_wp2
  go_ret
  exact ⟨sc, sd⟩

/-! ### spec_l18Size: function 166 -/
def spec_l18Size.l0 : Nat → List (List Int) → Int → Int → Option (Int)
  | 0, _, _, _ => none
  | k + 1, x0, x3, x4 => if x4 < (x0.length : Int) then (if 0 ≤ x4 then ((spec_Max.f x3 ((rd_L2 x0 x4).length : Int)).bind fun t250 => (spec_l18Size.l0 k x0 t250 (wrap64 (x4 + 1)))) else (none)) else (some x3)
def spec_l18Size.f (k : Nat) (l0 : List (List Int)) : Option (Int) := spec_l18Size.l0 k l0 0 0
theorem spec_l18Size.mono_l : ∀ k, (∀ y0 y1 y2, LeO (spec_l18Size.l0 k y0 y1 y2) (spec_l18Size.l0 (k + 1) y0 y1 y2))
  | 0 => fun _ _ _ r h => by simp [spec_l18Size.l0] at h
  | k + 1 => by
    have ih0 := spec_l18Size.mono_l k
    · intro y0 y1 y2
      unfold spec_l18Size.l0
      exact mo
theorem spec_l18Size.mono : ∀ a0 k, LeO (spec_l18Size.f k a0) (spec_l18Size.f (k + 1) a0) := by
  intro a0 k
  have ih0 := spec_l18Size.mono_l k
  unfold spec_l18Size.f
  exact mo
set_option maxHeartbeats 8000000 in
set_option maxRecDepth 100000 in
theorem spec_l18Size.calls (k : Nat) (A0 : Option Addr) (c0 : Nat) (l0 : List (List Int)) (r : Int) (w : World) (hr0 : Kd.C (Kd.slice 3 (Kd.int .i64)) w A0 l0.length l0) (hc0 : l0.length ≤ c0) (h : spec_l18Size.f k l0 = some r) :
    Calls Try.prog 166 #[.slice A0 l0.length c0] w fun e w' => e = .returned (.int .i64 r) ∧ Drawn0 w w' := by
 have HR0 := Aside0.mk hr0
 have HC0 := Aside0.mk hc0
 clear hr0 hc0
 have H : (spec_l18Size.l0 k l0 0 0) = some r := h
 clear h
 have H' := Aside0.mk H
 clear H
 go_enter Try.func166, Try.ntmps166
 go_wp2
 go_loopg [3, 4] k (fun kq v3 v4 w' => ∃ (x3_1 : Int) (x4_1 : Int), v3 = .int .i64 x3_1 ∧ v4 = .int .i64 x4_1 ∧ Aside0 (spec_l18Size.l0 kq l0 x3_1 x4_1 = some r) ∧ Aside0 (kq ≤ k) ∧ Drawn0 w w')
 case atStart => exact ⟨(0), (0), sc, sc, H', kk0, sd⟩
 case round =>
  clear H'
  obtain ⟨x3_1, x4_1, rfl, rfl, HA, HK1, ⟨m1, rfl⟩⟩ := hrel
  cases gk with
  | zero => exact absurd HA.out (by simp [spec_l18Size.l0])
  | succ k1 =>
   have H := HA.out
   clear HA
   simp only [spec_l18Size.l0] at H
   obtain ⟨c2, H⟩ | ⟨c2, H⟩ := ie_ H
   ·have c2b0 := decide_eq_true c2
    clear c2
    obtain ⟨c3b0, H⟩ := id_ H
    obtain ⟨t250, A4, H⟩ := bnd H
    have H' := Aside0.mk H
    clear H
    have p249 : 0 ≤ (x4_1 : Int) := sa
    have q249 : x4_1 < (l0.length : Int) := sa
    obtain ⟨ad249, A249_0, c249_0, e249, hx249_0, hl249_0, hi249_0⟩ := at_L2 HR0.out x4_1 p249 q249
    cases e249
    have HR249_0 := Aside0.mk hi249_0
    have HC249_0 := Aside0.mk hl249_0
    clear hi249_0 hl249_0
    replace p249 := eq_true p249
    replace q249 := eq_true q249
    go_wp2_with (first | ((with_reducible refine gate_callee (f := 132) rfl ?_); refine gL (some 17) Try.func132 #[.int .i64 x3_1, .int .i64 ((rd_L2 l0 x4_1).length : Int)] ?_; (with_reducible refine (spec_Max.calls x3_1 ((rd_L2 l0 x4_1).length : Int) t250 _ A4.out).mono ?_); rintro e w' ⟨rfl, ⟨nd, rfl⟩⟩; refine ⟨_, rfl, ?_⟩))
    go_roundg k1
    case measure => have := HK1.out; omega
    case rel => exact ⟨(t250), (wrap64 (x4_1 + 1)), sc, sc, H', kk1, sd⟩
   ·have c2b0 := decide_eq_false c2
    clear c2
    obtain rfl := Option.some.inj H
    go_wp2
    go_ret
    exact ⟨sc, sd⟩

/-! ### spec_l18Steps: function 167 -/
def spec_l18Steps.l0 : Nat → List (List Int) → Int → Int → List Int → Int → Option (List Int)
  | 0, _, _, _, _, _ => none
  | k + 1, x0, x1, x2, x7, x8 => if x8 < (x0.length : Int) then (if 0 ≤ x8 then (if x2 < ((rd_L2 x0 x8).length : Int) then (if 0 ≤ x2 then ((spec_l1In.f (rd (rd_L2 x0 x8) x2) 0 (wrap64 (x1 - 1))).bind fun t257 => (if t257 = true then ((spec_l15Has.f k x7 (rd (rd_L2 x0 x8) x2)).bind fun t260 => (if t260 = true then (spec_l18Steps.l0 k x0 x1 x2 x7 (wrap64 (x8 + 1))) else (if x7.length < 17592186044416 then (spec_l18Steps.l0 k x0 x1 x2 (x7 ++ [rd (rd_L2 x0 x8) x2]) (wrap64 (x8 + 1))) else (none)))) else (spec_l18Steps.l0 k x0 x1 x2 x7 (wrap64 (x8 + 1))))) else (none)) else (spec_l18Steps.l0 k x0 x1 x2 x7 (wrap64 (x8 + 1)))) else (none)) else (some x7)
def spec_l18Steps.f (k : Nat) (l0 : List (List Int)) (a1 : Int) (a2 : Int) : Option (List Int) := spec_l18Steps.l0 k l0 a1 a2 (([] : List Int)) 0
theorem spec_l18Steps.mono_l : ∀ k, (∀ y0 y1 y2 y3 y4, LeO (spec_l18Steps.l0 k y0 y1 y2 y3 y4) (spec_l18Steps.l0 (k + 1) y0 y1 y2 y3 y4))
  | 0 => fun _ _ _ _ _ r h => by simp [spec_l18Steps.l0] at h
  | k + 1 => by
    have ih0 := spec_l18Steps.mono_l k
    · intro y0 y1 y2 y3 y4
      unfold spec_l18Steps.l0
      have m0 := @spec_l15Has.mono
      exact mo
theorem spec_l18Steps.mono : ∀ a0 a1 a2 k, LeO (spec_l18Steps.f k a0 a1 a2) (spec_l18Steps.f (k + 1) a0 a1 a2) := by
  intro a0 a1 a2 k
  have ih0 := spec_l18Steps.mono_l k
  unfold spec_l18Steps.f
  have m0 := @spec_l15Has.mono
  exact mo
set_option maxHeartbeats 8000000 in
set_option maxRecDepth 100000 in
theorem spec_l18Steps.calls (k : Nat) (A0 : Option Addr) (c0 : Nat) (l0 : List (List Int)) (a1 : Int) (a2 : Int) (r : List Int) (w : World) (hr0 : Kd.C (Kd.slice 3 (Kd.int .i64)) w A0 l0.length l0) (hc0 : l0.length ≤ c0) (h : spec_l18Steps.f k l0 a1 a2 = some r) :
    Calls Try.prog 167 #[.slice A0 l0.length c0, .int .i64 a1, .int .i64 a2] w fun e w' => ∃ v0_ : Value, e = .returned (v0_) ∧ Kd.R (Kd.int .i64) 3 w' w.heap.size (fun _ => True) v0_ r ∧ Below w.heap.size w w' := by
 have HR0 := Aside0.mk hr0
 have HC0 := Aside0.mk hc0
 clear hr0 hc0
 have HB := Aside0.mk (Below.refl w.heap.size w)
 have H : (spec_l18Steps.l0 k l0 a1 a2 (([] : List Int)) 0) = some r := h
 clear h
 obtain ⟨y251, hy251⟩ : ∃ y_ : List Int, y_ = (([] : List Int)) := ⟨_, rfl⟩
 replace H : (spec_l18Steps.l0 k l0 a1 a2 y251 0) = some r := by first | (rw [hy251]; with_reducible exact H) | (have H2_ := (Option.bind_some _ _).symm.trans H; rw [hy251]; with_reducible exact H2_) | (have H2_ := (Option.bind_some _ _).symm.trans H; with_reducible exact H2_) | with_reducible exact H | (rw [hy251]; exact H) | exact H
 have Ny251 := Aside0.mk hy251
 clear hy251
 have H' := Aside0.mk H
 clear H
 go_enter Try.func167, Try.ntmps167
 go_wp2_with (first | ((with_reducible refine gate_dst (N := 9) rfl ?_); refine Kd.R_lit (Kd.int .i64) _ 3 ?hg (N := 9) ?hd (xs := ([] : List Int)) (inner := []) (ok := fun _ => True) (okp := fun _ => True) ?hr ?hp (fun _ hk => hk) trivial (Below.refl _ _) (Nat.le_refl _) (by simp) ?_; (case hd => rfl); (case hg => rfl); (case hr => first | (go_simp; done) | (go_simp; rfl)); (case hp => exact (Reps.none _ _)); intro v252 w4 ho5 hb hg_ hnew_; clear hg_ hnew_; (first | rw [← Ny251.out] at ho5 | (simp only [Int.reduceToNat] at ho5; rw [← Ny251.out] at ho5)); have HO253 := Aside0.mk (Kd.R_lower ho5 (below_size (sb))); replace HB := bs hb; clear hb ho5))
 go_loopg [7, 8] k (fun kq v7 v8 w' => ∃ (x7_1 : List Int) (x8_1 : Int), v8 = .int .i64 x8_1 ∧ Aside0 (spec_l18Steps.l0 kq l0 a1 a2 x7_1 x8_1 = some r) ∧ Aside0 (kq ≤ k) ∧ Aside0 (Kd.R (Kd.int .i64) 3 w' w.heap.size (fun _ => True) v7 x7_1) ∧ Aside0 (Below w.heap.size w w'))
 case atStart => exact ⟨(y251), (0), sc, H', kk0, ⟨sr HO253⟩, ⟨sb⟩⟩
 case round =>
  clear H'
  obtain ⟨x7_1, x8_1, rfl, HA, HK1, HO_7, HB⟩ := hrel
  cases gk with
  | zero => exact absurd HA.out (by simp [spec_l18Steps.l0])
  | succ k1 =>
   have H := HA.out
   clear HA
   simp only [spec_l18Steps.l0] at H
   obtain ⟨c6, H⟩ | ⟨c6, H⟩ := ie_ H
   ·have c6b0 := decide_eq_true c6
    clear c6
    obtain ⟨c7b0, H⟩ := id_ H
    obtain ⟨c8, H⟩ | ⟨c8, H⟩ := ie_ H
    ·have c8b0 := decide_eq_true c8
     clear c8
     obtain ⟨c9b0, H⟩ := id_ H
     obtain ⟨t257, A10, H⟩ := bnd H
     obtain rfl | rfl := tt t257
     ·replace H := ip H
      obtain ⟨t260, A12, H⟩ := bnd H
      obtain rfl | rfl := tt t260
      ·replace H := ip H
       have H' := Aside0.mk H
       clear H
       obtain ⟨p254, q254, ad254, A254_0, c254_0, e254, _, hx254_0, HC254_0, HR254_0⟩ := aT_L2 HR0 HB x8_1
       cases e254
       obtain ⟨p255, q255, ad255, A255_0, c255_0, e255, _, hx255_0, HC255_0, HR255_0⟩ := aT_L2 HR0 HB x8_1
       obtain rfl : ad254 = ad255 := (by injection e255)
       have ea_ := Option.some.inj (hx254_0.symm.trans hx255_0)
       injection ea_ with ea_ en_ ec_
       subst ea_
       subst ec_
       clear en_
       obtain ⟨p256, q256, ad256, e256, _, hx256_0⟩ := at_i HR255_0 HB a2
       cases e256
       go_wp2_with (first | (go_at_call 63; (try simp only [i64_w, i32_w]); (with_reducible refine (spec_l1In.calls (rd (rd_L2 l0 x8_1) a2) 0 (wrap64 (a1 - 1)) true _ A10.out).mono ?_); rintro e w' ⟨rfl, ⟨nd, rfl⟩⟩; obtain ⟨p258, q258, ad258, A258_0, c258_0, e258, _, hx258_0, HC258_0, HR258_0⟩ := aT_L2 HR0 HB x8_1; obtain rfl : ad254 = ad258 := (by injection e258); have ea_ := Option.some.inj (hx254_0.symm.trans hx258_0); injection ea_ with ea_ en_ ec_; subst ea_; subst ec_; clear en_; obtain ⟨p259, q259, ad259, e259, _, hx259_0⟩ := at_i HR258_0 HB a2; cases e259; obtain ⟨Ao14, co14, eo14⟩ := Kd.R_slice HO_7.out; subst eo14) | (go_at_call 102; (with_reducible refine (spec_l15Has.calls k1 _ _ x7_1 (rd (rd_L2 l0 x8_1) a2) true _ ?side1 ?side2 A12.out).mono ?_); (case side1 => repeat (first | exact (Kd.R_reads' HO_7.out).2.2 | (with_reducible refine Kd.C_alloc ?_ _) | (with_reducible refine Kd.C_drewN ?_ _) | (with_reducible refine Kd.C_drew ?_))); (case side2 => exact (Kd.R_reads' HO_7.out).2.1); rintro e w' ⟨rfl, ⟨nd, rfl⟩⟩))
       go_roundg k1
       case measure => have := HK1.out; omega
       case rel => exact ⟨(x7_1), (wrap64 (x8_1 + 1)), sc, H', kk1, ⟨sr HO_7⟩, ⟨sb⟩⟩
      ·replace H := im H
       obtain ⟨LMc15, H⟩ := il_ H
       obtain ⟨y263, hy263⟩ : ∃ y_ : List Int, y_ = (x7_1 ++ [rd (rd_L2 l0 x8_1) a2]) := ⟨_, rfl⟩
       replace H : (spec_l18Steps.l0 k1 l0 a1 a2 y263 (wrap64 (x8_1 + 1))) = some r := by first | (rw [hy263]; with_reducible exact H) | (have H2_ := (Option.bind_some _ _).symm.trans H; rw [hy263]; with_reducible exact H2_) | (have H2_ := (Option.bind_some _ _).symm.trans H; with_reducible exact H2_) | with_reducible exact H | (rw [hy263]; exact H) | exact H
       have Ny263 := Aside0.mk hy263
       clear hy263
       have H' := Aside0.mk H
       clear H
       obtain ⟨p254, q254, ad254, A254_0, c254_0, e254, _, hx254_0, HC254_0, HR254_0⟩ := aT_L2 HR0 HB x8_1
       cases e254
       obtain ⟨p255, q255, ad255, A255_0, c255_0, e255, _, hx255_0, HC255_0, HR255_0⟩ := aT_L2 HR0 HB x8_1
       obtain rfl : ad254 = ad255 := (by injection e255)
       have ea_ := Option.some.inj (hx254_0.symm.trans hx255_0)
       injection ea_ with ea_ en_ ec_
       subst ea_
       subst ec_
       clear en_
       obtain ⟨p256, q256, ad256, e256, _, hx256_0⟩ := at_i HR255_0 HB a2
       cases e256
       go_wp2_with (first | (go_at_call 63; (try simp only [i64_w, i32_w]); (with_reducible refine (spec_l1In.calls (rd (rd_L2 l0 x8_1) a2) 0 (wrap64 (a1 - 1)) true _ A10.out).mono ?_); rintro e w' ⟨rfl, ⟨nd, rfl⟩⟩; obtain ⟨p258, q258, ad258, A258_0, c258_0, e258, _, hx258_0, HC258_0, HR258_0⟩ := aT_L2 HR0 HB x8_1; obtain rfl : ad254 = ad258 := (by injection e258); have ea_ := Option.some.inj (hx254_0.symm.trans hx258_0); injection ea_ with ea_ en_ ec_; subst ea_; subst ec_; clear en_; obtain ⟨p259, q259, ad259, e259, _, hx259_0⟩ := at_i HR258_0 HB a2; cases e259; obtain ⟨Ao16, co16, eo16⟩ := Kd.R_slice HO_7.out; subst eo16) | (go_at_call 102; (with_reducible refine (spec_l15Has.calls k1 _ _ x7_1 (rd (rd_L2 l0 x8_1) a2) false _ ?side1 ?side2 A12.out).mono ?_); (case side1 => repeat (first | exact (Kd.R_reads' HO_7.out).2.2 | (with_reducible refine Kd.C_alloc ?_ _) | (with_reducible refine Kd.C_drewN ?_ _) | (with_reducible refine Kd.C_drew ?_))); (case side2 => exact (Kd.R_reads' HO_7.out).2.1); rintro e w' ⟨rfl, ⟨nd, rfl⟩⟩; obtain ⟨p261, q261, ad261, A261_0, c261_0, e261, _, hx261_0, HC261_0, HR261_0⟩ := aT_L2 HR0 HB x8_1; obtain rfl : ad254 = ad261 := (by injection e261); have ea_ := Option.some.inj (hx254_0.symm.trans hx261_0); injection ea_ with ea_ en_ ec_; subst ea_; subst ec_; clear en_; obtain ⟨p262, q262, ad262, e262, _, hx262_0⟩ := at_i HR261_0 HB a2; cases e262) | ((with_reducible refine gate_builtin (b := .append) (xs := #[.tmp 47, .tmp 55]) rfl ?_); at_builtin; refine Kd.R_append (Kd.int .i64) (w0 := w) w.heap.size rfl (.tmp 47) (.tmp 55) 40 3 (.int .i64 0) 8 rfl Try.underlying40 info3 rfl (by decide) (by omega) (.slice Ao16 x7_1.length co16) x7_1 (rd (rd_L2 l0 x8_1) a2) [.int .i64 (rd (rd_L2 l0 x8_1) a2)] (fun _ => True) (fun _ => False) rfl rfl ?aP (fun _ hk => hk.elim) ?aF ?aO ?aB ?aS ?aL ?_; (case aP => exact rfl); (case aB => exact (sb)); (case aF => exact (fun _ _ => trivial)); (case aO => exact (sr HO_7)); (case aS => exact (below_size (sb))); (case aL => have := LMc15.out; omega); intro v264 w17 ho hb hg hat; rw [← Ny263.out] at ho; replace HB := Aside0.mk hb; have HO265 := Aside0.mk ho; clear HO_7; clear ho hb hg hat))
       go_roundg k1
       case measure => have := HK1.out; omega
       case rel => exact ⟨(y263), (wrap64 (x8_1 + 1)), sc, H', kk1, ⟨sr HO265⟩, ⟨sb⟩⟩
     ·replace H := im H
      have H' := Aside0.mk H
      clear H
      obtain ⟨p254, q254, ad254, A254_0, c254_0, e254, _, hx254_0, HC254_0, HR254_0⟩ := aT_L2 HR0 HB x8_1
      cases e254
      obtain ⟨p255, q255, ad255, A255_0, c255_0, e255, _, hx255_0, HC255_0, HR255_0⟩ := aT_L2 HR0 HB x8_1
      obtain rfl : ad254 = ad255 := (by injection e255)
      have ea_ := Option.some.inj (hx254_0.symm.trans hx255_0)
      injection ea_ with ea_ en_ ec_
      subst ea_
      subst ec_
      clear en_
      obtain ⟨p256, q256, ad256, e256, _, hx256_0⟩ := at_i HR255_0 HB a2
      cases e256
      go_wp2_with (first | (go_at_call 63; (try simp only [i64_w, i32_w]); (with_reducible refine (spec_l1In.calls (rd (rd_L2 l0 x8_1) a2) 0 (wrap64 (a1 - 1)) false _ A10.out).mono ?_); rintro e w' ⟨rfl, ⟨nd, rfl⟩⟩))
      go_roundg k1
      case measure => have := HK1.out; omega
      case rel => exact ⟨(x7_1), (wrap64 (x8_1 + 1)), sc, H', kk1, ⟨sr HO_7⟩, ⟨sb⟩⟩
    ·have c8b0 := decide_eq_false c8
     clear c8
     have H' := Aside0.mk H
     clear H
     obtain ⟨p254, q254, ad254, A254_0, c254_0, e254, _, hx254_0, HC254_0, HR254_0⟩ := aT_L2 HR0 HB x8_1
     cases e254
     go_wp2
     go_roundg k1
     case measure => have := HK1.out; omega
     case rel => exact ⟨(x7_1), (wrap64 (x8_1 + 1)), sc, H', kk1, ⟨sr HO_7⟩, ⟨sb⟩⟩
   ·have c6b0 := decide_eq_false c6
    clear c6
    obtain rfl := Option.some.inj H
    go_wp2
    go_ret
    exact ⟨_, se, sr HO_7, sb⟩

/-! ### spec_UnionHasLoop: function 128 -/
mutual
def spec_UnionHasLoop.l0 : Nat → List (List Int) → Int → Int → Option (Bool)
  | 0, _, _, _ => none
  | k + 1, x0, x3, x4 => if x4 < x3 then ((spec_l18Steps.f k x0 x3 x4).bind fun t267 => (spec_UnionHasLoop.l1 k x0 x3 x4 t267 0)) else (some false)
def spec_UnionHasLoop.l1 : Nat → List (List Int) → Int → Int → List Int → Int → Option (Bool)
  | 0, _, _, _, _, _ => none
  | k + 1, x0, x3, x4, x5, x6 => if x6 < (x5.length : Int) then (if 0 ≤ x6 then (if (rd x5 x6) = x4 then (some true) else ((spec_l18Steps.f k x0 x3 (rd x5 x6)).bind fun t272 => (spec_UnionHasLoop.l2 k x0 x3 x4 x5 x6 t272 0))) else (none)) else (spec_UnionHasLoop.l0 k x0 x3 (wrap64 (x4 + 1)))
def spec_UnionHasLoop.l2 : Nat → List (List Int) → Int → Int → List Int → Int → List Int → Int → Option (Bool)
  | 0, _, _, _, _, _, _, _ => none
  | k + 1, x0, x3, x4, x5, x6, x7, x8 => if x8 < (x7.length : Int) then (if 0 ≤ x8 then ((spec_l15Has.f k x5 (rd x7 x8)).bind fun t276 => (if t276 = true then (spec_UnionHasLoop.l2 k x0 x3 x4 x5 x6 x7 (wrap64 (x8 + 1))) else (if x5.length < 17592186044416 then (spec_UnionHasLoop.l2 k x0 x3 x4 (x5 ++ [rd x7 x8]) x6 x7 (wrap64 (x8 + 1))) else (none)))) else (none)) else (spec_UnionHasLoop.l1 k x0 x3 x4 x5 (wrap64 (x6 + 1)))
end
def spec_UnionHasLoop.f (k : Nat) (l0 : List (List Int)) : Option (Bool) := (spec_l18Size.f k l0).bind fun t266 => (spec_UnionHasLoop.l0 k l0 t266 0)
theorem spec_UnionHasLoop.mono_l : ∀ k, (∀ y0 y1 y2, LeO (spec_UnionHasLoop.l0 k y0 y1 y2) (spec_UnionHasLoop.l0 (k + 1) y0 y1 y2)) ∧ (∀ y0 y1 y2 y3 y4, LeO (spec_UnionHasLoop.l1 k y0 y1 y2 y3 y4) (spec_UnionHasLoop.l1 (k + 1) y0 y1 y2 y3 y4)) ∧ (∀ y0 y1 y2 y3 y4 y5 y6, LeO (spec_UnionHasLoop.l2 k y0 y1 y2 y3 y4 y5 y6) (spec_UnionHasLoop.l2 (k + 1) y0 y1 y2 y3 y4 y5 y6))
  | 0 => ⟨fun _ _ _ r h => by simp [spec_UnionHasLoop.l0] at h, fun _ _ _ _ _ r h => by simp [spec_UnionHasLoop.l1] at h, fun _ _ _ _ _ _ _ r h => by simp [spec_UnionHasLoop.l2] at h⟩
  | k + 1 => by
    obtain ⟨ih0, ih1, ih2⟩ := spec_UnionHasLoop.mono_l k
    refine ⟨?_, ?_, ?_⟩
    · intro y0 y1 y2
      unfold spec_UnionHasLoop.l0
      have m0 := @spec_l15Has.mono
      have m1 := @spec_l18Size.mono
      have m2 := @spec_l18Steps.mono
      exact mo
    · intro y0 y1 y2 y3 y4
      unfold spec_UnionHasLoop.l1
      have m0 := @spec_l15Has.mono
      have m1 := @spec_l18Size.mono
      have m2 := @spec_l18Steps.mono
      exact mo
    · intro y0 y1 y2 y3 y4 y5 y6
      unfold spec_UnionHasLoop.l2
      have m0 := @spec_l15Has.mono
      have m1 := @spec_l18Size.mono
      have m2 := @spec_l18Steps.mono
      exact mo
theorem spec_UnionHasLoop.mono : ∀ a0 k, LeO (spec_UnionHasLoop.f k a0) (spec_UnionHasLoop.f (k + 1) a0) := by
  intro a0 k
  obtain ⟨ih0, ih1, ih2⟩ := spec_UnionHasLoop.mono_l k
  unfold spec_UnionHasLoop.f
  have m0 := @spec_l15Has.mono
  have m1 := @spec_l18Size.mono
  have m2 := @spec_l18Steps.mono
  exact mo
set_option maxHeartbeats 8000000 in
set_option maxRecDepth 100000 in
theorem spec_UnionHasLoop.calls (k : Nat) (A0 : Option Addr) (c0 : Nat) (l0 : List (List Int)) (r : Bool) (w : World) (hr0 : Kd.C (Kd.slice 3 (Kd.int .i64)) w A0 l0.length l0) (hc0 : l0.length ≤ c0) (h : spec_UnionHasLoop.f k l0 = some r) :
    Calls Try.prog 128 #[.slice A0 l0.length c0] w fun e w' => e = .returned (.bool r) ∧ Below w.heap.size w w' := by
 have HR0 := Aside0.mk hr0
 have HC0 := Aside0.mk hc0
 clear hr0 hc0
 have HB := Aside0.mk (Below.refl w.heap.size w)
 have H : ((spec_l18Size.f k l0).bind fun t266 => (spec_UnionHasLoop.l0 k l0 t266 0)) = some r := h
 clear h
 obtain ⟨t266, A2, H⟩ := bnd H
 have H' := Aside0.mk H
 clear H
 go_enter Try.func128, Try.ntmps128
 go_wp2_with (first | ((with_reducible refine gate_callee (f := 166) rfl ?_); refine gL (some 10) Try.func166 #[.slice A0 l0.length c0] ?_; (with_reducible refine (spec_l18Size.calls k _ _ l0 t266 _ ?side1 ?side2 A2.out).mono ?_); (case side1 => repeat (first | exact HR0.out | (with_reducible refine Kd.C_alloc ?_ _) | (with_reducible refine Kd.C_drewN ?_ _) | (with_reducible refine Kd.C_drew ?_))); (case side2 => exact HC0.out); rintro e w' ⟨rfl, ⟨nd, rfl⟩⟩; refine ⟨_, rfl, ?_⟩))
 go_loopg [4] k (fun kq v4 w' => ∃ (x4_1 : Int), v4 = .int .i64 x4_1 ∧ Aside0 (spec_UnionHasLoop.l0 kq l0 t266 x4_1 = some r) ∧ Aside0 (kq ≤ k) ∧ Aside0 (Below w.heap.size w w'))
 case atStart => exact ⟨(0), sc, H', kk0, ⟨sb⟩⟩
 case round =>
  clear H'
  obtain ⟨x4_1, rfl, HA, HK1, HB⟩ := hrel
  cases gk with
  | zero => exact absurd HA.out (by simp [spec_UnionHasLoop.l0])
  | succ k1 =>
   have H := HA.out
   clear HA
   simp only [spec_UnionHasLoop.l0] at H
   obtain ⟨c3, H⟩ | ⟨c3, H⟩ := ie_ H
   ·have c3b0 := decide_eq_true c3
    clear c3
    obtain ⟨t267, A4, H⟩ := bnd H
    have H' := Aside0.mk H
    clear H
    go_wp2_with (first | ((with_reducible refine gate_callee (f := 167) rfl ?_); refine gL (some 19) Try.func167 #[.slice A0 l0.length c0, .int .i64 t266, .int .i64 x4_1] ?_; (with_reducible refine (spec_l18Steps.calls k1 _ _ l0 t266 x4_1 t267 _ ?side1 ?side2 A4.out).mono ?_); (case side1 => exact cb HR0); (case side2 => exact HC0.out); rintro e w5 ⟨v268, rfl, ho0, hb⟩; refine ⟨_, rfl, ?_⟩; have HO269 := Aside0.mk (Kd.R_lower ho0 (below_size (sb))); replace HB := bs hb; (try clear hb); (try clear hb2); (try clear hk); (try clear hi); (try clear ho0)))
    go_loopg [5, 6] k1 (fun kq v5 v6 w' => ∃ (x5_2 : List Int) (x6_2 : Int), v6 = .int .i64 x6_2 ∧ Aside0 (spec_UnionHasLoop.l1 kq l0 t266 x4_1 x5_2 x6_2 = some r) ∧ Aside0 (kq ≤ k1) ∧ Aside0 (Kd.R (Kd.int .i64) 3 w' w.heap.size (fun _ => True) v5 x5_2) ∧ Aside0 (Below w.heap.size w w'))
    case atStart => exact ⟨(t267), (0), sc, H', kk0, ⟨sr HO269⟩, ⟨sb⟩⟩
    case round =>
     clear H'
     try clear c3
     try clear c3b0
     obtain ⟨x5_2, x6_2, rfl, HA, HK2, HO_5, HB⟩ := hrel
     cases gk with
     | zero => exact absurd HA.out (by simp [spec_UnionHasLoop.l1])
     | succ k2 =>
      have H := HA.out
      clear HA
      simp only [spec_UnionHasLoop.l1] at H
      obtain ⟨c6, H⟩ | ⟨c6, H⟩ := ie_ H
      ·have c6b0 := decide_eq_true c6
       clear c6
       obtain ⟨c7b0, H⟩ := id_ H
       obtain ⟨c8, H⟩ | ⟨c8, H⟩ := ie_ H
       ·have c8b0 : ((rd x5_2 x6_2) == x4_1) = true := beq_iff_eq.mpr c8
        have c8b1 : ((rd x5_2 x6_2) != x4_1) = false := bne_eq_false_iff_eq.mpr c8
        clear c8
        obtain rfl := Option.some.inj H
        obtain ⟨Ao9, co9, eo9⟩ := Kd.R_slice HO_5.out
        subst eo9
        have p270 : 0 ≤ (x6_2 : Int) := sa
        have q270 : x6_2 < (x5_2.length : Int) := sa
        obtain ⟨ad270, e270, hx270_0⟩ := Kd.at_int (Kd.R_reads' HO_5.out).2.2 x6_2 p270 q270
        cases e270
        replace p270 := eq_true p270
        replace q270 := eq_true q270
        go_wp2
        go_ret
        exact ⟨se, sb⟩
       ·have c8b0 : ((rd x5_2 x6_2) == x4_1) = false := beq_eq_false_iff_ne.mpr c8
        have c8b1 : ((rd x5_2 x6_2) != x4_1) = true := bne_iff_ne.mpr c8
        obtain ⟨t272, A10, H⟩ := bnd H
        have H' := Aside0.mk H
        clear H
        obtain ⟨Ao11, co11, eo11⟩ := Kd.R_slice HO_5.out
        subst eo11
        have p270 : 0 ≤ (x6_2 : Int) := sa
        have q270 : x6_2 < (x5_2.length : Int) := sa
        obtain ⟨ad270, e270, hx270_0⟩ := Kd.at_int (Kd.R_reads' HO_5.out).2.2 x6_2 p270 q270
        cases e270
        replace p270 := eq_true p270
        replace q270 := eq_true q270
        have p271 : 0 ≤ (x6_2 : Int) := sa
        have q271 : x6_2 < (x5_2.length : Int) := sa
        obtain ⟨ad271, e271, hx271_0⟩ := Kd.at_int (Kd.R_reads' HO_5.out).2.2 x6_2 p271 q271
        obtain rfl : ad270 = ad271 := (by injection e271)
        replace p271 := eq_true p271
        replace q271 := eq_true q271
        go_wp2_with (first | ((with_reducible refine gate_callee (f := 167) rfl ?_); refine gL (some 38) Try.func167 #[.slice A0 l0.length c0, .int .i64 t266, .int .i64 (rd x5_2 x6_2)] ?_; (with_reducible refine (spec_l18Steps.calls k2 _ _ l0 t266 (rd x5_2 x6_2) t272 _ ?side1 ?side2 A10.out).mono ?_); (case side1 => exact cb HR0); (case side2 => exact HC0.out); rintro e w12 ⟨v273, rfl, ho0, hb⟩; refine ⟨_, rfl, ?_⟩; have HO274 := Aside0.mk (Kd.R_lower (Kd.R_new' ho0 (Kd.R_lt (sr HO_5))) (below_size (sb))); replace HO_5 := Aside0.mk (Kd.R_elder' (sr HO_5) (Kd.R_base ho0) hb); replace HB := bs hb; (try clear hb); (try clear hb2); (try clear hk); (try clear hi); (try clear ho0)))
        go_loopg [5, 8] k2 (fun kq v5 v8 w' => ∃ (x5_3 : List Int) (x8_3 : Int), v8 = .int .i64 x8_3 ∧ Aside0 (spec_UnionHasLoop.l2 kq l0 t266 x4_1 x5_3 x6_2 t272 x8_3 = some r) ∧ Aside0 (kq ≤ k2) ∧ Aside0 (Kd.R (Kd.int .i64) 3 w' w.heap.size (fun k_ => some k_ ≠ (v273 : Value).ownBlock) v5 x5_3) ∧ Aside0 (Kd.R (Kd.int .i64) 3 w' w.heap.size (fun k_ => some k_ ≠ (v5 : Value).ownBlock) v273 t272) ∧ Aside0 (Below w.heap.size w w'))
        case atStart => exact ⟨(x5_2), (0), sc, H', kk0, ⟨by (with_reducible repeat (first | apply Kd.R_alloc | apply Kd.R_drewN | apply Kd.R_drew)); exact Kd.R_mono HO_5.out (fun _ hk => hk.2)⟩, ⟨by (with_reducible repeat (first | apply Kd.R_alloc | apply Kd.R_drewN | apply Kd.R_drew)); exact Kd.R_mono HO274.out (fun _ hk => hk.2)⟩, ⟨sb⟩⟩
        case round =>
         clear H'
         try clear c3
         try clear c3b0
         try clear c6
         try clear c6b0
         try clear c7b0
         try clear c8
         try clear c8b0
         try clear c8b1
         try clear hx270_0
         try clear hx271_0
         try clear p270
         try clear p271
         try clear q270
         try clear q271
         obtain ⟨x5_3, x8_3, rfl, HA, HK3, HO_5, HO_7, HB⟩ := hrel
         cases gk with
         | zero => exact absurd HA.out (by simp [spec_UnionHasLoop.l2])
         | succ k3 =>
          have H := HA.out
          clear HA
          simp only [spec_UnionHasLoop.l2] at H
          obtain ⟨c13, H⟩ | ⟨c13, H⟩ := ie_ H
          ·have c13b0 := decide_eq_true c13
           clear c13
           obtain ⟨c14b0, H⟩ := id_ H
           obtain ⟨t276, A15, H⟩ := bnd H
           obtain rfl | rfl := tt t276
           ·replace H := ip H
            have H' := Aside0.mk H
            clear H
            obtain ⟨Ao17, co17, eo17⟩ := Kd.R_slice HO_7.out
            subst eo17
            have p275 : 0 ≤ (x8_3 : Int) := sa
            have q275 : x8_3 < (t272.length : Int) := sa
            obtain ⟨ad275, e275, hx275_0⟩ := Kd.at_int (Kd.R_reads' HO_7.out).2.2 x8_3 p275 q275
            cases e275
            replace p275 := eq_true p275
            replace q275 := eq_true q275
            obtain ⟨Ao18, co18, eo18⟩ := Kd.R_slice HO_5.out
            subst eo18
            go_wp2_with (first | ((with_reducible refine gate_callee (f := 102) rfl ?_); refine gL (some 50) Try.func102 #[.slice Ao18 x5_3.length co18, .int .i64 (rd t272 x8_3)] ?_; (with_reducible refine (spec_l15Has.calls k3 _ _ x5_3 (rd t272 x8_3) true _ ?side1 ?side2 A15.out).mono ?_); (case side1 => repeat (first | exact (Kd.R_reads' HO_5.out).2.2 | (with_reducible refine Kd.C_alloc ?_ _) | (with_reducible refine Kd.C_drewN ?_ _) | (with_reducible refine Kd.C_drew ?_))); (case side2 => exact (Kd.R_reads' HO_5.out).2.1); rintro e w' ⟨rfl, ⟨nd, rfl⟩⟩; refine ⟨_, rfl, ?_⟩))
            go_roundg k3
            case measure => have := HK1.out; have := HK2.out; have := HK3.out; omega
            case rel => exact ⟨(x5_3), (wrap64 (x8_3 + 1)), sc, H', kk3, ⟨sr HO_5⟩, ⟨sr HO_7⟩, ⟨sb⟩⟩
           ·replace H := im H
            obtain ⟨LMc19, H⟩ := il_ H
            obtain ⟨y278, hy278⟩ : ∃ y_ : List Int, y_ = (x5_3 ++ [rd t272 x8_3]) := ⟨_, rfl⟩
            replace H : (spec_UnionHasLoop.l2 k3 l0 t266 x4_1 y278 x6_2 t272 (wrap64 (x8_3 + 1))) = some r := by first | (rw [hy278]; with_reducible exact H) | (have H2_ := (Option.bind_some _ _).symm.trans H; rw [hy278]; with_reducible exact H2_) | (have H2_ := (Option.bind_some _ _).symm.trans H; with_reducible exact H2_) | with_reducible exact H | (rw [hy278]; exact H) | exact H
            have Ny278 := Aside0.mk hy278
            clear hy278
            have H' := Aside0.mk H
            clear H
            obtain ⟨Ao20, co20, eo20⟩ := Kd.R_slice HO_7.out
            subst eo20
            have p275 : 0 ≤ (x8_3 : Int) := sa
            have q275 : x8_3 < (t272.length : Int) := sa
            obtain ⟨ad275, e275, hx275_0⟩ := Kd.at_int (Kd.R_reads' HO_7.out).2.2 x8_3 p275 q275
            cases e275
            replace p275 := eq_true p275
            replace q275 := eq_true q275
            obtain ⟨Ao21, co21, eo21⟩ := Kd.R_slice HO_5.out
            subst eo21
            go_wp2_with (first | ((with_reducible refine gate_callee (f := 102) rfl ?_); refine gL (some 50) Try.func102 #[.slice Ao21 x5_3.length co21, .int .i64 (rd t272 x8_3)] ?_; (with_reducible refine (spec_l15Has.calls k3 _ _ x5_3 (rd t272 x8_3) false _ ?side1 ?side2 A15.out).mono ?_); (case side1 => repeat (first | exact (Kd.R_reads' HO_5.out).2.2 | (with_reducible refine Kd.C_alloc ?_ _) | (with_reducible refine Kd.C_drewN ?_ _) | (with_reducible refine Kd.C_drew ?_))); (case side2 => exact (Kd.R_reads' HO_5.out).2.1); rintro e w' ⟨rfl, ⟨nd, rfl⟩⟩; refine ⟨_, rfl, ?_⟩; have p277 : 0 ≤ (x8_3 : Int) := sa; have q277 : x8_3 < (t272.length : Int) := sa; obtain ⟨ad277, e277, hx277_0⟩ := Kd.at_int (Kd.R_reads' HO_7.out).2.2 x8_3 p277 q277; obtain rfl : ad275 = ad277 := (by injection e277); replace p277 := eq_true p277; replace q277 := eq_true q277) | ((with_reducible refine gate_builtin (b := .append) (xs := #[.tmp 52, .tmp 57]) rfl ?_); at_builtin; refine Kd.R_append (Kd.int .i64) (w0 := w) w.heap.size rfl (.tmp 52) (.tmp 57) 40 3 (.int .i64 0) 8 rfl Try.underlying40 info3 rfl (by decide) (by omega) (.slice Ao21 x5_3.length co21) x5_3 (rd t272 x8_3) [.int .i64 (rd t272 x8_3)] (fun k_ => some k_ ≠ (.slice (some ad275) t272.length co20 : Value).ownBlock) (fun _ => False) rfl rfl ?aP (fun _ hk => hk.elim) ?aF ?aO ?aB ?aS ?aL ?_; (case aP => exact rfl); (case aB => exact (sb)); (case aF => exact (fun k_ hk => Kd.fresh' (Kd.R_lt (sr HO_7)) k_ hk)); (case aO => exact (sr HO_5)); (case aS => exact (below_size (sb))); (case aL => have := LMc19.out; omega); intro v279 w22 ho hb hg hat; rw [← Ny278.out] at ho; replace HO_7 := Aside0.mk (Kd.R_after (ok := (fun _ => True)) (by (with_reducible repeat (first | apply Kd.R_alloc | apply Kd.R_drewN | apply Kd.R_drew)); exact Kd.R_mono HO_7.out (fun _ hk => ⟨trivial, hk⟩)) hg hat); replace HB := Aside0.mk hb; have HO280 := Aside0.mk ho; clear HO_5; clear ho hb hg hat))
            go_roundg k3
            case measure => have := HK1.out; have := HK2.out; have := HK3.out; omega
            case rel => exact ⟨(y278), (wrap64 (x8_3 + 1)), sc, H', kk3, ⟨sr HO280⟩, ⟨by (with_reducible repeat (first | apply Kd.R_alloc | apply Kd.R_drewN | apply Kd.R_drew)); exact Kd.R_mono HO_7.out (fun _ hk => hk.2)⟩, ⟨sb⟩⟩
          ·have c13b0 := decide_eq_false c13
           clear c13
           have H' := Aside0.mk H
           clear H
           obtain ⟨Ao23, co23, eo23⟩ := Kd.R_slice HO_7.out
           subst eo23
           go_wp2
           go_roundg k3
           case measure => have := HK1.out; have := HK2.out; have := HK3.out; omega
           case rel => exact ⟨(x5_3), (wrap64 (x6_2 + 1)), sc, H', kk3, ⟨by (with_reducible repeat (first | apply Kd.R_alloc | apply Kd.R_drewN | apply Kd.R_drew)); exact Kd.R_mono HO_5.out (fun _ hk => trivial)⟩, ⟨sb⟩⟩
      ·have c6b0 := decide_eq_false c6
       clear c6
       have H' := Aside0.mk H
       clear H
       obtain ⟨Ao24, co24, eo24⟩ := Kd.R_slice HO_5.out
       subst eo24
       go_wp2
       go_roundg k2
       case measure => have := HK1.out; have := HK2.out; omega
       case rel => exact ⟨(wrap64 (x4_1 + 1)), sc, H', kk2, ⟨sb⟩⟩
   ·have c3b0 := decide_eq_false c3
    clear c3
    obtain rfl := Option.some.inj H
    go_wp2
    go_ret
    exact ⟨se, sb⟩

end Go.Proofs.Ytlakjlolahjphaa.QFnExactHeldAt
