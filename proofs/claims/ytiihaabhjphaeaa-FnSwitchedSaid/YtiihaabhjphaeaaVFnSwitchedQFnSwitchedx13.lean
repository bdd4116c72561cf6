/- Printed by a program of the session. Conditions: none. (squeezed). -/
import Derived.Test.YtiihaabhjphaeaaVFnSwitchedQFnSwitchedx12
namespace Go.Proofs.Ytiihaabhjphaeaa.QFnSwitched
set_option maxHeartbeats 8000000
set_option maxRecDepth 100000
open Go.RowKit Go.Proofs.YtiihaabhjphaeaaW.PrintWords Go.Proofs.YtiihaabhjphaeaaW.PrintLast Go.Proofs.YtiihaabhjphaeaaW.PrintMore Go.Proofs.Ytiihaabhjphaeaa.Open Go.Proofs.Ytiihaabhjphaeaa.Sq
attribute [local go_sem] max2_int min2_int max_two min_two max_three min_three max_four min_four   -- for this text's walks alone
attribute [local go_sem] isSome_set
set_option linter.unusedVariables false
set_option linter.unusedSimpArgs false

attribute [local go_sem high] eqA134
def spec_Max.f (a0 : Int) (a1 : Int) : Option (Int) := if a1 > a0 then (some a1) else (some a0)
theorem spec_Max.calls (a0 : Int) (a1 : Int) (r : Int) (w : World) (h : spec_Max.f a0 a1 = some r) :
    Calls Try.prog 138 #[.int .i64 a0, .int .i64 a1] w fun e w' => e = .returned (.int .i64 r) ∧ Drawn0 w w' := by
 have H := h; unfold spec_Max.f at H
 clear h
 obtain ⟨-, c3b0, H⟩ | ⟨-, c3b0, H⟩ := ic_ H
 ·obtain rfl := Option.some.inj H
  go_enter Try.func138, Try.ntmps138
  go_wp2
  go_ret
  exact ⟨sc, sd⟩
 ·obtain rfl := Option.some.inj H
  go_enter Try.func138, Try.ntmps138
  go_wp2
  go_ret
  exact ⟨sc, sd⟩

def spec_Min.f (a0 : Int) (a1 : Int) : Option (Int) := if a1 < a0 then (some a1) else (some a0)
theorem spec_Min.calls (a0 : Int) (a1 : Int) (r : Int) (w : World) (h : spec_Min.f a0 a1 = some r) :
    Calls Try.prog 139 #[.int .i64 a0, .int .i64 a1] w fun e w' => e = .returned (.int .i64 r) ∧ Drawn0 w w' := by
 have H := h; unfold spec_Min.f at H
 clear h
 obtain ⟨-, c3b0, H⟩ | ⟨-, c3b0, H⟩ := ic_ H
 ·obtain rfl := Option.some.inj H
  go_enter Try.func139, Try.ntmps139
  go_wp2
  go_ret
  exact ⟨sc, sd⟩
 ·obtain rfl := Option.some.inj H
  go_enter Try.func139, Try.ntmps139
  go_wp2
  go_ret
  exact ⟨sc, sd⟩

def spec_SameLinks.l0 : Nat → List (S134) → List (S134) → Int → Option (Bool)
  | 0, _, _, _ => none
  | k + 1, x0, x1, x5 => if x5 < (x0.length : Int) then (if 0 ≤ x5 then (if x5 < (x1.length : Int) then (if (!(((rd_T134 x0 x5).f0) == ((rd_T134 x1 x5).f0)) || (!(((rd_T134 x0 x5).f1) == ((rd_T134 x1 x5).f1)))) = true then (some false) else (spec_SameLinks.l0 k x0 x1 (wrap64 (x5 + 1)))) else (none)) else (none)) else (some true)
def spec_SameLinks.f (k : Nat) (l0 : List (S134)) (l1 : List (S134)) : Option (Bool) := if (l0.length : Int) = (l1.length : Int) then (spec_SameLinks.l0 k l0 l1 0) else (some false)
theorem spec_SameLinks.mono_l : ∀ k, (∀ y0 y1 y2, LeO (spec_SameLinks.l0 k y0 y1 y2) (spec_SameLinks.l0 (k + 1) y0 y1 y2))
  | 0 => fun _ _ _ r h => by simp [spec_SameLinks.l0] at h
  | k + 1 => by
    have ih0 := spec_SameLinks.mono_l k
    · intro y0 y1 y2
      unfold spec_SameLinks.l0
      exact mo
theorem spec_SameLinks.mono : ∀ a0 a1 k, LeO (spec_SameLinks.f k a0 a1) (spec_SameLinks.f (k + 1) a0 a1) := by
  intro a0 a1 k
  have ih0 := spec_SameLinks.mono_l k
  unfold spec_SameLinks.f
  exact mo
theorem spec_SameLinks.calls (k : Nat) (A0 : Option Addr) (c0 : Nat) (l0 : List (S134)) (A1 : Option Addr) (c1 : Nat) (l1 : List (S134)) (r : Bool) (w : World) (hr0 : Kd.C k134 w A0 l0.length l0) (hc0 : l0.length ≤ c0) (hr1 : Kd.C k134 w A1 l1.length l1) (hc1 : l1.length ≤ c1) (h : spec_SameLinks.f k l0 l1 = some r) :
    Calls Try.prog 180 #[.slice A0 l0.length c0, .slice A1 l1.length c1] w fun e w' => e = .returned (.bool r) ∧ Drawn0 w w' := by
 have hu134 := Try.underlying134
 have HR0 := am hr0
 have HC0 := am hc0
 clear hr0 hc0
 have HR1 := am hr1
 have HC1 := am hc1
 clear hr1 hc1
 have H := h; unfold spec_SameLinks.f at H
 clear h
 obtain ⟨c3, c3b0, c3b1, H⟩ | ⟨c3, c3b0, c3b1, H⟩ := ib_ H
 ·have c3b2 : (l0.length == l1.length) = true := by first | simpa using c3 | (simp at c3 ⊢; omega)
  clear c3
  have H' := am H
  clear H
  go_enter Try.func180, Try.ntmps180
  go_wp2
  repeat (go_quiet (fail); try go_wp2)
  go_loopg [5] k (fun kq v5 w' => ∃ (x5_1 : Int), v5 = .int .i64 x5_1 ∧ Aside0 (spec_SameLinks.l0 kq l0 l1 x5_1 = some r) ∧ Aside0 (kq ≤ k) ∧ Drawn0 w w')
  case atStart => exact ⟨(0), sc, H', kk0, sd⟩
  case round =>
   clear H'
   try clear c3
   try clear c3b0
   try clear c3b1
   try clear c3b2
   obtain ⟨x5_1, rfl, HA, HK1, ⟨m1, rfl⟩⟩ := hrel
   cases gk with
   | zero => exact absurd HA.out (by simp [spec_SameLinks.l0])
   | succ k1 =>
    have H := HA.out
    clear HA
    simp only [spec_SameLinks.l0] at H
    obtain ⟨-, c4b0, H⟩ | ⟨-, c4b0, H⟩ := ic_ H
    ·obtain ⟨c5b0, H⟩ := id_ H
     obtain ⟨c6b0, H⟩ := id_ H
     obtain ⟨c7, H⟩ | ⟨c7, H⟩ := ie_ H
     ·have c7b0 : (!(((rd_T134 l0 x5_1).f0) == ((rd_T134 l1 x5_1).f0)) || (!(((rd_T134 l0 x5_1).f1) == ((rd_T134 l1 x5_1).f1)))) = true := c7
      clear c7
      obtain rfl := Option.some.inj H
      have p349 : 0 ≤ (x5_1 : Int) := sa
      have q349 : x5_1 < (l0.length : Int) := sa
      obtain ⟨ad349, e349, hx349_0, hx349_1⟩ := at_T134 HR0.out x5_1 p349 q349
      cases e349
      replace p349 := eq_true p349
      replace q349 := eq_true q349
      have p350 : 0 ≤ (x5_1 : Int) := sa
      have q350 : x5_1 < (l1.length : Int) := sa
      obtain ⟨ad350, e350, hx350_0, hx350_1⟩ := at_T134 HR1.out x5_1 p350 q350
      cases e350
      replace p350 := eq_true p350
      replace q350 := eq_true q350
      go_wp2
      repeat (go_quiet (fail); try go_wp2)
      go_ret
      exact ⟨sc, sd⟩
     ·have c7b0 : (!(((rd_T134 l0 x5_1).f0) == ((rd_T134 l1 x5_1).f0)) || (!(((rd_T134 l0 x5_1).f1) == ((rd_T134 l1 x5_1).f1)))) = false := by simpa using c7
      clear c7
      have H' := am H
      clear H
      have p349 : 0 ≤ (x5_1 : Int) := sa
      have q349 : x5_1 < (l0.length : Int) := sa
      obtain ⟨ad349, e349, hx349_0, hx349_1⟩ := at_T134 HR0.out x5_1 p349 q349
      cases e349
      replace p349 := eq_true p349
      replace q349 := eq_true q349
      have p350 : 0 ≤ (x5_1 : Int) := sa
      have q350 : x5_1 < (l1.length : Int) := sa
      obtain ⟨ad350, e350, hx350_0, hx350_1⟩ := at_T134 HR1.out x5_1 p350 q350
      cases e350
      replace p350 := eq_true p350
      replace q350 := eq_true q350
      go_wp2
      repeat (go_quiet (fail); try go_wp2)
      go_roundg k1
      case measure => have := HK1.out; omega
      case rel => exact ⟨(wrap64 (x5_1 + 1)), sc, H', kk1, sd⟩
    ·obtain rfl := Option.some.inj H
     go_wp2
     repeat (go_quiet (fail); try go_wp2)
     go_ret
     exact ⟨sc, sd⟩
 ·have c3b2 : (l0.length == l1.length) = false := by first | simpa using c3 | (simp at c3 ⊢; omega)
  obtain rfl := Option.some.inj H
  go_enter Try.func180, Try.ntmps180
  go_wp2
  repeat (go_quiet (fail); try go_wp2)
  go_ret
  exact ⟨sc, sd⟩

def spec_ChangesOf.l0 : Nat → List (S137) → List Int → Int → Int → Option (List Int)
  | 0, _, _, _, _ => none
  | k + 1, x0, x7, x9, x10 => if x10 < x9 then ((spec_LinksAt.f k x0 (wrap64 (x10 - 1))).bind fun t357 => ((spec_LinksAt.f k x0 x10).bind fun t360 => ((spec_SameLinks.f k t357 t360).bind fun t363 => (if t363 = true then (spec_ChangesOf.l0 k x0 x7 x9 (wrap64 (x10 + 1))) else (if x7.length < 17592186044416 then (spec_ChangesOf.l0 k x0 (x7 ++ [x10]) x9 (wrap64 (x10 + 1))) else (none)))))) else (some x7)
def spec_ChangesOf.f (k : Nat) (l0 : List (S137)) (a1 : Int) (a2 : Int) : Option (List Int) := (spec_Max.f 0 a1).bind fun t354 => ((spec_Min.f 1000 t354).bind fun t355 => ((spec_Min.f 1000 a2).bind fun t356 => (spec_ChangesOf.l0 k l0 (([] : List Int)) t356 (wrap64 (t355 + 1)))))
theorem spec_ChangesOf.mono_l : ∀ k, (∀ y0 y1 y2 y3, LeO (spec_ChangesOf.l0 k y0 y1 y2 y3) (spec_ChangesOf.l0 (k + 1) y0 y1 y2 y3))
  | 0 => fun _ _ _ _ r h => by simp [spec_ChangesOf.l0] at h
  | k + 1 => by
    have ih0 := spec_ChangesOf.mono_l k
    · intro y0 y1 y2 y3
      unfold spec_ChangesOf.l0
      have m0 := @spec_LinksAt.mono
      have m1 := @spec_SameLinks.mono
      exact mo
theorem spec_ChangesOf.mono : ∀ a0 a1 a2 k, LeO (spec_ChangesOf.f k a0 a1 a2) (spec_ChangesOf.f (k + 1) a0 a1 a2) := by
  intro a0 a1 a2 k
  have ih0 := spec_ChangesOf.mono_l k
  unfold spec_ChangesOf.f
  have m0 := @spec_LinksAt.mono
  have m1 := @spec_SameLinks.mono
  exact mo
theorem spec_ChangesOf.calls (k : Nat) (A0 : Option Addr) (c0 : Nat) (l0 : List (S137)) (a1 : Int) (a2 : Int) (r : List Int) (w : World) (hr0 : Kd.C k137 w A0 l0.length l0) (hc0 : l0.length ≤ c0) (h : spec_ChangesOf.f k l0 a1 a2 = some r) :
    Calls Try.prog 158 #[.slice A0 l0.length c0, .int .i64 a1, .int .i64 a2] w fun e w' => ∃ v0_ : Value, e = .returned (v0_) ∧ Kd.R (Kd.int .i64) 3 w' w.heap.size (fun _ => True) v0_ r ∧ Below w.heap.size w w' := by
 have HR0 := am hr0
 have HC0 := am hc0
 clear hr0 hc0
 have HB := am (Below.refl w.heap.size w)
 have H := h; unfold spec_ChangesOf.f at H
 clear h
 obtain ⟨y351, hy351⟩ : ∃ y_ : List Int, y_ = (([] : List Int)) := ⟨_, rfl⟩
 replace H : ((spec_Max.f 0 a1).bind fun t354 => ((spec_Min.f 1000 t354).bind fun t355 => ((spec_Min.f 1000 a2).bind fun t356 => (spec_ChangesOf.l0 k l0 y351 t356 (wrap64 (t355 + 1)))))) = some r := ry hy351 H
 have Ny351 := am hy351
 clear hy351
 obtain ⟨t354, A4, H⟩ := bnd H
 obtain ⟨t355, A5, H⟩ := bnd H
 obtain ⟨t356, A6, H⟩ := bnd H
 have H' := am H
 clear H
 go_enter Try.func158, Try.ntmps158
 go_wp2_with (first | ((with_reducible refine gd 11 rfl ?_); refine Kd.R_lit (Kd.int .i64) _ 3 ?hg (N := 11) ?hd (xs := ([] : List Int)) (inner := []) (ok := fun _ => True) (okp := fun _ => True) ?hr ?hp (fun _ hk => hk) trivial (Below.refl _ _) (Nat.le_refl _) (by simp) ?_; (case hd => rfl); (case hg => rfl); (case hr => first | (go_simp; done) | (go_simp; rfl)); (case hp => exact (Reps.none _ _)); intro v352 w7 ho8 hb hg_ hnew_; clear hg_ hnew_; (first | rw [← Ny351.out] at ho8 | (simp only [Int.reduceToNat] at ho8; rw [← Ny351.out] at ho8)); have HO353 := am (Kd.R_lower ho8 (below_size (sb))); replace HB := bs hb; clear hb ho8) | ((with_reducible refine gc 138 rfl ?_); refine gL (some 13) Try.func138 #[.int .i64 0, .int .i64 a1] ?_; (with_reducible refine (spec_Max.calls 0 a1 t354 _ A4.out).mono ?_); rintro e w' ⟨rfl, ⟨nd, rfl⟩⟩; refine ⟨_, rfl, ?_⟩) | ((with_reducible refine gc 139 rfl ?_); refine gL (some 14) Try.func139 #[.int .i64 1000, .int .i64 t354] ?_; (with_reducible refine (spec_Min.calls 1000 t354 t355 _ A5.out).mono ?_); rintro e w' ⟨rfl, ⟨nd, rfl⟩⟩; refine ⟨_, rfl, ?_⟩) | ((with_reducible refine gc 139 rfl ?_); refine gL (some 16) Try.func139 #[.int .i64 1000, .int .i64 a2] ?_; (with_reducible refine (spec_Min.calls 1000 a2 t356 _ A6.out).mono ?_); rintro e w' ⟨rfl, ⟨nd, rfl⟩⟩; refine ⟨_, rfl, ?_⟩))
 go_loopg [7, 10] k (fun kq v7 v10 w' => ∃ (x7_1 : List Int) (x10_1 : Int), v10 = .int .i64 x10_1 ∧ Aside0 (spec_ChangesOf.l0 kq l0 x7_1 t356 x10_1 = some r) ∧ Aside0 (kq ≤ k) ∧ Aside0 (Kd.R (Kd.int .i64) 3 w' w.heap.size (fun _ => True) v7 x7_1) ∧ Aside0 (Below w.heap.size w w'))
 case atStart => exact ⟨(y351), (wrap64 (t355 + 1)), sc, H', kk0, ⟨sr HO353⟩, ⟨sb⟩⟩
 case round =>
  clear H'
  obtain ⟨x7_1, x10_1, rfl, HA, HK1, HO_7, HB⟩ := hrel
  cases gk with
  | zero => exact absurd HA.out (by simp [spec_ChangesOf.l0])
  | succ k1 =>
   have H := HA.out
   clear HA
   simp only [spec_ChangesOf.l0] at H
   obtain ⟨-, c9b0, H⟩ | ⟨-, c9b0, H⟩ := ic_ H
   ·obtain ⟨t357, A10, H⟩ := bnd H
    obtain ⟨t360, A11, H⟩ := bnd H
    obtain ⟨t363, A12, H⟩ := bnd H
    obtain rfl | rfl := tt t363
    ·replace H := ip H
     have H' := am H
     clear H
     go_wp2_with (first | ((with_reducible refine gc 115 rfl ?_); refine gL (some 27) Try.func115 #[.slice A0 l0.length c0, .int .i64 (wrap64 (x10_1 - 1))] ?_; (with_reducible refine (spec_LinksAt.calls k1 _ _ l0 (wrap64 (x10_1 - 1)) t357 _ ?side1 ?side2 A10.out).mono ?_); (case side1 => exact cb HR0); (case side2 => exact HC0.out); rintro e w14 ⟨v358, rfl, ho0, hb⟩; refine ⟨_, rfl, ?_⟩; replace HO_7 := rb HO_7 hb; have HO359 := am (Kd.R_lower ho0 (below_size (sb))); replace HB := bs hb; (try clear hb); (try clear ho0)) | ((with_reducible refine gc 115 rfl ?_); refine gL (some 30) Try.func115 #[.slice A0 l0.length c0, .int .i64 x10_1] ?_; (with_reducible refine (spec_LinksAt.calls k1 _ _ l0 x10_1 t360 _ ?side1 ?side2 A11.out).mono ?_); (case side1 => exact cb HR0); (case side2 => exact HC0.out); rintro e w15 ⟨v361, rfl, ho0, hb⟩; refine ⟨_, rfl, ?_⟩; replace HO_7 := rb HO_7 hb; have HO362 := am (Kd.R_lower (Kd.R_new' ho0 (Kd.R_lt (sr HO359))) (below_size (sb))); replace HO359 := am (Kd.R_elder' (sr HO359) (Kd.R_base ho0) hb); replace HB := bs hb; (try clear hb); (try clear ho0); obtain ⟨Ao16, co16, eo16⟩ := Kd.R_slice HO359.out; subst eo16; obtain ⟨Ao17, co17, eo17⟩ := Kd.R_slice HO362.out; subst eo17) | ((with_reducible refine gc 180 rfl ?_); refine gL (some 31) Try.func180 #[.slice Ao16 t357.length co16, .slice Ao17 t360.length co17] ?_; (with_reducible refine (spec_SameLinks.calls k1 _ _ t357 _ _ t360 true _ ?side1 ?side2 ?side3 ?side4 A12.out).mono ?_); (case side1 => exact cr HO359); (case side2 => exact (Kd.R_reads' HO359.out).2.1); (case side3 => exact cr HO362); (case side4 => exact (Kd.R_reads' HO362.out).2.1); rintro e w' ⟨rfl, ⟨nd, rfl⟩⟩; refine ⟨_, rfl, ?_⟩))
     go_roundg k1
     case measure => have := HK1.out; omega
     case rel => exact ⟨(x7_1), (wrap64 (x10_1 + 1)), sc, H', kk1, ⟨sr HO_7⟩, ⟨sb⟩⟩
    ·replace H := im H
     obtain ⟨LMc18, H⟩ := il_ H
     obtain ⟨y364, hy364⟩ : ∃ y_ : List Int, y_ = (x7_1 ++ [x10_1]) := ⟨_, rfl⟩
     replace H : (spec_ChangesOf.l0 k1 l0 y364 t356 (wrap64 (x10_1 + 1))) = some r := ry hy364 H
     have Ny364 := am hy364
     clear hy364
     have H' := am H
     clear H
     go_wp2_with (first | ((with_reducible refine gc 115 rfl ?_); refine gL (some 27) Try.func115 #[.slice A0 l0.length c0, .int .i64 (wrap64 (x10_1 - 1))] ?_; (with_reducible refine (spec_LinksAt.calls k1 _ _ l0 (wrap64 (x10_1 - 1)) t357 _ ?side1 ?side2 A10.out).mono ?_); (case side1 => exact cb HR0); (case side2 => exact HC0.out); rintro e w19 ⟨v358, rfl, ho0, hb⟩; refine ⟨_, rfl, ?_⟩; replace HO_7 := rb HO_7 hb; have HO359 := am (Kd.R_lower ho0 (below_size (sb))); replace HB := bs hb; (try clear hb); (try clear hk); (try clear ho0)) | ((with_reducible refine gc 115 rfl ?_); refine gL (some 30) Try.func115 #[.slice A0 l0.length c0, .int .i64 x10_1] ?_; (with_reducible refine (spec_LinksAt.calls k1 _ _ l0 x10_1 t360 _ ?side1 ?side2 A11.out).mono ?_); (case side1 => exact cb HR0); (case side2 => exact HC0.out); rintro e w20 ⟨v361, rfl, ho0, hb⟩; refine ⟨_, rfl, ?_⟩; replace HO_7 := rb HO_7 hb; have HO362 := am (Kd.R_lower (Kd.R_new' ho0 (Kd.R_lt (sr HO359))) (below_size (sb))); replace HO359 := am (Kd.R_elder' (sr HO359) (Kd.R_base ho0) hb); replace HB := bs hb; (try clear hb); (try clear hk); (try clear ho0); obtain ⟨Ao21, co21, eo21⟩ := Kd.R_slice HO359.out; subst eo21; obtain ⟨Ao22, co22, eo22⟩ := Kd.R_slice HO362.out; subst eo22) | ((with_reducible refine gc 180 rfl ?_); refine gL (some 31) Try.func180 #[.slice Ao21 t357.length co21, .slice Ao22 t360.length co22] ?_; (with_reducible refine (spec_SameLinks.calls k1 _ _ t357 _ _ t360 false _ ?side1 ?side2 ?side3 ?side4 A12.out).mono ?_); (case side1 => exact cr HO359); (case side2 => exact (Kd.R_reads' HO359.out).2.1); (case side3 => exact cr HO362); (case side4 => exact (Kd.R_reads' HO362.out).2.1); rintro e w' ⟨rfl, ⟨nd, rfl⟩⟩; refine ⟨_, rfl, ?_⟩) | ((with_reducible refine gate_builtin (b := .append) (xs := #[.tmp 33, .tmp 35]) rfl ?_); at_builtin; refine Kd.R_append (Kd.int .i64) (w0 := w) w.heap.size rfl (.tmp 33) (.tmp 35) 28 3 (.int .i64 0) 8 rfl Try.underlying28 info3 rfl (by decide) (by omega) u7 x7_1 x10_1 [.int .i64 x10_1] (fun _ => True) (fun _ => False) rfl rfl ?aP (fun _ hk => hk.elim) ?aF ?aO ?aB ?aS ?aL ?_; (case aP => exact rfl); (case aB => exact (sb)); (case aF => exact (fun _ _ => trivial)); (case aO => exact (sr HO_7)); (case aS => exact (below_size (sb))); (case aL => have := LMc18.out; omega); intro v365 w23 ho hb hg hat; rw [← Ny364.out] at ho; replace HO359 := am (Kd.R_over' (sr HO359) (Kd.R_typed (sr HO_7)) (by decide) hg); replace HO362 := am (Kd.R_over' (sr HO362) (Kd.R_typed (sr HO_7)) (by decide) hg); replace HB := am hb; have HO366 := am ho; clear HO_7; clear ho hb hg hat))
     go_roundg k1
     case measure => have := HK1.out; omega
     case rel => exact ⟨(y364), (wrap64 (x10_1 + 1)), sc, H', kk1, ⟨sr HO366⟩, ⟨sb⟩⟩
   ·obtain rfl := Option.some.inj H
    go_wp2
    go_ret
    exact ⟨_, se, sr HO_7, sb⟩

def spec_PiecesOf.l0 : Nat → List (S102) → Int → List Int → Int → Option ((List (S102)))
  | 0, _, _, _, _ => none
  | k + 1, x7, x8, x9, x10 => if x10 < (x9.length : Int) then (if 0 ≤ x10 then (if x7.length < 8796093022208 then (spec_PiecesOf.l0 k (x7 ++ [(⟨x8, rd x9 x10⟩ : S102)]) (rd x9 x10) x9 (wrap64 (x10 + 1))) else (none)) else (none)) else (some x7)
def spec_PiecesOf.f (k : Nat) (l0 : List (S137)) (a1 : Int) (a2 : Int) : Option ((List (S102))) := (some (([] : List (S102)) : List (S102))).bind fun y367 => ((spec_IsSpan.f a1 a2).bind fun t370 => (if t370 = true then ((spec_ChangesOf.f k l0 a1 a2).bind fun t371 => (if t371.length < 17592186044416 then (spec_PiecesOf.l0 k y367 a1 (t371 ++ [a2]) 0) else (none))) else (some y367)))
theorem spec_PiecesOf.mono_l : ∀ k, (∀ y0 y1 y2 y3, LeO (spec_PiecesOf.l0 k y0 y1 y2 y3) (spec_PiecesOf.l0 (k + 1) y0 y1 y2 y3))
  | 0 => fun _ _ _ _ r h => by simp [spec_PiecesOf.l0] at h
  | k + 1 => by
    have ih0 := spec_PiecesOf.mono_l k
    · intro y0 y1 y2 y3
      unfold spec_PiecesOf.l0
      have m0 := @spec_ChangesOf.mono
      exact mo
theorem spec_PiecesOf.mono : ∀ a0 a1 a2 k, LeO (spec_PiecesOf.f k a0 a1 a2) (spec_PiecesOf.f (k + 1) a0 a1 a2) := by
  intro a0 a1 a2 k
  have ih0 := spec_PiecesOf.mono_l k
  unfold spec_PiecesOf.f
  have m0 := @spec_ChangesOf.mono
  exact mo
theorem spec_PiecesOf.calls (k : Nat) (A0 : Option Addr) (c0 : Nat) (l0 : List (S137)) (a1 : Int) (a2 : Int) (r : List (S102)) (w : World) (hr0 : Kd.C k137 w A0 l0.length l0) (hc0 : l0.length ≤ c0) (h : spec_PiecesOf.f k l0 a1 a2 = some r) :
    Calls Try.prog 114 #[.slice A0 l0.length c0, .int .i64 a1, .int .i64 a2] w fun e w' => ∃ v0_ : Value, e = .returned (v0_) ∧ Kd.R k102 102 w' w.heap.size (fun _ => True) v0_ r ∧ Below w.heap.size w w' := by
 have hu102 := Try.underlying102
 have HR0 := am hr0
 have HC0 := am hc0
 clear hr0 hc0
 have HB := am (Below.refl w.heap.size w)
 have H := h; unfold spec_PiecesOf.f at H
 clear h
 obtain ⟨y367, Ny367, H⟩ := iy_ H
 obtain ⟨t370, A4, H⟩ := bnd H
 obtain rfl | rfl := tt t370
 ·replace H := ip H
  obtain ⟨t371, A6, H⟩ := bnd H
  obtain ⟨LMc7, H⟩ := il_ H
  obtain ⟨y374, hy374⟩ : ∃ y_ : List Int, y_ = (t371 ++ [a2]) := ⟨_, rfl⟩
  replace H : (spec_PiecesOf.l0 k y367 a1 y374 0) = some r := ry hy374 H
  have Ny374 := am hy374
  clear hy374
  have H' := am H
  clear H
  go_enter Try.func114, Try.ntmps114
  go_wp2_with (first | ((with_reducible refine gd 11 rfl ?_); refine Kd.R_lit k102 _ 102 ?hg (N := 11) ?hd (xs := ([] : List (S102))) (inner := []) (ok := fun _ => True) (okp := fun _ => True) ?hr ?hp (fun _ hk => hk) trivial (Below.refl _ _) (Nat.le_refl _) (by simp) ?_; (case hd => rfl); (case hg => rfl); (case hr => first | (go_simp; done) | (go_simp; rfl)); (case hp => exact (Reps.none _ _)); intro v368 w8 ho9 hb hg_ hnew_; clear hg_ hnew_; (first | rw [← Ny367.out] at ho9 | (simp only [Int.reduceToNat] at ho9; rw [← Ny367.out] at ho9)); have HO369 := am (Kd.R_lower ho9 (below_size (sb))); replace HB := bs hb; clear hb ho9) | ((with_reducible refine gc 80 rfl ?_); refine gL (some 15) Try.func80 #[.agg #[.int .i64 a1, .int .i64 a2]] ?_; (with_reducible refine (spec_IsSpan.calls a1 a2 true _ A4.out).mono ?_); rintro e w10 ⟨rfl, hb⟩; refine ⟨_, rfl, ?_⟩; replace HO369 := rb HO369 hb; replace HB := bs hb; (try clear hb); (try clear hk)) | ((with_reducible refine gc 158 rfl ?_); refine gL (some 22) Try.func158 #[.slice A0 l0.length c0, .int .i64 a1, .int .i64 a2] ?_; (with_reducible refine (spec_ChangesOf.calls k _ _ l0 a1 a2 t371 _ ?side1 ?side2 A6.out).mono ?_); (case side1 => exact cb HR0); (case side2 => exact HC0.out); rintro e w11 ⟨v372, rfl, ho0, hb⟩; refine ⟨_, rfl, ?_⟩; replace HO369 := rb HO369 hb; have HO373 := am (Kd.R_lower ho0 (below_size (sb))); replace HB := bs hb; (try clear hb); (try clear hk); (try clear ho0)) | ((with_reducible refine gate_builtin (b := .append) (xs := #[.tmp 22, .tmp 24]) rfl ?_); at_builtin; refine Kd.R_append (Kd.int .i64) (w0 := w) w.heap.size rfl (.tmp 22) (.tmp 24) 28 3 (.int .i64 0) 8 rfl Try.underlying28 info3 rfl (by decide) (by omega) v372 t371 a2 [.int .i64 a2] (fun _ => True) (fun _ => False) rfl rfl ?aP (fun _ hk => hk.elim) ?aF ?aO ?aB ?aS ?aL ?_; (case aP => exact rfl); (case aB => exact (sb)); (case aF => exact (fun _ _ => trivial)); (case aO => exact (sr HO373)); (case aS => exact (below_size (sb))); (case aL => have := LMc7.out; omega); intro v375 w12 ho hb hg hat; rw [← Ny374.out] at ho; replace HO369 := am (Kd.R_over' (sr HO369) (Kd.R_typed (sr HO373)) (by decide) hg); replace HB := am hb; have HO376 := am ho; clear HO373; clear ho hb hg hat))
  go_loopg [7, 8, 10] k (fun kq v7 v8 v10 w' => ∃ (x7_1 : List (S102)) (x8_1 : Int) (x10_1 : Int), v8 = .int .i64 x8_1 ∧ v10 = .int .i64 x10_1 ∧ Aside0 (spec_PiecesOf.l0 kq x7_1 x8_1 y374 x10_1 = some r) ∧ Aside0 (kq ≤ k) ∧ Aside0 (Kd.R k102 102 w' w.heap.size (fun _ => True) v7 x7_1) ∧ Aside0 (Kd.R (Kd.int .i64) 3 w' w.heap.size (fun _ => True) v375 y374) ∧ Aside0 (Below w.heap.size w w'))
  case atStart => exact ⟨(y367), (a1), (0), sc, sc, H', kk0, ⟨sr HO369⟩, ⟨sr HO376⟩, ⟨sb⟩⟩
  case round =>
   clear H'
   obtain ⟨x7_1, x8_1, x10_1, rfl, rfl, HA, HK1, HO_7, HO_9, HB⟩ := hrel
   cases gk with
   | zero => exact absurd HA.out (by simp [spec_PiecesOf.l0])
   | succ k1 =>
    have H := HA.out
    clear HA
    simp only [spec_PiecesOf.l0] at H
    obtain ⟨-, c13b0, H⟩ | ⟨-, c13b0, H⟩ := ic_ H
    ·obtain ⟨c14b0, H⟩ := id_ H
     obtain ⟨LMc15, H⟩ := il_ H
     obtain ⟨y378, hy378⟩ : ∃ y_ : List (S102), y_ = (x7_1 ++ [(⟨x8_1, rd y374 x10_1⟩ : S102)]) := ⟨_, rfl⟩
     replace H : (spec_PiecesOf.l0 k1 y378 (rd y374 x10_1) y374 (wrap64 (x10_1 + 1))) = some r := ry hy378 H
     have Ny378 := am hy378
     clear hy378
     have H' := am H
     clear H
     obtain ⟨Ao16, co16, eo16⟩ := Kd.R_slice HO_9.out
     subst eo16
     have p377 : 0 ≤ (x10_1 : Int) := sa
     have q377 : x10_1 < (y374.length : Int) := sa
     obtain ⟨ad377, e377, hx377_0⟩ := Kd.at_int (Kd.R_reads' HO_9.out).2.2 x10_1 p377 q377
     cases e377
     replace p377 := eq_true p377
     replace q377 := eq_true q377
     go_wp2_with (first | ((with_reducible refine gate_builtin (b := .append) (xs := #[.tmp 32, .tmp 39]) rfl ?_); at_builtin; refine Kd.R_append k102 (w0 := w) w.heap.size rfl (.tmp 32) (.tmp 39) 48 102 (.agg #[(.int .i64 0), (.int .i64 0)]) 16 rfl Try.underlying48 info102 rfl (by decide) (by omega) u7 x7_1 (⟨x8_1, rd y374 x10_1⟩ : S102) [.int .i64 x8_1, .int .i64 (rd y374 x10_1)] (fun _ => True) (fun _ => False) rfl rfl ?aP (fun _ hk => hk.elim) ?aF ?aO ?aB ?aS ?aL ?_; (case aP => exact k102_mkM _ _ _ (⟨x8_1, rd y374 x10_1⟩ : S102)); (case aB => exact (sb)); (case aF => exact (fun _ _ => trivial)); (case aO => exact (sr HO_7)); (case aS => exact (below_size (sb))); (case aL => have := LMc15.out; omega); intro v379 w17 ho hb hg hat; rw [← Ny378.out] at ho; replace HO_9 := am (Kd.R_over' (sr HO_9) (Kd.R_typed (sr HO_7)) (by decide) hg); replace HB := am hb; have HO380 := am ho; clear HO_7; clear ho hb hg hat; have p381 : 0 ≤ (x10_1 : Int) := sa; have q381 : x10_1 < (y374.length : Int) := sa; obtain ⟨ad381, e381, hx381_0⟩ := Kd.at_int (Kd.R_reads' HO_9.out).2.2 x10_1 p381 q381; obtain rfl : ad377 = ad381 := (by injection e381); replace p381 := eq_true p381; replace q381 := eq_true q381))
     go_roundg k1
     case measure => have := HK1.out; omega
     case rel => exact ⟨(y378), (rd y374 x10_1), (wrap64 (x10_1 + 1)), sc, sc, H', kk1, ⟨sr HO380⟩, ⟨sr HO_9⟩, ⟨sb⟩⟩
    ·obtain rfl := Option.some.inj H
     obtain ⟨Ao18, co18, eo18⟩ := Kd.R_slice HO_9.out
     subst eo18
     go_wp2
     go_ret
     exact ⟨_, se, sr HO_7, sb⟩
 ·replace H := im H
  obtain rfl := Option.some.inj H
  go_enter Try.func114, Try.ntmps114
  go_wp2_with (first | ((with_reducible refine gd 11 rfl ?_); refine Kd.R_lit k102 _ 102 ?hg (N := 11) ?hd (xs := ([] : List (S102))) (inner := []) (ok := fun _ => True) (okp := fun _ => True) ?hr ?hp (fun _ hk => hk) trivial (Below.refl _ _) (Nat.le_refl _) (by simp) ?_; (case hd => rfl); (case hg => rfl); (case hr => first | (go_simp; done) | (go_simp; rfl)); (case hp => exact (Reps.none _ _)); intro v368 w19 ho20 hb hg_ hnew_; clear hg_ hnew_; (first | rw [← Ny367.out] at ho20 | (simp only [Int.reduceToNat] at ho20; rw [← Ny367.out] at ho20)); have HO369 := am (Kd.R_lower ho20 (below_size (sb))); replace HB := bs hb; clear hb ho20) | ((with_reducible refine gc 80 rfl ?_); refine gL (some 15) Try.func80 #[.agg #[.int .i64 a1, .int .i64 a2]] ?_; (with_reducible refine (spec_IsSpan.calls a1 a2 false _ A4.out).mono ?_); rintro e w21 ⟨rfl, hb⟩; refine ⟨_, rfl, ?_⟩; replace HO369 := rb HO369 hb; replace HB := bs hb; (try clear hb); (try clear hk)))
  go_ret
  exact ⟨_, se, sr HO369, sb⟩

def spec_l14Ok.f (a0 : Int) (a1 : Int) : Option (Bool) := (spec_l1In.f a0 1 12).bind fun t382 => (if t382 = true then ((spec_l1In.f a1 0 (wrap64 (a0 - 1))).bind fun t383 => (some t383)) else (some false))
theorem spec_l14Ok.calls (a0 : Int) (a1 : Int) (r : Bool) (w : World) (h : spec_l14Ok.f a0 a1 = some r) :
    Calls Try.prog 126 #[.int .i64 a0, .int .i64 a1] w fun e w' => e = .returned (.bool r) ∧ Drawn0 w w' := by
 have H := h; unfold spec_l14Ok.f at H
 clear h
 obtain ⟨t382, A3, H⟩ := bnd H
 obtain rfl | rfl := tt t382
 ·replace H := ip H
  obtain ⟨t383, A5, H⟩ := bnd H
  obtain rfl := Option.some.inj H
  go_enter Try.func126, Try.ntmps126
  go_wp2_with (first | ((with_reducible refine gc 85 rfl ?_); refine gL (some 6) Try.func85 #[.int .i64 a0, .int .i64 1, .int .i64 12] ?_; (with_reducible refine (spec_l1In.calls a0 1 12 true _ A3.out).mono ?_); rintro e w' ⟨rfl, ⟨nd, rfl⟩⟩; refine ⟨_, rfl, ?_⟩) | (go_at_call 85; (try simp only [i64_w, i32_w]); (with_reducible refine (spec_l1In.calls a1 0 (wrap64 (a0 - 1)) t383 _ A5.out).mono ?_); rintro e w' ⟨rfl, ⟨nd, rfl⟩⟩))
  go_ret
  exact ⟨sc, sd⟩
 ·replace H := im H
  obtain rfl := Option.some.inj H
  go_enter Try.func126, Try.ntmps126
  go_wp2_with (first | ((with_reducible refine gc 85 rfl ?_); refine gL (some 6) Try.func85 #[.int .i64 a0, .int .i64 1, .int .i64 12] ?_; (with_reducible refine (spec_l1In.calls a0 1 12 false _ A3.out).mono ?_); rintro e w' ⟨rfl, ⟨nd, rfl⟩⟩; refine ⟨_, rfl, ?_⟩))
  go_ret
  exact ⟨sc, sd⟩

end Go.Proofs.Ytiihaabhjphaeaa.QFnSwitched
