/- What the Go functions of the law FnExactBuildProgram come to, as Lean functions, and that they do: by a program of the session, out of the kit's printer. Conditions: none. (squeezed). -/
import Derived.Test.YtcjlbgbenjmkgaaVFnExactBuildProgramSq2
import Derived.Test.YtcjlbgbenjmkgaaVFnExactBuildProgramSq
import Derived.Test.YtcjlbgbenjmkgaaVFnExactBuildProgramQFnExactBuildProgramx0
import Derived.Test.YtcjlbgbenjmkgaaVFnExactBuildProgramQFnExactBuildProgramx1
import Derived.Test.YtcjlbgbenjmkgaaVFnExactBuildProgramQFnExactBuildProgramx2
import Derived.Test.YtcjlbgbenjmkgaaVFnExactBuildProgramQFnExactBuildProgramx5
namespace Go.Proofs.Ytcjlbgbenjmkgaa.QFnExactBuildProgram
open Go.RowKit Go.Proofs.YtcjlbgbenjmkgaaW.PrintWords Go.Proofs.YtcjlbgbenjmkgaaW.PrintLast Go.Proofs.YtcjlbgbenjmkgaaW.PrintMore Go.Proofs.Ytcjlbgbenjmkgaa.Open Go.Proofs.Ytcjlbgbenjmkgaa.Sq
attribute [local go_sem] max2_int min2_int max_two min_two max_three min_three max_four min_four   -- for this text's walks alone
attribute [local go_sem] isSome_set
set_option linter.unusedVariables false
set_option linter.unusedSimpArgs false

attribute [local go_sem high] eqA60
/-! ### spec_Min: function 51 -/
def spec_Min.f (a0 : Int) (a1 : Int) : Option (Int) := if a1 < a0 then (some a1) else (some a0)
set_option maxHeartbeats 8000000 in
set_option maxRecDepth 100000 in
theorem spec_Min.calls (a0 : Int) (a1 : Int) (r : Int) (w : World) (h : spec_Min.f a0 a1 = some r) :
    Calls Try.prog 51 #[.int .i64 a0, .int .i64 a1] w fun e w' => e = .returned (.int .i64 r) ∧ Drawn0 w w' := by
 have H : (if a1 < a0 then (some a1) else (some a0)) = some r := h
 clear h
 obtain ⟨c3, H⟩ | ⟨c3, H⟩ := ie_ H
 ·have c3b0 := decide_eq_true c3
  clear c3
  obtain rfl := Option.some.inj H
  go_enter Try.func51, Try.ntmps51
  go_wp2
  go_ret
  exact ⟨sc, sd⟩
 ·have c3b0 := decide_eq_false c3
  clear c3
  obtain rfl := Option.some.inj H
  go_enter Try.func51, Try.ntmps51
  go_wp2
  go_ret
  exact ⟨sc, sd⟩

/-! ### spec_Max: function 52 -/
def spec_Max.f (a0 : Int) (a1 : Int) : Option (Int) := if a1 > a0 then (some a1) else (some a0)
set_option maxHeartbeats 8000000 in
set_option maxRecDepth 100000 in
theorem spec_Max.calls (a0 : Int) (a1 : Int) (r : Int) (w : World) (h : spec_Max.f a0 a1 = some r) :
    Calls Try.prog 52 #[.int .i64 a0, .int .i64 a1] w fun e w' => e = .returned (.int .i64 r) ∧ Drawn0 w w' := by
 have H : (if a1 > a0 then (some a1) else (some a0)) = some r := h
 clear h
 obtain ⟨c3, H⟩ | ⟨c3, H⟩ := ie_ H
 ·have c3b0 := decide_eq_true c3
  clear c3
  obtain rfl := Option.some.inj H
  go_enter Try.func52, Try.ntmps52
  go_wp2
  go_ret
  exact ⟨sc, sd⟩
 ·have c3b0 := decide_eq_false c3
  clear c3
  obtain rfl := Option.some.inj H
  go_enter Try.func52, Try.ntmps52
  go_wp2
  go_ret
  exact ⟨sc, sd⟩

/-! ### spec_SameLinks: function 53 -/
def spec_SameLinks.l0 : Nat → List (S60) → List (S60) → Int → Option (Bool)
  | 0, _, _, _ => none
  | k + 1, x0, x1, x5 => if x5 < (x0.length : Int) then (if 0 ≤ x5 then (if x5 < (x1.length : Int) then (if (!(((rd_T60 x0 x5).f0) == ((rd_T60 x1 x5).f0)) || (!(((rd_T60 x0 x5).f1) == ((rd_T60 x1 x5).f1)))) = true then (some false) else (spec_SameLinks.l0 k x0 x1 (wrap64 (x5 + 1)))) else (none)) else (none)) else (some true)
def spec_SameLinks.f (k : Nat) (l0 : List (S60)) (l1 : List (S60)) : Option (Bool) := if (l0.length : Int) = (l1.length : Int) then (spec_SameLinks.l0 k l0 l1 0) else (some false)
theorem spec_SameLinks.mono_l : ∀ k, (∀ y0 y1 y2, LeO (spec_SameLinks.l0 k y0 y1 y2) (spec_SameLinks.l0 (k + 1) y0 y1 y2))
  | 0 => fun _ _ _ r h => by simp [spec_SameLinks.l0] at h
  | k + 1 => by
    have ih0 := spec_SameLinks.mono_l k
    · intro y0 y1 y2
      unfold spec_SameLinks.l0
      exact mo
theorem spec_SameLinks.mono : ∀ a0 a1 k, LeO (spec_SameLinks.f k a0 a1) (spec_SameLinks.f (k + 1) a0 a1) := by
  intro a0 a1 k
  have ih0 := spec_SameLinks.mono_l k
  unfold spec_SameLinks.f
  exact mo
set_option maxHeartbeats 8000000 in
set_option maxRecDepth 100000 in
theorem spec_SameLinks.calls (k : Nat) (A0 : Option Addr) (c0 : Nat) (l0 : List (S60)) (A1 : Option Addr) (c1 : Nat) (l1 : List (S60)) (r : Bool) (w : World) (hr0 : Kd.C k60 w A0 l0.length l0) (hc0 : l0.length ≤ c0) (hr1 : Kd.C k60 w A1 l1.length l1) (hc1 : l1.length ≤ c1) (h : spec_SameLinks.f k l0 l1 = some r) :
    Calls Try.prog 53 #[.slice A0 l0.length c0, .slice A1 l1.length c1] w fun e w' => e = .returned (.bool r) ∧ Drawn0 w w' := by
 have hu60 := Try.underlying60
 have HR0 := Aside0.mk hr0
 have HC0 := Aside0.mk hc0
 clear hr0 hc0
 have HR1 := Aside0.mk hr1
 have HC1 := Aside0.mk hc1
 clear hr1 hc1
 have H : (if (l0.length : Int) = (l1.length : Int) then (spec_SameLinks.l0 k l0 l1 0) else (some false)) = some r := h
 clear h
 obtain ⟨c3, H⟩ | ⟨c3, H⟩ := ie_ H
 ·have c3b0 : ((l0.length : Int) == (l1.length : Int)) = true := beq_iff_eq.mpr c3
  have c3b1 : ((l0.length : Int) != (l1.length : Int)) = false := bne_eq_false_iff_eq.mpr c3
  have c3b2 : (l0.length == l1.length) = true := by first | simpa using c3 | (simp at c3 ⊢; omega)
  clear c3
  have H' := Aside0.mk H
  clear H
  go_enter Try.func53, Try.ntmps53
  go_wp2
  repeat (go_quiet (fail); try go_wp2)
  go_loopg [5] k (fun kq v5 w' => ∃ (x5_1 : Int), v5 = .int .i64 x5_1 ∧ Aside0 (spec_SameLinks.l0 kq l0 l1 x5_1 = some r) ∧ Aside0 (kq ≤ k) ∧ Drawn0 w w')
  case atStart => exact ⟨(0), sc, H', kk0, sd⟩
  case round =>
   clear H'
   try clear c3
   try clear c3b0
   try clear c3b1
   try clear c3b2
   obtain ⟨x5_1, rfl, HA, HK1, ⟨m1, rfl⟩⟩ := hrel
   cases gk with
   | zero => exact absurd HA.out (by simp [spec_SameLinks.l0])
   | succ k1 =>
    have H := HA.out
    clear HA
    simp only [spec_SameLinks.l0] at H
    obtain ⟨c4, H⟩ | ⟨c4, H⟩ := ie_ H
    ·have c4b0 := decide_eq_true c4
     clear c4
     obtain ⟨c5b0, H⟩ := id_ H
     obtain ⟨c6b0, H⟩ := id_ H
     obtain ⟨c7, H⟩ | ⟨c7, H⟩ := ie_ H
     ·have c7b0 : (!(((rd_T60 l0 x5_1).f0) == ((rd_T60 l1 x5_1).f0)) || (!(((rd_T60 l0 x5_1).f1) == ((rd_T60 l1 x5_1).f1)))) = true := c7
      clear c7
      obtain rfl := Option.some.inj H
      have p129 : 0 ≤ (x5_1 : Int) := sa
      have q129 : x5_1 < (l0.length : Int) := sa
      obtain ⟨ad129, e129, hx129_0, hx129_1⟩ := at_T60 HR0.out x5_1 p129 q129
      cases e129
      replace p129 := eq_true p129
      replace q129 := eq_true q129
      have p130 : 0 ≤ (x5_1 : Int) := sa
      have q130 : x5_1 < (l1.length : Int) := sa
      obtain ⟨ad130, e130, hx130_0, hx130_1⟩ := at_T60 HR1.out x5_1 p130 q130
      cases e130
      replace p130 := eq_true p130
      replace q130 := eq_true q130
      go_wp2
      repeat (go_quiet (fail); try go_wp2)
      go_ret
      exact ⟨sc, sd⟩
     ·have c7b0 : (!(((rd_T60 l0 x5_1).f0) == ((rd_T60 l1 x5_1).f0)) || (!(((rd_T60 l0 x5_1).f1) == ((rd_T60 l1 x5_1).f1)))) = false := by simpa using c7
      clear c7
      have H' := Aside0.mk H
      clear H
      have p129 : 0 ≤ (x5_1 : Int) := sa
      have q129 : x5_1 < (l0.length : Int) := sa
      obtain ⟨ad129, e129, hx129_0, hx129_1⟩ := at_T60 HR0.out x5_1 p129 q129
      cases e129
      replace p129 := eq_true p129
      replace q129 := eq_true q129
      have p130 : 0 ≤ (x5_1 : Int) := sa
      have q130 : x5_1 < (l1.length : Int) := sa
      obtain ⟨ad130, e130, hx130_0, hx130_1⟩ := at_T60 HR1.out x5_1 p130 q130
      cases e130
      replace p130 := eq_true p130
      replace q130 := eq_true q130
      go_wp2
      repeat (go_quiet (fail); try go_wp2)
      go_roundg k1
      case measure => have := HK1.out; omega
      case rel => exact ⟨(wrap64 (x5_1 + 1)), sc, H', kk1, sd⟩
    ·have c4b0 := decide_eq_false c4
     clear c4
     obtain rfl := Option.some.inj H
     go_wp2
     repeat (go_quiet (fail); try go_wp2)
     go_ret
     exact ⟨sc, sd⟩
 ·have c3b0 : ((l0.length : Int) == (l1.length : Int)) = false := beq_eq_false_iff_ne.mpr c3
  have c3b1 : ((l0.length : Int) != (l1.length : Int)) = true := bne_iff_ne.mpr c3
  have c3b2 : (l0.length == l1.length) = false := by first | simpa using c3 | (simp at c3 ⊢; omega)
  obtain rfl := Option.some.inj H
  go_enter Try.func53, Try.ntmps53
  go_wp2
  repeat (go_quiet (fail); try go_wp2)
  go_ret
  exact ⟨sc, sd⟩

/-! ### spec_ChangesOf: function 33 -/
def spec_ChangesOf.l0 : Nat → List (S49) → List Int → Int → Int → Option (List Int)
  | 0, _, _, _, _ => none
  | k + 1, x0, x7, x9, x10 => if x10 < x9 then ((spec_LinksAt.f k x0 (wrap64 (x10 - 1))).bind fun t137 => ((spec_LinksAt.f k x0 x10).bind fun t140 => ((spec_SameLinks.f k t137 t140).bind fun t143 => (if t143 = true then (spec_ChangesOf.l0 k x0 x7 x9 (wrap64 (x10 + 1))) else (if x7.length < 17592186044416 then (spec_ChangesOf.l0 k x0 (x7 ++ [x10]) x9 (wrap64 (x10 + 1))) else (none)))))) else (some x7)
def spec_ChangesOf.f (k : Nat) (l0 : List (S49)) (a1 : Int) (a2 : Int) : Option (List Int) := (spec_Max.f 0 a1).bind fun t134 => ((spec_Min.f 1000 t134).bind fun t135 => ((spec_Min.f 1000 a2).bind fun t136 => (spec_ChangesOf.l0 k l0 (([] : List Int)) t136 (wrap64 (t135 + 1)))))
theorem spec_ChangesOf.mono_l : ∀ k, (∀ y0 y1 y2 y3, LeO (spec_ChangesOf.l0 k y0 y1 y2 y3) (spec_ChangesOf.l0 (k + 1) y0 y1 y2 y3))
  | 0 => fun _ _ _ _ r h => by simp [spec_ChangesOf.l0] at h
  | k + 1 => by
    have ih0 := spec_ChangesOf.mono_l k
    · intro y0 y1 y2 y3
      unfold spec_ChangesOf.l0
      have m0 := @spec_LinksAt.mono
      have m1 := @spec_SameLinks.mono
      exact mo
theorem spec_ChangesOf.mono : ∀ a0 a1 a2 k, LeO (spec_ChangesOf.f k a0 a1 a2) (spec_ChangesOf.f (k + 1) a0 a1 a2) := by
  intro a0 a1 a2 k
  have ih0 := spec_ChangesOf.mono_l k
  unfold spec_ChangesOf.f
  have m0 := @spec_LinksAt.mono
  have m1 := @spec_SameLinks.mono
  exact mo
set_option maxHeartbeats 8000000 in
set_option maxRecDepth 100000 in
theorem spec_ChangesOf.calls (k : Nat) (A0 : Option Addr) (c0 : Nat) (l0 : List (S49)) (a1 : Int) (a2 : Int) (r : List Int) (w : World) (hr0 : Kd.C k49 w A0 l0.length l0) (hc0 : l0.length ≤ c0) (h : spec_ChangesOf.f k l0 a1 a2 = some r) :
    Calls Try.prog 33 #[.slice A0 l0.length c0, .int .i64 a1, .int .i64 a2] w fun e w' => ∃ v0_ : Value, e = .returned (v0_) ∧ Kd.R (Kd.int .i64) 3 w' w.heap.size (fun _ => True) v0_ r ∧ Below w.heap.size w w' := by
 have HR0 := Aside0.mk hr0
 have HC0 := Aside0.mk hc0
 clear hr0 hc0
 have HB := Aside0.mk (Below.refl w.heap.size w)
 have H : ((spec_Max.f 0 a1).bind fun t134 => ((spec_Min.f 1000 t134).bind fun t135 => ((spec_Min.f 1000 a2).bind fun t136 => (spec_ChangesOf.l0 k l0 (([] : List Int)) t136 (wrap64 (t135 + 1)))))) = some r := h
 clear h
 obtain ⟨y131, hy131⟩ : ∃ y_ : List Int, y_ = (([] : List Int)) := ⟨_, rfl⟩
 replace H : ((spec_Max.f 0 a1).bind fun t134 => ((spec_Min.f 1000 t134).bind fun t135 => ((spec_Min.f 1000 a2).bind fun t136 => (spec_ChangesOf.l0 k l0 y131 t136 (wrap64 (t135 + 1)))))) = some r := by first | (rw [hy131]; with_reducible exact H) | (have H2_ := (Option.bind_some _ _).symm.trans H; rw [hy131]; with_reducible exact H2_) | (have H2_ := (Option.bind_some _ _).symm.trans H; with_reducible exact H2_) | with_reducible exact H | (rw [hy131]; exact H) | exact H
 have Ny131 := Aside0.mk hy131
 clear hy131
 obtain ⟨t134, A4, H⟩ := bnd H
 obtain ⟨t135, A5, H⟩ := bnd H
 obtain ⟨t136, A6, H⟩ := bnd H
 have H' := Aside0.mk H
 clear H
 go_enter Try.func33, Try.ntmps33
 go_wp2_with (first | ((with_reducible refine gate_dst (N := 11) rfl ?_); refine Kd.R_lit (Kd.int .i64) _ 3 ?hg (N := 11) ?hd (xs := ([] : List Int)) (inner := []) (ok := fun _ => True) (okp := fun _ => True) ?hr ?hp (fun _ hk => hk) trivial (Below.refl _ _) (Nat.le_refl _) (by simp) ?_; (case hd => rfl); (case hg => rfl); (case hr => first | (go_simp; done) | (go_simp; rfl)); (case hp => exact (Reps.none _ _)); intro v132 w7 ho8 hb hg_ hnew_; clear hg_ hnew_; (first | rw [← Ny131.out] at ho8 | (simp only [Int.reduceToNat] at ho8; rw [← Ny131.out] at ho8)); have HO133 := Aside0.mk (Kd.R_lower ho8 (below_size (sb))); replace HB := bs hb; clear hb ho8) | ((with_reducible refine gate_callee (f := 52) rfl ?_); refine gL (some 13) Try.func52 #[.int .i64 0, .int .i64 a1] ?_; (with_reducible refine (spec_Max.calls 0 a1 t134 _ A4.out).mono ?_); rintro e w' ⟨rfl, ⟨nd, rfl⟩⟩; refine ⟨_, rfl, ?_⟩) | ((with_reducible refine gate_callee (f := 51) rfl ?_); refine gL (some 14) Try.func51 #[.int .i64 1000, .int .i64 t134] ?_; (with_reducible refine (spec_Min.calls 1000 t134 t135 _ A5.out).mono ?_); rintro e w' ⟨rfl, ⟨nd, rfl⟩⟩; refine ⟨_, rfl, ?_⟩) | ((with_reducible refine gate_callee (f := 51) rfl ?_); refine gL (some 16) Try.func51 #[.int .i64 1000, .int .i64 a2] ?_; (with_reducible refine (spec_Min.calls 1000 a2 t136 _ A6.out).mono ?_); rintro e w' ⟨rfl, ⟨nd, rfl⟩⟩; refine ⟨_, rfl, ?_⟩))
 go_loopg [7, 10] k (fun kq v7 v10 w' => ∃ (x7_1 : List Int) (x10_1 : Int), v10 = .int .i64 x10_1 ∧ Aside0 (spec_ChangesOf.l0 kq l0 x7_1 t136 x10_1 = some r) ∧ Aside0 (kq ≤ k) ∧ Aside0 (Kd.R (Kd.int .i64) 3 w' w.heap.size (fun _ => True) v7 x7_1) ∧ Aside0 (Below w.heap.size w w'))
 case atStart => exact ⟨(y131), (wrap64 (t135 + 1)), sc, H', kk0, ⟨sr HO133⟩, ⟨sb⟩⟩
 case round =>
  clear H'
  obtain ⟨x7_1, x10_1, rfl, HA, HK1, HO_7, HB⟩ := hrel
  cases gk with
  | zero => exact absurd HA.out (by simp [spec_ChangesOf.l0])
  | succ k1 =>
   have H := HA.out
   clear HA
   simp only [spec_ChangesOf.l0] at H
   obtain ⟨c9, H⟩ | ⟨c9, H⟩ := ie_ H
   ·have c9b0 := decide_eq_true c9
    clear c9
    obtain ⟨t137, A10, H⟩ := bnd H
    obtain ⟨t140, A11, H⟩ := bnd H
    obtain ⟨t143, A12, H⟩ := bnd H
    obtain rfl | rfl := tt t143
    ·replace H := ip H
     have H' := Aside0.mk H
     clear H
     go_wp2_with (first | ((with_reducible refine gate_callee (f := 17) rfl ?_); refine gL (some 27) Try.func17 #[.slice A0 l0.length c0, .int .i64 (wrap64 (x10_1 - 1))] ?_; (with_reducible refine (spec_LinksAt.calls k1 _ _ l0 (wrap64 (x10_1 - 1)) t137 _ ?side1 ?side2 A10.out).mono ?_); (case side1 => exact cb HR0); (case side2 => exact HC0.out); rintro e w14 ⟨v138, rfl, ho0, hb⟩; refine ⟨_, rfl, ?_⟩; replace HO_7 := rb HO_7 hb; have HO139 := Aside0.mk (Kd.R_lower ho0 (below_size (sb))); replace HB := bs hb; (try clear hb); (try clear hb2); (try clear hk); (try clear hi); (try clear ho0)) | ((with_reducible refine gate_callee (f := 17) rfl ?_); refine gL (some 30) Try.func17 #[.slice A0 l0.length c0, .int .i64 x10_1] ?_; (with_reducible refine (spec_LinksAt.calls k1 _ _ l0 x10_1 t140 _ ?side1 ?side2 A11.out).mono ?_); (case side1 => exact cb HR0); (case side2 => exact HC0.out); rintro e w15 ⟨v141, rfl, ho0, hb⟩; refine ⟨_, rfl, ?_⟩; replace HO_7 := rb HO_7 hb; have HO142 := Aside0.mk (Kd.R_lower (Kd.R_new' ho0 (Kd.R_lt (sr HO139))) (below_size (sb))); replace HO139 := Aside0.mk (Kd.R_elder' (sr HO139) (Kd.R_base ho0) hb); replace HB := bs hb; (try clear hb); (try clear hb2); (try clear hk); (try clear hi); (try clear ho0); obtain ⟨Ao16, co16, eo16⟩ := Kd.R_slice HO139.out; subst eo16; obtain ⟨Ao17, co17, eo17⟩ := Kd.R_slice HO142.out; subst eo17) | ((with_reducible refine gate_callee (f := 53) rfl ?_); refine gL (some 31) Try.func53 #[.slice Ao16 t137.length co16, .slice Ao17 t140.length co17] ?_; (with_reducible refine (spec_SameLinks.calls k1 _ _ t137 _ _ t140 true _ ?side1 ?side2 ?side3 ?side4 A12.out).mono ?_); (case side1 => exact cr HO139); (case side2 => exact (Kd.R_reads' HO139.out).2.1); (case side3 => exact cr HO142); (case side4 => exact (Kd.R_reads' HO142.out).2.1); rintro e w' ⟨rfl, ⟨nd, rfl⟩⟩; refine ⟨_, rfl, ?_⟩))
     go_roundg k1
     case measure => have := HK1.out; omega
     case rel => exact ⟨(x7_1), (wrap64 (x10_1 + 1)), sc, H', kk1, ⟨sr HO_7⟩, ⟨sb⟩⟩
    ·replace H := im H
     obtain ⟨LMc18, H⟩ := il_ H
     obtain ⟨y144, hy144⟩ : ∃ y_ : List Int, y_ = (x7_1 ++ [x10_1]) := ⟨_, rfl⟩
     replace H : (spec_ChangesOf.l0 k1 l0 y144 t136 (wrap64 (x10_1 + 1))) = some r := by first | (rw [hy144]; with_reducible exact H) | (have H2_ := (Option.bind_some _ _).symm.trans H; rw [hy144]; with_reducible exact H2_) | (have H2_ := (Option.bind_some _ _).symm.trans H; with_reducible exact H2_) | with_reducible exact H | (rw [hy144]; exact H) | exact H
     have Ny144 := Aside0.mk hy144
     clear hy144
     have H' := Aside0.mk H
     clear H
     go_wp2_with (first | ((with_reducible refine gate_callee (f := 17) rfl ?_); refine gL (some 27) Try.func17 #[.slice A0 l0.length c0, .int .i64 (wrap64 (x10_1 - 1))] ?_; (with_reducible refine (spec_LinksAt.calls k1 _ _ l0 (wrap64 (x10_1 - 1)) t137 _ ?side1 ?side2 A10.out).mono ?_); (case side1 => exact cb HR0); (case side2 => exact HC0.out); rintro e w19 ⟨v138, rfl, ho0, hb⟩; refine ⟨_, rfl, ?_⟩; replace HO_7 := rb HO_7 hb; have HO139 := Aside0.mk (Kd.R_lower ho0 (below_size (sb))); replace HB := bs hb; (try clear hb); (try clear hb2); (try clear hk); (try clear hi); (try clear ho0)) | ((with_reducible refine gate_callee (f := 17) rfl ?_); refine gL (some 30) Try.func17 #[.slice A0 l0.length c0, .int .i64 x10_1] ?_; (with_reducible refine (spec_LinksAt.calls k1 _ _ l0 x10_1 t140 _ ?side1 ?side2 A11.out).mono ?_); (case side1 => exact cb HR0); (case side2 => exact HC0.out); rintro e w20 ⟨v141, rfl, ho0, hb⟩; refine ⟨_, rfl, ?_⟩; replace HO_7 := rb HO_7 hb; have HO142 := Aside0.mk (Kd.R_lower (Kd.R_new' ho0 (Kd.R_lt (sr HO139))) (below_size (sb))); replace HO139 := Aside0.mk (Kd.R_elder' (sr HO139) (Kd.R_base ho0) hb); replace HB := bs hb; (try clear hb); (try clear hb2); (try clear hk); (try clear hi); (try clear ho0); obtain ⟨Ao21, co21, eo21⟩ := Kd.R_slice HO139.out; subst eo21; obtain ⟨Ao22, co22, eo22⟩ := Kd.R_slice HO142.out; subst eo22) | ((with_reducible refine gate_callee (f := 53) rfl ?_); refine gL (some 31) Try.func53 #[.slice Ao21 t137.length co21, .slice Ao22 t140.length co22] ?_; (with_reducible refine (spec_SameLinks.calls k1 _ _ t137 _ _ t140 false _ ?side1 ?side2 ?side3 ?side4 A12.out).mono ?_); (case side1 => exact cr HO139); (case side2 => exact (Kd.R_reads' HO139.out).2.1); (case side3 => exact cr HO142); (case side4 => exact (Kd.R_reads' HO142.out).2.1); rintro e w' ⟨rfl, ⟨nd, rfl⟩⟩; refine ⟨_, rfl, ?_⟩) | ((with_reducible refine gate_builtin (b := .append) (xs := #[.tmp 33, .tmp 35]) rfl ?_); at_builtin; refine Kd.R_append (Kd.int .i64) (w0 := w) w.heap.size rfl (.tmp 33) (.tmp 35) 57 3 (.int .i64 0) 8 rfl Try.underlying57 info3 rfl (by decide) (by omega) u7 x7_1 x10_1 [.int .i64 x10_1] (fun _ => True) (fun _ => False) rfl rfl ?aP (fun _ hk => hk.elim) ?aF ?aO ?aB ?aS ?aL ?_; (case aP => exact rfl); (case aB => exact (sb)); (case aF => exact (fun _ _ => trivial)); (case aO => exact (sr HO_7)); (case aS => exact (below_size (sb))); (case aL => have := LMc18.out; omega); intro v145 w23 ho hb hg hat; rw [← Ny144.out] at ho; replace HO139 := Aside0.mk (Kd.R_over' (sr HO139) (Kd.R_typed (sr HO_7)) (by decide) hg); replace HO142 := Aside0.mk (Kd.R_over' (sr HO142) (Kd.R_typed (sr HO_7)) (by decide) hg); replace HB := Aside0.mk hb; have HO146 := Aside0.mk ho; clear HO_7; clear ho hb hg hat))
     go_roundg k1
     case measure => have := HK1.out; omega
     case rel => exact ⟨(y144), (wrap64 (x10_1 + 1)), sc, H', kk1, ⟨sr HO146⟩, ⟨sb⟩⟩
   ·have c9b0 := decide_eq_false c9
    clear c9
    obtain rfl := Option.some.inj H
    go_wp2
    go_ret
    exact ⟨_, se, sr HO_7, sb⟩

/-! ### spec_PiecesOf: function 15 -/
def spec_PiecesOf.l0 : Nat → List (S43) → Int → List Int → Int → Option ((List (S43)))
  | 0, _, _, _, _ => none
  | k + 1, x7, x8, x9, x10 => if x10 < (x9.length : Int) then (if 0 ≤ x10 then (if x7.length < 8796093022208 then (spec_PiecesOf.l0 k (x7 ++ [(⟨x8, rd x9 x10⟩ : S43)]) (rd x9 x10) x9 (wrap64 (x10 + 1))) else (none)) else (none)) else (some x7)
def spec_PiecesOf.f (k : Nat) (l0 : List (S49)) (a1 : Int) (a2 : Int) : Option ((List (S43))) := (some (([] : List (S43)) : List (S43))).bind fun y147 => ((spec_IsSpan.f a1 a2).bind fun t150 => (if t150 = true then ((spec_ChangesOf.f k l0 a1 a2).bind fun t151 => (if t151.length < 17592186044416 then (spec_PiecesOf.l0 k y147 a1 (t151 ++ [a2]) 0) else (none))) else (some y147)))
theorem spec_PiecesOf.mono_l : ∀ k, (∀ y0 y1 y2 y3, LeO (spec_PiecesOf.l0 k y0 y1 y2 y3) (spec_PiecesOf.l0 (k + 1) y0 y1 y2 y3))
  | 0 => fun _ _ _ _ r h => by simp [spec_PiecesOf.l0] at h
  | k + 1 => by
    have ih0 := spec_PiecesOf.mono_l k
    · intro y0 y1 y2 y3
      unfold spec_PiecesOf.l0
      have m0 := @spec_ChangesOf.mono
      exact mo
theorem spec_PiecesOf.mono : ∀ a0 a1 a2 k, LeO (spec_PiecesOf.f k a0 a1 a2) (spec_PiecesOf.f (k + 1) a0 a1 a2) := by
  intro a0 a1 a2 k
  have ih0 := spec_PiecesOf.mono_l k
  unfold spec_PiecesOf.f
  have m0 := @spec_ChangesOf.mono
  exact mo
set_option maxHeartbeats 8000000 in
set_option maxRecDepth 100000 in
theorem spec_PiecesOf.calls (k : Nat) (A0 : Option Addr) (c0 : Nat) (l0 : List (S49)) (a1 : Int) (a2 : Int) (r : List (S43)) (w : World) (hr0 : Kd.C k49 w A0 l0.length l0) (hc0 : l0.length ≤ c0) (h : spec_PiecesOf.f k l0 a1 a2 = some r) :
    Calls Try.prog 15 #[.slice A0 l0.length c0, .int .i64 a1, .int .i64 a2] w fun e w' => ∃ v0_ : Value, e = .returned (v0_) ∧ Kd.R k43 43 w' w.heap.size (fun _ => True) v0_ r ∧ Below w.heap.size w w' := by
 have hu43 := Try.underlying43
 have HR0 := Aside0.mk hr0
 have HC0 := Aside0.mk hc0
 clear hr0 hc0
 have HB := Aside0.mk (Below.refl w.heap.size w)
 have H : ((some (([] : List (S43)) : List (S43))).bind fun y147 => ((spec_IsSpan.f a1 a2).bind fun t150 => (if t150 = true then ((spec_ChangesOf.f k l0 a1 a2).bind fun t151 => (if t151.length < 17592186044416 then (spec_PiecesOf.l0 k y147 a1 (t151 ++ [a2]) 0) else (none))) else (some y147)))) = some r := h
 clear h
 obtain ⟨y147, hy147⟩ : ∃ y_ : List (S43), y_ = (([] : List (S43))) := ⟨_, rfl⟩
 replace H : ((spec_IsSpan.f a1 a2).bind fun t150 => (if t150 = true then ((spec_ChangesOf.f k l0 a1 a2).bind fun t151 => (if t151.length < 17592186044416 then (spec_PiecesOf.l0 k y147 a1 (t151 ++ [a2]) 0) else (none))) else (some y147))) = some r := by first | (rw [hy147]; with_reducible exact H) | (have H2_ := (Option.bind_some _ _).symm.trans H; rw [hy147]; with_reducible exact H2_) | (have H2_ := (Option.bind_some _ _).symm.trans H; with_reducible exact H2_) | with_reducible exact H | (rw [hy147]; exact H) | exact H
 have Ny147 := Aside0.mk hy147
 clear hy147
 obtain ⟨t150, A4, H⟩ := bnd H
 obtain rfl | rfl := tt t150
 ·replace H := ip H
  obtain ⟨t151, A6, H⟩ := bnd H
  obtain ⟨LMc7, H⟩ := il_ H
  obtain ⟨y154, hy154⟩ : ∃ y_ : List Int, y_ = (t151 ++ [a2]) := ⟨_, rfl⟩
  replace H : (spec_PiecesOf.l0 k y147 a1 y154 0) = some r := by first | (rw [hy154]; with_reducible exact H) | (have H2_ := (Option.bind_some _ _).symm.trans H; rw [hy154]; with_reducible exact H2_) | (have H2_ := (Option.bind_some _ _).symm.trans H; with_reducible exact H2_) | with_reducible exact H | (rw [hy154]; exact H) | exact H
  have Ny154 := Aside0.mk hy154
  clear hy154
  have H' := Aside0.mk H
  clear H
  go_enter Try.func15, Try.ntmps15
  go_wp2_with (first | ((with_reducible refine gate_dst (N := 11) rfl ?_); refine Kd.R_lit k43 _ 43 ?hg (N := 11) ?hd (xs := ([] : List (S43))) (inner := []) (ok := fun _ => True) (okp := fun _ => True) ?hr ?hp (fun _ hk => hk) trivial (Below.refl _ _) (Nat.le_refl _) (by simp) ?_; (case hd => rfl); (case hg => rfl); (case hr => first | (go_simp; done) | (go_simp; rfl)); (case hp => exact (Reps.none _ _)); intro v148 w8 ho9 hb hg_ hnew_; clear hg_ hnew_; (first | rw [← Ny147.out] at ho9 | (simp only [Int.reduceToNat] at ho9; rw [← Ny147.out] at ho9)); have HO149 := Aside0.mk (Kd.R_lower ho9 (below_size (sb))); replace HB := bs hb; clear hb ho9) | ((with_reducible refine gate_callee (f := 32) rfl ?_); refine gL (some 15) Try.func32 #[.agg #[.int .i64 a1, .int .i64 a2]] ?_; (with_reducible refine (spec_IsSpan.calls a1 a2 true _ A4.out).mono ?_); rintro e w10 ⟨rfl, hb⟩; refine ⟨_, rfl, ?_⟩; replace HO149 := rb HO149 hb; replace HB := bs hb; (try clear hb); (try clear hb2); (try clear hk); (try clear hi)) | ((with_reducible refine gate_callee (f := 33) rfl ?_); refine gL (some 22) Try.func33 #[.slice A0 l0.length c0, .int .i64 a1, .int .i64 a2] ?_; (with_reducible refine (spec_ChangesOf.calls k _ _ l0 a1 a2 t151 _ ?side1 ?side2 A6.out).mono ?_); (case side1 => exact cb HR0); (case side2 => exact HC0.out); rintro e w11 ⟨v152, rfl, ho0, hb⟩; refine ⟨_, rfl, ?_⟩; replace HO149 := rb HO149 hb; have HO153 := Aside0.mk (Kd.R_lower ho0 (below_size (sb))); replace HB := bs hb; (try clear hb); (try clear hb2); (try clear hk); (try clear hi); (try clear ho0)) | ((with_reducible refine gate_builtin (b := .append) (xs := #[.tmp 22, .tmp 24]) rfl ?_); at_builtin; refine Kd.R_append (Kd.int .i64) (w0 := w) w.heap.size rfl (.tmp 22) (.tmp 24) 57 3 (.int .i64 0) 8 rfl Try.underlying57 info3 rfl (by decide) (by omega) v152 t151 a2 [.int .i64 a2] (fun _ => True) (fun _ => False) rfl rfl ?aP (fun _ hk => hk.elim) ?aF ?aO ?aB ?aS ?aL ?_; (case aP => exact rfl); (case aB => exact (sb)); (case aF => exact (fun _ _ => trivial)); (case aO => exact (sr HO153)); (case aS => exact (below_size (sb))); (case aL => have := LMc7.out; omega); intro v155 w12 ho hb hg hat; rw [← Ny154.out] at ho; replace HO149 := Aside0.mk (Kd.R_over' (sr HO149) (Kd.R_typed (sr HO153)) (by decide) hg); replace HB := Aside0.mk hb; have HO156 := Aside0.mk ho; clear HO153; clear ho hb hg hat))
  go_loopg [7, 8, 10] k (fun kq v7 v8 v10 w' => ∃ (x7_1 : List (S43)) (x8_1 : Int) (x10_1 : Int), v8 = .int .i64 x8_1 ∧ v10 = .int .i64 x10_1 ∧ Aside0 (spec_PiecesOf.l0 kq x7_1 x8_1 y154 x10_1 = some r) ∧ Aside0 (kq ≤ k) ∧ Aside0 (Kd.R k43 43 w' w.heap.size (fun _ => True) v7 x7_1) ∧ Aside0 (Kd.R (Kd.int .i64) 3 w' w.heap.size (fun _ => True) v155 y154) ∧ Aside0 (Below w.heap.size w w'))
  case atStart => exact ⟨(y147), (a1), (0), sc, sc, H', kk0, ⟨sr HO149⟩, ⟨sr HO156⟩, ⟨sb⟩⟩
  case round =>
   clear H'
   obtain ⟨x7_1, x8_1, x10_1, rfl, rfl, HA, HK1, HO_7, HO_9, HB⟩ := hrel
   cases gk with
   | zero => exact absurd HA.out (by simp [spec_PiecesOf.l0])
   | succ k1 =>
    have H := HA.out
    clear HA
    simp only [spec_PiecesOf.l0] at H
    obtain ⟨c13, H⟩ | ⟨c13, H⟩ := ie_ H
    ·have c13b0 := decide_eq_true c13
     clear c13
     obtain ⟨c14b0, H⟩ := id_ H
     obtain ⟨LMc15, H⟩ := il_ H
     obtain ⟨y158, hy158⟩ : ∃ y_ : List (S43), y_ = (x7_1 ++ [(⟨x8_1, rd y154 x10_1⟩ : S43)]) := ⟨_, rfl⟩
     replace H : (spec_PiecesOf.l0 k1 y158 (rd y154 x10_1) y154 (wrap64 (x10_1 + 1))) = some r := by first | (rw [hy158]; with_reducible exact H) | (have H2_ := (Option.bind_some _ _).symm.trans H; rw [hy158]; with_reducible exact H2_) | (have H2_ := (Option.bind_some _ _).symm.trans H; with_reducible exact H2_) | with_reducible exact H | (rw [hy158]; exact H) | exact H
     have Ny158 := Aside0.mk hy158
     clear hy158
     have H' := Aside0.mk H
     clear H
     obtain ⟨Ao16, co16, eo16⟩ := Kd.R_slice HO_9.out
     subst eo16
     have p157 : 0 ≤ (x10_1 : Int) := sa
     have q157 : x10_1 < (y154.length : Int) := sa
     obtain ⟨ad157, e157, hx157_0⟩ := Kd.at_int (Kd.R_reads' HO_9.out).2.2 x10_1 p157 q157
     cases e157
     replace p157 := eq_true p157
     replace q157 := eq_true q157
     go_wp2_with (first | ((with_reducible refine gate_builtin (b := .append) (xs := #[.tmp 32, .tmp 39]) rfl ?_); at_builtin; refine Kd.R_append k43 (w0 := w) w.heap.size rfl (.tmp 32) (.tmp 39) 38 43 (.agg #[(.int .i64 0), (.int .i64 0)]) 16 rfl Try.underlying38 info43 rfl (by decide) (by omega) u7 x7_1 (⟨x8_1, rd y154 x10_1⟩ : S43) [.int .i64 x8_1, .int .i64 (rd y154 x10_1)] (fun _ => True) (fun _ => False) rfl rfl ?aP (fun _ hk => hk.elim) ?aF ?aO ?aB ?aS ?aL ?_; (case aP => exact k43_mkM _ _ _ (⟨x8_1, rd y154 x10_1⟩ : S43)); (case aB => exact (sb)); (case aF => exact (fun _ _ => trivial)); (case aO => exact (sr HO_7)); (case aS => exact (below_size (sb))); (case aL => have := LMc15.out; omega); intro v159 w17 ho hb hg hat; rw [← Ny158.out] at ho; replace HO_9 := Aside0.mk (Kd.R_over' (sr HO_9) (Kd.R_typed (sr HO_7)) (by decide) hg); replace HB := Aside0.mk hb; have HO160 := Aside0.mk ho; clear HO_7; clear ho hb hg hat; have p161 : 0 ≤ (x10_1 : Int) := sa; have q161 : x10_1 < (y154.length : Int) := sa; obtain ⟨ad161, e161, hx161_0⟩ := Kd.at_int (Kd.R_reads' HO_9.out).2.2 x10_1 p161 q161; obtain rfl : ad157 = ad161 := (by injection e161); replace p161 := eq_true p161; replace q161 := eq_true q161))
     go_roundg k1
     case measure => have := HK1.out; omega
     case rel => exact ⟨(y158), (rd y154 x10_1), (wrap64 (x10_1 + 1)), sc, sc, H', kk1, ⟨sr HO160⟩, ⟨sr HO_9⟩, ⟨sb⟩⟩
    ·have c13b0 := decide_eq_false c13
     clear c13
     obtain rfl := Option.some.inj H
     obtain ⟨Ao18, co18, eo18⟩ := Kd.R_slice HO_9.out
     subst eo18
     go_wp2
     go_ret
     exact ⟨_, se, sr HO_7, sb⟩
 ·replace H := im H
  obtain rfl := Option.some.inj H
  go_enter Try.func15, Try.ntmps15
  go_wp2_with (first | ((with_reducible refine gate_dst (N := 11) rfl ?_); refine Kd.R_lit k43 _ 43 ?hg (N := 11) ?hd (xs := ([] : List (S43))) (inner := []) (ok := fun _ => True) (okp := fun _ => True) ?hr ?hp (fun _ hk => hk) trivial (Below.refl _ _) (Nat.le_refl _) (by simp) ?_; (case hd => rfl); (case hg => rfl); (case hr => first | (go_simp; done) | (go_simp; rfl)); (case hp => exact (Reps.none _ _)); intro v148 w19 ho20 hb hg_ hnew_; clear hg_ hnew_; (first | rw [← Ny147.out] at ho20 | (simp only [Int.reduceToNat] at ho20; rw [← Ny147.out] at ho20)); have HO149 := Aside0.mk (Kd.R_lower ho20 (below_size (sb))); replace HB := bs hb; clear hb ho20) | ((with_reducible refine gate_callee (f := 32) rfl ?_); refine gL (some 15) Try.func32 #[.agg #[.int .i64 a1, .int .i64 a2]] ?_; (with_reducible refine (spec_IsSpan.calls a1 a2 false _ A4.out).mono ?_); rintro e w21 ⟨rfl, hb⟩; refine ⟨_, rfl, ?_⟩; replace HO149 := rb HO149 hb; replace HB := bs hb; (try clear hb); (try clear hb2); (try clear hk); (try clear hi)))
  go_ret
  exact ⟨_, se, sr HO149, sb⟩

/-! ### spec_l14Ok: function 66 -/
def spec_l14Ok.f (a0 : Int) (a1 : Int) : Option (Bool) := (spec_l1In.f a0 1 12).bind fun t162 => (if t162 = true then ((spec_l1In.f a1 0 (wrap64 (a0 - 1))).bind fun t163 => (some t163)) else (some false))
set_option maxHeartbeats 8000000 in
set_option maxRecDepth 100000 in
theorem spec_l14Ok.calls (a0 : Int) (a1 : Int) (r : Bool) (w : World) (h : spec_l14Ok.f a0 a1 = some r) :
    Calls Try.prog 66 #[.int .i64 a0, .int .i64 a1] w fun e w' => e = .returned (.bool r) ∧ Drawn0 w w' := by
 have H : ((spec_l1In.f a0 1 12).bind fun t162 => (if t162 = true then ((spec_l1In.f a1 0 (wrap64 (a0 - 1))).bind fun t163 => (some t163)) else (some false))) = some r := h
 clear h
 obtain ⟨t162, A3, H⟩ := bnd H
 obtain rfl | rfl := tt t162
 ·replace H := ip H
  obtain ⟨t163, A5, H⟩ := bnd H
  obtain rfl := Option.some.inj H
  go_enter Try.func66, Try.ntmps66
  go_wp2_with (first | ((with_reducible refine gate_callee (f := 16) rfl ?_); refine gL (some 6) Try.func16 #[.int .i64 a0, .int .i64 1, .int .i64 12] ?_; (with_reducible refine (spec_l1In.calls a0 1 12 true _ A3.out).mono ?_); rintro e w' ⟨rfl, ⟨nd, rfl⟩⟩; refine ⟨_, rfl, ?_⟩) | (go_at_call 16; (try simp only [i64_w, i32_w]); (with_reducible refine (spec_l1In.calls a1 0 (wrap64 (a0 - 1)) t163 _ A5.out).mono ?_); rintro e w' ⟨rfl, ⟨nd, rfl⟩⟩))
  go_ret
  exact ⟨sc, sd⟩
 ·replace H := im H
  obtain rfl := Option.some.inj H
  go_enter Try.func66, Try.ntmps66
  go_wp2_with (first | ((with_reducible refine gate_callee (f := 16) rfl ?_); refine gL (some 6) Try.func16 #[.int .i64 a0, .int .i64 1, .int .i64 12] ?_; (with_reducible refine (spec_l1In.calls a0 1 12 false _ A3.out).mono ?_); rintro e w' ⟨rfl, ⟨nd, rfl⟩⟩; refine ⟨_, rfl, ?_⟩))
  go_ret
  exact ⟨sc, sd⟩

end Go.Proofs.Ytcjlbgbenjmkgaa.QFnExactBuildProgram
