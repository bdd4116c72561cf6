/- What the Go functions of the law FnExactBuildProgram come to, as Lean functions, and that they do: by a program of the session, out of the kit's printer. Conditions: none. (squeezed). -/
import Derived.Test.YtcjlbgbenjmkgaaVFnExactBuildProgramSq2
import Derived.Test.YtcjlbgbenjmkgaaVFnExactBuildProgramSq
import Derived.Test.YtcjlbgbenjmkgaaVFnExactBuildProgramQFnExactBuildProgramx0
import Derived.Test.YtcjlbgbenjmkgaaVFnExactBuildProgramQFnExactBuildProgramx1
import Derived.Test.YtcjlbgbenjmkgaaVFnExactBuildProgramQFnExactBuildProgramx10
namespace Go.Proofs.Ytcjlbgbenjmkgaa.QFnExactBuildProgram
open Go.RowKit Go.Proofs.YtcjlbgbenjmkgaaW.PrintWords Go.Proofs.YtcjlbgbenjmkgaaW.PrintLast Go.Proofs.YtcjlbgbenjmkgaaW.PrintMore Go.Proofs.Ytcjlbgbenjmkgaa.Open Go.Proofs.Ytcjlbgbenjmkgaa.Sq
attribute [local go_sem] max2_int min2_int max_two min_two max_three min_three max_four min_four   -- for this text's walks alone
attribute [local go_sem] isSome_set
set_option linter.unusedVariables false
set_option linter.unusedSimpArgs false

attribute [local go_sem high] eqA60
/-! ### impl_InSpan: function 42 -/
def impl_InSpan.f (a0_0 : Int) (a0_1 : Int) (a1 : Int) : Option (Bool) := (impl_IsSpan.f a0_0 a0_1).bind fun t367 => (if t367 = true then (if a0_0 ≤ a1 then (some (decide (a1 < a0_1))) else (some false)) else (some false))
set_option maxHeartbeats 8000000 in
set_option maxRecDepth 100000 in
theorem impl_InSpan.calls (a0_0 : Int) (a0_1 : Int) (a1 : Int) (r : Bool) (w : World) (h : impl_InSpan.f a0_0 a0_1 a1 = some r) :
    Calls Try.prog 42 #[.agg #[.int .i64 a0_0, .int .i64 a0_1], .int .i64 a1] w fun e w' => e = .returned (.bool r) ∧ Below w.heap.size w w' := by
 have hu43 := Try.underlying43
 have HB := Aside0.mk (Below.refl w.heap.size w)
 have H : ((impl_IsSpan.f a0_0 a0_1).bind fun t367 => (if t367 = true then (if a0_0 ≤ a1 then (some (decide (a1 < a0_1))) else (some false)) else (some false))) = some r := h
 clear h
 obtain ⟨t367, A3, H⟩ := bnd H
 obtain rfl | rfl := tt t367
 ·replace H := ip H
  obtain ⟨c5, H⟩ | ⟨c5, H⟩ := ie_ H
  ·have c5b0 := decide_eq_true c5
   clear c5
   obtain rfl := Option.some.inj H
   go_enter Try.func42, Try.ntmps42
   go_wp2_with (first | ((with_reducible refine gate_dst (N := 2) rfl ?_); refine bx 2 #[.int .i64 a0_0, .int .i64 a0_1] 43 ?_; intro gb366 hg w6 hbox hb; have GW366 := bz w hg; have GE366 := bz w hg; replace HB := bs hb; have BK366 := Aside0.mk hbox; clear hb hbox hg; obtain ⟨hcz7_0, hcz7_1, hfz7_0, hfz7_1⟩ := cc2 BK366) | ((with_reducible refine gate_callee (f := 40) rfl ?_); refine gL (some 6) Try.func40 #[.agg #[.int .i64 a0_0, .int .i64 a0_1]] ?_; (with_reducible refine (impl_IsSpan.calls a0_0 a0_1 true _ A3.out).mono ?_); rintro e w8 ⟨rfl, hb⟩; refine ⟨_, rfl, ?_⟩; replace BK366 := bb BK366 hb; replace HB := bsw hb; (try clear hb); (try clear hb2); (try clear hk); (try clear hi); obtain ⟨hcz9_0, hcz9_1, hfz9_0, hfz9_1⟩ := cc2 BK366))
   go_ret
   exact ⟨se, sbw⟩
  ·have c5b0 := decide_eq_false c5
   clear c5
   obtain rfl := Option.some.inj H
   go_enter Try.func42, Try.ntmps42
   go_wp2_with (first | ((with_reducible refine gate_dst (N := 2) rfl ?_); refine bx 2 #[.int .i64 a0_0, .int .i64 a0_1] 43 ?_; intro gb366 hg w10 hbox hb; have GW366 := bz w hg; have GE366 := bz w hg; replace HB := bs hb; have BK366 := Aside0.mk hbox; clear hb hbox hg; obtain ⟨hcz11_0, hcz11_1, hfz11_0, hfz11_1⟩ := cc2 BK366) | ((with_reducible refine gate_callee (f := 40) rfl ?_); refine gL (some 6) Try.func40 #[.agg #[.int .i64 a0_0, .int .i64 a0_1]] ?_; (with_reducible refine (impl_IsSpan.calls a0_0 a0_1 true _ A3.out).mono ?_); rintro e w12 ⟨rfl, hb⟩; refine ⟨_, rfl, ?_⟩; replace BK366 := bb BK366 hb; replace HB := bsw hb; (try clear hb); (try clear hb2); (try clear hk); (try clear hi); obtain ⟨hcz13_0, hcz13_1, hfz13_0, hfz13_1⟩ := cc2 BK366))
   go_ret
   exact ⟨se, sbw⟩
 ·replace H := im H
  obtain rfl := Option.some.inj H
  go_enter Try.func42, Try.ntmps42
  go_wp2_with (first | ((with_reducible refine gate_dst (N := 2) rfl ?_); refine bx 2 #[.int .i64 a0_0, .int .i64 a0_1] 43 ?_; intro gb366 hg w14 hbox hb; have GW366 := bz w hg; have GE366 := bz w hg; replace HB := bs hb; have BK366 := Aside0.mk hbox; clear hb hbox hg; obtain ⟨hcz15_0, hcz15_1, hfz15_0, hfz15_1⟩ := cc2 BK366) | ((with_reducible refine gate_callee (f := 40) rfl ?_); refine gL (some 6) Try.func40 #[.agg #[.int .i64 a0_0, .int .i64 a0_1]] ?_; (with_reducible refine (impl_IsSpan.calls a0_0 a0_1 false _ A3.out).mono ?_); rintro e w16 ⟨rfl, hb⟩; refine ⟨_, rfl, ?_⟩; replace BK366 := bb BK366 hb; replace HB := bsw hb; (try clear hb); (try clear hb2); (try clear hk); (try clear hi)))
  go_ret
  exact ⟨se, sbw⟩

/-! ### impl_Link_58: function 58 -/
def impl_Link_58.l0 : Nat → List (S60) → Int → Int → Int → Int → Option (Int)
  | 0, _, _, _, _, _ => none
  | k + 1, x0, x7, x8, x369000, x369001 => if x8 < x7 then (if 0 ≤ x8 then (if x8 < (x0.length : Int) then (if (x369000 == ((rd_T60 x0 x8).f0) && (x369001 == ((rd_T60 x0 x8).f1))) = true then (some x8) else (impl_Link_58.l0 k x0 x7 (wrap64 (x8 + 1)) x369000 x369001)) else (none)) else (none)) else (some (-1))
def impl_Link_58.f (k : Nat) (l0 : List (S60)) (a1_0 : Int) (a1_1 : Int) : Option (Int) := impl_Link_58.l0 k l0 (l0.length : Int) 0 a1_0 a1_1
theorem impl_Link_58.mono_l : ∀ k, (∀ y0 y1 y2 y3 y4, LeO (impl_Link_58.l0 k y0 y1 y2 y3 y4) (impl_Link_58.l0 (k + 1) y0 y1 y2 y3 y4))
  | 0 => fun _ _ _ _ _ r h => by simp [impl_Link_58.l0] at h
  | k + 1 => by
    have ih0 := impl_Link_58.mono_l k
    · intro y0 y1 y2 y3 y4
      unfold impl_Link_58.l0
      exact mo
theorem impl_Link_58.mono : ∀ a0 a1 a2 k, LeO (impl_Link_58.f k a0 a1 a2) (impl_Link_58.f (k + 1) a0 a1 a2) := by
  intro a0 a1 a2 k
  have ih0 := impl_Link_58.mono_l k
  unfold impl_Link_58.f
  exact mo
set_option maxHeartbeats 8000000 in
set_option maxRecDepth 100000 in
theorem impl_Link_58.calls (k : Nat) (A0 : Option Addr) (c0 : Nat) (l0 : List (S60)) (a1_0 : Int) (a1_1 : Int) (r : Int) (w : World) (hr0 : Kd.C k60 w A0 l0.length l0) (hc0 : l0.length ≤ c0) (h : impl_Link_58.f k l0 a1_0 a1_1 = some r) :
    Calls Try.prog 58 #[.slice A0 l0.length c0, .agg #[.int .i64 a1_0, .int .i64 a1_1]] w fun e w' => e = .returned (.int .i64 r) ∧ Below w.heap.size w w' := by
 have hu60 := Try.underlying60
 have HR0 := Aside0.mk hr0
 have HC0 := Aside0.mk hc0
 clear hr0 hc0
 have HB := Aside0.mk (Below.refl w.heap.size w)
 have H : (impl_Link_58.l0 k l0 (l0.length : Int) 0 a1_0 a1_1) = some r := h
 clear h
 have H' := Aside0.mk H
 clear H
 go_enter Try.func58, Try.ntmps58
 go_wp2_with (first | ((with_reducible refine gate_dst (N := 3) rfl ?_); refine bx 3 #[.int .i64 a1_0, .int .i64 a1_1] 60 ?_; intro gb368 hg w3 hbox hb; have GW368 := bz w hg; have GE368 := bz w hg; replace HB := bs hb; have BK368 := Aside0.mk hbox; clear hb hbox hg))
 repeat (go_quiet (first | ((with_reducible refine gate_dst (N := 3) rfl ?_); refine box_event ?hg (N := 3) ?hd (cs := #[.int .i64 a1_0, .int .i64 a1_1]) (t := 60) ?hr ?_; (case hd => rfl); (case hg => rfl); (case hr => first | (go_simp; done) | (go_simp; rfl)); intro gb368 hg w3 hbox hb; have n0_ := Aside0.mk (below_step (sb) hb); have n1_ := Aside0.mk (hbox); have n2_ := Aside0.mk ((by rw [hg]; exact (below_size (sb)) : w.heap.size ≤ gb368)); have n3_ := Aside0.mk ((by rw [hg]; exact (below_size (sb)) : w.heap.size ≤ gb368)); clear HB; have HB := n0_; have BK368 := n1_; have GW368 := n2_; have GE368 := n3_; clear n0_ n1_ n2_ n3_; clear hb hbox hg)); try go_wp2_with (first | ((with_reducible refine gate_dst (N := 3) rfl ?_); refine box_event ?hg (N := 3) ?hd (cs := #[.int .i64 a1_0, .int .i64 a1_1]) (t := 60) ?hr ?_; (case hd => rfl); (case hg => rfl); (case hr => first | (go_simp; done) | (go_simp; rfl)); intro gb368 hg w3 hbox hb; have n0_ := Aside0.mk (below_step (sb) hb); have n1_ := Aside0.mk (hbox); have n2_ := Aside0.mk ((by rw [hg]; exact (below_size (sb)) : w.heap.size ≤ gb368)); have n3_ := Aside0.mk ((by rw [hg]; exact (below_size (sb)) : w.heap.size ≤ gb368)); clear HB; have HB := n0_; have BK368 := n1_; have GW368 := n2_; have GE368 := n3_; clear n0_ n1_ n2_ n3_; clear hb hbox hg)))
 go_loopg [8] k (fun kq v8 w' => ∃ (x8_1 : Int), v8 = .int .i64 x8_1 ∧ Aside0 (impl_Link_58.l0 kq l0 (l0.length : Int) x8_1 a1_0 a1_1 = some r) ∧ Aside0 (kq ≤ k) ∧ Aside0 (w'.heap[gb368]? = some (.cells #[.int .i64 a1_0, .int .i64 a1_1] 60 (0, 0))) ∧ Aside0 (Below w.heap.size w w'))
 case atStart => exact ⟨(0), sc, H', kk0, ⟨sk BK368⟩, ⟨sbw⟩⟩
 case round =>
  clear H'
  obtain ⟨x8_1, rfl, HA, HK1, BK368, HB⟩ := hrel
  cases gk with
  | zero => exact absurd HA.out (by simp [impl_Link_58.l0])
  | succ k1 =>
   have H := HA.out
   clear HA
   simp only [impl_Link_58.l0] at H
   obtain ⟨c4, H⟩ | ⟨c4, H⟩ := ie_ H
   ·have c4b0 := decide_eq_true c4
    clear c4
    obtain ⟨c5b0, H⟩ := id_ H
    obtain ⟨c6b0, H⟩ := id_ H
    obtain ⟨c7, H⟩ | ⟨c7, H⟩ := ie_ H
    ·have c7b0 : (a1_0 == ((rd_T60 l0 x8_1).f0) && (a1_1 == ((rd_T60 l0 x8_1).f1))) = true := c7
     (try (have c7b1 : decide (a1_0 = ((rd_T60 l0 x8_1).f0) && (a1_1 == ((rd_T60 l0 x8_1).f1))) = true := by simpa using c7))
     (try (have c7b2 : (a1_0 == ((rd_T60 l0 x8_1).f0) && (a1_1 == ((rd_T60 l0 x8_1).f1))) = true := by simpa using c7))
     clear c7
     obtain rfl := Option.some.inj H
     obtain ⟨hcz8_0, hcz8_1, hfz8_0, hfz8_1⟩ := cc2 BK368
     obtain ⟨p369, q369, ad369, e369, _, _, hx369_0, hx369_1⟩ := aT_T60 HR0 HB x8_1
     cases e369
     go_wp2
     repeat (go_quiet (fail); try go_wp2)
     go_ret
     exact ⟨se, sbw⟩
    ·have c7b0 : (a1_0 == ((rd_T60 l0 x8_1).f0) && (a1_1 == ((rd_T60 l0 x8_1).f1))) = false := by simpa using c7
     (try (have c7b1 : decide (a1_0 = ((rd_T60 l0 x8_1).f0) && (a1_1 == ((rd_T60 l0 x8_1).f1))) = false := by simpa using c7))
     (try (have c7b2 : (a1_0 == ((rd_T60 l0 x8_1).f0) && (a1_1 == ((rd_T60 l0 x8_1).f1))) = false := by simpa using c7))
     (try (have c7b3 : ¬ (a1_0 = ((rd_T60 l0 x8_1).f0) && (a1_1 == ((rd_T60 l0 x8_1).f1))) := by simpa using c7))
     clear c7
     have H' := Aside0.mk H
     clear H
     obtain ⟨hcz9_0, hcz9_1, hfz9_0, hfz9_1⟩ := cc2 BK368
     obtain ⟨p369, q369, ad369, e369, _, _, hx369_0, hx369_1⟩ := aT_T60 HR0 HB x8_1
     cases e369
     go_wp2
     repeat (go_quiet (fail); try go_wp2)
     go_roundg k1
     case measure => have := HK1.out; omega
     case rel => exact ⟨(wrap64 (x8_1 + 1)), sc, H', kk1, ⟨sk BK368⟩, ⟨sbw⟩⟩
   ·have c4b0 := decide_eq_false c4
    clear c4
    obtain rfl := Option.some.inj H
    go_wp2
    repeat (go_quiet (fail); try go_wp2)
    go_ret
    exact ⟨se, sbw⟩

/-! ### impl_Link_44: function 44 -/
def impl_Link_44.f (k : Nat) (l0 : List (S60)) (a1_0 : Int) (a1_1 : Int) : Option (Bool) := (impl_Link_58.f k l0 a1_0 a1_1).bind fun t371 => (some (decide (t371 ≥ 0)))
theorem impl_Link_44.mono : ∀ a0 a1 a2 k, LeO (impl_Link_44.f k a0 a1 a2) (impl_Link_44.f (k + 1) a0 a1 a2) := by
  intro a0 a1 a2 k
  unfold impl_Link_44.f
  have m0 := @impl_Link_58.mono
  exact mo
set_option maxHeartbeats 8000000 in
set_option maxRecDepth 100000 in
theorem impl_Link_44.calls (k : Nat) (A0 : Option Addr) (c0 : Nat) (l0 : List (S60)) (a1_0 : Int) (a1_1 : Int) (r : Bool) (w : World) (hr0 : Kd.C k60 w A0 l0.length l0) (hc0 : l0.length ≤ c0) (h : impl_Link_44.f k l0 a1_0 a1_1 = some r) :
    Calls Try.prog 44 #[.slice A0 l0.length c0, .agg #[.int .i64 a1_0, .int .i64 a1_1]] w fun e w' => e = .returned (.bool r) ∧ Below w.heap.size w w' := by
 have hu60 := Try.underlying60
 have HR0 := Aside0.mk hr0
 have HC0 := Aside0.mk hc0
 clear hr0 hc0
 have HB := Aside0.mk (Below.refl w.heap.size w)
 have H : ((impl_Link_58.f k l0 a1_0 a1_1).bind fun t371 => (some (decide (t371 ≥ 0)))) = some r := h
 clear h
 obtain ⟨t371, A3, H⟩ := bnd H
 obtain rfl := Option.some.inj H
 go_enter Try.func44, Try.ntmps44
 go_wp2_with (first | ((with_reducible refine gate_dst (N := 3) rfl ?_); refine bx 3 #[.int .i64 a1_0, .int .i64 a1_1] 60 ?_; intro gb370 hg w4 hbox hb; have GW370 := bz w hg; have GE370 := bz w hg; replace HB := bs hb; have BK370 := Aside0.mk hbox; clear hb hbox hg; obtain ⟨hcz5_0, hcz5_1, hfz5_0, hfz5_1⟩ := cc2 BK370) | ((with_reducible refine gate_callee (f := 58) rfl ?_); refine gL (some 7) Try.func58 #[.slice A0 l0.length c0, .agg #[.int .i64 a1_0, .int .i64 a1_1]] ?_; (with_reducible refine (impl_Link_58.calls k _ _ l0 a1_0 a1_1 t371 _ ?side1 ?side2 A3.out).mono ?_); (case side1 => exact cb HR0); (case side2 => exact HC0.out); rintro e w6 ⟨rfl, hb⟩; refine ⟨_, rfl, ?_⟩; replace BK370 := bb BK370 hb; replace HB := bsw hb; (try clear hb); (try clear hb2); (try clear hk); (try clear hi)))
 go_ret
 exact ⟨se, sbw⟩

/-! ### impl_LinksAt: function 24 -/
def impl_LinksAt.l0 : Nat → Int → List (S60) → List (S49) → Int → Int → Option ((List (S60)))
  | 0, _, _, _, _, _ => none
  | k + 1, x1, x5, x10, x11, x12 => if x12 < x11 then (if 0 ≤ x12 then (if x12 < (x10.length : Int) then ((impl_spanOf.f ((rd_T49 x10 x12).f0) ((rd_T49 x10 x12).f1) ((rd_T49 x10 x12).f2) ((rd_T49 x10 x12).f3)).bind fun bt378 => ((impl_InSpan.f bt378.1 bt378.2 x1).bind fun t380 => (if t380 = true then ((impl_Link_44.f k x5 ((rd_T49 x10 x12).f0) ((rd_T49 x10 x12).f1)).bind fun t381 => (if t381 = true then (impl_LinksAt.l0 k x1 x5 x10 x11 (wrap64 (x12 + 1))) else (if x5.length < 8796093022208 then (impl_LinksAt.l0 k x1 (x5 ++ [(⟨(rd_T49 x10 x12).f0, (rd_T49 x10 x12).f1⟩ : S60)]) x10 x11 (wrap64 (x12 + 1))) else (none)))) else (impl_LinksAt.l0 k x1 x5 x10 x11 (wrap64 (x12 + 1)))))) else (none)) else (none)) else (some x5)
def impl_LinksAt.f (k : Nat) (l0 : List (S49)) (a1 : Int) : Option ((List (S60))) := impl_LinksAt.l0 k a1 (([] : List (S60))) l0 (l0.length : Int) 0
theorem impl_LinksAt.mono_l : ∀ k, (∀ y0 y1 y2 y3 y4, LeO (impl_LinksAt.l0 k y0 y1 y2 y3 y4) (impl_LinksAt.l0 (k + 1) y0 y1 y2 y3 y4))
  | 0 => fun _ _ _ _ _ r h => by simp [impl_LinksAt.l0] at h
  | k + 1 => by
    have ih0 := impl_LinksAt.mono_l k
    · intro y0 y1 y2 y3 y4
      unfold impl_LinksAt.l0
      have m0 := @impl_Link_44.mono
      exact mo
theorem impl_LinksAt.mono : ∀ a0 a1 k, LeO (impl_LinksAt.f k a0 a1) (impl_LinksAt.f (k + 1) a0 a1) := by
  intro a0 a1 k
  have ih0 := impl_LinksAt.mono_l k
  unfold impl_LinksAt.f
  have m0 := @impl_Link_44.mono
  exact mo
set_option maxHeartbeats 8000000 in
set_option maxRecDepth 100000 in
theorem impl_LinksAt.calls (k : Nat) (A0 : Option Addr) (c0 : Nat) (l0 : List (S49)) (a1 : Int) (r : List (S60)) (w : World) (hr0 : Kd.C k49 w A0 l0.length l0) (hc0 : l0.length ≤ c0) (h : impl_LinksAt.f k l0 a1 = some r) :
    Calls Try.prog 24 #[.slice A0 l0.length c0, .int .i64 a1] w fun e w' => ∃ v0_ : Value, e = .returned (v0_) ∧ Kd.R k60 60 w' w.heap.size (fun _ => True) v0_ r ∧ Below w.heap.size w w' := by
 have hu49 := Try.underlying49
 have hu60 := Try.underlying60
 have HR0 := Aside0.mk hr0
 have HC0 := Aside0.mk hc0
 clear hr0 hc0
 have HB := Aside0.mk (Below.refl w.heap.size w)
 have H : (impl_LinksAt.l0 k a1 (([] : List (S60))) l0 (l0.length : Int) 0) = some r := h
 clear h
 obtain ⟨y372, hy372⟩ : ∃ y_ : List (S60), y_ = (([] : List (S60))) := ⟨_, rfl⟩
 replace H : (impl_LinksAt.l0 k a1 y372 l0 (l0.length : Int) 0) = some r := by first | (rw [hy372]; with_reducible exact H) | (have H2_ := (Option.bind_some _ _).symm.trans H; rw [hy372]; with_reducible exact H2_) | (have H2_ := (Option.bind_some _ _).symm.trans H; with_reducible exact H2_) | with_reducible exact H | (rw [hy372]; exact H) | exact H
 have Ny372 := Aside0.mk hy372
 clear hy372
 have H' := Aside0.mk H
 clear H
 go_enter Try.func24, Try.ntmps24
 go_wp2_with (first | ((with_reducible refine gate_dst (N := 9) rfl ?_); refine Kd.R_lit k60 _ 60 ?hg (N := 9) ?hd (xs := ([] : List (S60))) (inner := []) (ok := fun _ => True) (okp := fun _ => True) ?hr ?hp (fun _ hk => hk) trivial (Below.refl _ _) (Nat.le_refl _) (by simp) ?_; (case hd => rfl); (case hg => rfl); (case hr => first | (go_simp; done) | (go_simp; rfl)); (case hp => exact (Reps.none _ _)); intro v373 w3 ho4 hb hg_ hnew_; clear hg_ hnew_; (first | rw [← Ny372.out] at ho4 | (simp only [Int.reduceToNat] at ho4; rw [← Ny372.out] at ho4)); have HO374 := Aside0.mk (Kd.R_lower ho4 (below_size (sb))); replace HB := bs hb; clear hb ho4))
 go_loopg [5, 12] k (fun kq v5 v12 w' => ∃ (x5_1 : List (S60)) (x12_1 : Int), v12 = .int .i64 x12_1 ∧ Aside0 (impl_LinksAt.l0 kq a1 x5_1 l0 (l0.length : Int) x12_1 = some r) ∧ Aside0 (kq ≤ k) ∧ Aside0 (Kd.R k60 60 w' w.heap.size (fun _ => True) v5 x5_1) ∧ Aside0 (Below w.heap.size w w'))
 case atStart => exact ⟨(y372), (0), sc, H', kk0, ⟨sr HO374⟩, ⟨sb⟩⟩
 case round =>
  clear H'
  obtain ⟨x5_1, x12_1, rfl, HA, HK1, HO_5, HB⟩ := hrel
  cases gk with
  | zero => exact absurd HA.out (by simp [impl_LinksAt.l0])
  | succ k1 =>
   have H := HA.out
   clear HA
   simp only [impl_LinksAt.l0] at H
   obtain ⟨c5, H⟩ | ⟨c5, H⟩ := ie_ H
   ·have c5b0 := decide_eq_true c5
    clear c5
    obtain ⟨c6b0, H⟩ := id_ H
    obtain ⟨c7b0, H⟩ := id_ H
    obtain ⟨⟨t378, t379⟩, A8, H⟩ := bnd H
    replace H : ((impl_InSpan.f t378 t379 a1).bind fun t380 => (if t380 = true then ((impl_Link_44.f k1 x5_1 ((rd_T49 l0 x12_1).f0) ((rd_T49 l0 x12_1).f1)).bind fun t381 => (if t381 = true then (impl_LinksAt.l0 k1 a1 x5_1 l0 (l0.length : Int) (wrap64 (x12_1 + 1))) else (if x5_1.length < 8796093022208 then (impl_LinksAt.l0 k1 a1 (x5_1 ++ [(⟨(rd_T49 l0 x12_1).f0, (rd_T49 l0 x12_1).f1⟩ : S60)]) l0 (l0.length : Int) (wrap64 (x12_1 + 1))) else (none)))) else (impl_LinksAt.l0 k1 a1 x5_1 l0 (l0.length : Int) (wrap64 (x12_1 + 1))))) = some r := H
    obtain ⟨t380, A9, H⟩ := bnd H
    obtain rfl | rfl := tt t380
    ·replace H := ip H
     obtain ⟨t381, A11, H⟩ := bnd H
     obtain rfl | rfl := tt t381
     ·replace H := ip H
      have H' := Aside0.mk H
      clear H
      obtain ⟨p375, q375, ad375, e375, _, _, _, _, hx375_0, hx375_1, hx375_2, hx375_3⟩ := aT_T49 HR0 HB x12_1
      cases e375
      go_wp2_with (first | ((with_reducible refine gate_dst (N := 7) rfl ?_); refine bx 7 #[.int .i64 0, .int .i64 0, .int .i64 0, .int .i64 0] 49 ?_; intro gb376 hg w13 hbox hb; replace HO_5 := rb HO_5 hb; have GW376 := bz w hg; have GE376 := bz w hg; replace HB := bs hb; have BK376 := Aside0.mk hbox; clear hb hbox hg; obtain ⟨hcz14_0, hcz14_1, hcz14_2, hcz14_3, hfz14_0, hfz14_1, hfz14_2, hfz14_3⟩ := cc4 BK376) | ((with_reducible refine gate_dst (N := 8) rfl ?_); refine bx 8 #[.int .i64 0, .int .i64 0] 60 ?_; intro gb377 hg w15 hbox hb; replace HO_5 := Aside0.mk (Kd.R_below (Kd.R_elderB (by (with_reducible repeat (first | apply Kd.R_alloc | apply Kd.R_drewN | apply Kd.R_drew)); exact (Kd.R_mono (Kd.R_far (p := ⟨gb376, 3, none⟩) (Kd.R_far (p := ⟨gb376, 2, none⟩) (Kd.R_far (p := ⟨gb376, 1, none⟩) (Kd.R_far (p := ⟨gb376, 0, none⟩) (Kd.R_types HO_5.out BK376.out (by decide)) (fun _ hk => hk.2) (.int .i64 ((rd_T49 l0 x12_1).f0))) (fun _ hk => hk.2) (.int .i64 ((rd_T49 l0 x12_1).f1))) (fun _ hk => hk.2) (.int .i64 ((rd_T49 l0 x12_1).f2))) (fun _ hk => hk.2) (.int .i64 ((rd_T49 l0 x12_1).f3))) (fun _ h_ => h_.1))) gb377 (Nat.le_of_eq hg.symm)) hb); have GW377 := bzw w hg; have GE377 := bzw w hg; replace HB := bsw hb; have BK377 := Aside0.mk hbox; have NB376_377 := Aside0.mk ((by rw [hg]; exact Nat.ne_of_lt (blk_lt (g := gb376) (o := .cells #[.int .i64 ((rd_T49 l0 x12_1).f0), .int .i64 ((rd_T49 l0 x12_1).f1), .int .i64 ((rd_T49 l0 x12_1).f2), .int .i64 ((rd_T49 l0 x12_1).f3)] 49 (0, 0)) (sp BK376)) : gb376 ≠ gb377)); have NB377_376 := Aside0.mk ((by rw [hg]; exact Nat.ne_of_gt (blk_lt (g := gb376) (o := .cells #[.int .i64 ((rd_T49 l0 x12_1).f0), .int .i64 ((rd_T49 l0 x12_1).f1), .int .i64 ((rd_T49 l0 x12_1).f2), .int .i64 ((rd_T49 l0 x12_1).f3)] 49 (0, 0)) (sp BK376)) : gb377 ≠ gb376)); replace BK376 := Aside0.mk (blk_below (g := gb376) (o := .cells #[.int .i64 ((rd_T49 l0 x12_1).f0), .int .i64 ((rd_T49 l0 x12_1).f1), .int .i64 ((rd_T49 l0 x12_1).f2), .int .i64 ((rd_T49 l0 x12_1).f3)] 49 (0, 0)) (sp BK376) hb); clear hb hbox hg; have hnb16 := NB377_376.out; have hnc16 := NB376_377.out; obtain ⟨hcz17_0, hcz17_1, hfz17_0, hfz17_1⟩ := cc2 BK377; obtain ⟨hcz18_0, hcz18_1, hcz18_2, hcz18_3, hfz18_0, hfz18_1, hfz18_2, hfz18_3⟩ := cc4 BK376) | ((with_reducible refine gate_callee (f := 43) rfl ?_); refine gL (some 22) Try.func43 #[.agg #[.int .i64 ((rd_T49 l0 x12_1).f0), .int .i64 ((rd_T49 l0 x12_1).f1), .int .i64 ((rd_T49 l0 x12_1).f2), .int .i64 ((rd_T49 l0 x12_1).f3)]] ?_; (with_reducible refine (impl_spanOf.calls ((rd_T49 l0 x12_1).f0) ((rd_T49 l0 x12_1).f1) ((rd_T49 l0 x12_1).f2) ((rd_T49 l0 x12_1).f3) t378 t379 _ A8.out).mono ?_); rintro e w19 ⟨rfl, hb⟩; refine ⟨_, rfl, ?_⟩; replace HO_5 := Aside0.mk (Kd.R_below (by (with_reducible repeat (first | apply Kd.R_alloc | apply Kd.R_drewN | apply Kd.R_drew)); exact (Kd.R_mono (Kd.R_far (p := ⟨gb377, 1, none⟩) (Kd.R_far (p := ⟨gb377, 0, none⟩) (Kd.R_mono HO_5.out (fun k_ hk => (⟨hk, hk.2⟩ : _ ∧ k_ ≠ gb377))) (fun _ hk => hk.2) (.int .i64 ((rd_T49 l0 x12_1).f0))) (fun _ hk => hk.2) (.int .i64 ((rd_T49 l0 x12_1).f1))) (fun _ h_ => h_.1))) hb); replace BK376 := Aside0.mk (blk_below (g := gb376) (o := .cells #[.int .i64 ((rd_T49 l0 x12_1).f0), .int .i64 ((rd_T49 l0 x12_1).f1), .int .i64 ((rd_T49 l0 x12_1).f2), .int .i64 ((rd_T49 l0 x12_1).f3)] 49 (0, 0)) (sp BK376) hb); replace BK377 := Aside0.mk (blk_below (g := gb377) (o := .cells #[.int .i64 ((rd_T49 l0 x12_1).f0), .int .i64 ((rd_T49 l0 x12_1).f1)] 60 (0, 0)) (sp BK377) hb); replace HB := bsw hb; (try clear hb); (try clear hb2); (try clear hk); (try clear hi)) | ((with_reducible refine gate_callee (f := 42) rfl ?_); refine gL (some 24) Try.func42 #[.agg #[.int .i64 t378, .int .i64 t379], .int .i64 a1] ?_; (with_reducible refine (impl_InSpan.calls t378 t379 a1 true _ A9.out).mono ?_); rintro e w20 ⟨rfl, hb⟩; refine ⟨_, rfl, ?_⟩; replace HO_5 := rb HO_5 hb; replace BK376 := bb BK376 hb; replace BK377 := bb BK377 hb; replace HB := bsw hb; (try clear hb); (try clear hb2); (try clear hk); (try clear hi); obtain ⟨hcz21_0, hcz21_1, hfz21_0, hfz21_1⟩ := cc2 BK377; obtain ⟨Ao22, co22, eo22⟩ := Kd.R_slice HO_5.out; subst eo22) | (go_at_call 44; (with_reducible refine (impl_Link_44.calls k1 _ _ x5_1 ((rd_T49 l0 x12_1).f0) ((rd_T49 l0 x12_1).f1) true _ ?side1 ?side2 A11.out).mono ?_); (case side1 => exact cr HO_5); (case side2 => exact (Kd.R_reads' HO_5.out).2.1); rintro e w23 ⟨rfl, hb⟩; replace HO_5 := rb HO_5 hb; replace BK376 := bb BK376 hb; replace BK377 := bb BK377 hb; replace HB := bsw hb; (try clear hb); (try clear hb2); (try clear hk); (try clear hi)))
      go_roundg k1
      case measure => have := HK1.out; omega
      case rel => exact ⟨(x5_1), (wrap64 (x12_1 + 1)), sc, H', kk1, ⟨by (with_reducible repeat (first | apply Kd.R_alloc | apply Kd.R_drewN | apply Kd.R_drew)); exact Kd.R_mono HO_5.out (fun _ hk => trivial)⟩, ⟨sbw⟩⟩
     ·replace H := im H
      obtain ⟨LMc24, H⟩ := il_ H
      obtain ⟨y382, hy382⟩ : ∃ y_ : List (S60), y_ = (x5_1 ++ [(⟨(rd_T49 l0 x12_1).f0, (rd_T49 l0 x12_1).f1⟩ : S60)]) := ⟨_, rfl⟩
      replace H : (impl_LinksAt.l0 k1 a1 y382 l0 (l0.length : Int) (wrap64 (x12_1 + 1))) = some r := by first | (rw [hy382]; with_reducible exact H) | (have H2_ := (Option.bind_some _ _).symm.trans H; rw [hy382]; with_reducible exact H2_) | (have H2_ := (Option.bind_some _ _).symm.trans H; with_reducible exact H2_) | with_reducible exact H | (rw [hy382]; exact H) | exact H
      have Ny382 := Aside0.mk hy382
      clear hy382
      have H' := Aside0.mk H
      clear H
      obtain ⟨p375, q375, ad375, e375, _, _, _, _, hx375_0, hx375_1, hx375_2, hx375_3⟩ := aT_T49 HR0 HB x12_1
      cases e375
      go_wp2_with (first | ((with_reducible refine gate_dst (N := 7) rfl ?_); refine bx 7 #[.int .i64 0, .int .i64 0, .int .i64 0, .int .i64 0] 49 ?_; intro gb376 hg w25 hbox hb; replace HO_5 := rb HO_5 hb; have GW376 := bz w hg; have GE376 := bz w hg; replace HB := bs hb; have BK376 := Aside0.mk hbox; clear hb hbox hg; obtain ⟨hcz26_0, hcz26_1, hcz26_2, hcz26_3, hfz26_0, hfz26_1, hfz26_2, hfz26_3⟩ := cc4 BK376) | ((with_reducible refine gate_dst (N := 8) rfl ?_); refine bx 8 #[.int .i64 0, .int .i64 0] 60 ?_; intro gb377 hg w27 hbox hb; replace HO_5 := Aside0.mk (Kd.R_below (Kd.R_elderB (by (with_reducible repeat (first | apply Kd.R_alloc | apply Kd.R_drewN | apply Kd.R_drew)); exact (Kd.R_mono (Kd.R_far (p := ⟨gb376, 3, none⟩) (Kd.R_far (p := ⟨gb376, 2, none⟩) (Kd.R_far (p := ⟨gb376, 1, none⟩) (Kd.R_far (p := ⟨gb376, 0, none⟩) (Kd.R_types HO_5.out BK376.out (by decide)) (fun _ hk => hk.2) (.int .i64 ((rd_T49 l0 x12_1).f0))) (fun _ hk => hk.2) (.int .i64 ((rd_T49 l0 x12_1).f1))) (fun _ hk => hk.2) (.int .i64 ((rd_T49 l0 x12_1).f2))) (fun _ hk => hk.2) (.int .i64 ((rd_T49 l0 x12_1).f3))) (fun _ h_ => h_.1))) gb377 (Nat.le_of_eq hg.symm)) hb); have GW377 := bzw w hg; have GE377 := bzw w hg; replace HB := bsw hb; have BK377 := Aside0.mk hbox; have NB376_377 := Aside0.mk ((by rw [hg]; exact Nat.ne_of_lt (blk_lt (g := gb376) (o := .cells #[.int .i64 ((rd_T49 l0 x12_1).f0), .int .i64 ((rd_T49 l0 x12_1).f1), .int .i64 ((rd_T49 l0 x12_1).f2), .int .i64 ((rd_T49 l0 x12_1).f3)] 49 (0, 0)) (sp BK376)) : gb376 ≠ gb377)); have NB377_376 := Aside0.mk ((by rw [hg]; exact Nat.ne_of_gt (blk_lt (g := gb376) (o := .cells #[.int .i64 ((rd_T49 l0 x12_1).f0), .int .i64 ((rd_T49 l0 x12_1).f1), .int .i64 ((rd_T49 l0 x12_1).f2), .int .i64 ((rd_T49 l0 x12_1).f3)] 49 (0, 0)) (sp BK376)) : gb377 ≠ gb376)); replace BK376 := Aside0.mk (blk_below (g := gb376) (o := .cells #[.int .i64 ((rd_T49 l0 x12_1).f0), .int .i64 ((rd_T49 l0 x12_1).f1), .int .i64 ((rd_T49 l0 x12_1).f2), .int .i64 ((rd_T49 l0 x12_1).f3)] 49 (0, 0)) (sp BK376) hb); clear hb hbox hg; have hnb28 := NB377_376.out; have hnc28 := NB376_377.out; obtain ⟨hcz29_0, hcz29_1, hfz29_0, hfz29_1⟩ := cc2 BK377; obtain ⟨hcz30_0, hcz30_1, hcz30_2, hcz30_3, hfz30_0, hfz30_1, hfz30_2, hfz30_3⟩ := cc4 BK376) | ((with_reducible refine gate_callee (f := 43) rfl ?_); refine gL (some 22) Try.func43 #[.agg #[.int .i64 ((rd_T49 l0 x12_1).f0), .int .i64 ((rd_T49 l0 x12_1).f1), .int .i64 ((rd_T49 l0 x12_1).f2), .int .i64 ((rd_T49 l0 x12_1).f3)]] ?_; (with_reducible refine (impl_spanOf.calls ((rd_T49 l0 x12_1).f0) ((rd_T49 l0 x12_1).f1) ((rd_T49 l0 x12_1).f2) ((rd_T49 l0 x12_1).f3) t378 t379 _ A8.out).mono ?_); rintro e w31 ⟨rfl, hb⟩; refine ⟨_, rfl, ?_⟩; replace HO_5 := Aside0.mk (Kd.R_below (by (with_reducible repeat (first | apply Kd.R_alloc | apply Kd.R_drewN | apply Kd.R_drew)); exact (Kd.R_mono (Kd.R_far (p := ⟨gb377, 1, none⟩) (Kd.R_far (p := ⟨gb377, 0, none⟩) (Kd.R_mono HO_5.out (fun k_ hk => (⟨hk, hk.2⟩ : _ ∧ k_ ≠ gb377))) (fun _ hk => hk.2) (.int .i64 ((rd_T49 l0 x12_1).f0))) (fun _ hk => hk.2) (.int .i64 ((rd_T49 l0 x12_1).f1))) (fun _ h_ => h_.1))) hb); replace BK376 := Aside0.mk (blk_below (g := gb376) (o := .cells #[.int .i64 ((rd_T49 l0 x12_1).f0), .int .i64 ((rd_T49 l0 x12_1).f1), .int .i64 ((rd_T49 l0 x12_1).f2), .int .i64 ((rd_T49 l0 x12_1).f3)] 49 (0, 0)) (sp BK376) hb); replace BK377 := Aside0.mk (blk_below (g := gb377) (o := .cells #[.int .i64 ((rd_T49 l0 x12_1).f0), .int .i64 ((rd_T49 l0 x12_1).f1)] 60 (0, 0)) (sp BK377) hb); replace HB := bsw hb; (try clear hb); (try clear hb2); (try clear hk); (try clear hi)) | ((with_reducible refine gate_callee (f := 42) rfl ?_); refine gL (some 24) Try.func42 #[.agg #[.int .i64 t378, .int .i64 t379], .int .i64 a1] ?_; (with_reducible refine (impl_InSpan.calls t378 t379 a1 true _ A9.out).mono ?_); rintro e w32 ⟨rfl, hb⟩; refine ⟨_, rfl, ?_⟩; replace HO_5 := rb HO_5 hb; replace BK376 := bb BK376 hb; replace BK377 := bb BK377 hb; replace HB := bsw hb; (try clear hb); (try clear hb2); (try clear hk); (try clear hi); obtain ⟨hcz33_0, hcz33_1, hfz33_0, hfz33_1⟩ := cc2 BK377; obtain ⟨Ao34, co34, eo34⟩ := Kd.R_slice HO_5.out; subst eo34) | (go_at_call 44; (with_reducible refine (impl_Link_44.calls k1 _ _ x5_1 ((rd_T49 l0 x12_1).f0) ((rd_T49 l0 x12_1).f1) false _ ?side1 ?side2 A11.out).mono ?_); (case side1 => exact cr HO_5); (case side2 => exact (Kd.R_reads' HO_5.out).2.1); rintro e w35 ⟨rfl, hb⟩; replace HO_5 := rb HO_5 hb; replace BK376 := bb BK376 hb; replace BK377 := bb BK377 hb; replace HB := bsw hb; (try clear hb); (try clear hb2); (try clear hk); (try clear hi); obtain ⟨hcz36_0, hcz36_1, hfz36_0, hfz36_1⟩ := cc2 BK377) | ((with_reducible refine gate_builtin (b := .append) (xs := #[.tmp 31, .tmp 33]) rfl ?_); at_builtin; refine Kd.R_append k60 (w0 := w) w.heap.size rfl (.tmp 31) (.tmp 33) 40 60 (.agg #[(.int .i64 0), (.int .i64 0)]) 16 rfl Try.underlying40 info60 rfl (by decide) (by omega) (.slice Ao34 x5_1.length co34) x5_1 (⟨(rd_T49 l0 x12_1).f0, (rd_T49 l0 x12_1).f1⟩ : S60) [.int .i64 ((rd_T49 l0 x12_1).f0), .int .i64 ((rd_T49 l0 x12_1).f1)] (fun k_ => k_ ≠ gb377) (fun _ => False) rfl rfl ?aP (fun _ hk => hk.elim) ?aF ?aO ?aB ?aS ?aL ?_; (case aP => exact k60_mkM _ _ _ (⟨(rd_T49 l0 x12_1).f0, (rd_T49 l0 x12_1).f1⟩ : S60)); (case aB => exact (sbw)); (case aF => exact (fun k_ hk => Kd.freshB (g := gb377) (o := .cells #[.int .i64 ((rd_T49 l0 x12_1).f0), .int .i64 ((rd_T49 l0 x12_1).f1)] 60 (0, 0)) (sk BK377) k_ hk)); (case aO => exact (by (with_reducible repeat (first | apply Kd.R_alloc | apply Kd.R_drewN | apply Kd.R_drew)); exact Kd.R_mono HO_5.out (fun _ hk => hk.2))); (case aS => exact (below_size (sbw))); (case aL => have := LMc24.out; omega); intro v383 w37 ho hb hg hat; rw [← Ny382.out] at ho; replace BK376 := Aside0.mk (blk_grown (g := gb376) (o := .cells #[.int .i64 ((rd_T49 l0 x12_1).f0), .int .i64 ((rd_T49 l0 x12_1).f1), .int .i64 ((rd_T49 l0 x12_1).f2), .int .i64 ((rd_T49 l0 x12_1).f3)] 49 (0, 0)) (sk BK376) hg (Kd.R_ne HO_5.out BK376.out (by decide))); replace BK377 := Aside0.mk (blk_grown (g := gb377) (o := .cells #[.int .i64 ((rd_T49 l0 x12_1).f0), .int .i64 ((rd_T49 l0 x12_1).f1)] 60 (0, 0)) (sk BK377) hg (Kd.R_away HO_5.out (fun _ hk => hk.2))); replace HB := Aside0.mk hb; have HO384 := Aside0.mk ho; clear HO_5; clear ho hb hg hat))
      go_roundg k1
      case measure => have := HK1.out; omega
      case rel => exact ⟨(y382), (wrap64 (x12_1 + 1)), sc, H', kk1, ⟨by (with_reducible repeat (first | apply Kd.R_alloc | apply Kd.R_drewN | apply Kd.R_drew)); exact Kd.R_mono HO384.out (fun _ hk => trivial)⟩, ⟨sbw⟩⟩
    ·replace H := im H
     have H' := Aside0.mk H
     clear H
     obtain ⟨p375, q375, ad375, e375, _, _, _, _, hx375_0, hx375_1, hx375_2, hx375_3⟩ := aT_T49 HR0 HB x12_1
     cases e375
     go_wp2_with (first | ((with_reducible refine gate_dst (N := 7) rfl ?_); refine bx 7 #[.int .i64 0, .int .i64 0, .int .i64 0, .int .i64 0] 49 ?_; intro gb376 hg w38 hbox hb; replace HO_5 := rb HO_5 hb; have GW376 := bz w hg; have GE376 := bz w hg; replace HB := bs hb; have BK376 := Aside0.mk hbox; clear hb hbox hg; obtain ⟨hcz39_0, hcz39_1, hcz39_2, hcz39_3, hfz39_0, hfz39_1, hfz39_2, hfz39_3⟩ := cc4 BK376) | ((with_reducible refine gate_dst (N := 8) rfl ?_); refine bx 8 #[.int .i64 0, .int .i64 0] 60 ?_; intro gb377 hg w40 hbox hb; replace HO_5 := Aside0.mk (Kd.R_below (Kd.R_elderB (by (with_reducible repeat (first | apply Kd.R_alloc | apply Kd.R_drewN | apply Kd.R_drew)); exact (Kd.R_mono (Kd.R_far (p := ⟨gb376, 3, none⟩) (Kd.R_far (p := ⟨gb376, 2, none⟩) (Kd.R_far (p := ⟨gb376, 1, none⟩) (Kd.R_far (p := ⟨gb376, 0, none⟩) (Kd.R_types HO_5.out BK376.out (by decide)) (fun _ hk => hk.2) (.int .i64 ((rd_T49 l0 x12_1).f0))) (fun _ hk => hk.2) (.int .i64 ((rd_T49 l0 x12_1).f1))) (fun _ hk => hk.2) (.int .i64 ((rd_T49 l0 x12_1).f2))) (fun _ hk => hk.2) (.int .i64 ((rd_T49 l0 x12_1).f3))) (fun _ h_ => h_.1))) gb377 (Nat.le_of_eq hg.symm)) hb); have GW377 := bzw w hg; have GE377 := bzw w hg; replace HB := bsw hb; have BK377 := Aside0.mk hbox; have NB376_377 := Aside0.mk ((by rw [hg]; exact Nat.ne_of_lt (blk_lt (g := gb376) (o := .cells #[.int .i64 ((rd_T49 l0 x12_1).f0), .int .i64 ((rd_T49 l0 x12_1).f1), .int .i64 ((rd_T49 l0 x12_1).f2), .int .i64 ((rd_T49 l0 x12_1).f3)] 49 (0, 0)) (sp BK376)) : gb376 ≠ gb377)); have NB377_376 := Aside0.mk ((by rw [hg]; exact Nat.ne_of_gt (blk_lt (g := gb376) (o := .cells #[.int .i64 ((rd_T49 l0 x12_1).f0), .int .i64 ((rd_T49 l0 x12_1).f1), .int .i64 ((rd_T49 l0 x12_1).f2), .int .i64 ((rd_T49 l0 x12_1).f3)] 49 (0, 0)) (sp BK376)) : gb377 ≠ gb376)); replace BK376 := Aside0.mk (blk_below (g := gb376) (o := .cells #[.int .i64 ((rd_T49 l0 x12_1).f0), .int .i64 ((rd_T49 l0 x12_1).f1), .int .i64 ((rd_T49 l0 x12_1).f2), .int .i64 ((rd_T49 l0 x12_1).f3)] 49 (0, 0)) (sp BK376) hb); clear hb hbox hg; have hnb41 := NB377_376.out; have hnc41 := NB376_377.out; obtain ⟨hcz42_0, hcz42_1, hfz42_0, hfz42_1⟩ := cc2 BK377; obtain ⟨hcz43_0, hcz43_1, hcz43_2, hcz43_3, hfz43_0, hfz43_1, hfz43_2, hfz43_3⟩ := cc4 BK376) | ((with_reducible refine gate_callee (f := 43) rfl ?_); refine gL (some 22) Try.func43 #[.agg #[.int .i64 ((rd_T49 l0 x12_1).f0), .int .i64 ((rd_T49 l0 x12_1).f1), .int .i64 ((rd_T49 l0 x12_1).f2), .int .i64 ((rd_T49 l0 x12_1).f3)]] ?_; (with_reducible refine (impl_spanOf.calls ((rd_T49 l0 x12_1).f0) ((rd_T49 l0 x12_1).f1) ((rd_T49 l0 x12_1).f2) ((rd_T49 l0 x12_1).f3) t378 t379 _ A8.out).mono ?_); rintro e w44 ⟨rfl, hb⟩; refine ⟨_, rfl, ?_⟩; replace HO_5 := Aside0.mk (Kd.R_below (by (with_reducible repeat (first | apply Kd.R_alloc | apply Kd.R_drewN | apply Kd.R_drew)); exact (Kd.R_mono (Kd.R_far (p := ⟨gb377, 1, none⟩) (Kd.R_far (p := ⟨gb377, 0, none⟩) (Kd.R_mono HO_5.out (fun k_ hk => (⟨hk, hk.2⟩ : _ ∧ k_ ≠ gb377))) (fun _ hk => hk.2) (.int .i64 ((rd_T49 l0 x12_1).f0))) (fun _ hk => hk.2) (.int .i64 ((rd_T49 l0 x12_1).f1))) (fun _ h_ => h_.1))) hb); replace BK376 := Aside0.mk (blk_below (g := gb376) (o := .cells #[.int .i64 ((rd_T49 l0 x12_1).f0), .int .i64 ((rd_T49 l0 x12_1).f1), .int .i64 ((rd_T49 l0 x12_1).f2), .int .i64 ((rd_T49 l0 x12_1).f3)] 49 (0, 0)) (sp BK376) hb); replace BK377 := Aside0.mk (blk_below (g := gb377) (o := .cells #[.int .i64 ((rd_T49 l0 x12_1).f0), .int .i64 ((rd_T49 l0 x12_1).f1)] 60 (0, 0)) (sp BK377) hb); replace HB := bsw hb; (try clear hb); (try clear hb2); (try clear hk); (try clear hi)) | ((with_reducible refine gate_callee (f := 42) rfl ?_); refine gL (some 24) Try.func42 #[.agg #[.int .i64 t378, .int .i64 t379], .int .i64 a1] ?_; (with_reducible refine (impl_InSpan.calls t378 t379 a1 false _ A9.out).mono ?_); rintro e w45 ⟨rfl, hb⟩; refine ⟨_, rfl, ?_⟩; replace HO_5 := rb HO_5 hb; replace BK376 := bb BK376 hb; replace BK377 := bb BK377 hb; replace HB := bsw hb; (try clear hb); (try clear hb2); (try clear hk); (try clear hi)))
     go_roundg k1
     case measure => have := HK1.out; omega
     case rel => exact ⟨(x5_1), (wrap64 (x12_1 + 1)), sc, H', kk1, ⟨by (with_reducible repeat (first | apply Kd.R_alloc | apply Kd.R_drewN | apply Kd.R_drew)); exact Kd.R_mono HO_5.out (fun _ hk => trivial)⟩, ⟨sbw⟩⟩
   ·have c5b0 := decide_eq_false c5
    clear c5
    obtain rfl := Option.some.inj H
    go_wp2
    go_ret
    exact ⟨_, se, sr HO_5, sb⟩

/-! ### impl_Link_68: function 68 -/
def impl_Link_68.l0 : Nat → List (S60) → List (S60) → Int → Int → Option (Bool)
  | 0, _, _, _, _ => none
  | k + 1, x0, x1, x12, x13 => if x13 < x12 then (if 0 ≤ x13 then (if x13 < (x0.length : Int) then (if x13 < (x1.length : Int) then (if (!(((rd_T60 x0 x13).f0) == ((rd_T60 x1 x13).f0)) || (!(((rd_T60 x0 x13).f1) == ((rd_T60 x1 x13).f1)))) = true then (some false) else (impl_Link_68.l0 k x0 x1 x12 (wrap64 (x13 + 1)))) else (none)) else (none)) else (none)) else (some true)
def impl_Link_68.f (k : Nat) (l0 : List (S60)) (l1 : List (S60)) : Option (Bool) := if (l0.length : Int) = (l1.length : Int) then (impl_Link_68.l0 k l0 l1 (l0.length : Int) 0) else (some false)
theorem impl_Link_68.mono_l : ∀ k, (∀ y0 y1 y2 y3, LeO (impl_Link_68.l0 k y0 y1 y2 y3) (impl_Link_68.l0 (k + 1) y0 y1 y2 y3))
  | 0 => fun _ _ _ _ r h => by simp [impl_Link_68.l0] at h
  | k + 1 => by
    have ih0 := impl_Link_68.mono_l k
    · intro y0 y1 y2 y3
      unfold impl_Link_68.l0
      exact mo
theorem impl_Link_68.mono : ∀ a0 a1 k, LeO (impl_Link_68.f k a0 a1) (impl_Link_68.f (k + 1) a0 a1) := by
  intro a0 a1 k
  have ih0 := impl_Link_68.mono_l k
  unfold impl_Link_68.f
  exact mo
set_option maxHeartbeats 8000000 in
set_option maxRecDepth 100000 in
theorem impl_Link_68.calls (k : Nat) (A0 : Option Addr) (c0 : Nat) (l0 : List (S60)) (A1 : Option Addr) (c1 : Nat) (l1 : List (S60)) (r : Bool) (w : World) (hr0 : Kd.C k60 w A0 l0.length l0) (hc0 : l0.length ≤ c0) (hr1 : Kd.C k60 w A1 l1.length l1) (hc1 : l1.length ≤ c1) (h : impl_Link_68.f k l0 l1 = some r) :
    Calls Try.prog 68 #[.slice A0 l0.length c0, .slice A1 l1.length c1] w fun e w' => e = .returned (.bool r) ∧ Drawn0 w w' := by
 have hu60 := Try.underlying60
 have HR0 := Aside0.mk hr0
 have HC0 := Aside0.mk hc0
 clear hr0 hc0
 have HR1 := Aside0.mk hr1
 have HC1 := Aside0.mk hc1
 clear hr1 hc1
 have H : (if (l0.length : Int) = (l1.length : Int) then (impl_Link_68.l0 k l0 l1 (l0.length : Int) 0) else (some false)) = some r := h
 clear h
 obtain ⟨c3, H⟩ | ⟨c3, H⟩ := ie_ H
 ·have c3b0 : ((l0.length : Int) == (l1.length : Int)) = true := beq_iff_eq.mpr c3
  have c3b1 : ((l0.length : Int) != (l1.length : Int)) = false := bne_eq_false_iff_eq.mpr c3
  have c3b2 : (l0.length == l1.length) = true := by first | simpa using c3 | (simp at c3 ⊢; omega)
  clear c3
  have H' := Aside0.mk H
  clear H
  go_enter Try.func68, Try.ntmps68
  go_wp2
  repeat (go_quiet (fail); try go_wp2)
  go_loopg [13] k (fun kq v13 w' => ∃ (x13_1 : Int), v13 = .int .i64 x13_1 ∧ Aside0 (impl_Link_68.l0 kq l0 l1 (l0.length : Int) x13_1 = some r) ∧ Aside0 (kq ≤ k) ∧ Drawn0 w w')
  case atStart => exact ⟨(0), sc, H', kk0, sd⟩
  case round =>
   clear H'
   try clear c3
   try clear c3b0
   try clear c3b1
   try clear c3b2
   obtain ⟨x13_1, rfl, HA, HK1, ⟨m1, rfl⟩⟩ := hrel
   cases gk with
   | zero => exact absurd HA.out (by simp [impl_Link_68.l0])
   | succ k1 =>
    have H := HA.out
    clear HA
    simp only [impl_Link_68.l0] at H
    obtain ⟨c4, H⟩ | ⟨c4, H⟩ := ie_ H
    ·have c4b0 := decide_eq_true c4
     clear c4
     obtain ⟨c5b0, H⟩ := id_ H
     obtain ⟨c6b0, H⟩ := id_ H
     obtain ⟨c7b0, H⟩ := id_ H
     obtain ⟨c8, H⟩ | ⟨c8, H⟩ := ie_ H
     ·have c8b0 : (!(((rd_T60 l0 x13_1).f0) == ((rd_T60 l1 x13_1).f0)) || (!(((rd_T60 l0 x13_1).f1) == ((rd_T60 l1 x13_1).f1)))) = true := c8
      clear c8
      obtain rfl := Option.some.inj H
      have p385 : 0 ≤ (x13_1 : Int) := sa
      have q385 : x13_1 < (l0.length : Int) := sa
      obtain ⟨ad385, e385, hx385_0, hx385_1⟩ := at_T60 HR0.out x13_1 p385 q385
      cases e385
      replace p385 := eq_true p385
      replace q385 := eq_true q385
      have p386 : 0 ≤ (x13_1 : Int) := sa
      have q386 : x13_1 < (l1.length : Int) := sa
      obtain ⟨ad386, e386, hx386_0, hx386_1⟩ := at_T60 HR1.out x13_1 p386 q386
      cases e386
      replace p386 := eq_true p386
      replace q386 := eq_true q386
      go_wp2
      repeat (go_quiet (fail); try go_wp2)
      go_ret
      exact ⟨sc, sd⟩
     ·have c8b0 : (!(((rd_T60 l0 x13_1).f0) == ((rd_T60 l1 x13_1).f0)) || (!(((rd_T60 l0 x13_1).f1) == ((rd_T60 l1 x13_1).f1)))) = false := by simpa using c8
      clear c8
      have H' := Aside0.mk H
      clear H
      have p385 : 0 ≤ (x13_1 : Int) := sa
      have q385 : x13_1 < (l0.length : Int) := sa
      obtain ⟨ad385, e385, hx385_0, hx385_1⟩ := at_T60 HR0.out x13_1 p385 q385
      cases e385
      replace p385 := eq_true p385
      replace q385 := eq_true q385
      have p386 : 0 ≤ (x13_1 : Int) := sa
      have q386 : x13_1 < (l1.length : Int) := sa
      obtain ⟨ad386, e386, hx386_0, hx386_1⟩ := at_T60 HR1.out x13_1 p386 q386
      cases e386
      replace p386 := eq_true p386
      replace q386 := eq_true q386
      go_wp2
      repeat (go_quiet (fail); try go_wp2)
      go_roundg k1
      case measure => have := HK1.out; omega
      case rel => exact ⟨(wrap64 (x13_1 + 1)), sc, H', kk1, sd⟩
    ·have c4b0 := decide_eq_false c4
     clear c4
     obtain rfl := Option.some.inj H
     go_wp2
     repeat (go_quiet (fail); try go_wp2)
     go_ret
     exact ⟨sc, sd⟩
 ·have c3b0 : ((l0.length : Int) == (l1.length : Int)) = false := beq_eq_false_iff_ne.mpr c3
  have c3b1 : ((l0.length : Int) != (l1.length : Int)) = true := bne_iff_ne.mpr c3
  have c3b2 : (l0.length == l1.length) = false := by first | simpa using c3 | (simp at c3 ⊢; omega)
  obtain rfl := Option.some.inj H
  go_enter Try.func68, Try.ntmps68
  go_wp2
  repeat (go_quiet (fail); try go_wp2)
  go_ret
  exact ⟨sc, sd⟩

/-! ### impl_SameLinks: function 57 -/
def impl_SameLinks.f (k : Nat) (l0 : List (S60)) (l1 : List (S60)) : Option (Bool) := (impl_Link_68.f k l0 l1).bind fun t387 => (some t387)
theorem impl_SameLinks.mono : ∀ a0 a1 k, LeO (impl_SameLinks.f k a0 a1) (impl_SameLinks.f (k + 1) a0 a1) := by
  intro a0 a1 k
  unfold impl_SameLinks.f
  have m0 := @impl_Link_68.mono
  exact mo
set_option maxHeartbeats 8000000 in
set_option maxRecDepth 100000 in
theorem impl_SameLinks.calls (k : Nat) (A0 : Option Addr) (c0 : Nat) (l0 : List (S60)) (A1 : Option Addr) (c1 : Nat) (l1 : List (S60)) (r : Bool) (w : World) (hr0 : Kd.C k60 w A0 l0.length l0) (hc0 : l0.length ≤ c0) (hr1 : Kd.C k60 w A1 l1.length l1) (hc1 : l1.length ≤ c1) (h : impl_SameLinks.f k l0 l1 = some r) :
    Calls Try.prog 57 #[.slice A0 l0.length c0, .slice A1 l1.length c1] w fun e w' => e = .returned (.bool r) ∧ Drawn0 w w' := by
 have HR0 := Aside0.mk hr0
 have HC0 := Aside0.mk hc0
 clear hr0 hc0
 have HR1 := Aside0.mk hr1
 have HC1 := Aside0.mk hc1
 clear hr1 hc1
 have H : ((impl_Link_68.f k l0 l1).bind fun t387 => (some t387)) = some r := h
 clear h
 obtain ⟨t387, A3, H⟩ := bnd H
 obtain rfl := Option.some.inj H
 go_enter Try.func57, Try.ntmps57
 go_wp2_with (first | ((with_reducible refine gate_callee (f := 68) rfl ?_); refine gL (some 7) Try.func68 #[.slice A0 l0.length c0, .slice A1 l1.length c1] ?_; (with_reducible refine (impl_Link_68.calls k _ _ l0 _ _ l1 t387 _ ?side1 ?side2 ?side3 ?side4 A3.out).mono ?_); (case side1 => repeat (first | exact HR0.out | (with_reducible refine Kd.C_alloc ?_ _) | (with_reducible refine Kd.C_drewN ?_ _) | (with_reducible refine Kd.C_drew ?_))); (case side2 => exact HC0.out); (case side3 => repeat (first | exact HR1.out | (with_reducible refine Kd.C_alloc ?_ _) | (with_reducible refine Kd.C_drewN ?_ _) | (with_reducible refine Kd.C_drew ?_))); (case side4 => exact HC1.out); rintro e w' ⟨rfl, ⟨nd, rfl⟩⟩; refine ⟨_, rfl, ?_⟩))
 go_ret
 exact ⟨sc, sd⟩

/-! ### impl_ChangesOf: function 41 -/
def impl_ChangesOf.l0 : Nat → List (S49) → Int → Int → List Int → Int → Option (List Int)
  | 0, _, _, _, _, _ => none
  | k + 1, x0, x1, x2, x7, x8 => if x8 < (mn x2 1000) then (if x8 > x1 then ((impl_LinksAt.f k x0 x8).bind fun t391 => ((impl_LinksAt.f k x0 (wrap64 (x8 - 1))).bind fun t394 => ((impl_SameLinks.f k t391 t394).bind fun t397 => (if t397 = true then (impl_ChangesOf.l0 k x0 x1 x2 x7 (wrap64 (x8 + 1))) else (if x7.length < 17592186044416 then (impl_ChangesOf.l0 k x0 x1 x2 (x7 ++ [x8]) (wrap64 (x8 + 1))) else (none)))))) else (impl_ChangesOf.l0 k x0 x1 x2 x7 (wrap64 (x8 + 1)))) else (some x7)
def impl_ChangesOf.f (k : Nat) (l0 : List (S49)) (a1 : Int) (a2 : Int) : Option (List Int) := impl_ChangesOf.l0 k l0 a1 a2 (([] : List Int)) 1
theorem impl_ChangesOf.mono_l : ∀ k, (∀ y0 y1 y2 y3 y4, LeO (impl_ChangesOf.l0 k y0 y1 y2 y3 y4) (impl_ChangesOf.l0 (k + 1) y0 y1 y2 y3 y4))
  | 0 => fun _ _ _ _ _ r h => by simp [impl_ChangesOf.l0] at h
  | k + 1 => by
    have ih0 := impl_ChangesOf.mono_l k
    · intro y0 y1 y2 y3 y4
      unfold impl_ChangesOf.l0
      have m0 := @impl_LinksAt.mono
      have m1 := @impl_SameLinks.mono
      exact mo
theorem impl_ChangesOf.mono : ∀ a0 a1 a2 k, LeO (impl_ChangesOf.f k a0 a1 a2) (impl_ChangesOf.f (k + 1) a0 a1 a2) := by
  intro a0 a1 a2 k
  have ih0 := impl_ChangesOf.mono_l k
  unfold impl_ChangesOf.f
  have m0 := @impl_LinksAt.mono
  have m1 := @impl_SameLinks.mono
  exact mo
set_option maxHeartbeats 8000000 in
set_option maxRecDepth 100000 in
theorem impl_ChangesOf.calls (k : Nat) (A0 : Option Addr) (c0 : Nat) (l0 : List (S49)) (a1 : Int) (a2 : Int) (r : List Int) (w : World) (hr0 : Kd.C k49 w A0 l0.length l0) (hc0 : l0.length ≤ c0) (h : impl_ChangesOf.f k l0 a1 a2 = some r) :
    Calls Try.prog 41 #[.slice A0 l0.length c0, .int .i64 a1, .int .i64 a2] w fun e w' => ∃ v0_ : Value, e = .returned (v0_) ∧ Kd.R (Kd.int .i64) 3 w' w.heap.size (fun _ => True) v0_ r ∧ Below w.heap.size w w' := by
 have HR0 := Aside0.mk hr0
 have HC0 := Aside0.mk hc0
 clear hr0 hc0
 have HB := Aside0.mk (Below.refl w.heap.size w)
 have H : (impl_ChangesOf.l0 k l0 a1 a2 (([] : List Int)) 1) = some r := h
 clear h
 obtain ⟨y388, hy388⟩ : ∃ y_ : List Int, y_ = (([] : List Int)) := ⟨_, rfl⟩
 replace H : (impl_ChangesOf.l0 k l0 a1 a2 y388 1) = some r := by first | (rw [hy388]; with_reducible exact H) | (have H2_ := (Option.bind_some _ _).symm.trans H; rw [hy388]; with_reducible exact H2_) | (have H2_ := (Option.bind_some _ _).symm.trans H; with_reducible exact H2_) | with_reducible exact H | (rw [hy388]; exact H) | exact H
 have Ny388 := Aside0.mk hy388
 clear hy388
 have H' := Aside0.mk H
 clear H
 go_enter Try.func41, Try.ntmps41
 go_wp2_with (first | ((with_reducible refine gate_dst (N := 9) rfl ?_); refine Kd.R_lit (Kd.int .i64) _ 3 ?hg (N := 9) ?hd (xs := ([] : List Int)) (inner := []) (ok := fun _ => True) (okp := fun _ => True) ?hr ?hp (fun _ hk => hk) trivial (Below.refl _ _) (Nat.le_refl _) (by simp) ?_; (case hd => rfl); (case hg => rfl); (case hr => first | (go_simp; done) | (go_simp; rfl)); (case hp => exact (Reps.none _ _)); intro v389 w4 ho5 hb hg_ hnew_; clear hg_ hnew_; (first | rw [← Ny388.out] at ho5 | (simp only [Int.reduceToNat] at ho5; rw [← Ny388.out] at ho5)); have HO390 := Aside0.mk (Kd.R_lower ho5 (below_size (sb))); replace HB := bs hb; clear hb ho5))
 go_loopg [7, 8] k (fun kq v7 v8 w' => ∃ (x7_1 : List Int) (x8_1 : Int), v8 = .int .i64 x8_1 ∧ Aside0 (impl_ChangesOf.l0 kq l0 a1 a2 x7_1 x8_1 = some r) ∧ Aside0 (kq ≤ k) ∧ Aside0 (Kd.R (Kd.int .i64) 3 w' w.heap.size (fun _ => True) v7 x7_1) ∧ Aside0 (Below w.heap.size w w'))
 case atStart => exact ⟨(y388), (1), sc, H', kk0, ⟨sr HO390⟩, ⟨sb⟩⟩
 case round =>
  clear H'
  obtain ⟨x7_1, x8_1, rfl, HA, HK1, HO_7, HB⟩ := hrel
  cases gk with
  | zero => exact absurd HA.out (by simp [impl_ChangesOf.l0])
  | succ k1 =>
   have H := HA.out
   clear HA
   simp only [impl_ChangesOf.l0] at H
   obtain ⟨ji6, hji6⟩ : ∃ j_ : Int, (mn a2 1000) = j_ := ⟨_, rfl⟩
   replace H : (if x8_1 < (ji6) then (if x8_1 > a1 then ((impl_LinksAt.f k1 l0 x8_1).bind fun t391 => ((impl_LinksAt.f k1 l0 (wrap64 (x8_1 - 1))).bind fun t394 => ((impl_SameLinks.f k1 t391 t394).bind fun t397 => (if t397 = true then (impl_ChangesOf.l0 k1 l0 a1 a2 x7_1 (wrap64 (x8_1 + 1))) else (if x7_1.length < 17592186044416 then (impl_ChangesOf.l0 k1 l0 a1 a2 (x7_1 ++ [x8_1]) (wrap64 (x8_1 + 1))) else (none)))))) else (impl_ChangesOf.l0 k1 l0 a1 a2 x7_1 (wrap64 (x8_1 + 1)))) else (some x7_1)) = some r := by first | (rw [hji6] at H; exact H) | (simp only [hji6] at H ⊢; exact H)
   have hji6_ : (if 1000 < a2 then 1000 else a2) = ji6 := hji6
   obtain ⟨c7, H⟩ | ⟨c7, H⟩ := ie_ H
   ·have c7b0 := decide_eq_true c7
    clear c7
    obtain ⟨c8, H⟩ | ⟨c8, H⟩ := ie_ H
    ·have c8b0 := decide_eq_true c8
     clear c8
     obtain ⟨t391, A9, H⟩ := bnd H
     obtain ⟨t394, A10, H⟩ := bnd H
     obtain ⟨t397, A11, H⟩ := bnd H
     obtain rfl | rfl := tt t397
     ·replace H := ip H
      have H' := Aside0.mk H
      clear H
      go_wp2_with (first | (go_at_call 24; (with_reducible refine (impl_LinksAt.calls k1 _ _ l0 x8_1 t391 _ ?side1 ?side2 A9.out).mono ?_); (case side1 => exact cb HR0); (case side2 => exact HC0.out); rintro e w13 ⟨v392, rfl, ho0, hb⟩; replace HO_7 := rb HO_7 hb; have HO393 := Aside0.mk (Kd.R_lower ho0 (below_size (sb))); replace HB := bs hb; (try clear hb); (try clear hb2); (try clear hk); (try clear hi); (try clear ho0)) | (go_at_call 24; (try simp only [i64_w, i32_w]); (with_reducible refine (impl_LinksAt.calls k1 _ _ l0 (wrap64 (x8_1 - 1)) t394 _ ?side1 ?side2 A10.out).mono ?_); (case side1 => exact cb HR0); (case side2 => exact HC0.out); rintro e w14 ⟨v395, rfl, ho0, hb⟩; replace HO_7 := rb HO_7 hb; have HO396 := Aside0.mk (Kd.R_lower (Kd.R_new' ho0 (Kd.R_lt (sr HO393))) (below_size (sb))); replace HO393 := Aside0.mk (Kd.R_elder' (sr HO393) (Kd.R_base ho0) hb); replace HB := bs hb; (try clear hb); (try clear hb2); (try clear hk); (try clear hi); (try clear ho0); obtain ⟨Ao15, co15, eo15⟩ := Kd.R_slice HO393.out; subst eo15; obtain ⟨Ao16, co16, eo16⟩ := Kd.R_slice HO396.out; subst eo16) | (go_at_call 57; (with_reducible refine (impl_SameLinks.calls k1 _ _ t391 _ _ t394 true _ ?side1 ?side2 ?side3 ?side4 A11.out).mono ?_); (case side1 => exact cr HO393); (case side2 => exact (Kd.R_reads' HO393.out).2.1); (case side3 => exact cr HO396); (case side4 => exact (Kd.R_reads' HO396.out).2.1); rintro e w' ⟨rfl, ⟨nd, rfl⟩⟩))
      go_roundg k1
      case measure => have := HK1.out; omega
      case rel => exact ⟨(x7_1), (wrap64 (x8_1 + 1)), sc, H', kk1, ⟨sr HO_7⟩, ⟨sb⟩⟩
     ·replace H := im H
      obtain ⟨LMc17, H⟩ := il_ H
      obtain ⟨y398, hy398⟩ : ∃ y_ : List Int, y_ = (x7_1 ++ [x8_1]) := ⟨_, rfl⟩
      replace H : (impl_ChangesOf.l0 k1 l0 a1 a2 y398 (wrap64 (x8_1 + 1))) = some r := by first | (rw [hy398]; with_reducible exact H) | (have H2_ := (Option.bind_some _ _).symm.trans H; rw [hy398]; with_reducible exact H2_) | (have H2_ := (Option.bind_some _ _).symm.trans H; with_reducible exact H2_) | with_reducible exact H | (rw [hy398]; exact H) | exact H
      have Ny398 := Aside0.mk hy398
      clear hy398
      have H' := Aside0.mk H
      clear H
      go_wp2_with (first | (go_at_call 24; (with_reducible refine (impl_LinksAt.calls k1 _ _ l0 x8_1 t391 _ ?side1 ?side2 A9.out).mono ?_); (case side1 => exact cb HR0); (case side2 => exact HC0.out); rintro e w18 ⟨v392, rfl, ho0, hb⟩; replace HO_7 := rb HO_7 hb; have HO393 := Aside0.mk (Kd.R_lower ho0 (below_size (sb))); replace HB := bs hb; (try clear hb); (try clear hb2); (try clear hk); (try clear hi); (try clear ho0)) | (go_at_call 24; (try simp only [i64_w, i32_w]); (with_reducible refine (impl_LinksAt.calls k1 _ _ l0 (wrap64 (x8_1 - 1)) t394 _ ?side1 ?side2 A10.out).mono ?_); (case side1 => exact cb HR0); (case side2 => exact HC0.out); rintro e w19 ⟨v395, rfl, ho0, hb⟩; replace HO_7 := rb HO_7 hb; have HO396 := Aside0.mk (Kd.R_lower (Kd.R_new' ho0 (Kd.R_lt (sr HO393))) (below_size (sb))); replace HO393 := Aside0.mk (Kd.R_elder' (sr HO393) (Kd.R_base ho0) hb); replace HB := bs hb; (try clear hb); (try clear hb2); (try clear hk); (try clear hi); (try clear ho0); obtain ⟨Ao20, co20, eo20⟩ := Kd.R_slice HO393.out; subst eo20; obtain ⟨Ao21, co21, eo21⟩ := Kd.R_slice HO396.out; subst eo21) | (go_at_call 57; (with_reducible refine (impl_SameLinks.calls k1 _ _ t391 _ _ t394 false _ ?side1 ?side2 ?side3 ?side4 A11.out).mono ?_); (case side1 => exact cr HO393); (case side2 => exact (Kd.R_reads' HO393.out).2.1); (case side3 => exact cr HO396); (case side4 => exact (Kd.R_reads' HO396.out).2.1); rintro e w' ⟨rfl, ⟨nd, rfl⟩⟩) | ((with_reducible refine gate_builtin (b := .append) (xs := #[.tmp 30, .tmp 32]) rfl ?_); at_builtin; refine Kd.R_append (Kd.int .i64) (w0 := w) w.heap.size rfl (.tmp 30) (.tmp 32) 57 3 (.int .i64 0) 8 rfl Try.underlying57 info3 rfl (by decide) (by omega) u7 x7_1 x8_1 [.int .i64 x8_1] (fun _ => True) (fun _ => False) rfl rfl ?aP (fun _ hk => hk.elim) ?aF ?aO ?aB ?aS ?aL ?_; (case aP => exact rfl); (case aB => exact (sb)); (case aF => exact (fun _ _ => trivial)); (case aO => exact (sr HO_7)); (case aS => exact (below_size (sb))); (case aL => have := LMc17.out; omega); intro v399 w22 ho hb hg hat; rw [← Ny398.out] at ho; replace HO393 := Aside0.mk (Kd.R_over' (sr HO393) (Kd.R_typed (sr HO_7)) (by decide) hg); replace HO396 := Aside0.mk (Kd.R_over' (sr HO396) (Kd.R_typed (sr HO_7)) (by decide) hg); replace HB := Aside0.mk hb; have HO400 := Aside0.mk ho; clear HO_7; clear ho hb hg hat))
      go_roundg k1
      case measure => have := HK1.out; omega
      case rel => exact ⟨(y398), (wrap64 (x8_1 + 1)), sc, H', kk1, ⟨sr HO400⟩, ⟨sb⟩⟩
    ·have c8b0 := decide_eq_false c8
     clear c8
     have H' := Aside0.mk H
     clear H
     go_wp2
     go_roundg k1
     case measure => have := HK1.out; omega
     case rel => exact ⟨(x7_1), (wrap64 (x8_1 + 1)), sc, H', kk1, ⟨sr HO_7⟩, ⟨sb⟩⟩
   ·have c7b0 := decide_eq_false c7
    clear c7
    obtain rfl := Option.some.inj H
    go_wp2
    go_ret
    exact ⟨_, by first | rfl | (simp [errW_none, errW_some] <;> rfl) | (simp only [← hji6]; first | rfl | (simp [errW_none, errW_some] <;> rfl)) | (simp [*, errW_none, errW_some] <;> rfl), sr HO_7, sb⟩

end Go.Proofs.Ytcjlbgbenjmkgaa.QFnExactBuildProgram
