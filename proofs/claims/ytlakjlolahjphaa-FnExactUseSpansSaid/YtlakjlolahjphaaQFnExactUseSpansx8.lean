/- What the Go functions of the law FnExactUseSpans come to, as Lean functions, and that they do: by a program of the session, out of the kit's printer. Conditions: none. (squeezed). -/
import Derived.Test.YtlakjlolahjphaaSq
import Derived.Test.YtlakjlolahjphaaQFnExactUseSpansx0
import Derived.Test.YtlakjlolahjphaaQFnExactUseSpansx3
import Derived.Test.YtlakjlolahjphaaQFnExactUseSpansx7
namespace Go.Proofs.Ytlakjlolahjphaa.QFnExactUseSpans
open Go.RowKit Go.Proofs.YtlakjlolahjphaaW.PrintWords Go.Proofs.YtlakjlolahjphaaW.PrintLast Go.Proofs.YtlakjlolahjphaaW.PrintMore Go.Proofs.Ytlakjlolahjphaa.Open Go.Proofs.Ytlakjlolahjphaa.Sq
attribute [local go_sem] max2_int min2_int max_two min_two max_three min_three max_four min_four   -- for this text's walks alone
attribute [local go_sem] isSome_set
set_option linter.unusedVariables false
set_option linter.unusedSimpArgs false

/-! ### impl_MayUse: function 41 -/
def impl_MayUse.l0 : Nat → Int → Int → Int → Int → Int → Int → Int → List (S106) → Option (Bool)
  | 0, _, _, _, _, _, _, _, _ => none
  | k + 1, x1, x2, x3, x9, x271000, x271001, x271002, x271003 => if x9 ≤ (wrap64 (x3 + x271002)) then ((impl_IsLinked.f x271000 x271001 x271002 x271003 x1 x2 x9).bind fun t272 => (if t272 = true then (impl_MayUse.l0 k x1 x2 x3 (wrap64 (x9 + 1)) x271000 x271001 x271002 x271003) else (some false))) else (some true)
def impl_MayUse.f (k : Nat) (a0_0 : Int) (a0_1 : Int) (a0_2 : Int) (l0_3 : List (S106)) (a1 : Int) (a2 : Int) (a3 : Int) : Option (Bool) := (impl_isSkewed.f a0_0 a0_1 a0_2 l0_3 a3).bind fun t271 => (if t271 = true then (impl_MayUse.l0 k a1 a2 a3 (wrap64 (a3 - a0_2)) a0_0 a0_1 a0_2 l0_3) else (some false))
theorem impl_MayUse.mono_l : ∀ k, (∀ y0 y1 y2 y3 y4 y5 y6 y7, LeO (impl_MayUse.l0 k y0 y1 y2 y3 y4 y5 y6 y7) (impl_MayUse.l0 (k + 1) y0 y1 y2 y3 y4 y5 y6 y7))
  | 0 => fun _ _ _ _ _ _ _ _ r h => by simp [impl_MayUse.l0] at h
  | k + 1 => by
    have ih0 := impl_MayUse.mono_l k
    · intro y0 y1 y2 y3 y4 y5 y6 y7
      unfold impl_MayUse.l0
      exact mo
theorem impl_MayUse.mono : ∀ a0 a1 a2 a3 a4 a5 a6 k, LeO (impl_MayUse.f k a0 a1 a2 a3 a4 a5 a6) (impl_MayUse.f (k + 1) a0 a1 a2 a3 a4 a5 a6) := by
  intro a0 a1 a2 a3 a4 a5 a6 k
  have ih0 := impl_MayUse.mono_l k
  unfold impl_MayUse.f
  exact mo
set_option maxHeartbeats 8000000 in
set_option maxRecDepth 100000 in
theorem impl_MayUse.calls (k : Nat) (a0_0 : Int) (a0_1 : Int) (a0_2 : Int) (A0_3 : Option Addr) (c0_3 : Nat) (l0_3 : List (S106)) (a1 : Int) (a2 : Int) (a3 : Int) (r : Bool) (w : World) (hr0_3 : Kd.C k106 w A0_3 l0_3.length l0_3) (hc0_3 : l0_3.length ≤ c0_3) (h : impl_MayUse.f k a0_0 a0_1 a0_2 l0_3 a1 a2 a3 = some r) :
    Calls Try.prog 41 #[.agg #[.int .i64 a0_0, .int .i64 a0_1, .int .i64 a0_2, .slice A0_3 l0_3.length c0_3], .int .i64 a1, .int .i64 a2, .int .i64 a3] w fun e w' => e = .returned (.bool r) ∧ Below w.heap.size w w' := by
 have hu29 := Try.underlying29
 have HR0_3 := Aside0.mk hr0_3
 have HC0_3 := Aside0.mk hc0_3
 clear hr0_3 hc0_3
 have HB := Aside0.mk (Below.refl w.heap.size w)
 have H : ((impl_isSkewed.f a0_0 a0_1 a0_2 l0_3 a3).bind fun t271 => (if t271 = true then (impl_MayUse.l0 k a1 a2 a3 (wrap64 (a3 - a0_2)) a0_0 a0_1 a0_2 l0_3) else (some false))) = some r := h
 clear h
 obtain ⟨t271, A5, H⟩ := bnd H
 obtain rfl | rfl := tt t271
 ·replace H := ip H
  have H' := Aside0.mk H
  clear H
  go_enter Try.func41, Try.ntmps41
  go_wp2_with (first | ((with_reducible refine gate_dst (N := 4) rfl ?_); refine bx 4 #[.int .i64 a0_0, .int .i64 a0_1, .int .i64 a0_2, .slice A0_3 l0_3.length c0_3] 29 ?_; intro gb270 hg w7 hbox hb; have BK270 := Aside0.mk hbox; have GW270 := bz w hg; have GE270 := bz w hg; replace HB := bs hb; clear hb hbox hg; obtain ⟨hcz8_0, hcz8_1, hcz8_2, hcz8_3, hfz8_0, hfz8_1, hfz8_2, hfz8_3⟩ := cc4 BK270) | ((with_reducible refine gate_callee (f := 68) rfl ?_); refine gL (some 12) Try.func68 #[.agg #[.int .i64 a0_0, .int .i64 a0_1, .int .i64 a0_2, .slice A0_3 l0_3.length c0_3], .int .i64 a3] ?_; (with_reducible refine (impl_isSkewed.calls a0_0 a0_1 a0_2 _ _ l0_3 a3 true _ ?side1 ?side2 A5.out).mono ?_); (case side1 => exact cb HR0_3); (case side2 => exact HC0_3.out); rintro e w9 ⟨rfl, hb⟩; refine ⟨_, rfl, ?_⟩; replace BK270 := bb BK270 hb; replace HB := bsw hb; (try clear hb); (try clear hb2); (try clear hk); (try clear hi); obtain ⟨hcz10_0, hcz10_1, hcz10_2, hcz10_3, hfz10_0, hfz10_1, hfz10_2, hfz10_3⟩ := cc4 BK270))
  go_loopg [9] k (fun kq v9 w' => ∃ (x9_1 : Int), v9 = .int .i64 x9_1 ∧ Aside0 (impl_MayUse.l0 kq a1 a2 a3 x9_1 a0_0 a0_1 a0_2 l0_3 = some r) ∧ Aside0 (kq ≤ k) ∧ Aside0 (w'.heap[gb270]? = some (.cells #[.int .i64 a0_0, .int .i64 a0_1, .int .i64 a0_2, (.slice A0_3 l0_3.length c0_3)] 29 (0, 0))) ∧ Aside0 (Below w.heap.size w w'))
  case atStart => exact ⟨(wrap64 (a3 - a0_2)), sc, H', kk0, ⟨sk BK270⟩, ⟨sbw⟩⟩
  case round =>
   clear H'
   obtain ⟨x9_1, rfl, HA, HK1, BK270, HB⟩ := hrel
   cases gk with
   | zero => exact absurd HA.out (by simp [impl_MayUse.l0])
   | succ k1 =>
    have H := HA.out
    clear HA
    simp only [impl_MayUse.l0] at H
    obtain ⟨c11, H⟩ | ⟨c11, H⟩ := ie_ H
    ·have c11b0 := decide_eq_true c11
     clear c11
     obtain ⟨t272, A12, H⟩ := bnd H
     obtain rfl | rfl := tt t272
     ·replace H := ip H
      have H' := Aside0.mk H
      clear H
      obtain ⟨hcz14_0, hcz14_1, hcz14_2, hcz14_3, hfz14_0, hfz14_1, hfz14_2, hfz14_3⟩ := cc4 BK270
      go_wp2_with (first | ((with_reducible refine gate_callee (f := 43) rfl ?_); refine gL (some 30) Try.func43 #[.agg #[.int .i64 a0_0, .int .i64 a0_1, .int .i64 a0_2, .slice A0_3 l0_3.length c0_3], .int .i64 a1, .int .i64 a2, .int .i64 x9_1] ?_; (with_reducible refine (impl_IsLinked.calls a0_0 a0_1 a0_2 _ _ l0_3 a1 a2 x9_1 true _ ?side1 ?side2 A12.out).mono ?_); (case side1 => exact cb HR0_3); (case side2 => exact HC0_3.out); rintro e w15 ⟨rfl, hb⟩; refine ⟨_, rfl, ?_⟩; replace BK270 := bb BK270 hb; replace HB := bsw hb; (try clear hb); (try clear hb2); (try clear hk); (try clear hi)))
      go_roundg k1
      case measure => have := HK1.out; omega
      case rel => exact ⟨(wrap64 (x9_1 + 1)), sc, H', kk1, ⟨sk BK270⟩, ⟨sbw⟩⟩
     ·replace H := im H
      obtain rfl := Option.some.inj H
      obtain ⟨hcz16_0, hcz16_1, hcz16_2, hcz16_3, hfz16_0, hfz16_1, hfz16_2, hfz16_3⟩ := cc4 BK270
      go_wp2_with (first | ((with_reducible refine gate_callee (f := 43) rfl ?_); refine gL (some 30) Try.func43 #[.agg #[.int .i64 a0_0, .int .i64 a0_1, .int .i64 a0_2, .slice A0_3 l0_3.length c0_3], .int .i64 a1, .int .i64 a2, .int .i64 x9_1] ?_; (with_reducible refine (impl_IsLinked.calls a0_0 a0_1 a0_2 _ _ l0_3 a1 a2 x9_1 false _ ?side1 ?side2 A12.out).mono ?_); (case side1 => exact cb HR0_3); (case side2 => exact HC0_3.out); rintro e w17 ⟨rfl, hb⟩; refine ⟨_, rfl, ?_⟩; replace BK270 := bb BK270 hb; replace HB := bsw hb; (try clear hb); (try clear hb2); (try clear hk); (try clear hi)))
      go_ret
      exact ⟨se, sbw⟩
    ·have c11b0 := decide_eq_false c11
     clear c11
     obtain rfl := Option.some.inj H
     obtain ⟨hcz18_0, hcz18_1, hcz18_2, hcz18_3, hfz18_0, hfz18_1, hfz18_2, hfz18_3⟩ := cc4 BK270
     go_wp2
     go_ret
     exact ⟨se, sbw⟩
 ·replace H := im H
  obtain rfl := Option.some.inj H
  go_enter Try.func41, Try.ntmps41
  go_wp2_with (first | ((with_reducible refine gate_dst (N := 4) rfl ?_); refine bx 4 #[.int .i64 a0_0, .int .i64 a0_1, .int .i64 a0_2, .slice A0_3 l0_3.length c0_3] 29 ?_; intro gb270 hg w19 hbox hb; have BK270 := Aside0.mk hbox; have GW270 := bz w hg; have GE270 := bz w hg; replace HB := bs hb; clear hb hbox hg; obtain ⟨hcz20_0, hcz20_1, hcz20_2, hcz20_3, hfz20_0, hfz20_1, hfz20_2, hfz20_3⟩ := cc4 BK270) | ((with_reducible refine gate_callee (f := 68) rfl ?_); refine gL (some 12) Try.func68 #[.agg #[.int .i64 a0_0, .int .i64 a0_1, .int .i64 a0_2, .slice A0_3 l0_3.length c0_3], .int .i64 a3] ?_; (with_reducible refine (impl_isSkewed.calls a0_0 a0_1 a0_2 _ _ l0_3 a3 false _ ?side1 ?side2 A5.out).mono ?_); (case side1 => exact cb HR0_3); (case side2 => exact HC0_3.out); rintro e w21 ⟨rfl, hb⟩; refine ⟨_, rfl, ?_⟩; replace BK270 := bb BK270 hb; replace HB := bsw hb; (try clear hb); (try clear hb2); (try clear hk); (try clear hi)))
  go_ret
  exact ⟨se, sbw⟩

-- NOT PRINTED: function 74 (impl_UseSpans_1)

/-! ### impl_UseSpans: function 20 (with impl.spansWhere at its literal) -/
set_option maxHeartbeats 8000000 in
set_option maxRecDepth 100000 in
theorem impl_UseSpans.lit (k : Nat) (n f s : Int) (A3 : Option Addr) (c3 : Nat) (l3 : List (S106)) (a b t : Int) (q : Bool) (gp ga gb : Nat) (W : World) (hr3 : Kd.C k106 W A3 l3.length l3) (hc3 : l3.length ≤ c3)
    (hp0 : W.cell? ⟨gp, 0, none⟩ = some (.int .i64 n)) (hp1 : W.cell? ⟨gp, 1, none⟩ = some (.int .i64 f)) (hp2 : W.cell? ⟨gp, 2, none⟩ = some (.int .i64 s)) (hp3 : W.cell? ⟨gp, 3, none⟩ = some (.slice A3 l3.length c3)) (ha : W.cell? ⟨ga, 0, none⟩ = some (.int .i64 a)) (hb : W.cell? ⟨gb, 0, none⟩ = some (.int .i64 b))
    (h : impl_MayUse.f k n f s l3 a b t = some q) :
    Calls Try.prog 74 #[.int .i64 t, .pointer (some ⟨gp, 0, none⟩), .pointer (some ⟨ga, 0, none⟩), .pointer (some ⟨gb, 0, none⟩)] W fun e w' => e = .returned (.bool q) ∧ Below W.heap.size W w' := by
  have hu := Try.underlying29
  go_enter Try.func74, Try.ntmps74
  go_wp2_with (go_at_call 41; refine (impl_MayUse.calls k n f s A3 c3 l3 a b t q _ hr3 hc3 h).mono ?_; rintro e w' ⟨rfl, hb'⟩)
  go_ret
  exact ⟨rfl, hb'⟩
def impl_UseSpans.sw.l0 (h_ : Int → Option Bool) : Nat → Int → List (S91) → Int → Option ((List (S91)))
  | 0, _, _, _ => none
  | k + 1, x1, x7, x8 => if x8 < (mn x1 1000) then ((h_ x8).bind fun t251 => (if t251 = true then (if (wrap64 ((x7.length : Int) - 1)) ≥ 0 then (if 0 ≤ (wrap64 ((x7.length : Int) - 1)) then (if (wrap64 ((x7.length : Int) - 1)) < (x7.length : Int) then (if ((rd_T91 x7 (wrap64 ((x7.length : Int) - 1))).f1) = x8 then (impl_UseSpans.sw.l0 h_ k x1 (x7.set ((wrap64 ((x7.length : Int) - 1)) : Int).toNat (⟨(rd_T91 x7 (wrap64 ((x7.length : Int) - 1))).f0, wrap64 (((rd_T91 x7 (wrap64 ((x7.length : Int) - 1))).f1) + 1)⟩ : S91)) (wrap64 (x8 + 1))) else (if x7.length < 8796093022208 then (impl_UseSpans.sw.l0 h_ k x1 (x7 ++ [(⟨x8, wrap64 (x8 + 1)⟩ : S91)]) (wrap64 (x8 + 1))) else (none))) else (none)) else (none)) else (if x7.length < 8796093022208 then (impl_UseSpans.sw.l0 h_ k x1 (x7 ++ [(⟨x8, wrap64 (x8 + 1)⟩ : S91)]) (wrap64 (x8 + 1))) else (none))) else (impl_UseSpans.sw.l0 h_ k x1 x7 (wrap64 (x8 + 1))))) else (some x7)
def impl_UseSpans.sw.f (h_ : Int → Option Bool) (k : Nat) (a0 : Int) (a1 : Int) (a2 : Int) : Option ((List (S91))) := impl_UseSpans.sw.l0 h_ k a1 (([] : List (S91))) (mx a0 0)
theorem impl_UseSpans.sw.mono_l (h_ : Int → Option Bool) : ∀ k, (∀ y0 y1 y2, LeO (impl_UseSpans.sw.l0 h_ k y0 y1 y2) (impl_UseSpans.sw.l0 h_ (k + 1) y0 y1 y2))
  | 0 => fun _ _ _ r h => by simp [impl_UseSpans.sw.l0] at h
  | k + 1 => by
    have ih0 := impl_UseSpans.sw.mono_l h_ k
    · intro y0 y1 y2
      unfold impl_UseSpans.sw.l0
      exact mo
theorem impl_UseSpans.sw.mono (h_ : Int → Option Bool) : ∀ a0 a1 a2 k, LeO (impl_UseSpans.sw.f h_ k a0 a1 a2) (impl_UseSpans.sw.f h_ (k + 1) a0 a1 a2) := by
  intro a0 a1 a2 k
  have ih0 := impl_UseSpans.sw.mono_l h_ k
  unfold impl_UseSpans.sw.f
  exact mo
theorem impl_UseSpans.sw.mono_h {h_ h2_ : Int → Option Bool} (hh : ∀ t, LeO (h_ t) (h2_ t)) : ∀ k, (∀ y0 y1 y2, LeO (impl_UseSpans.sw.l0 h_ k y0 y1 y2) (impl_UseSpans.sw.l0 h2_ k y0 y1 y2))
  | 0 => fun _ _ _ r h => by simp [impl_UseSpans.sw.l0] at h
  | k + 1 => by
    have ih0 := impl_UseSpans.sw.mono_h hh k
    have m7 := hh
    intro y0 y1 y2
    unfold impl_UseSpans.sw.l0
    exact mo
set_option maxHeartbeats 8000000 in
set_option maxRecDepth 100000 in
theorem impl_UseSpans.sw.calls (h_ : Int → Option Bool) (gp ga gb : Nat) (k : Nat) (a0 : Int) (a1 : Int) (a2 : Int) (r : List (S91)) (w : World) (hh : ∀ (t : Int) (q : Bool) (W : World), Below w.heap.size w W → h_ t = some q → Calls Try.prog 74 #[.int .i64 t, .pointer (some ⟨gp, 0, none⟩), .pointer (some ⟨ga, 0, none⟩), .pointer (some ⟨gb, 0, none⟩)] W fun e w' => e = .returned (.bool q) ∧ Below W.heap.size W w') (h : impl_UseSpans.sw.f h_ k a0 a1 a2 = some r) :
    Calls Try.prog 73 #[.int .i64 a0, .int .i64 a1, .func (.func 74) #[] #[.pointer (some ⟨gp, 0, none⟩), .pointer (some ⟨ga, 0, none⟩), .pointer (some ⟨gb, 0, none⟩)]] w fun e w' => ∃ v0_ : Value, e = .returned (v0_) ∧ Kd.R k91 91 w' w.heap.size (fun _ => True) v0_ r ∧ Below w.heap.size w w' := by
 have hu91 := Try.underlying91
 have HB := Aside0.mk (Below.refl w.heap.size w)
 have H : (impl_UseSpans.sw.l0 h_ k a1 (([] : List (S91))) (mx a0 0)) = some r := h
 clear h
 obtain ⟨y248, hy248⟩ : ∃ y_ : List (S91), y_ = (([] : List (S91))) := ⟨_, rfl⟩
 replace H : (impl_UseSpans.sw.l0 h_ k a1 y248 (mx a0 0)) = some r := by first | (rw [hy248]; with_reducible exact H) | (have H2_ := (Option.bind_some _ _).symm.trans H; rw [hy248]; with_reducible exact H2_) | (have H2_ := (Option.bind_some _ _).symm.trans H; with_reducible exact H2_) | with_reducible exact H | (rw [hy248]; exact H) | exact H
 have Ny248 := Aside0.mk hy248
 clear hy248
 obtain ⟨ji4, hji4⟩ : ∃ j_ : Int, (mx a0 0) = j_ := ⟨_, rfl⟩
 replace H : (impl_UseSpans.sw.l0 h_ k a1 y248 ji4) = some r := by first | (rw [hji4] at H; exact H) | (simp only [hji4] at H ⊢; exact H)
 (try (have hji4l : 0 ≤ ji4 := by (rw [← hji4]; unfold mx; (repeat' split) <;> omega)))
 (try (have hji4m : 0 ≤ ji4 := by omega))
 have hji4_ : (if a0 < 0 then 0 else a0) = ji4 := hji4
 have H' := Aside0.mk H
 clear H
 go_enter Try.func73, Try.ntmps73
 go_wp2_with (first | ((with_reducible refine gate_dst (N := 10) rfl ?_); refine Kd.R_lit k91 _ 91 ?hg (N := 10) ?hd (xs := ([] : List (S91))) (inner := []) (ok := fun _ => True) (okp := fun _ => True) ?hr ?hp (fun _ hk => hk) trivial (Below.refl _ _) (Nat.le_refl _) (by simp) ?_; (case hd => rfl); (case hg => rfl); (case hr => first | (go_simp; done) | (go_simp; rfl)); (case hp => exact (Reps.none _ _)); intro v249 w5 ho6 hb hg_ hnew_; clear hg_ hnew_; (first | rw [← Ny248.out] at ho6 | (simp only [Int.reduceToNat] at ho6; rw [← Ny248.out] at ho6)); have HO250 := Aside0.mk (Kd.R_lower ho6 (below_size (sb))); replace HB := bs hb; clear hb ho6))
 go_loopg [7, 8] k (fun kq v7 v8 w' => ∃ (x7_1 : List (S91)) (x8_1 : Int), v8 = .int .i64 x8_1 ∧ Aside0 (impl_UseSpans.sw.l0 h_ kq a1 x7_1 x8_1 = some r) ∧ Aside0 (kq ≤ k) ∧ Aside0 (Kd.R k91 91 w' w.heap.size (fun _ => True) v7 x7_1) ∧ Aside0 (Below w.heap.size w w'))
 case atStart => exact ⟨(y248), (ji4), (by first | rfl | (simp; done) | (simp only [← hji4] <;> (first | rfl | simp)) | (simp [*]; done)), H', kk0, ⟨sr HO250⟩, ⟨sb⟩⟩
 case round =>
  clear H'
  obtain ⟨x7_1, x8_1, rfl, HA, HK1, HO_7, HB⟩ := hrel
  cases gk with
  | zero => exact absurd HA.out (by simp [impl_UseSpans.sw.l0])
  | succ k1 =>
   have H := HA.out
   clear HA
   simp only [impl_UseSpans.sw.l0] at H
   obtain ⟨ji7, hji7⟩ : ∃ j_ : Int, (mn a1 1000) = j_ := ⟨_, rfl⟩
   replace H : (if x8_1 < (ji7) then ((h_ x8_1).bind fun t251 => (if t251 = true then (if (wrap64 ((x7_1.length : Int) - 1)) ≥ 0 then (if 0 ≤ (wrap64 ((x7_1.length : Int) - 1)) then (if (wrap64 ((x7_1.length : Int) - 1)) < (x7_1.length : Int) then (if ((rd_T91 x7_1 (wrap64 ((x7_1.length : Int) - 1))).f1) = x8_1 then (impl_UseSpans.sw.l0 h_ k1 a1 (x7_1.set ((wrap64 ((x7_1.length : Int) - 1)) : Int).toNat (⟨(rd_T91 x7_1 (wrap64 ((x7_1.length : Int) - 1))).f0, wrap64 (((rd_T91 x7_1 (wrap64 ((x7_1.length : Int) - 1))).f1) + 1)⟩ : S91)) (wrap64 (x8_1 + 1))) else (if x7_1.length < 8796093022208 then (impl_UseSpans.sw.l0 h_ k1 a1 (x7_1 ++ [(⟨x8_1, wrap64 (x8_1 + 1)⟩ : S91)]) (wrap64 (x8_1 + 1))) else (none))) else (none)) else (none)) else (if x7_1.length < 8796093022208 then (impl_UseSpans.sw.l0 h_ k1 a1 (x7_1 ++ [(⟨x8_1, wrap64 (x8_1 + 1)⟩ : S91)]) (wrap64 (x8_1 + 1))) else (none))) else (impl_UseSpans.sw.l0 h_ k1 a1 x7_1 (wrap64 (x8_1 + 1))))) else (some x7_1)) = some r := by first | (rw [hji7] at H; exact H) | (simp only [hji7] at H ⊢; exact H)
   have hji7_ : (if 1000 < a1 then 1000 else a1) = ji7 := hji7
   obtain ⟨c8, H⟩ | ⟨c8, H⟩ := ie_ H
   ·have c8b0 := decide_eq_true c8
    clear c8
    obtain ⟨t251, A9, H⟩ := bnd H
    obtain rfl | rfl := tt t251
    ·replace H := ip H
     obtain ⟨c11, H⟩ | ⟨c11, H⟩ := ie_ H
     ·have c11b0 := decide_eq_true c11
      clear c11
      obtain ⟨ji12, hji12⟩ : ∃ j_ : Int, (wrap64 ((x7_1.length : Int) - 1)) = j_ := ⟨_, rfl⟩
      replace H : (if 0 ≤ (ji12) then (if (ji12) < (x7_1.length : Int) then (if ((rd_T91 x7_1 (ji12)).f1) = x8_1 then (impl_UseSpans.sw.l0 h_ k1 a1 (x7_1.set ((ji12) : Int).toNat (⟨(rd_T91 x7_1 (ji12)).f0, wrap64 (((rd_T91 x7_1 (ji12)).f1) + 1)⟩ : S91)) (wrap64 (x8_1 + 1))) else (if x7_1.length < 8796093022208 then (impl_UseSpans.sw.l0 h_ k1 a1 (x7_1 ++ [(⟨x8_1, wrap64 (x8_1 + 1)⟩ : S91)]) (wrap64 (x8_1 + 1))) else (none))) else (none)) else (none)) = some r := by first | (rw [hji12] at H; exact H) | (simp only [hji12] at H ⊢; exact H)
      (try rw [hji12] at c11b0)
      (try rw [hji12] at A9)
      have hji12w : (IntKind.i64.wrap ((x7_1.length : Int) - 1)) = ji12 := (i64_w _).trans hji12
      obtain ⟨c13b0, H⟩ := id_ H
      obtain ⟨c14b0, H⟩ := id_ H
      obtain ⟨c15, H⟩ | ⟨c15, H⟩ := ie_ H
      ·have c15b0 : (((rd_T91 x7_1 (ji12)).f1) == x8_1) = true := beq_iff_eq.mpr c15
       have c15b1 : (((rd_T91 x7_1 (ji12)).f1) != x8_1) = false := bne_eq_false_iff_eq.mpr c15
       clear c15
       obtain ⟨y254, hy254⟩ : ∃ y_ : List (S91), y_ = (x7_1.set ((ji12) : Int).toNat (⟨(rd_T91 x7_1 (ji12)).f0, wrap64 (((rd_T91 x7_1 (ji12)).f1) + 1)⟩ : S91)) := ⟨_, rfl⟩
       replace H : (impl_UseSpans.sw.l0 h_ k1 a1 y254 (wrap64 (x8_1 + 1))) = some r := by first | (rw [hy254]; with_reducible exact H) | (have H2_ := (Option.bind_some _ _).symm.trans H; rw [hy254]; with_reducible exact H2_) | (have H2_ := (Option.bind_some _ _).symm.trans H; with_reducible exact H2_) | with_reducible exact H | (rw [hy254]; exact H) | exact H
       have Ny254 := Aside0.mk hy254
       clear hy254
       have H' := Aside0.mk H
       clear H
       go_wp2_with (first | (go_at_call 74; refine (hh x8_1 true _ (sb) A9.out).mono ?_; rintro e w17 ⟨rfl, hb⟩; replace HO_7 := Aside0.mk (Kd.R_below (sr HO_7) hb); replace HB := bs hb; (try clear hb); (try clear hb2); (try clear hk); (try clear hi); obtain ⟨Ao18, co18, eo18⟩ := Kd.R_slice HO_7.out; subst eo18; have p252 : 0 ≤ ((ji12) : Int) := sa; have q252 : (ji12) < (x7_1.length : Int) := sa; obtain ⟨ad252, e252, hx252_0, hx252_1⟩ := at_T91 (Kd.R_reads' HO_7.out).2.2 (ji12) p252 q252; cases e252; replace p252 := eq_true p252; replace q252 := eq_true q252; have p253 : 0 ≤ ((ji12) : Int) := sa; have q253 : (ji12) < (x7_1.length : Int) := sa; obtain ⟨ad253, e253, hx253_0, hx253_1⟩ := at_T91 (Kd.R_reads' HO_7.out).2.2 (ji12) p253 q253; obtain rfl : ad252 = ad253 := (by injection e253); replace p253 := eq_true p253; replace q253 := eq_true q253; have p16 : 0 ≤ ((ji12) : Int) := sa; have q16 : ((ji12) : Int) < ((x7_1.length : Int) : Int) := sa; obtain ⟨go16, co16, eo16, gb16, gl16, cl16, HG16⟩ := Kd.R_form HO_7.out (by omega); (first | cases eo16 | (injection eo16 with ea_ en_ ec_; (first | subst ea_ | (injection ea_ with ea_; subst ea_)); subst ec_; clear en_)); have GB16 := Aside0.mk gb16; have GG16 := Aside0.mk HG16; clear gb16 gl16 HG16; (first | simp only [add_plain] at hx252_0 | skip); (first | simp only [add_plain] at hx252_1 | skip); (first | simp only [add_plain] at hx253_0 | skip); (first | simp only [add_plain] at hx253_1 | skip); obtain ⟨ce16, hcl16, hM16, hcc16, hfr16⟩ := Kd.R_elem HO_7.out z91 ((ji12) : Int) p16 q16; obtain rfl := k91_openM hM16; have hx16_0 : w17.cell? ⟨go16, ((ji12) : Int).toNat * 2, none⟩ = some (.int .i64 ((rd_T91 x7_1 (ji12)).f0)) := hcc16 0 _ rfl; have hx16_1 : w17.cell? ⟨go16, ((ji12) : Int).toNat * 2 + 1, none⟩ = some (.int .i64 ((rd_T91 x7_1 (ji12)).f1)) := hcc16 1 _ rfl; have hf16_0 : w17.frozen? ⟨go16, ((ji12) : Int).toNat * 2, none⟩ = false := hfr16 0; have hf16_1 : w17.frozen? ⟨go16, ((ji12) : Int).toNat * 2 + 1, none⟩ = false := hfr16 1; (try clear hcl16); (try clear hcc16); (try clear hfr16); (try clear hM16); replace p16 := eq_true p16; replace q16 := eq_true q16; have HX19 := Aside0.mk (show Kd.R k91 91 w17 w.heap.size (fun _ => True) (.slice (some ⟨go16, 0, none⟩) x7_1.length co18) x7_1 from (sr HO_7)); obtain ⟨ce19, hcl19, hM19, hcc19, hfr19⟩ := Kd.R_elem HX19.out z91 ((ji12) : Int) (sa) (by have h_ : ((ji12) : Int) < ((x7_1.length : Int) : Int) := sa; first | exact h_ | (have e_ := (Kd.R_reads' HO_7.out).1; omega) | simpa using h_); obtain rfl := k91_openM hM19; have HP19 := Kd.R_seg HX19.out ((ji12) : Int) (sa) (by have h_ : ((ji12) : Int) < ((x7_1.length : Int) : Int) := sa; first | exact h_ | (have e_ := (Kd.R_reads' HO_7.out).1; omega) | simpa using h_) (seg := [.int .i64 (wrap64 (((rd_T91 x7_1 (ji12)).f1) + 1))]) (j := 1) hcl19 hcc19 (show 2 ≤ 2 from by decide) (x' := (⟨(rd_T91 x7_1 (ji12)).f0, wrap64 (((rd_T91 x7_1 (ji12)).f1) + 1)⟩ : S91)) (k91_mkM _ _ _ (⟨(rd_T91 x7_1 (ji12)).f0, wrap64 (((rd_T91 x7_1 (ji12)).f1) + 1)⟩ : S91) ) (fun _ hk => hk); have hx19_1 := hcc19 1 _ rfl; (try simp only [show (k91).sz = 2 from rfl, Nat.mul_one, Nat.add_zero] at hx19_1); have hf19_1 := hfr19 1; (try simp only [show (k91).sz = 2 from rfl, Nat.mul_one, Nat.add_zero] at hf19_1); (try clear hcl19); (try clear hcc19); (try clear hfr19); (try clear hM19)) | ((with_reducible refine gate_store (t := 3) (p := 44) rfl ?_); refine store_event (t := 3) (p := 44) (v := ?vo_w20) (w1 := (w17.setCell ⟨go16, ((ji12) : Int).toNat * 2 + 1, none⟩ (.int .i64 (wrap64 (((rd_T91 x7_1 (ji12)).f1) + 1))))) ?hg ?ho ?hn ?hr ?_; (case ho => rfl); (case hg => rfl); (case hn => rfl); (case hr => first | (go_simp; done) | (go_simp; rfl)); intro w20 hw; have hg : w17.grownBy w20 (some go16) := (by rw [hw]; exact HP19.2); have hp_ : Kd.R k91 91 w20 w.heap.size (fun _ => True) (.slice (some ⟨go16, 0, none⟩) x7_1.length co18) y254 := (by rw [hw, Ny254.out]; exact HP19.1); clear HP19; replace HO_7 := Aside0.mk hp_; replace HB := Aside0.mk ((by rw [hw]; exact below_set (HB.out) GB16.out : Below w.heap.size w w20)); clear hg hw hp_))
       go_roundg k1
       case measure => have := HK1.out; omega
       case rel => exact ⟨(y254), (wrap64 (x8_1 + 1)), sc, H', kk1, ⟨sr HO_7⟩, ⟨sb⟩⟩
      ·have c15b0 : (((rd_T91 x7_1 (ji12)).f1) == x8_1) = false := beq_eq_false_iff_ne.mpr c15
       have c15b1 : (((rd_T91 x7_1 (ji12)).f1) != x8_1) = true := bne_iff_ne.mpr c15
       obtain ⟨LMc21, H⟩ := il_ H
       obtain ⟨y255, hy255⟩ : ∃ y_ : List (S91), y_ = (x7_1 ++ [(⟨x8_1, wrap64 (x8_1 + 1)⟩ : S91)]) := ⟨_, rfl⟩
       replace H : (impl_UseSpans.sw.l0 h_ k1 a1 y255 (wrap64 (x8_1 + 1))) = some r := by first | (rw [hy255]; with_reducible exact H) | (have H2_ := (Option.bind_some _ _).symm.trans H; rw [hy255]; with_reducible exact H2_) | (have H2_ := (Option.bind_some _ _).symm.trans H; with_reducible exact H2_) | with_reducible exact H | (rw [hy255]; exact H) | exact H
       have Ny255 := Aside0.mk hy255
       clear hy255
       have H' := Aside0.mk H
       clear H
       go_wp2_with (first | (go_at_call 74; refine (hh x8_1 true _ (sb) A9.out).mono ?_; rintro e w22 ⟨rfl, hb⟩; replace HO_7 := Aside0.mk (Kd.R_below (sr HO_7) hb); replace HB := bs hb; (try clear hb); (try clear hb2); (try clear hk); (try clear hi); obtain ⟨Ao23, co23, eo23⟩ := Kd.R_slice HO_7.out; subst eo23; have p252 : 0 ≤ ((ji12) : Int) := sa; have q252 : (ji12) < (x7_1.length : Int) := sa; obtain ⟨ad252, e252, hx252_0, hx252_1⟩ := at_T91 (Kd.R_reads' HO_7.out).2.2 (ji12) p252 q252; cases e252; replace p252 := eq_true p252; replace q252 := eq_true q252) | ((with_reducible refine gate_builtin (b := .append) (xs := #[.tmp 45, .tmp 50]) rfl ?_); at_builtin; refine Kd.R_append k91 (w0 := w) w.heap.size rfl (.tmp 45) (.tmp 50) 33 91 (.agg #[(.int .i64 0), (.int .i64 0)]) 16 rfl Try.underlying33 info91 rfl (by decide) (by omega) (.slice (some ad252) x7_1.length co23) x7_1 (⟨x8_1, wrap64 (x8_1 + 1)⟩ : S91) [.int .i64 x8_1, .int .i64 (wrap64 (x8_1 + 1))] (fun _ => True) (fun _ => False) rfl rfl ?aP (fun _ hk => hk.elim) ?aF ?aO ?aB ?aS ?aL ?_; (case aP => exact k91_mkM _ _ _ (⟨x8_1, wrap64 (x8_1 + 1)⟩ : S91)); (case aB => exact (sb)); (case aF => exact (fun _ _ => trivial)); (case aO => exact (sr HO_7)); (case aS => exact (below_size (sb))); (case aL => have := LMc21.out; omega); intro v256 w24 ho hb hg hat; rw [← Ny255.out] at ho; replace HB := Aside0.mk hb; have HO257 := Aside0.mk ho; clear HO_7; clear ho hb hg hat))
       go_roundg k1
       case measure => have := HK1.out; omega
       case rel => exact ⟨(y255), (wrap64 (x8_1 + 1)), sc, H', kk1, ⟨sr HO257⟩, ⟨sb⟩⟩
     ·have c11b0 := decide_eq_false c11
      clear c11
      obtain ⟨LMc25, H⟩ := il_ H
      obtain ⟨y258, hy258⟩ : ∃ y_ : List (S91), y_ = (x7_1 ++ [(⟨x8_1, wrap64 (x8_1 + 1)⟩ : S91)]) := ⟨_, rfl⟩
      replace H : (impl_UseSpans.sw.l0 h_ k1 a1 y258 (wrap64 (x8_1 + 1))) = some r := by first | (rw [hy258]; with_reducible exact H) | (have H2_ := (Option.bind_some _ _).symm.trans H; rw [hy258]; with_reducible exact H2_) | (have H2_ := (Option.bind_some _ _).symm.trans H; with_reducible exact H2_) | with_reducible exact H | (rw [hy258]; exact H) | exact H
      have Ny258 := Aside0.mk hy258
      clear hy258
      have H' := Aside0.mk H
      clear H
      go_wp2_with (first | (go_at_call 74; refine (hh x8_1 true _ (sb) A9.out).mono ?_; rintro e w26 ⟨rfl, hb⟩; replace HO_7 := Aside0.mk (Kd.R_below (sr HO_7) hb); replace HB := bs hb; (try clear hb); (try clear hb2); (try clear hk); (try clear hi); obtain ⟨Ao27, co27, eo27⟩ := Kd.R_slice HO_7.out; subst eo27) | ((with_reducible refine gate_builtin (b := .append) (xs := #[.tmp 45, .tmp 50]) rfl ?_); at_builtin; refine Kd.R_append k91 (w0 := w) w.heap.size rfl (.tmp 45) (.tmp 50) 33 91 (.agg #[(.int .i64 0), (.int .i64 0)]) 16 rfl Try.underlying33 info91 rfl (by decide) (by omega) (.slice Ao27 x7_1.length co27) x7_1 (⟨x8_1, wrap64 (x8_1 + 1)⟩ : S91) [.int .i64 x8_1, .int .i64 (wrap64 (x8_1 + 1))] (fun _ => True) (fun _ => False) rfl rfl ?aP (fun _ hk => hk.elim) ?aF ?aO ?aB ?aS ?aL ?_; (case aP => exact k91_mkM _ _ _ (⟨x8_1, wrap64 (x8_1 + 1)⟩ : S91)); (case aB => exact (sb)); (case aF => exact (fun _ _ => trivial)); (case aO => exact (sr HO_7)); (case aS => exact (below_size (sb))); (case aL => have := LMc25.out; omega); intro v259 w28 ho hb hg hat; rw [← Ny258.out] at ho; replace HB := Aside0.mk hb; have HO260 := Aside0.mk ho; clear HO_7; clear ho hb hg hat))
      go_roundg k1
      case measure => have := HK1.out; omega
      case rel => exact ⟨(y258), (wrap64 (x8_1 + 1)), sc, H', kk1, ⟨sr HO260⟩, ⟨sb⟩⟩
    ·replace H := im H
     have H' := Aside0.mk H
     clear H
     go_wp2_with (first | (go_at_call 74; refine (hh x8_1 false _ (sb) A9.out).mono ?_; rintro e w29 ⟨rfl, hb⟩; replace HO_7 := Aside0.mk (Kd.R_below (sr HO_7) hb); replace HB := bs hb; (try clear hb); (try clear hb2); (try clear hk); (try clear hi)))
     go_roundg k1
     case measure => have := HK1.out; omega
     case rel => exact ⟨(x7_1), (wrap64 (x8_1 + 1)), sc, H', kk1, ⟨sr HO_7⟩, ⟨sb⟩⟩
   ·have c8b0 := decide_eq_false c8
    clear c8
    obtain rfl := Option.some.inj H
    go_wp2
    go_ret
    exact ⟨_, by first | rfl | (simp [errW_none, errW_some] <;> rfl) | (simp only [← hji4, ← hji7]; first | rfl | (simp [errW_none, errW_some] <;> rfl)) | (simp [*, errW_none, errW_some] <;> rfl), sr HO_7, sb⟩

def impl_UseSpans.f (k : Nat) (a0_0 : Int) (a0_1 : Int) (a0_2 : Int) (l0_3 : List (S106)) (a1 : Int) (a2 : Int) : Option (List (S91)) := impl_UseSpans.sw.f (fun t => impl_MayUse.f k a0_0 a0_1 a0_2 l0_3 a1 a2 t) k 0 1000 0
theorem impl_UseSpans.mono : ∀ a0 a1 a2 a3 a4 a5 k, LeO (impl_UseSpans.f k a0 a1 a2 a3 a4 a5) (impl_UseSpans.f (k + 1) a0 a1 a2 a3 a4 a5) := fun a0 a1 a2 a3 a4 a5 k =>
  (impl_UseSpans.sw.mono _ _ _ _ _).trans (impl_UseSpans.sw.mono_h (fun t => impl_MayUse.mono a0 a1 a2 a3 a4 a5 t k) _ _ _ _)
set_option maxHeartbeats 8000000 in
set_option maxRecDepth 100000 in
theorem impl_UseSpans.calls (k : Nat) (a0_0 : Int) (a0_1 : Int) (a0_2 : Int) (A0_3 : Option Addr) (c0_3 : Nat) (l0_3 : List (S106)) (a1 : Int) (a2 : Int) (r : List (S91)) (w : World) (hr0_3 : Kd.C k106 w A0_3 l0_3.length l0_3) (hc0_3 : l0_3.length ≤ c0_3) (h : impl_UseSpans.f k a0_0 a0_1 a0_2 l0_3 a1 a2 = some r) :
    Calls Try.prog 20 #[.agg #[.int .i64 a0_0, .int .i64 a0_1, .int .i64 a0_2, .slice A0_3 l0_3.length c0_3], .int .i64 a1, .int .i64 a2] w fun e w' => ∃ v0_ : Value, e = .returned (v0_) ∧ Kd.R k91 91 w' w.heap.size (fun _ => True) v0_ r ∧ Below w.heap.size w w' := by
 have hu := Try.underlying29
 have H := Aside0.mk h
 clear h
 go_enter Try.func20, Try.ntmps20
 go_wp2_with (first | ((with_reducible refine gate_dst (N := 3) rfl ?_); refine bx 3 #[.int .i64 a0_0, .int .i64 a0_1, .int .i64 a0_2, .slice A0_3 l0_3.length c0_3] 29 ?_; intro g3 hg3 w3 hbox3 hb3; clear hg3; have B3 := Aside0.mk hbox3; have M3 := Aside0.mk hb3; clear hbox3 hb3) | ((with_reducible refine gate_dst (N := 4) rfl ?_); refine bx 4 #[.int .i64 a1] 3 ?_; intro g4 hg4 w4 hbox4 hb4; clear hg4; have B4 := Aside0.mk hbox4; have B3' := Aside0.mk (blk_below B3.out hb4); have M4 := Aside0.mk (below_step M3.out hb4); clear hbox4 hb4) | ((with_reducible refine gate_dst (N := 5) rfl ?_); refine bx 5 #[.int .i64 a2] 3 ?_; intro g5 hg5 w5 hbox5 hb5; clear hg5; have B5 := Aside0.mk hbox5; have B4' := Aside0.mk (blk_below B4.out hb5); have B3'' := Aside0.mk (blk_below B3'.out hb5); have M5 := Aside0.mk (below_step M4.out hb5); clear hbox5 hb5) | (go_at_call 73; refine (impl_UseSpans.sw.calls (fun t => impl_MayUse.f k a0_0 a0_1 a0_2 l0_3 a1 a2 t) g3 g4 g5 k 0 1000 0 r _ (fun t q W hB hq => impl_UseSpans.lit k a0_0 a0_1 a0_2 A0_3 c0_3 l0_3 a1 a2 t q g3 g4 g5 W (Kd.C_below hr0_3 (below_step M5.out hB)) hc0_3 ((blk_cell (blk_below B3''.out hB) 0).trans rfl) ((blk_cell (blk_below B3''.out hB) 1).trans rfl) ((blk_cell (blk_below B3''.out hB) 2).trans rfl) ((blk_cell (blk_below B3''.out hB) 3).trans rfl) ((blk_cell (blk_below B4'.out hB) 0).trans rfl) ((blk_cell (blk_below B5.out hB) 0).trans rfl) hq) H.out).mono ?_; rintro e w6 ⟨v6, rfl, ho6, hb6⟩; have HO6 := Aside0.mk ho6; have M6 := Aside0.mk hb6; clear ho6 hb6))
 go_ret
 exact ⟨_, rfl, Kd.R_lower HO6.out (below_size M5.out), below_step M5.out M6.out⟩

/-! ### laws_eqSpanS: function 21 -/
def laws_eqSpanS.l0 : Nat → List (S91) → List (S91) → Int → Option (Bool)
  | 0, _, _, _ => none
  | k + 1, x0, x1, x5 => if x5 < (x0.length : Int) then (if 0 ≤ x5 then (if x5 < (x1.length : Int) then ((laws_eqSpan.f ((rd_T91 x0 x5).f0) ((rd_T91 x0 x5).f1) ((rd_T91 x1 x5).f0) ((rd_T91 x1 x5).f1)).bind fun t275 => (if t275 = true then (laws_eqSpanS.l0 k x0 x1 (wrap64 (x5 + 1))) else (some false))) else (none)) else (none)) else (some true)
def laws_eqSpanS.f (k : Nat) (l0 : List (S91)) (l1 : List (S91)) : Option (Bool) := if (l0.length : Int) = (l1.length : Int) then (laws_eqSpanS.l0 k l0 l1 0) else (some false)
theorem laws_eqSpanS.mono_l : ∀ k, (∀ y0 y1 y2, LeO (laws_eqSpanS.l0 k y0 y1 y2) (laws_eqSpanS.l0 (k + 1) y0 y1 y2))
  | 0 => fun _ _ _ r h => by simp [laws_eqSpanS.l0] at h
  | k + 1 => by
    have ih0 := laws_eqSpanS.mono_l k
    · intro y0 y1 y2
      unfold laws_eqSpanS.l0
      exact mo
theorem laws_eqSpanS.mono : ∀ a0 a1 k, LeO (laws_eqSpanS.f k a0 a1) (laws_eqSpanS.f (k + 1) a0 a1) := by
  intro a0 a1 k
  have ih0 := laws_eqSpanS.mono_l k
  unfold laws_eqSpanS.f
  exact mo
def laws_eqSpanS.T6 : Bool × List (List Nat × List Nat) := (true, [([], []), ([], []), ([0, 1], [0, 1]), ([2], [2]), ([], []), ([], []), ([4, 5], [4, 5]), ([6], [6]), ([3, 7], [3, 7]), ([8], [8])])
def laws_eqSpanS.B6 : List Nat := [0, 0, 3, 7, 0, 0, 48, 112, 255, 511]
theorem laws_eqSpanS.tab6 : rtab .any (opsOf Try.f21 6) = laws_eqSpanS.T6 := by kernel_rfl
theorem laws_eqSpanS.bits6 : waitsOk laws_eqSpanS.T6.2 laws_eqSpanS.B6 = true := by kernel_rfl
set_option maxHeartbeats 8000000 in
set_option maxRecDepth 100000 in
theorem laws_eqSpanS.calls (k : Nat) (A0 : Option Addr) (c0 : Nat) (l0 : List (S91)) (A1 : Option Addr) (c1 : Nat) (l1 : List (S91)) (r : Bool) (w : World) (hr0 : Kd.C k91 w A0 l0.length l0) (hc0 : l0.length ≤ c0) (hr1 : Kd.C k91 w A1 l1.length l1) (hc1 : l1.length ≤ c1) (h : laws_eqSpanS.f k l0 l1 = some r) :
    Calls Try.prog 21 #[.slice A0 l0.length c0, .slice A1 l1.length c1] w fun e w' => e = .returned (.bool r) ∧ Below w.heap.size w w' := by
 have hu91 := Try.underlying91
 have HR0 := Aside0.mk hr0
 have HC0 := Aside0.mk hc0
 clear hr0 hc0
 have HR1 := Aside0.mk hr1
 have HC1 := Aside0.mk hc1
 clear hr1 hc1
 have HB := Aside0.mk (Below.refl w.heap.size w)
 have H : (if (l0.length : Int) = (l1.length : Int) then (laws_eqSpanS.l0 k l0 l1 0) else (some false)) = some r := h
 clear h
 obtain ⟨c3, H⟩ | ⟨c3, H⟩ := ie_ H
 ·have c3b0 : ((l0.length : Int) == (l1.length : Int)) = true := beq_iff_eq.mpr c3
  have c3b1 : ((l0.length : Int) != (l1.length : Int)) = false := bne_eq_false_iff_eq.mpr c3
  have c3b2 : (l0.length == l1.length) = true := by first | simpa using c3 | (simp at c3 ⊢; omega)
  clear c3
  have H' := Aside0.mk H
  clear H
  go_enter Try.func21, Try.ntmps21
  go_wp2
  go_loopg [5] k (fun kq v5 w' => ∃ (x5_1 : Int), v5 = .int .i64 x5_1 ∧ Aside0 (laws_eqSpanS.l0 kq l0 l1 x5_1 = some r) ∧ Aside0 (kq ≤ k) ∧ Aside0 (Below w.heap.size w w'))
  case atStart => exact ⟨(0), sc, H', kk0, ⟨sb⟩⟩
  case round =>
   clear H'
   try clear c3
   try clear c3b0
   try clear c3b1
   try clear c3b2
   obtain ⟨x5_1, rfl, HA, HK1, HB⟩ := hrel
   cases gk with
   | zero => exact absurd HA.out (by simp [laws_eqSpanS.l0])
   | succ k1 =>
    have H := HA.out
    clear HA
    simp only [laws_eqSpanS.l0] at H
    obtain ⟨c4, H⟩ | ⟨c4, H⟩ := ie_ H
    ·have c4b0 := decide_eq_true c4
     clear c4
     obtain ⟨c5b0, H⟩ := id_ H
     obtain ⟨c6b0, H⟩ := id_ H
     obtain ⟨t275, A7, H⟩ := bnd H
     obtain rfl | rfl := tt t275
     ·replace H := ip H
      have H' := Aside0.mk H
      clear H
      try go_wp2
      replace HB := Aside0.mk (below_drew1 HB.out)
      obtain ⟨p273, q273, ad273, e273, hw273_0, hw273_1, hx273_0, hx273_1⟩ := aT_T91 HR0 HB x5_1
      cases e273
      obtain ⟨p274, q274, ad274, e274, hw274_0, hw274_1, hx274_0, hx274_1⟩ := aT_T91 HR1 HB x5_1
      cases e274
      refine start_ (n := 10) (S := fun w' => w'.cell? (ad273.add ((x5_1).toNat * 2)) = some (.int .i64 ((rd_T91 l0 x5_1).f0)) ∧ w'.cell? ⟨(ad273.add ((x5_1).toNat * 2)).block, (ad273.add ((x5_1).toNat * 2)).off + 1, none⟩ = some (.int .i64 ((rd_T91 l0 x5_1).f1)) ∧ w'.cell? (ad274.add ((x5_1).toNat * 2)) = some (.int .i64 ((rd_T91 l1 x5_1).f0)) ∧ w'.cell? ⟨(ad274.add ((x5_1).toNat * 2)).block, (ad274.add ((x5_1).toNat * 2)).off + 1, none⟩ = some (.int .i64 ((rd_T91 l1 x5_1).f1))) (ds := []) #[false, false, false, false, false, false, false, false, false, false] (by kernel_rfl) rfl rfl ⟨(hb_ HB hw273_0), (hb_ HB hw273_1), (hb_ HB hw274_0), (hb_ HB hw274_1)⟩ (fun hHeld => ?_); refine with_tabW laws_eqSpanS.tab6 laws_eqSpanS.bits6 (fun HT_ HW_ => ?_)
      generalize wr.drew = w9 at HB hx273_0 hx273_1 hx274_0 hx274_1 hHeld ⊢
      refine put 0 17 #[true, false, false, false, false, false, false, false, false, false] HT_ ?_
      refine put 1 18 #[true, true, false, false, false, false, false, false, false, false] HT_ ?_
      refine put 2 19 #[true, true, true, false, false, false, false, false, false, false] HT_ ?_
      refine put 4 21 #[true, true, true, false, true, false, false, false, false, false] HT_ ?_
      refine put 5 22 #[true, true, true, false, true, true, false, false, false, false] HT_ ?_
      refine put 6 23 #[true, true, true, false, true, true, true, false, false, false] HT_ ?_
      refine tat4 3 20 #[true, true, true, true, true, true, true, false, false, false] HT_ HW_ hHeld ?_
      refine tat4 7 24 #[true, true, true, true, true, true, true, true, false, false] HT_ HW_ hHeld ?_
      refine one_ (i := 8) (N := some 25) #[true, true, true, true, true, true, true, true, true, false] rfl rfl (one_of HT_.out (by kernel_rfl)) (by decide) (fun K hK => ?_)
      refine goes_ Try.func75 (by kernel_rfl) rfl #[.agg #[.int .i64 ((rd_T91 l0 x5_1).f0), .int .i64 ((rd_T91 l0 x5_1).f1)], .agg #[.int .i64 ((rd_T91 l1 x5_1).f0), .int .i64 ((rd_T91 l1 x5_1).f1)]] (by rfl) rfl rfl sl ?_
      with_reducible refine (laws_eqSpan.calls ((rd_T91 l0 x5_1).f0) ((rd_T91 l0 x5_1).f1) ((rd_T91 l1 x5_1).f0) ((rd_T91 l1 x5_1).f1) true _ A7.out).mono ?_
      rintro e w10 ⟨rfl, hb⟩
      refine ⟨_, rfl, ?_⟩
      replace HB := bs hb
      (try clear hb)
      (try clear hb2)
      (try clear hk)
      (try clear hi)
      refine hK.out _ _ ⟨(hb_ HB hw273_0), (hb_ HB hw273_1), (hb_ HB hw274_0), (hb_ HB hw274_1)⟩ (fun hHeld => ?_)
      clear hK K
      refine norm_ (a' := ?_) ?_ ?_
      rotate_left
      ·show Act.put _ (some 25) _ = _
       simp only [Act.put, List.setIfInBounds_toArray, List.set_cons_zero, List.set_cons_succ, i64_w, i32_w]
       rfl
      refine put 9 26 #[true, true, true, true, true, true, true, true, true, true] HT_ ?_
      refine done_ (done_of HT_.out (by kernel_rfl)) ?_
      try go_wp2
      go_roundg k1
      case measure => have := HK1.out; omega
      case rel => exact ⟨(wrap64 (x5_1 + 1)), sc, H', kk1, ⟨sb⟩⟩
     ·replace H := im H
      obtain rfl := Option.some.inj H
      try go_wp2
      replace HB := Aside0.mk (below_drew1 HB.out)
      obtain ⟨p273, q273, ad273, e273, hw273_0, hw273_1, hx273_0, hx273_1⟩ := aT_T91 HR0 HB x5_1
      cases e273
      obtain ⟨p274, q274, ad274, e274, hw274_0, hw274_1, hx274_0, hx274_1⟩ := aT_T91 HR1 HB x5_1
      cases e274
      refine start_ (n := 10) (S := fun w' => w'.cell? (ad273.add ((x5_1).toNat * 2)) = some (.int .i64 ((rd_T91 l0 x5_1).f0)) ∧ w'.cell? ⟨(ad273.add ((x5_1).toNat * 2)).block, (ad273.add ((x5_1).toNat * 2)).off + 1, none⟩ = some (.int .i64 ((rd_T91 l0 x5_1).f1)) ∧ w'.cell? (ad274.add ((x5_1).toNat * 2)) = some (.int .i64 ((rd_T91 l1 x5_1).f0)) ∧ w'.cell? ⟨(ad274.add ((x5_1).toNat * 2)).block, (ad274.add ((x5_1).toNat * 2)).off + 1, none⟩ = some (.int .i64 ((rd_T91 l1 x5_1).f1))) (ds := []) #[false, false, false, false, false, false, false, false, false, false] (by kernel_rfl) rfl rfl ⟨(hb_ HB hw273_0), (hb_ HB hw273_1), (hb_ HB hw274_0), (hb_ HB hw274_1)⟩ (fun hHeld => ?_); refine with_tabW laws_eqSpanS.tab6 laws_eqSpanS.bits6 (fun HT_ HW_ => ?_)
      generalize wr.drew = w11 at HB hx273_0 hx273_1 hx274_0 hx274_1 hHeld ⊢
      refine put 0 17 #[true, false, false, false, false, false, false, false, false, false] HT_ ?_
      refine put 1 18 #[true, true, false, false, false, false, false, false, false, false] HT_ ?_
      refine put 2 19 #[true, true, true, false, false, false, false, false, false, false] HT_ ?_
      refine put 4 21 #[true, true, true, false, true, false, false, false, false, false] HT_ ?_
      refine put 5 22 #[true, true, true, false, true, true, false, false, false, false] HT_ ?_
      refine put 6 23 #[true, true, true, false, true, true, true, false, false, false] HT_ ?_
      refine tat4 3 20 #[true, true, true, true, true, true, true, false, false, false] HT_ HW_ hHeld ?_
      refine tat4 7 24 #[true, true, true, true, true, true, true, true, false, false] HT_ HW_ hHeld ?_
      refine one_ (i := 8) (N := some 25) #[true, true, true, true, true, true, true, true, true, false] rfl rfl (one_of HT_.out (by kernel_rfl)) (by decide) (fun K hK => ?_)
      refine goes_ Try.func75 (by kernel_rfl) rfl #[.agg #[.int .i64 ((rd_T91 l0 x5_1).f0), .int .i64 ((rd_T91 l0 x5_1).f1)], .agg #[.int .i64 ((rd_T91 l1 x5_1).f0), .int .i64 ((rd_T91 l1 x5_1).f1)]] (by rfl) rfl rfl sl ?_
      with_reducible refine (laws_eqSpan.calls ((rd_T91 l0 x5_1).f0) ((rd_T91 l0 x5_1).f1) ((rd_T91 l1 x5_1).f0) ((rd_T91 l1 x5_1).f1) false _ A7.out).mono ?_
      rintro e w12 ⟨rfl, hb⟩
      refine ⟨_, rfl, ?_⟩
      replace HB := bs hb
      (try clear hb)
      (try clear hb2)
      (try clear hk)
      (try clear hi)
      refine hK.out _ _ ⟨(hb_ HB hw273_0), (hb_ HB hw273_1), (hb_ HB hw274_0), (hb_ HB hw274_1)⟩ (fun hHeld => ?_)
      clear hK K
      refine norm_ (a' := ?_) ?_ ?_
      rotate_left
      ·show Act.put _ (some 25) _ = _
       simp only [Act.put, List.setIfInBounds_toArray, List.set_cons_zero, List.set_cons_succ, i64_w, i32_w]
       rfl
      refine put 9 26 #[true, true, true, true, true, true, true, true, true, true] HT_ ?_
      refine done_ (done_of HT_.out (by kernel_rfl)) ?_
      try go_wp2
      go_ret
      exact ⟨se, sb⟩
    ·have c4b0 := decide_eq_false c4
     clear c4
     obtain rfl := Option.some.inj H
     go_wp2
     go_ret
     exact ⟨se, sb⟩
 ·have c3b0 : ((l0.length : Int) == (l1.length : Int)) = false := beq_eq_false_iff_ne.mpr c3
  have c3b1 : ((l0.length : Int) != (l1.length : Int)) = true := bne_iff_ne.mpr c3
  have c3b2 : (l0.length == l1.length) = false := by first | simpa using c3 | (simp at c3 ⊢; omega)
  obtain rfl := Option.some.inj H
  go_enter Try.func21, Try.ntmps21
  go_wp2
  go_ret
  exact ⟨se, sb⟩

/-! ### laws_markLinkS: function 134 -/
def laws_markLinkS.l0 : Nat → List (S128) → Int → Int → Option (Int × (List (S128)))
  | 0, _, _, _ => none
  | k + 1, x0, x1, x5 => if x5 < (x0.length : Int) then (if 0 ≤ x5 then ((some (x0.set (x5 : Int).toNat (⟨x1, (rd_T128 x0 x5).f1⟩ : S128) : List (S128))).bind fun y276 => (laws_markLinkS.l0 k (y276.set (x5 : Int).toNat (⟨(rd_T128 y276 x5).f0, wrap64 (x1 + 1)⟩ : S128)) (wrap64 ((wrap64 (x1 + 1)) + 1)) (wrap64 (x5 + 1)))) else (none)) else (some (x1, x0))
def laws_markLinkS.f (k : Nat) (l0 : List (S128)) (a1 : Int) : Option (Int × (List (S128))) := laws_markLinkS.l0 k l0 a1 0
theorem laws_markLinkS.mono_l : ∀ k, (∀ y0 y1 y2, LeO (laws_markLinkS.l0 k y0 y1 y2) (laws_markLinkS.l0 (k + 1) y0 y1 y2))
  | 0 => fun _ _ _ r h => by simp [laws_markLinkS.l0] at h
  | k + 1 => by
    have ih0 := laws_markLinkS.mono_l k
    · intro y0 y1 y2
      unfold laws_markLinkS.l0
      exact mo
theorem laws_markLinkS.mono : ∀ a0 a1 k, LeO (laws_markLinkS.f k a0 a1) (laws_markLinkS.f (k + 1) a0 a1) := by
  intro a0 a1 k
  have ih0 := laws_markLinkS.mono_l k
  unfold laws_markLinkS.f
  exact mo
set_option maxHeartbeats 8000000 in
set_option maxRecDepth 100000 in
theorem laws_markLinkS.calls (k : Nat) (P0_ : Nat → Prop) (u9000_ : Value) (l0 : List (S128)) (a1 : Int) (r1 : Int) (r2 : List (S128)) (w0 w : World) (hB : Below w0.heap.size w0 w) (ho0 : Kd.R k128 128 w w0.heap.size P0_ u9000_ l0) (h : laws_markLinkS.f k l0 a1 = some (r1, r2)) :
    Calls Try.prog 134 #[u9000_, .int .i64 a1] w fun e w' => e = .returned (.int .i64 r1) ∧ Kd.R k128 128 w' w0.heap.size (fun k_ => (P0_ k_ ∨ w.heap.size ≤ k_)) u9000_ r2 ∧ Below w0.heap.size w0 w' ∧ Kept w w' (fun k_ => P0_ k_) := by
 have HO0 := Aside0.mk (show Kd.R k128 128 w w0.heap.size (fun k_ => (P0_ k_ ∨ w.heap.size ≤ k_)) u9000_ l0 from Kd.R_mono ho0 (fun k_ hk => (.inl hk)))
 have HK := Aside0.mk (Kept.refl w (fun k_ => P0_ k_))
 have HW0 := Aside0.mk hB.size
 have HB := Aside0.mk hB
 clear hB
 have H : (laws_markLinkS.l0 k l0 a1 0) = some (r1, r2) := h
 clear h
 have H' := Aside0.mk H
 clear H
 go_enter Try.func134, Try.ntmps134
 go_wp2
 go_loopg [1, 5] k (fun kq v1 v5 w' => ∃ (x0_1 : List (S128)) (x1_1 : Int) (x5_1 : Int), v1 = .int .i64 x1_1 ∧ v5 = .int .i64 x5_1 ∧ Aside0 (laws_markLinkS.l0 kq x0_1 x1_1 x5_1 = some (r1, r2)) ∧ Aside0 (kq ≤ k) ∧ Aside0 (Kd.R k128 128 w' w0.heap.size (fun k_ => (P0_ k_ ∨ w.heap.size ≤ k_)) u9000_ x0_1) ∧ Aside0 (Kept w w' (fun k_ => P0_ k_)) ∧ Aside0 (Below w0.heap.size w0 w'))
 case atStart => exact ⟨(l0), (a1), (0), sc, sc, H', kk0, ⟨sr HO0⟩, ⟨by repeat (first | (with_reducible first | exact HK.out | apply Kept.alloc | apply Kept.drewN | apply Kept.drew) | exact HK.out)⟩, ⟨sb⟩⟩
 case round =>
  clear H'
  obtain ⟨x0_1, x1_1, x5_1, rfl, rfl, HA, HK1, HO_0, HK, HB⟩ := hrel
  cases gk with
  | zero => exact absurd HA.out (by simp [laws_markLinkS.l0])
  | succ k1 =>
   have H := HA.out
   clear HA
   simp only [laws_markLinkS.l0] at H
   obtain ⟨c3, H⟩ | ⟨c3, H⟩ := ie_ H
   ·have c3b0 := decide_eq_true c3
    clear c3
    obtain ⟨c4b0, H⟩ := id_ H
    obtain ⟨y276, hy276⟩ : ∃ y_ : List (S128), y_ = (x0_1.set (x5_1 : Int).toNat (⟨x1_1, (rd_T128 x0_1 x5_1).f1⟩ : S128)) := ⟨_, rfl⟩
    replace H : (laws_markLinkS.l0 k1 (y276.set (x5_1 : Int).toNat (⟨(rd_T128 y276 x5_1).f0, wrap64 (x1_1 + 1)⟩ : S128)) (wrap64 ((wrap64 (x1_1 + 1)) + 1)) (wrap64 (x5_1 + 1))) = some (r1, r2) := by first | (rw [hy276]; with_reducible exact H) | (have H2_ := (Option.bind_some _ _).symm.trans H; rw [hy276]; with_reducible exact H2_) | (have H2_ := (Option.bind_some _ _).symm.trans H; with_reducible exact H2_) | with_reducible exact H | (rw [hy276]; exact H) | exact H
    have Ny276 := Aside0.mk hy276
    clear hy276
    obtain ⟨y277, hy277⟩ : ∃ y_ : List (S128), y_ = (y276.set (x5_1 : Int).toNat (⟨(rd_T128 y276 x5_1).f0, wrap64 (x1_1 + 1)⟩ : S128)) := ⟨_, rfl⟩
    replace H : (laws_markLinkS.l0 k1 y277 (wrap64 ((wrap64 (x1_1 + 1)) + 1)) (wrap64 (x5_1 + 1))) = some (r1, r2) := by first | (rw [hy277]; with_reducible exact H) | (have H2_ := (Option.bind_some _ _).symm.trans H; rw [hy277]; with_reducible exact H2_) | (have H2_ := (Option.bind_some _ _).symm.trans H; with_reducible exact H2_) | with_reducible exact H | (rw [hy277]; exact H) | exact H
    have Ny277 := Aside0.mk hy277
    clear hy277
    have H' := Aside0.mk H
    clear H
    obtain ⟨Ao7, co7, eo7⟩ := Kd.R_slice HO_0.out
    subst eo7
    have p5 : 0 ≤ (x5_1 : Int) := sa
    have q5 : (x5_1 : Int) < ((x0_1.length : Int) : Int) := sa
    obtain ⟨go5, co5, eo5, gb5, gl5, cl5, HG5⟩ := Kd.R_form HO_0.out (by omega)
    (first | cases eo5 | (injection eo5 with ea_ en_ ec_; (first | subst ea_ | (injection ea_ with ea_; subst ea_)); subst ec_; clear en_))
    have GB5 := Aside0.mk gb5
    have GG5 := Aside0.mk HG5
    clear gb5 gl5 HG5
    have HMgo5 := Aside0.mk (show (P0_ go5 ∨ w.heap.size ≤ go5) from (HO_0.out.1 _ rfl))
    obtain ⟨ce5, hcl5, hM5, hcc5, hfr5⟩ := Kd.R_elem HO_0.out z128 (x5_1 : Int) p5 q5
    obtain rfl := k128_openM hM5
    have hx5_0 : wr.cell? ⟨go5, (x5_1 : Int).toNat * 2, none⟩ = some (.int .i64 ((rd_T128 x0_1 x5_1).f0)) := hcc5 0 _ rfl
    have hx5_1 : wr.cell? ⟨go5, (x5_1 : Int).toNat * 2 + 1, none⟩ = some (.int .i64 ((rd_T128 x0_1 x5_1).f1)) := hcc5 1 _ rfl
    have hf5_0 : wr.frozen? ⟨go5, (x5_1 : Int).toNat * 2, none⟩ = false := hfr5 0
    have hf5_1 : wr.frozen? ⟨go5, (x5_1 : Int).toNat * 2 + 1, none⟩ = false := hfr5 1
    (try clear hcl5); (try clear hcc5); (try clear hfr5); (try clear hM5)
    replace p5 := eq_true p5
    replace q5 := eq_true q5
    have HX8 := Aside0.mk (show Kd.R k128 128 wr w0.heap.size (fun k_ => (P0_ k_ ∨ w.heap.size ≤ k_)) (.slice (some ⟨go5, 0, none⟩) x0_1.length co7) x0_1 from (sr HO_0))
    obtain ⟨ce8, hcl8, hM8, hcc8, hfr8⟩ := Kd.R_elem HX8.out z128 (x5_1 : Int) (sa) (by have h_ : (x5_1 : Int) < ((x0_1.length : Int) : Int) := sa; first | exact h_ | (have e_ := (Kd.R_reads' HO_0.out).1; omega) | simpa using h_)
    obtain rfl := k128_openM hM8
    have HP8 := Kd.R_seg HX8.out (x5_1 : Int) (sa) (by have h_ : (x5_1 : Int) < ((x0_1.length : Int) : Int) := sa; first | exact h_ | (have e_ := (Kd.R_reads' HO_0.out).1; omega) | simpa using h_) (seg := [.int .i64 x1_1]) (j := 0) hcl8 hcc8 (show 1 ≤ 2 from by decide) (x' := (⟨x1_1, (rd_T128 x0_1 x5_1).f1⟩ : S128)) (k128_mkM _ _ _ (⟨x1_1, (rd_T128 x0_1 x5_1).f1⟩ : S128) ) (fun _ hk => hk)
    have hx8_0 := hcc8 0 _ rfl
    (try simp only [show (k128).sz = 2 from rfl, Nat.mul_one, Nat.add_zero] at hx8_0)
    have hf8_0 := hfr8 0
    (try simp only [show (k128).sz = 2 from rfl, Nat.mul_one, Nat.add_zero] at hf8_0)
    (try clear hcl8); (try clear hcc8); (try clear hfr8); (try clear hM8)
    go_wp2_with (first | ((with_reducible refine gate_store (t := 3) (p := 16) rfl ?_); refine store_event (t := 3) (p := 16) (v := ?vo_w9) (w1 := (wr.setCell ⟨go5, (x5_1 : Int).toNat * 2, none⟩ (.int .i64 x1_1))) ?hg ?ho ?hn ?hr ?_; (case ho => rfl); (case hg => rfl); (case hn => rfl); (case hr => first | (go_simp; done) | (go_simp; rfl)); intro w9 hw; have hg : wr.grownBy w9 (some go5) := (by rw [hw]; exact HP8.2); have hp_ : Kd.R k128 128 w9 w0.heap.size (fun k_ => (P0_ k_ ∨ w.heap.size ≤ k_)) (.slice (some ⟨go5, 0, none⟩) x0_1.length co7) y276 := (by rw [hw, Ny276.out]; exact HP8.1); clear HP8; replace HB := Aside0.mk ((by rw [hw]; exact below_set (HB.out) GB5.out : Below w0.heap.size w0 w9)); replace HK := Aside0.mk (Kept.of_grown (S := (fun k_ => P0_ k_)) hg (by repeat (first | (with_reducible first | exact HK.out | apply Kept.alloc | apply Kept.drewN | apply Kept.drew) | exact HK.out)) (fun k_ e_ => (HO_0.out.1 k_ e_))); replace HO_0 := Aside0.mk hp_; clear hg hw hp_; have p6 : 0 ≤ (x5_1 : Int) := sa; have q6 : (x5_1 : Int) < ((x0_1.length : Int) : Int) := sa; obtain ⟨ce6, hcl6, hM6, hcc6, hfr6⟩ := Kd.R_elem HO_0.out z128 (x5_1 : Int) p6 q6; obtain rfl := k128_openM hM6; have hx6_0 : w9.cell? ⟨go5, (x5_1 : Int).toNat * 2, none⟩ = some (.int .i64 ((rd_T128 y276 x5_1).f0)) := hcc6 0 _ rfl; have hx6_1 : w9.cell? ⟨go5, (x5_1 : Int).toNat * 2 + 1, none⟩ = some (.int .i64 ((rd_T128 y276 x5_1).f1)) := hcc6 1 _ rfl; have hf6_0 : w9.frozen? ⟨go5, (x5_1 : Int).toNat * 2, none⟩ = false := hfr6 0; have hf6_1 : w9.frozen? ⟨go5, (x5_1 : Int).toNat * 2 + 1, none⟩ = false := hfr6 1; (try clear hcl6); (try clear hcc6); (try clear hfr6); (try clear hM6); replace p6 := eq_true p6; replace q6 := eq_true q6; have HX10 := Aside0.mk (show Kd.R k128 128 w9 w0.heap.size (fun k_ => (P0_ k_ ∨ w.heap.size ≤ k_)) (.slice (some ⟨go5, 0, none⟩) x0_1.length co7) y276 from (sr HO_0)); obtain ⟨ce10, hcl10, hM10, hcc10, hfr10⟩ := Kd.R_elem HX10.out z128 (x5_1 : Int) (sa) (by have h_ : (x5_1 : Int) < ((x0_1.length : Int) : Int) := sa; first | exact h_ | (have e_ := (Kd.R_reads' HO_0.out).1; omega) | simpa using h_); obtain rfl := k128_openM hM10; have HP10 := Kd.R_seg HX10.out (x5_1 : Int) (sa) (by have h_ : (x5_1 : Int) < ((x0_1.length : Int) : Int) := sa; first | exact h_ | (have e_ := (Kd.R_reads' HO_0.out).1; omega) | simpa using h_) (seg := [.int .i64 (wrap64 (x1_1 + 1))]) (j := 1) hcl10 hcc10 (show 2 ≤ 2 from by decide) (x' := (⟨(rd_T128 y276 x5_1).f0, wrap64 (x1_1 + 1)⟩ : S128)) (k128_mkM _ _ _ (⟨(rd_T128 y276 x5_1).f0, wrap64 (x1_1 + 1)⟩ : S128) ) (fun _ hk => hk); have hx10_1 := hcc10 1 _ rfl; (try simp only [show (k128).sz = 2 from rfl, Nat.mul_one, Nat.add_zero] at hx10_1); have hf10_1 := hfr10 1; (try simp only [show (k128).sz = 2 from rfl, Nat.mul_one, Nat.add_zero] at hf10_1); (try clear hcl10); (try clear hcc10); (try clear hfr10); (try clear hM10)) | ((with_reducible refine gate_store (t := 3) (p := 23) rfl ?_); refine store_event (t := 3) (p := 23) (v := ?vo_w11) (w1 := (w9.setCell ⟨go5, (x5_1 : Int).toNat * 2 + 1, none⟩ (.int .i64 (wrap64 (x1_1 + 1))))) ?hg ?ho ?hn ?hr ?_; (case ho => rfl); (case hg => rfl); (case hn => rfl); (case hr => first | (go_simp; done) | (go_simp; rfl)); intro w11 hw; have hg : w9.grownBy w11 (some go5) := (by rw [hw]; exact HP10.2); have hp_ : Kd.R k128 128 w11 w0.heap.size (fun k_ => (P0_ k_ ∨ w.heap.size ≤ k_)) (.slice (some ⟨go5, 0, none⟩) x0_1.length co7) y277 := (by rw [hw, Ny277.out]; exact HP10.1); clear HP10; replace HB := Aside0.mk ((by rw [hw]; exact below_set (HB.out) GB5.out : Below w0.heap.size w0 w11)); replace HK := Aside0.mk (Kept.of_grown (S := (fun k_ => P0_ k_)) hg (by repeat (first | (with_reducible first | exact HK.out | apply Kept.alloc | apply Kept.drewN | apply Kept.drew) | exact HK.out)) (fun k_ e_ => (HO_0.out.1 k_ e_))); replace HO_0 := Aside0.mk hp_; clear hg hw hp_))
    go_roundg k1
    case measure => have := HK1.out; omega
    case rel => exact ⟨(y277), (wrap64 ((wrap64 (x1_1 + 1)) + 1)), (wrap64 (x5_1 + 1)), sc, sc, H', kk1, ⟨sr HO_0⟩, ⟨by repeat (first | (with_reducible first | exact HK.out | apply Kept.alloc | apply Kept.drewN | apply Kept.drew) | exact HK.out)⟩, ⟨sb⟩⟩
   ·have c3b0 := decide_eq_false c3
    clear c3
    simp only [Option.some.injEq, Prod.mk.injEq] at H
    obtain ⟨rfl, rfl⟩ := H
    obtain ⟨Ao12, co12, eo12⟩ := Kd.R_slice HO_0.out
    subst eo12
    go_wp2
    go_ret
    exact ⟨se, sr HO_0, sb, by repeat (first | (with_reducible first | exact HK.out | apply Kept.alloc | apply Kept.drewN | apply Kept.drew) | exact HK.out)⟩

end Go.Proofs.Ytlakjlolahjphaa.QFnExactUseSpans
