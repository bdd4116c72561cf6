/- Printed by a program of the session. Conditions: none. (squeezed). -/
import Derived.Test.YtiihaabhjphaeaaVFnMarginsQFnMarginsx14
namespace Go.Proofs.Ytiihaabhjphaeaa.QFnMargins
set_option maxHeartbeats 8000000
set_option maxRecDepth 100000
open Go.RowKit Go.Proofs.YtiihaabhjphaeaaW.PrintWords Go.Proofs.YtiihaabhjphaeaaW.PrintLast Go.Proofs.YtiihaabhjphaeaaW.PrintMore Go.Proofs.Ytiihaabhjphaeaa.Open Go.Proofs.Ytiihaabhjphaeaa.Sq
attribute [local go_sem] max2_int min2_int max_two min_two max_three min_three max_four min_four   -- for this text's walks alone
attribute [local go_sem] isSome_set
set_option linter.unusedVariables false
set_option linter.unusedSimpArgs false

mutual
def impl_ticks.l0 : Nat → List Bool → List (S102) → Int → Int → Option (List Bool)
  | 0, _, _, _, _ => none
  | k + 1, x3, x8, x9, x10 => if x10 < x9 then (if 0 ≤ x10 then (if x10 < (x8.length : Int) then ((impl_IsSpan.f ((rd_T102 x8 x10).f0) ((rd_T102 x8 x10).f1)).bind fun t649 => (if t649 = true then (impl_ticks.l1 k x3 ((rd_T102 x8 x10).f0) x8 x9 x10 ((rd_T102 x8 x10).f0) ((rd_T102 x8 x10).f1)) else (impl_ticks.l0 k x3 x8 x9 (wrap64 (x10 + 1))))) else (none)) else (none)) else (some x3)
def impl_ticks.l1 : Nat → List Bool → Int → List (S102) → Int → Int → Int → Int → Option (List Bool)
  | 0, _, _, _, _, _, _, _ => none
  | k + 1, x3, x6, x8, x9, x10, x649000, x649001 => if x6 < x649001 then (if 0 ≤ x6 then (if x6 < (x3.length : Int) then (impl_ticks.l1 k (x3.set (x6 : Int).toNat true) (wrap64 (x6 + 1)) x8 x9 x10 x649000 x649001) else (none)) else (none)) else (impl_ticks.l0 k x3 x8 x9 (wrap64 (x10 + 1)))
end
def impl_ticks.f (k : Nat) (l0 : List (S102)) : Option (List Bool) := if 1000 ≤ 281474976710656 then (impl_ticks.l0 k (List.replicate 1000 false) l0 (l0.length : Int) 0) else (none)
theorem impl_ticks.mono_l : ∀ k, (∀ y0 y1 y2 y3, LeO (impl_ticks.l0 k y0 y1 y2 y3) (impl_ticks.l0 (k + 1) y0 y1 y2 y3)) ∧ (∀ y0 y1 y2 y3 y4 y5 y6, LeO (impl_ticks.l1 k y0 y1 y2 y3 y4 y5 y6) (impl_ticks.l1 (k + 1) y0 y1 y2 y3 y4 y5 y6))
  | 0 => ⟨fun _ _ _ _ r h => by simp [impl_ticks.l0] at h, fun _ _ _ _ _ _ _ r h => by simp [impl_ticks.l1] at h⟩
  | k + 1 => by
    obtain ⟨ih0, ih1⟩ := impl_ticks.mono_l k
    refine ⟨?_, ?_⟩
    · intro y0 y1 y2 y3
      unfold impl_ticks.l0
      exact mo
    · intro y0 y1 y2 y3 y4 y5 y6
      unfold impl_ticks.l1
      exact mo
theorem impl_ticks.mono : ∀ a0 k, LeO (impl_ticks.f k a0) (impl_ticks.f (k + 1) a0) := by
  intro a0 k
  obtain ⟨ih0, ih1⟩ := impl_ticks.mono_l k
  unfold impl_ticks.f
  exact mo
theorem impl_ticks.calls (k : Nat) (A0 : Option Addr) (c0 : Nat) (l0 : List (S102)) (r : List Bool) (w : World) (hr0 : Kd.C k102 w A0 l0.length l0) (hc0 : l0.length ≤ c0) (h : impl_ticks.f k l0 = some r) :
    Calls Try.prog 146 #[.slice A0 l0.length c0] w fun e w' => ∃ v0_ : Value, e = .returned (v0_) ∧ Kd.R Kd.bool 4 w' w.heap.size (fun _ => True) v0_ r ∧ Below w.heap.size w w' := by
 have hu102 := Try.underlying102
 have HR0 := am hr0
 have HC0 := am hc0
 clear hr0 hc0
 have HB := am (Below.refl w.heap.size w)
 have H : (if 1000 ≤ 281474976710656 then (impl_ticks.l0 k (List.replicate 1000 false) l0 (l0.length : Int) 0) else (none)) = some r := h
 clear h
 obtain ⟨c2, H⟩ := ia_ H
 have c2b0 := eq_true c2
 have c2b1 := decide_eq_true c2
 clear c2
 obtain ⟨y644, hy644⟩ : ∃ y_ : List Bool, y_ = (List.replicate 1000 false) := ⟨_, rfl⟩
 replace H : (impl_ticks.l0 k y644 l0 (l0.length : Int) 0) = some r := ry hy644 H
 have Ny644 := am hy644
 clear hy644
 have H' := am H
 clear H
 go_enter Try.func146, Try.ntmps146
 go_wp2_with (first | ((with_reducible refine gd 7 rfl ?_); refine Kd.R_make Kd.bool _ 4 rfl (N := 7) rfl 98 _ _ rfl 1000 rfl rfl Try.underlying98 (.bool false) 1 info4 rfl (by decide) (by omega) false (ok := fun _ => True) (okp := fun _ => True) rfl (fun _ hk => hk) trivial (by omega) (by omega) (Below.refl _ _) (Nat.le_refl _) ?_; intro v645 w3 ho4 hb hg_ hnew_; clear hg_ hnew_; (first | rw [← Ny644.out] at ho4 | (simp only [Int.reduceToNat] at ho4; rw [← Ny644.out] at ho4)); have HO646 := am (Kd.R_lower ho4 (below_size (sb))); replace HB := bs hb; clear hb ho4))
 go_loopg [10] k (fun kq v10 w' => ∃ (x3_1 : List Bool) (x10_1 : Int), v10 = .int .i64 x10_1 ∧ Aside0 (impl_ticks.l0 kq x3_1 l0 (l0.length : Int) x10_1 = some r) ∧ Aside0 (kq ≤ k) ∧ Aside0 (Kd.R Kd.bool 4 w' w.heap.size (fun _ => True) v645 x3_1) ∧ Aside0 (Below w.heap.size w w'))
 case atStart => exact ⟨(y644), (0), sc, H', kk0, ⟨sr HO646⟩, ⟨sb⟩⟩
 case round =>
  clear H'
  try clear c2
  try clear c2b0
  try clear c2b1
  obtain ⟨x3_1, x10_1, rfl, HA, HK1, HO_3, HB⟩ := hrel
  cases gk with
  | zero => exact absurd HA.out (by simp [impl_ticks.l0])
  | succ k1 =>
   have H := HA.out
   clear HA
   simp only [impl_ticks.l0] at H
   obtain ⟨c5, H⟩ | ⟨c5, H⟩ := ie_ H
   ·have c5b0 := decide_eq_true c5
    clear c5
    obtain ⟨c6b0, H⟩ := id_ H
    obtain ⟨c7b0, H⟩ := id_ H
    obtain ⟨t649, A8, H⟩ := bnd H
    obtain rfl | rfl := tt t649
    ·replace H := ip H
     have H' := am H
     clear H
     obtain ⟨p647, q647, ad647, e647, _, _, hx647_0, hx647_1⟩ := aT_T102 HR0 HB x10_1
     cases e647
     go_wp2_with (first | ((with_reducible refine gd 5 rfl ?_); refine bx 5 #[.int .i64 0, .int .i64 0] 102 ?_; intro gb648 hg w10 hbox hb; replace HO_3 := rb HO_3 hb; have GW648 := bz w hg; have GE648 := bz w hg; replace HB := bs hb; have BK648 := am hbox; clear hb hbox hg; obtain ⟨hcz11_0, hcz11_1, hfz11_0, hfz11_1⟩ := cc2 BK648) | ((with_reducible refine gc 79 rfl ?_); refine gL (some 15) Try.func79 #[.agg #[.int .i64 ((rd_T102 l0 x10_1).f0), .int .i64 ((rd_T102 l0 x10_1).f1)]] ?_; (with_reducible refine (impl_IsSpan.calls ((rd_T102 l0 x10_1).f0) ((rd_T102 l0 x10_1).f1) true _ A8.out).mono ?_); rintro e w12 ⟨rfl, hb⟩; refine ⟨_, rfl, ?_⟩; replace HO_3 := am (Kd.R_below (by (with_reducible repeat (first | apply Kd.R_alloc | apply Kd.R_drewN | apply Kd.R_drew)); exact (Kd.R_mono (Kd.R_far (p := ⟨gb648, 1, none⟩) (Kd.R_far (p := ⟨gb648, 0, none⟩) (Kd.R_types HO_3.out BK648.out (by decide)) (fun _ hk => hk.2) (.int .i64 ((rd_T102 l0 x10_1).f0))) (fun _ hk => hk.2) (.int .i64 ((rd_T102 l0 x10_1).f1))) (fun _ h_ => h_.1))) hb); replace BK648 := am (blk_below (g := gb648) (o := .cells #[.int .i64 ((rd_T102 l0 x10_1).f0), .int .i64 ((rd_T102 l0 x10_1).f1)] 102 (0, 0)) (sp BK648) hb); replace HB := bsw hb; (try clear hb); (try clear hb2); (try clear hk); (try clear hi); obtain ⟨hcz13_0, hcz13_1, hfz13_0, hfz13_1⟩ := cc2 BK648))
     go_loopg [6] k1 (fun kq v6 w' => ∃ (x3_2 : List Bool) (x6_2 : Int), v6 = .int .i64 x6_2 ∧ Aside0 (impl_ticks.l1 kq x3_2 x6_2 l0 (l0.length : Int) x10_1 ((rd_T102 l0 x10_1).f0) ((rd_T102 l0 x10_1).f1) = some r) ∧ Aside0 (kq ≤ k1) ∧ Aside0 (Kd.R Kd.bool 4 w' w.heap.size (fun _ => True) v645 x3_2) ∧ Aside0 (w'.heap[gb648]? = some (.cells #[.int .i64 ((rd_T102 l0 x10_1).f0), .int .i64 ((rd_T102 l0 x10_1).f1)] 102 (0, 0))) ∧ Aside0 (Below w.heap.size w w'))
     case atStart => exact ⟨(x3_1), ((rd_T102 l0 x10_1).f0), sc, H', kk0, ⟨sr HO_3⟩, ⟨sk BK648⟩, ⟨sbw⟩⟩
     case round =>
      clear H'
      try clear c2
      try clear c2b0
      try clear c2b1
      try clear c5
      try clear c5b0
      try clear c6b0
      try clear c7b0
      try clear hx647_0
      try clear hx647_1
      try clear p647
      try clear q647
      obtain ⟨x3_2, x6_2, rfl, HA, HK2, HO_3, BK648, HB⟩ := hrel
      cases gk with
      | zero => exact absurd HA.out (by simp [impl_ticks.l1])
      | succ k2 =>
       have H := HA.out
       clear HA
       simp only [impl_ticks.l1] at H
       obtain ⟨c14, H⟩ | ⟨c14, H⟩ := ie_ H
       ·have c14b0 := decide_eq_true c14
        clear c14
        obtain ⟨c15b0, H⟩ := id_ H
        obtain ⟨c16b0, H⟩ := id_ H
        obtain ⟨y650, hy650⟩ : ∃ y_ : List Bool, y_ = (x3_2.set (x6_2 : Int).toNat true) := ⟨_, rfl⟩
        replace H : (impl_ticks.l1 k2 y650 (wrap64 (x6_2 + 1)) l0 (l0.length : Int) x10_1 ((rd_T102 l0 x10_1).f0) ((rd_T102 l0 x10_1).f1)) = some r := ry hy650 H
        have Ny650 := am hy650
        clear hy650
        have H' := am H
        clear H
        obtain ⟨hcz18_0, hcz18_1, hfz18_0, hfz18_1⟩ := cc2 BK648
        have p17 : 0 ≤ (x6_2 : Int) := sa
        have q17 : (x6_2 : Int) < ((x3_2.length : Int) : Int) := sa
        obtain ⟨go17, co17, eo17, gb17, gl17, cl17, HG17⟩ := Kd.R_form HO_3.out (by omega)
        (first | cases eo17 | (injection eo17 with ea_ en_ ec_; (first | subst ea_ | (injection ea_ with ea_; subst ea_)); subst ec_; clear en_))
        have GB17 := am gb17
        have GG17 := am HG17
        clear gb17 gl17 HG17
        obtain ⟨hx17_0, hf17_0⟩ := Kd.R_celln false HO_3.out (x6_2 : Int) p17 q17
        replace p17 := eq_true p17
        replace q17 := eq_true q17
        have HP19 := Kd.R_putg HO_3.out (x6_2 : Int) true
        go_wp2_with (first | ((with_reducible refine gate_store (t := 4) (p := 26) rfl ?_); refine store_event (t := 4) (p := 26) (v := ?vo_w20) (w1 := (wr.setCell ⟨go17, (x6_2 : Int).toNat, none⟩ (.bool true))) ?hg ?ho ?hn ?hr ?_; (case ho => rfl); (case hg => rfl); (case hn => rfl); (case hr => first | (go_simp; done) | (go_simp; rfl)); intro w20 hw; have hg : wr.grownBy w20 (some go17) := (by rw [hw]; exact HP19.2); have hp_ : Kd.R Kd.bool 4 w20 w.heap.size (fun _ => True) (.slice (some ⟨go17, 0, none⟩) x3_2.length co17) y650 := (by rw [hw, Ny650.out]; exact HP19.1); clear HP19; replace BK648 := am (blk_grown (g := gb648) (o := .cells #[.int .i64 ((rd_T102 l0 x10_1).f0), .int .i64 ((rd_T102 l0 x10_1).f1)] 102 (0, 0)) (sk BK648) hg (Kd.R_ne HO_3.out BK648.out (by decide))); replace HO_3 := am hp_; replace HB := am ((by rw [hw]; exact below_set (HB.out) GB17.out : Below w.heap.size w w20)); clear hg hw hp_))
        go_roundg k2
        case measure => have := HK1.out; have := HK2.out; omega
        case rel => exact ⟨(y650), (wrap64 (x6_2 + 1)), sc, H', kk2, ⟨sr HO_3⟩, ⟨sk BK648⟩, ⟨sbw⟩⟩
       ·have c14b0 := decide_eq_false c14
        clear c14
        have H' := am H
        clear H
        obtain ⟨hcz21_0, hcz21_1, hfz21_0, hfz21_1⟩ := cc2 BK648
        go_wp2
        go_roundg k2
        case measure => have := HK1.out; have := HK2.out; omega
        case rel => exact ⟨(x3_2), (wrap64 (x10_1 + 1)), sc, H', kk2, ⟨sr HO_3⟩, ⟨sbw⟩⟩
    ·replace H := im H
     have H' := am H
     clear H
     obtain ⟨p647, q647, ad647, e647, _, _, hx647_0, hx647_1⟩ := aT_T102 HR0 HB x10_1
     cases e647
     go_wp2_with (first | ((with_reducible refine gd 5 rfl ?_); refine bx 5 #[.int .i64 0, .int .i64 0] 102 ?_; intro gb648 hg w22 hbox hb; replace HO_3 := rb HO_3 hb; have GW648 := bz w hg; have GE648 := bz w hg; replace HB := bs hb; have BK648 := am hbox; clear hb hbox hg; obtain ⟨hcz23_0, hcz23_1, hfz23_0, hfz23_1⟩ := cc2 BK648) | ((with_reducible refine gc 79 rfl ?_); refine gL (some 15) Try.func79 #[.agg #[.int .i64 ((rd_T102 l0 x10_1).f0), .int .i64 ((rd_T102 l0 x10_1).f1)]] ?_; (with_reducible refine (impl_IsSpan.calls ((rd_T102 l0 x10_1).f0) ((rd_T102 l0 x10_1).f1) false _ A8.out).mono ?_); rintro e w24 ⟨rfl, hb⟩; refine ⟨_, rfl, ?_⟩; replace HO_3 := am (Kd.R_below (by (with_reducible repeat (first | apply Kd.R_alloc | apply Kd.R_drewN | apply Kd.R_drew)); exact (Kd.R_mono (Kd.R_far (p := ⟨gb648, 1, none⟩) (Kd.R_far (p := ⟨gb648, 0, none⟩) (Kd.R_types HO_3.out BK648.out (by decide)) (fun _ hk => hk.2) (.int .i64 ((rd_T102 l0 x10_1).f0))) (fun _ hk => hk.2) (.int .i64 ((rd_T102 l0 x10_1).f1))) (fun _ h_ => h_.1))) hb); replace BK648 := am (blk_below (g := gb648) (o := .cells #[.int .i64 ((rd_T102 l0 x10_1).f0), .int .i64 ((rd_T102 l0 x10_1).f1)] 102 (0, 0)) (sp BK648) hb); replace HB := bsw hb; (try clear hb); (try clear hb2); (try clear hk); (try clear hi)))
     go_roundg k1
     case measure => have := HK1.out; omega
     case rel => exact ⟨(x3_1), (wrap64 (x10_1 + 1)), sc, H', kk1, ⟨sr HO_3⟩, ⟨sbw⟩⟩
   ·have c5b0 := decide_eq_false c5
    clear c5
    obtain rfl := Option.some.inj H
    go_wp2
    go_ret
    exact ⟨_, se, sr HO_3, sb⟩

-- NOT PRINTED: function 147 (impl_JoinSpans_1)

theorem impl_JoinSpans.lit (A : Option Addr) (c : Nat) (bs : List Bool) (t : Int) (q : Bool) (g : Nat) (W : World) (hr : Kd.C Kd.bool W A bs.length bs) (hg : W.cell? ⟨g, 0, none⟩ = some (.slice A bs.length c)) (h : (if 0 ≤ t then (if t < (bs.length : Int) then some (rdOf false bs t) else none) else none) = some q) :
    Calls Try.prog 147 #[.int .i64 t, .pointer (some ⟨g, 0, none⟩)] W fun e w' => e = .returned (.bool q) ∧ Below W.heap.size W w' := by
  by_cases h0 : 0 ≤ t
  · rw [if_pos h0] at h
    by_cases h1 : t < (bs.length : Int)
    · rw [if_pos h1] at h
      obtain rfl := Option.some.inj h
      obtain ⟨ad, rfl, hx⟩ := Kd.at_bool hr t h0 h1
      have p5 : (0 ≤ t) = True := eq_true h0
      have q5 : (t < (bs.length : Int)) = True := eq_true h1
      go_enter Try.func147, Try.ntmps147
      go_wp2
      go_ret
      refine ⟨rfl, ?_⟩
      repeat (first | (with_reducible first | exact Below.refl _ _ | apply below_alloc | apply pw_below_drewN | apply below_drew1) | exact Below.refl _ _)
    · rw [if_neg h1] at h
      cases h
  · rw [if_neg h0] at h
    cases h
def impl_JoinSpans.sw.l0 (h_ : Int → Option Bool) : Nat → Int → List (S102) → Int → Option ((List (S102)))
  | 0, _, _, _ => none
  | k + 1, x1, x7, x8 => if x8 < (mn x1 1000) then ((h_ x8).bind fun t516 => (if t516 = true then (if (wrap64 ((x7.length : Int) - 1)) ≥ 0 then (if 0 ≤ (wrap64 ((x7.length : Int) - 1)) then (if (wrap64 ((x7.length : Int) - 1)) < (x7.length : Int) then (if ((rd_T102 x7 (wrap64 ((x7.length : Int) - 1))).f1) = x8 then (impl_JoinSpans.sw.l0 h_ k x1 (x7.set ((wrap64 ((x7.length : Int) - 1)) : Int).toNat (⟨(rd_T102 x7 (wrap64 ((x7.length : Int) - 1))).f0, wrap64 (((rd_T102 x7 (wrap64 ((x7.length : Int) - 1))).f1) + 1)⟩ : S102)) (wrap64 (x8 + 1))) else (if x7.length < 8796093022208 then (impl_JoinSpans.sw.l0 h_ k x1 (x7 ++ [(⟨x8, wrap64 (x8 + 1)⟩ : S102)]) (wrap64 (x8 + 1))) else (none))) else (none)) else (none)) else (if x7.length < 8796093022208 then (impl_JoinSpans.sw.l0 h_ k x1 (x7 ++ [(⟨x8, wrap64 (x8 + 1)⟩ : S102)]) (wrap64 (x8 + 1))) else (none))) else (impl_JoinSpans.sw.l0 h_ k x1 x7 (wrap64 (x8 + 1))))) else (some x7)
def impl_JoinSpans.sw.f (h_ : Int → Option Bool) (k : Nat) (a0 : Int) (a1 : Int) (a2 : Int) : Option ((List (S102))) := impl_JoinSpans.sw.l0 h_ k a1 (([] : List (S102))) (mx a0 0)
theorem impl_JoinSpans.sw.mono_l (h_ : Int → Option Bool) : ∀ k, (∀ y0 y1 y2, LeO (impl_JoinSpans.sw.l0 h_ k y0 y1 y2) (impl_JoinSpans.sw.l0 h_ (k + 1) y0 y1 y2))
  | 0 => fun _ _ _ r h => by simp [impl_JoinSpans.sw.l0] at h
  | k + 1 => by
    have ih0 := impl_JoinSpans.sw.mono_l h_ k
    · intro y0 y1 y2
      unfold impl_JoinSpans.sw.l0
      exact mo
theorem impl_JoinSpans.sw.mono (h_ : Int → Option Bool) : ∀ a0 a1 a2 k, LeO (impl_JoinSpans.sw.f h_ k a0 a1 a2) (impl_JoinSpans.sw.f h_ (k + 1) a0 a1 a2) := by
  intro a0 a1 a2 k
  have ih0 := impl_JoinSpans.sw.mono_l h_ k
  unfold impl_JoinSpans.sw.f
  exact mo
theorem impl_JoinSpans.sw.mono_h {h_ h2_ : Int → Option Bool} (hh : ∀ t, LeO (h_ t) (h2_ t)) : ∀ k, (∀ y0 y1 y2, LeO (impl_JoinSpans.sw.l0 h_ k y0 y1 y2) (impl_JoinSpans.sw.l0 h2_ k y0 y1 y2))
  | 0 => fun _ _ _ r h => by simp [impl_JoinSpans.sw.l0] at h
  | k + 1 => by
    have ih0 := impl_JoinSpans.sw.mono_h hh k
    have m7 := hh
    intro y0 y1 y2
    unfold impl_JoinSpans.sw.l0
    exact mo
theorem impl_JoinSpans.sw.calls (h_ : Int → Option Bool) (gp : Nat) (k : Nat) (a0 : Int) (a1 : Int) (a2 : Int) (r : List (S102)) (w : World) (hh : ∀ (t : Int) (q : Bool) (W : World), Below w.heap.size w W → h_ t = some q → Calls Try.prog 147 #[.int .i64 t, .pointer (some ⟨gp, 0, none⟩)] W fun e w' => e = .returned (.bool q) ∧ Below W.heap.size W w') (h : impl_JoinSpans.sw.f h_ k a0 a1 a2 = some r) :
    Calls Try.prog 91 #[.int .i64 a0, .int .i64 a1, .func (.func 147) #[] #[.pointer (some ⟨gp, 0, none⟩)]] w fun e w' => ∃ v0_ : Value, e = .returned (v0_) ∧ Kd.R k102 102 w' w.heap.size (fun _ => True) v0_ r ∧ Below w.heap.size w w' := by
 have hu102 := Try.underlying102
 have HB := am (Below.refl w.heap.size w)
 have H : (impl_JoinSpans.sw.l0 h_ k a1 (([] : List (S102))) (mx a0 0)) = some r := h
 clear h
 obtain ⟨y513, hy513⟩ : ∃ y_ : List (S102), y_ = (([] : List (S102))) := ⟨_, rfl⟩
 replace H : (impl_JoinSpans.sw.l0 h_ k a1 y513 (mx a0 0)) = some r := ry hy513 H
 have Ny513 := am hy513
 clear hy513
 obtain ⟨ji4, hji4⟩ : ∃ j_ : Int, (mx a0 0) = j_ := ⟨_, rfl⟩
 replace H : (impl_JoinSpans.sw.l0 h_ k a1 y513 ji4) = some r := by first | (rw [hji4] at H; exact H) | (simp only [hji4] at H ⊢; exact H)
 (try (have hji4l : 0 ≤ ji4 := by (rw [← hji4]; unfold mx; (repeat' split) <;> omega)))
 (try (have hji4m : 0 ≤ ji4 := by omega))
 have hji4_ : (if a0 < 0 then 0 else a0) = ji4 := hji4
 have H' := am H
 clear H
 go_enter Try.func91, Try.ntmps91
 go_wp2_with (first | ((with_reducible refine gd 10 rfl ?_); refine Kd.R_lit k102 _ 102 ?hg (N := 10) ?hd (xs := ([] : List (S102))) (inner := []) (ok := fun _ => True) (okp := fun _ => True) ?hr ?hp (fun _ hk => hk) trivial (Below.refl _ _) (Nat.le_refl _) (by simp) ?_; (case hd => rfl); (case hg => rfl); (case hr => first | (go_simp; done) | (go_simp; rfl)); (case hp => exact (Reps.none _ _)); intro v514 w5 ho6 hb hg_ hnew_; clear hg_ hnew_; (first | rw [← Ny513.out] at ho6 | (simp only [Int.reduceToNat] at ho6; rw [← Ny513.out] at ho6)); have HO515 := am (Kd.R_lower ho6 (below_size (sb))); replace HB := bs hb; clear hb ho6))
 go_loopg [7, 8] k (fun kq v7 v8 w' => ∃ (x7_1 : List (S102)) (x8_1 : Int), v8 = .int .i64 x8_1 ∧ Aside0 (impl_JoinSpans.sw.l0 h_ kq a1 x7_1 x8_1 = some r) ∧ Aside0 (kq ≤ k) ∧ Aside0 (Kd.R k102 102 w' w.heap.size (fun _ => True) v7 x7_1) ∧ Aside0 (Below w.heap.size w w'))
 case atStart => exact ⟨(y513), (ji4), (by first | rfl | (simp; done) | (simp only [← hji4] <;> (first | rfl | simp)) | (simp [*]; done)), H', kk0, ⟨sr HO515⟩, ⟨sb⟩⟩
 case round =>
  clear H'
  obtain ⟨x7_1, x8_1, rfl, HA, HK1, HO_7, HB⟩ := hrel
  cases gk with
  | zero => exact absurd HA.out (by simp [impl_JoinSpans.sw.l0])
  | succ k1 =>
   have H := HA.out
   clear HA
   simp only [impl_JoinSpans.sw.l0] at H
   obtain ⟨ji7, hji7⟩ : ∃ j_ : Int, (mn a1 1000) = j_ := ⟨_, rfl⟩
   replace H : (if x8_1 < (ji7) then ((h_ x8_1).bind fun t516 => (if t516 = true then (if (wrap64 ((x7_1.length : Int) - 1)) ≥ 0 then (if 0 ≤ (wrap64 ((x7_1.length : Int) - 1)) then (if (wrap64 ((x7_1.length : Int) - 1)) < (x7_1.length : Int) then (if ((rd_T102 x7_1 (wrap64 ((x7_1.length : Int) - 1))).f1) = x8_1 then (impl_JoinSpans.sw.l0 h_ k1 a1 (x7_1.set ((wrap64 ((x7_1.length : Int) - 1)) : Int).toNat (⟨(rd_T102 x7_1 (wrap64 ((x7_1.length : Int) - 1))).f0, wrap64 (((rd_T102 x7_1 (wrap64 ((x7_1.length : Int) - 1))).f1) + 1)⟩ : S102)) (wrap64 (x8_1 + 1))) else (if x7_1.length < 8796093022208 then (impl_JoinSpans.sw.l0 h_ k1 a1 (x7_1 ++ [(⟨x8_1, wrap64 (x8_1 + 1)⟩ : S102)]) (wrap64 (x8_1 + 1))) else (none))) else (none)) else (none)) else (if x7_1.length < 8796093022208 then (impl_JoinSpans.sw.l0 h_ k1 a1 (x7_1 ++ [(⟨x8_1, wrap64 (x8_1 + 1)⟩ : S102)]) (wrap64 (x8_1 + 1))) else (none))) else (impl_JoinSpans.sw.l0 h_ k1 a1 x7_1 (wrap64 (x8_1 + 1))))) else (some x7_1)) = some r := by first | (rw [hji7] at H; exact H) | (simp only [hji7] at H ⊢; exact H)
   have hji7_ : (if 1000 < a1 then 1000 else a1) = ji7 := hji7
   obtain ⟨c8, H⟩ | ⟨c8, H⟩ := ie_ H
   ·have c8b0 := decide_eq_true c8
    clear c8
    obtain ⟨t516, A9, H⟩ := bnd H
    obtain rfl | rfl := tt t516
    ·replace H := ip H
     obtain ⟨c11, H⟩ | ⟨c11, H⟩ := ie_ H
     ·have c11b0 := decide_eq_true c11
      clear c11
      obtain ⟨ji12, hji12⟩ : ∃ j_ : Int, (wrap64 ((x7_1.length : Int) - 1)) = j_ := ⟨_, rfl⟩
      replace H : (if 0 ≤ (ji12) then (if (ji12) < (x7_1.length : Int) then (if ((rd_T102 x7_1 (ji12)).f1) = x8_1 then (impl_JoinSpans.sw.l0 h_ k1 a1 (x7_1.set ((ji12) : Int).toNat (⟨(rd_T102 x7_1 (ji12)).f0, wrap64 (((rd_T102 x7_1 (ji12)).f1) + 1)⟩ : S102)) (wrap64 (x8_1 + 1))) else (if x7_1.length < 8796093022208 then (impl_JoinSpans.sw.l0 h_ k1 a1 (x7_1 ++ [(⟨x8_1, wrap64 (x8_1 + 1)⟩ : S102)]) (wrap64 (x8_1 + 1))) else (none))) else (none)) else (none)) = some r := by first | (rw [hji12] at H; exact H) | (simp only [hji12] at H ⊢; exact H)
      (try rw [hji12] at c11b0)
      (try rw [hji12] at A9)
      have hji12w : (IntKind.i64.wrap ((x7_1.length : Int) - 1)) = ji12 := (i64_w _).trans hji12
      obtain ⟨c13b0, H⟩ := id_ H
      obtain ⟨c14b0, H⟩ := id_ H
      obtain ⟨c15, H⟩ | ⟨c15, H⟩ := ie_ H
      ·have c15b0 : (((rd_T102 x7_1 (ji12)).f1) == x8_1) = true := beq_iff_eq.mpr c15
       have c15b1 : (((rd_T102 x7_1 (ji12)).f1) != x8_1) = false := bne_eq_false_iff_eq.mpr c15
       clear c15
       obtain ⟨y519, hy519⟩ : ∃ y_ : List (S102), y_ = (x7_1.set ((ji12) : Int).toNat (⟨(rd_T102 x7_1 (ji12)).f0, wrap64 (((rd_T102 x7_1 (ji12)).f1) + 1)⟩ : S102)) := ⟨_, rfl⟩
       replace H : (impl_JoinSpans.sw.l0 h_ k1 a1 y519 (wrap64 (x8_1 + 1))) = some r := ry hy519 H
       have Ny519 := am hy519
       clear hy519
       have H' := am H
       clear H
       go_wp2_with (first | (go_at_call 147; refine (hh x8_1 true _ (sb) A9.out).mono ?_; rintro e w17 ⟨rfl, hb⟩; replace HO_7 := rb HO_7 hb; replace HB := bs hb; (try clear hb); (try clear hb2); (try clear hk); (try clear hi); obtain ⟨Ao18, co18, eo18⟩ := Kd.R_slice HO_7.out; subst eo18; have p517 : 0 ≤ ((ji12) : Int) := sa; have q517 : (ji12) < (x7_1.length : Int) := sa; obtain ⟨ad517, e517, hx517_0, hx517_1⟩ := at_T102 (Kd.R_reads' HO_7.out).2.2 (ji12) p517 q517; cases e517; replace p517 := eq_true p517; replace q517 := eq_true q517; have p518 : 0 ≤ ((ji12) : Int) := sa; have q518 : (ji12) < (x7_1.length : Int) := sa; obtain ⟨ad518, e518, hx518_0, hx518_1⟩ := at_T102 (Kd.R_reads' HO_7.out).2.2 (ji12) p518 q518; obtain rfl : ad517 = ad518 := (by injection e518); replace p518 := eq_true p518; replace q518 := eq_true q518; have p16 : 0 ≤ ((ji12) : Int) := sa; have q16 : ((ji12) : Int) < ((x7_1.length : Int) : Int) := sa; obtain ⟨go16, co16, eo16, gb16, gl16, cl16, HG16⟩ := Kd.R_form HO_7.out (by omega); (first | cases eo16 | (injection eo16 with ea_ en_ ec_; (first | subst ea_ | (injection ea_ with ea_; subst ea_)); subst ec_; clear en_)); have GB16 := am gb16; have GG16 := am HG16; clear gb16 gl16 HG16; (first | simp only [add_plain] at hx517_0 | skip); (first | simp only [add_plain] at hx517_1 | skip); (first | simp only [add_plain] at hx518_0 | skip); (first | simp only [add_plain] at hx518_1 | skip); obtain ⟨ce16, hcl16, hM16, hcc16, hfr16⟩ := Kd.R_elem HO_7.out z102 ((ji12) : Int) p16 q16; obtain rfl := k102_openM hM16; have hx16_0 : w17.cell? ⟨go16, ((ji12) : Int).toNat * 2, none⟩ = some (.int .i64 ((rd_T102 x7_1 (ji12)).f0)) := hcc16 0 _ rfl; have hx16_1 : w17.cell? ⟨go16, ((ji12) : Int).toNat * 2 + 1, none⟩ = some (.int .i64 ((rd_T102 x7_1 (ji12)).f1)) := hcc16 1 _ rfl; have hf16_0 : w17.frozen? ⟨go16, ((ji12) : Int).toNat * 2, none⟩ = false := hfr16 0; have hf16_1 : w17.frozen? ⟨go16, ((ji12) : Int).toNat * 2 + 1, none⟩ = false := hfr16 1; (try clear hcl16); (try clear hcc16); (try clear hfr16); (try clear hM16); replace p16 := eq_true p16; replace q16 := eq_true q16; have HX19 := am (show Kd.R k102 102 w17 w.heap.size (fun _ => True) (.slice (some ⟨go16, 0, none⟩) x7_1.length co18) x7_1 from (sr HO_7)); obtain ⟨ce19, hcl19, hM19, hcc19, hfr19⟩ := Kd.R_elem HX19.out z102 ((ji12) : Int) (sa) (by have h_ : ((ji12) : Int) < ((x7_1.length : Int) : Int) := sa; first | exact h_ | (have e_ := (Kd.R_reads' HO_7.out).1; omega) | simpa using h_); obtain rfl := k102_openM hM19; have HP19 := Kd.R_seg HX19.out ((ji12) : Int) (sa) (by have h_ : ((ji12) : Int) < ((x7_1.length : Int) : Int) := sa; first | exact h_ | (have e_ := (Kd.R_reads' HO_7.out).1; omega) | simpa using h_) (seg := [.int .i64 (wrap64 (((rd_T102 x7_1 (ji12)).f1) + 1))]) (j := 1) hcl19 hcc19 (show 2 ≤ 2 from by decide) (x' := (⟨(rd_T102 x7_1 (ji12)).f0, wrap64 (((rd_T102 x7_1 (ji12)).f1) + 1)⟩ : S102)) (k102_mkM _ _ _ (⟨(rd_T102 x7_1 (ji12)).f0, wrap64 (((rd_T102 x7_1 (ji12)).f1) + 1)⟩ : S102) ) (fun _ hk => hk); have hx19_1 := hcc19 1 _ rfl; (try simp only [show (k102).sz = 2 from rfl, Nat.mul_one, Nat.add_zero] at hx19_1); have hf19_1 := hfr19 1; (try simp only [show (k102).sz = 2 from rfl, Nat.mul_one, Nat.add_zero] at hf19_1); (try clear hcl19); (try clear hcc19); (try clear hfr19); (try clear hM19)) | ((with_reducible refine gate_store (t := 3) (p := 44) rfl ?_); refine store_event (t := 3) (p := 44) (v := ?vo_w20) (w1 := (w17.setCell ⟨go16, ((ji12) : Int).toNat * 2 + 1, none⟩ (.int .i64 (wrap64 (((rd_T102 x7_1 (ji12)).f1) + 1))))) ?hg ?ho ?hn ?hr ?_; (case ho => rfl); (case hg => rfl); (case hn => rfl); (case hr => first | (go_simp; done) | (go_simp; rfl)); intro w20 hw; have hg : w17.grownBy w20 (some go16) := (by rw [hw]; exact HP19.2); have hp_ : Kd.R k102 102 w20 w.heap.size (fun _ => True) (.slice (some ⟨go16, 0, none⟩) x7_1.length co18) y519 := (by rw [hw, Ny519.out]; exact HP19.1); clear HP19; replace HO_7 := am hp_; replace HB := am ((by rw [hw]; exact below_set (HB.out) GB16.out : Below w.heap.size w w20)); clear hg hw hp_))
       go_roundg k1
       case measure => have := HK1.out; omega
       case rel => exact ⟨(y519), (wrap64 (x8_1 + 1)), sc, H', kk1, ⟨sr HO_7⟩, ⟨sb⟩⟩
      ·have c15b0 : (((rd_T102 x7_1 (ji12)).f1) == x8_1) = false := beq_eq_false_iff_ne.mpr c15
       have c15b1 : (((rd_T102 x7_1 (ji12)).f1) != x8_1) = true := bne_iff_ne.mpr c15
       obtain ⟨LMc21, H⟩ := il_ H
       obtain ⟨y520, hy520⟩ : ∃ y_ : List (S102), y_ = (x7_1 ++ [(⟨x8_1, wrap64 (x8_1 + 1)⟩ : S102)]) := ⟨_, rfl⟩
       replace H : (impl_JoinSpans.sw.l0 h_ k1 a1 y520 (wrap64 (x8_1 + 1))) = some r := ry hy520 H
       have Ny520 := am hy520
       clear hy520
       have H' := am H
       clear H
       go_wp2_with (first | (go_at_call 147; refine (hh x8_1 true _ (sb) A9.out).mono ?_; rintro e w22 ⟨rfl, hb⟩; replace HO_7 := rb HO_7 hb; replace HB := bs hb; (try clear hb); (try clear hb2); (try clear hk); (try clear hi); obtain ⟨Ao23, co23, eo23⟩ := Kd.R_slice HO_7.out; subst eo23; have p517 : 0 ≤ ((ji12) : Int) := sa; have q517 : (ji12) < (x7_1.length : Int) := sa; obtain ⟨ad517, e517, hx517_0, hx517_1⟩ := at_T102 (Kd.R_reads' HO_7.out).2.2 (ji12) p517 q517; cases e517; replace p517 := eq_true p517; replace q517 := eq_true q517) | ((with_reducible refine gate_builtin (b := .append) (xs := #[.tmp 45, .tmp 50]) rfl ?_); at_builtin; refine Kd.R_append k102 (w0 := w) w.heap.size rfl (.tmp 45) (.tmp 50) 48 102 (.agg #[(.int .i64 0), (.int .i64 0)]) 16 rfl Try.underlying48 info102 rfl (by decide) (by omega) (.slice (some ad517) x7_1.length co23) x7_1 (⟨x8_1, wrap64 (x8_1 + 1)⟩ : S102) [.int .i64 x8_1, .int .i64 (wrap64 (x8_1 + 1))] (fun _ => True) (fun _ => False) rfl rfl ?aP (fun _ hk => hk.elim) ?aF ?aO ?aB ?aS ?aL ?_; (case aP => exact k102_mkM _ _ _ (⟨x8_1, wrap64 (x8_1 + 1)⟩ : S102)); (case aB => exact (sb)); (case aF => exact (fun _ _ => trivial)); (case aO => exact (sr HO_7)); (case aS => exact (below_size (sb))); (case aL => have := LMc21.out; omega); intro v521 w24 ho hb hg hat; rw [← Ny520.out] at ho; replace HB := am hb; have HO522 := am ho; clear HO_7; clear ho hb hg hat))
       go_roundg k1
       case measure => have := HK1.out; omega
       case rel => exact ⟨(y520), (wrap64 (x8_1 + 1)), sc, H', kk1, ⟨sr HO522⟩, ⟨sb⟩⟩
     ·have c11b0 := decide_eq_false c11
      clear c11
      obtain ⟨LMc25, H⟩ := il_ H
      obtain ⟨y523, hy523⟩ : ∃ y_ : List (S102), y_ = (x7_1 ++ [(⟨x8_1, wrap64 (x8_1 + 1)⟩ : S102)]) := ⟨_, rfl⟩
      replace H : (impl_JoinSpans.sw.l0 h_ k1 a1 y523 (wrap64 (x8_1 + 1))) = some r := ry hy523 H
      have Ny523 := am hy523
      clear hy523
      have H' := am H
      clear H
      go_wp2_with (first | (go_at_call 147; refine (hh x8_1 true _ (sb) A9.out).mono ?_; rintro e w26 ⟨rfl, hb⟩; replace HO_7 := rb HO_7 hb; replace HB := bs hb; (try clear hb); (try clear hb2); (try clear hk); (try clear hi); obtain ⟨Ao27, co27, eo27⟩ := Kd.R_slice HO_7.out; subst eo27) | ((with_reducible refine gate_builtin (b := .append) (xs := #[.tmp 45, .tmp 50]) rfl ?_); at_builtin; refine Kd.R_append k102 (w0 := w) w.heap.size rfl (.tmp 45) (.tmp 50) 48 102 (.agg #[(.int .i64 0), (.int .i64 0)]) 16 rfl Try.underlying48 info102 rfl (by decide) (by omega) (.slice Ao27 x7_1.length co27) x7_1 (⟨x8_1, wrap64 (x8_1 + 1)⟩ : S102) [.int .i64 x8_1, .int .i64 (wrap64 (x8_1 + 1))] (fun _ => True) (fun _ => False) rfl rfl ?aP (fun _ hk => hk.elim) ?aF ?aO ?aB ?aS ?aL ?_; (case aP => exact k102_mkM _ _ _ (⟨x8_1, wrap64 (x8_1 + 1)⟩ : S102)); (case aB => exact (sb)); (case aF => exact (fun _ _ => trivial)); (case aO => exact (sr HO_7)); (case aS => exact (below_size (sb))); (case aL => have := LMc25.out; omega); intro v524 w28 ho hb hg hat; rw [← Ny523.out] at ho; replace HB := am hb; have HO525 := am ho; clear HO_7; clear ho hb hg hat))
      go_roundg k1
      case measure => have := HK1.out; omega
      case rel => exact ⟨(y523), (wrap64 (x8_1 + 1)), sc, H', kk1, ⟨sr HO525⟩, ⟨sb⟩⟩
    ·replace H := im H
     have H' := am H
     clear H
     go_wp2_with (first | (go_at_call 147; refine (hh x8_1 false _ (sb) A9.out).mono ?_; rintro e w29 ⟨rfl, hb⟩; replace HO_7 := rb HO_7 hb; replace HB := bs hb; (try clear hb); (try clear hb2); (try clear hk); (try clear hi)))
     go_roundg k1
     case measure => have := HK1.out; omega
     case rel => exact ⟨(x7_1), (wrap64 (x8_1 + 1)), sc, H', kk1, ⟨sr HO_7⟩, ⟨sb⟩⟩
   ·have c8b0 := decide_eq_false c8
    clear c8
    obtain rfl := Option.some.inj H
    go_wp2
    go_ret
    exact ⟨_, by first | rfl | (simp [errW_none, errW_some] <;> rfl) | (simp only [← hji4, ← hji7]; first | rfl | (simp [errW_none, errW_some] <;> rfl)) | (simp [*, errW_none, errW_some] <;> rfl), sr HO_7, sb⟩

def impl_JoinSpans.o (bs : List Bool) (t : Int) : Option Bool := if 0 ≤ t then (if t < (bs.length : Int) then some (rdOf false bs t) else none) else none
def impl_JoinSpans.f (k : Nat) (l0 : List (S102)) : Option (List (S102)) := (impl_ticks.f k l0).bind fun bs => impl_JoinSpans.sw.f (impl_JoinSpans.o bs) k 0 1000 0
theorem impl_JoinSpans.mono : ∀ a0 k, LeO (impl_JoinSpans.f k a0) (impl_JoinSpans.f (k + 1) a0) := fun a0 k =>
  LeO.bind (impl_ticks.mono a0 k) fun bs => impl_JoinSpans.sw.mono _ _ _ _ _
theorem impl_JoinSpans.calls (k : Nat) (A0 : Option Addr) (c0 : Nat) (l0 : List (S102)) (r : List (S102)) (w : World) (hr0 : Kd.C k102 w A0 l0.length l0) (hc0 : l0.length ≤ c0) (h : impl_JoinSpans.f k l0 = some r) :
    Calls Try.prog 99 #[.slice A0 l0.length c0] w fun e w' => ∃ v0_ : Value, e = .returned (v0_) ∧ Kd.R k102 102 w' w.heap.size (fun _ => True) v0_ r ∧ Below w.heap.size w w' := by
 unfold impl_JoinSpans.f at h
 obtain ⟨bs, hbs, h⟩ := Option.bind_eq_some_iff.mp h
 have H := am h
 have H0 := am hbs
 clear h hbs
 go_enter Try.func99, Try.ntmps99
 go_wp2_with (first | (go_at_call 146; refine (impl_ticks.calls k A0 c0 l0 bs _ hr0 hc0 H0.out).mono ?_; rintro e w4 ⟨v4, rfl, ho4, hb4⟩; have HO4 := am ho4; have M4 := am hb4; clear ho4 hb4; obtain ⟨A4, c4, e4⟩ := Kd.R_slice HO4.out; subst e4) | ((with_reducible refine gd 3 rfl ?_); refine bx 3 #[.slice none 0 0] 98 ?_; intro g5 hg5 w5 hbox5 hb5; have G5 := am ((by rw [hg5]; exact M4.out.size) : w.heap.size ≤ g5); clear hg5; have B5 := am hbox5; have HO5 := am (Kd.R_types (Kd.R_below HO4.out hb5) hbox5 (by decide)); have M5 := am (below_step M4.out hb5); obtain ⟨hx5, hf5⟩ := cc1 B5; clear hbox5 hb5) | ((with_reducible refine gate_store (t := 98) (p := 3) rfl ?_); refine store_event (t := 98) (p := 3) (v := ?vo_w8) (w1 := (w5.setCell ⟨g5, 0, none⟩ (.slice A4 bs.length c4))) ?hg ?ho ?hn ?hr ?_; (case ho => rfl); (case hg => rfl); (case hn => rfl); (case hr => first | (go_simp; done) | (go_simp; rfl)); intro w6 hw; have M6 := am ((by rw [hw]; exact below_set M5.out G5.out) : Below w.heap.size w w6); have B6 : Aside0 (w6.cell? ⟨g5, 0, none⟩ = some (.slice A4 bs.length c4)) := ⟨by rw [hw]; exact (blk_cell (blk_put B5.out 0 _ rfl) 0).trans rfl⟩; have HO6 := am ((by rw [hw]; exact Kd.R_far HO5.out (fun _ hk => hk.2) _) : Kd.R Kd.bool 4 w6 w.heap.size _ (.slice A4 bs.length c4) bs); clear hw) | (go_at_call 91; refine (impl_JoinSpans.sw.calls (impl_JoinSpans.o bs) g5 k 0 1000 0 r _ (fun t q W hB hq => impl_JoinSpans.lit A4 c4 bs t q g5 W (Kd.C_below (Kd.R_reads' HO6.out).2.2 hB) ((hB.cell (World.block_lt_of_cell? _ _ B6.out)).trans B6.out) hq) H.out).mono ?_; rintro e w7 ⟨v7, rfl, ho7, hb7⟩; have HO7 := am ho7; have M7 := am hb7; clear ho7 hb7))
 go_ret
 exact ⟨_, rfl, Kd.R_lower HO7.out (below_size M6.out), below_step M6.out M7.out⟩

def impl_TicksOf.l0 : Nat → Int → List (S102) → Int → Int → Option (Int)
  | 0, _, _, _, _ => none
  | k + 1, x3, x7, x8, x9 => if x9 < x8 then (if 0 ≤ x9 then (if x9 < (x7.length : Int) then (impl_TicksOf.l0 k (wrap64 (x3 + (wrap64 (((rd_T102 x7 x9).f1) - ((rd_T102 x7 x9).f0))))) x7 x8 (wrap64 (x9 + 1))) else (none)) else (none)) else (some x3)
def impl_TicksOf.f (k : Nat) (l0 : List (S102)) : Option (Int) := (impl_JoinSpans.f k l0).bind fun t651 => (impl_TicksOf.l0 k 0 t651 (t651.length : Int) 0)
theorem impl_TicksOf.mono_l : ∀ k, (∀ y0 y1 y2 y3, LeO (impl_TicksOf.l0 k y0 y1 y2 y3) (impl_TicksOf.l0 (k + 1) y0 y1 y2 y3))
  | 0 => fun _ _ _ _ r h => by simp [impl_TicksOf.l0] at h
  | k + 1 => by
    have ih0 := impl_TicksOf.mono_l k
    · intro y0 y1 y2 y3
      unfold impl_TicksOf.l0
      have m0 := @impl_JoinSpans.mono
      exact mo
theorem impl_TicksOf.mono : ∀ a0 k, LeO (impl_TicksOf.f k a0) (impl_TicksOf.f (k + 1) a0) := by
  intro a0 k
  have ih0 := impl_TicksOf.mono_l k
  unfold impl_TicksOf.f
  have m0 := @impl_JoinSpans.mono
  exact mo
theorem impl_TicksOf.calls (k : Nat) (A0 : Option Addr) (c0 : Nat) (l0 : List (S102)) (r : Int) (w : World) (hr0 : Kd.C k102 w A0 l0.length l0) (hc0 : l0.length ≤ c0) (h : impl_TicksOf.f k l0 = some r) :
    Calls Try.prog 37 #[.slice A0 l0.length c0] w fun e w' => e = .returned (.int .i64 r) ∧ Below w.heap.size w w' := by
 have hu102 := Try.underlying102
 have HR0 := am hr0
 have HC0 := am hc0
 clear hr0 hc0
 have HB := am (Below.refl w.heap.size w)
 have H : ((impl_JoinSpans.f k l0).bind fun t651 => (impl_TicksOf.l0 k 0 t651 (t651.length : Int) 0)) = some r := h
 clear h
 obtain ⟨t651, A2, H⟩ := bnd H
 have H' := am H
 clear H
 go_enter Try.func37, Try.ntmps37
 go_wp2_with (first | ((with_reducible refine gc 99 rfl ?_); refine gL (some 7) Try.func99 #[.slice A0 l0.length c0] ?_; (with_reducible refine (impl_JoinSpans.calls k _ _ l0 t651 _ ?side1 ?side2 A2.out).mono ?_); (case side1 => repeat (first | exact HR0.out | (with_reducible refine Kd.C_alloc ?_ _) | (with_reducible refine Kd.C_drewN ?_ _) | (with_reducible refine Kd.C_drew ?_))); (case side2 => exact HC0.out); rintro e w3 ⟨v652, rfl, ho0, hb⟩; refine ⟨_, rfl, ?_⟩; have HO653 := am (Kd.R_lower ho0 (below_size (sb))); replace HB := bs hb; (try clear hb); (try clear hb2); (try clear hk); (try clear hi); (try clear ho0); obtain ⟨Ao4, co4, eo4⟩ := Kd.R_slice HO653.out; subst eo4))
 go_loopg [3, 9] k (fun kq v3 v9 w' => ∃ (x3_1 : Int) (x9_1 : Int), v3 = .int .i64 x3_1 ∧ v9 = .int .i64 x9_1 ∧ Aside0 (impl_TicksOf.l0 kq x3_1 t651 (t651.length : Int) x9_1 = some r) ∧ Aside0 (kq ≤ k) ∧ Aside0 (Kd.R k102 102 w' w.heap.size (fun _ => True) (.slice Ao4 t651.length co4) t651) ∧ Aside0 (Below w.heap.size w w'))
 case atStart => exact ⟨(0), (0), sc, sc, H', kk0, ⟨sr HO653⟩, ⟨sb⟩⟩
 case round =>
  clear H'
  obtain ⟨x3_1, x9_1, rfl, rfl, HA, HK1, HO_7, HB⟩ := hrel
  cases gk with
  | zero => exact absurd HA.out (by simp [impl_TicksOf.l0])
  | succ k1 =>
   have H := HA.out
   clear HA
   simp only [impl_TicksOf.l0] at H
   obtain ⟨c5, H⟩ | ⟨c5, H⟩ := ie_ H
   ·have c5b0 := decide_eq_true c5
    clear c5
    obtain ⟨c6b0, H⟩ := id_ H
    obtain ⟨c7b0, H⟩ := id_ H
    have H' := am H
    clear H
    have p654 : 0 ≤ (x9_1 : Int) := sa
    have q654 : x9_1 < (t651.length : Int) := sa
    obtain ⟨ad654, e654, hx654_0, hx654_1⟩ := at_T102 (Kd.R_reads' HO_7.out).2.2 x9_1 p654 q654
    cases e654
    replace p654 := eq_true p654
    replace q654 := eq_true q654
    go_wp2_with (first | ((with_reducible refine gd 5 rfl ?_); refine bx 5 #[.int .i64 0, .int .i64 0] 102 ?_; intro gb655 hg w8 hbox hb; replace HO_7 := am (Kd.R_below (Kd.R_elderB (sr HO_7) gb655 (Nat.le_of_eq hg.symm)) hb); have GW655 := bz w hg; have GE655 := bz w hg; replace HB := bs hb; have BK655 := am hbox; clear hb hbox hg; obtain ⟨hcz9_0, hcz9_1, hfz9_0, hfz9_1⟩ := cc2 BK655))
    go_roundg k1
    case measure => have := HK1.out; omega
    case rel => exact ⟨(wrap64 (x3_1 + (wrap64 (((rd_T102 t651 x9_1).f1) - ((rd_T102 t651 x9_1).f0))))), (wrap64 (x9_1 + 1)), sc, sc, H', kk1, ⟨by (with_reducible repeat (first | apply Kd.R_alloc | apply Kd.R_drewN | apply Kd.R_drew)); exact Kd.R_mono (Kd.R_far (p := ⟨gb655, 1, none⟩) (Kd.R_far (p := ⟨gb655, 0, none⟩) (Kd.R_mono HO_7.out (fun k_ hk => (⟨hk, hk.2⟩ : _ ∧ k_ ≠ gb655))) (fun _ hk => hk.2) (.int .i64 ((rd_T102 t651 x9_1).f0))) (fun _ hk => hk.2) (.int .i64 ((rd_T102 t651 x9_1).f1))) (fun _ hk => trivial)⟩, ⟨sbw⟩⟩
   ·have c5b0 := decide_eq_false c5
    clear c5
    obtain rfl := Option.some.inj H
    go_wp2
    go_ret
    exact ⟨se, sb⟩

-- NOT PRINTED: function 100 (impl_LostToClocks_1)

def impl_LostToClocks.o (k : Nat) (n f s : Int) (l3 : List (S105)) (a b t : Int) : Option Bool := (impl_IsLinked.f n f s l3 a b t).bind fun q => if q = true then ((impl_MayUse.f k n f s l3 a b t).bind fun q2 => some (!q2)) else some false
theorem impl_LostToClocks.lit (k : Nat) (n f s : Int) (A3 : Option Addr) (c3 : Nat) (l3 : List (S105)) (a b t : Int) (q : Bool) (gp ga gb : Nat) (W : World) (hr3 : Kd.C k105 W A3 l3.length l3) (hc3 : l3.length ≤ c3)
    (hp0 : W.cell? ⟨gp, 0, none⟩ = some (.int .i64 n)) (hp1 : W.cell? ⟨gp, 1, none⟩ = some (.int .i64 f)) (hp2 : W.cell? ⟨gp, 2, none⟩ = some (.int .i64 s)) (hp3 : W.cell? ⟨gp, 3, none⟩ = some (.slice A3 l3.length c3)) (ha : W.cell? ⟨ga, 0, none⟩ = some (.int .i64 a)) (hb : W.cell? ⟨gb, 0, none⟩ = some (.int .i64 b))
    (h : impl_LostToClocks.o k n f s l3 a b t = some q) :
    Calls Try.prog 100 #[.int .i64 t, .pointer (some ⟨gp, 0, none⟩), .pointer (some ⟨ga, 0, none⟩), .pointer (some ⟨gb, 0, none⟩)] W fun e w' => e = .returned (.bool q) ∧ Below W.heap.size W w' := by
  have hu := Try.underlying31
  unfold impl_LostToClocks.o at h
  obtain ⟨q1, h1, h⟩ := Option.bind_eq_some_iff.mp h
  cases q1 with
  | false =>
    rw [if_neg (by decide)] at h
    obtain rfl := Option.some.inj h
    go_enter Try.func100, Try.ntmps100
    go_wp2_with (go_at_call 32; refine (impl_IsLinked.calls n f s A3 c3 l3 a b t false _ hr3 hc3 h1).mono ?_; rintro e w' ⟨rfl, hb'⟩)
    go_ret
    exact ⟨rfl, hb'⟩
  | true =>
    rw [if_pos rfl] at h
    obtain ⟨q2, h2, h⟩ := Option.bind_eq_some_iff.mp h
    obtain rfl := Option.some.inj h
    go_enter Try.func100, Try.ntmps100
    go_wp2_with (first | (go_at_call 32; refine (impl_IsLinked.calls n f s A3 c3 l3 a b t true _ hr3 hc3 h1).mono ?_; rintro e w4 ⟨rfl, hb4⟩; have kp0 := (hb4.cell (World.block_lt_of_cell? _ _ hp0)).trans hp0; have kp1 := (hb4.cell (World.block_lt_of_cell? _ _ hp1)).trans hp1; have kp2 := (hb4.cell (World.block_lt_of_cell? _ _ hp2)).trans hp2; have kp3 := (hb4.cell (World.block_lt_of_cell? _ _ hp3)).trans hp3; have ka := (hb4.cell (World.block_lt_of_cell? _ _ ha)).trans ha; have kb := (hb4.cell (World.block_lt_of_cell? _ _ hb)).trans hb) | (go_at_call 30; refine (impl_MayUse.calls k n f s A3 c3 l3 a b t q2 _ (Kd.C_below hr3 hb4) hc3 h2).mono ?_; rintro e w5 ⟨rfl, hb5⟩))
    go_ret
    exact ⟨by cases q2 <;> rfl, below_step hb4 hb5⟩
def impl_LostToClocks.sw.l0 (h_ : Int → Option Bool) : Nat → Int → List (S102) → Int → Option ((List (S102)))
  | 0, _, _, _ => none
  | k + 1, x1, x7, x8 => if x8 < (mn x1 1000) then ((h_ x8).bind fun t516 => (if t516 = true then (if (wrap64 ((x7.length : Int) - 1)) ≥ 0 then (if 0 ≤ (wrap64 ((x7.length : Int) - 1)) then (if (wrap64 ((x7.length : Int) - 1)) < (x7.length : Int) then (if ((rd_T102 x7 (wrap64 ((x7.length : Int) - 1))).f1) = x8 then (impl_LostToClocks.sw.l0 h_ k x1 (x7.set ((wrap64 ((x7.length : Int) - 1)) : Int).toNat (⟨(rd_T102 x7 (wrap64 ((x7.length : Int) - 1))).f0, wrap64 (((rd_T102 x7 (wrap64 ((x7.length : Int) - 1))).f1) + 1)⟩ : S102)) (wrap64 (x8 + 1))) else (if x7.length < 8796093022208 then (impl_LostToClocks.sw.l0 h_ k x1 (x7 ++ [(⟨x8, wrap64 (x8 + 1)⟩ : S102)]) (wrap64 (x8 + 1))) else (none))) else (none)) else (none)) else (if x7.length < 8796093022208 then (impl_LostToClocks.sw.l0 h_ k x1 (x7 ++ [(⟨x8, wrap64 (x8 + 1)⟩ : S102)]) (wrap64 (x8 + 1))) else (none))) else (impl_LostToClocks.sw.l0 h_ k x1 x7 (wrap64 (x8 + 1))))) else (some x7)
def impl_LostToClocks.sw.f (h_ : Int → Option Bool) (k : Nat) (a0 : Int) (a1 : Int) (a2 : Int) : Option ((List (S102))) := impl_LostToClocks.sw.l0 h_ k a1 (([] : List (S102))) (mx a0 0)
theorem impl_LostToClocks.sw.mono_l (h_ : Int → Option Bool) : ∀ k, (∀ y0 y1 y2, LeO (impl_LostToClocks.sw.l0 h_ k y0 y1 y2) (impl_LostToClocks.sw.l0 h_ (k + 1) y0 y1 y2))
  | 0 => fun _ _ _ r h => by simp [impl_LostToClocks.sw.l0] at h
  | k + 1 => by
    have ih0 := impl_LostToClocks.sw.mono_l h_ k
    · intro y0 y1 y2
      unfold impl_LostToClocks.sw.l0
      exact mo
theorem impl_LostToClocks.sw.mono (h_ : Int → Option Bool) : ∀ a0 a1 a2 k, LeO (impl_LostToClocks.sw.f h_ k a0 a1 a2) (impl_LostToClocks.sw.f h_ (k + 1) a0 a1 a2) := by
  intro a0 a1 a2 k
  have ih0 := impl_LostToClocks.sw.mono_l h_ k
  unfold impl_LostToClocks.sw.f
  exact mo
theorem impl_LostToClocks.sw.mono_h {h_ h2_ : Int → Option Bool} (hh : ∀ t, LeO (h_ t) (h2_ t)) : ∀ k, (∀ y0 y1 y2, LeO (impl_LostToClocks.sw.l0 h_ k y0 y1 y2) (impl_LostToClocks.sw.l0 h2_ k y0 y1 y2))
  | 0 => fun _ _ _ r h => by simp [impl_LostToClocks.sw.l0] at h
  | k + 1 => by
    have ih0 := impl_LostToClocks.sw.mono_h hh k
    have m7 := hh
    intro y0 y1 y2
    unfold impl_LostToClocks.sw.l0
    exact mo
theorem impl_LostToClocks.sw.calls (h_ : Int → Option Bool) (gp ga gb : Nat) (k : Nat) (a0 : Int) (a1 : Int) (a2 : Int) (r : List (S102)) (w : World) (hh : ∀ (t : Int) (q : Bool) (W : World), Below w.heap.size w W → h_ t = some q → Calls Try.prog 100 #[.int .i64 t, .pointer (some ⟨gp, 0, none⟩), .pointer (some ⟨ga, 0, none⟩), .pointer (some ⟨gb, 0, none⟩)] W fun e w' => e = .returned (.bool q) ∧ Below W.heap.size W w') (h : impl_LostToClocks.sw.f h_ k a0 a1 a2 = some r) :
    Calls Try.prog 91 #[.int .i64 a0, .int .i64 a1, .func (.func 100) #[] #[.pointer (some ⟨gp, 0, none⟩), .pointer (some ⟨ga, 0, none⟩), .pointer (some ⟨gb, 0, none⟩)]] w fun e w' => ∃ v0_ : Value, e = .returned (v0_) ∧ Kd.R k102 102 w' w.heap.size (fun _ => True) v0_ r ∧ Below w.heap.size w w' := by
 have hu102 := Try.underlying102
 have HB := am (Below.refl w.heap.size w)
 have H : (impl_LostToClocks.sw.l0 h_ k a1 (([] : List (S102))) (mx a0 0)) = some r := h
 clear h
 obtain ⟨y513, hy513⟩ : ∃ y_ : List (S102), y_ = (([] : List (S102))) := ⟨_, rfl⟩
 replace H : (impl_LostToClocks.sw.l0 h_ k a1 y513 (mx a0 0)) = some r := ry hy513 H
 have Ny513 := am hy513
 clear hy513
 obtain ⟨ji4, hji4⟩ : ∃ j_ : Int, (mx a0 0) = j_ := ⟨_, rfl⟩
 replace H : (impl_LostToClocks.sw.l0 h_ k a1 y513 ji4) = some r := by first | (rw [hji4] at H; exact H) | (simp only [hji4] at H ⊢; exact H)
 (try (have hji4l : 0 ≤ ji4 := by (rw [← hji4]; unfold mx; (repeat' split) <;> omega)))
 (try (have hji4m : 0 ≤ ji4 := by omega))
 have hji4_ : (if a0 < 0 then 0 else a0) = ji4 := hji4
 have H' := am H
 clear H
 go_enter Try.func91, Try.ntmps91
 go_wp2_with (first | ((with_reducible refine gd 10 rfl ?_); refine Kd.R_lit k102 _ 102 ?hg (N := 10) ?hd (xs := ([] : List (S102))) (inner := []) (ok := fun _ => True) (okp := fun _ => True) ?hr ?hp (fun _ hk => hk) trivial (Below.refl _ _) (Nat.le_refl _) (by simp) ?_; (case hd => rfl); (case hg => rfl); (case hr => first | (go_simp; done) | (go_simp; rfl)); (case hp => exact (Reps.none _ _)); intro v514 w5 ho6 hb hg_ hnew_; clear hg_ hnew_; (first | rw [← Ny513.out] at ho6 | (simp only [Int.reduceToNat] at ho6; rw [← Ny513.out] at ho6)); have HO515 := am (Kd.R_lower ho6 (below_size (sb))); replace HB := bs hb; clear hb ho6))
 go_loopg [7, 8] k (fun kq v7 v8 w' => ∃ (x7_1 : List (S102)) (x8_1 : Int), v8 = .int .i64 x8_1 ∧ Aside0 (impl_LostToClocks.sw.l0 h_ kq a1 x7_1 x8_1 = some r) ∧ Aside0 (kq ≤ k) ∧ Aside0 (Kd.R k102 102 w' w.heap.size (fun _ => True) v7 x7_1) ∧ Aside0 (Below w.heap.size w w'))
 case atStart => exact ⟨(y513), (ji4), (by first | rfl | (simp; done) | (simp only [← hji4] <;> (first | rfl | simp)) | (simp [*]; done)), H', kk0, ⟨sr HO515⟩, ⟨sb⟩⟩
 case round =>
  clear H'
  obtain ⟨x7_1, x8_1, rfl, HA, HK1, HO_7, HB⟩ := hrel
  cases gk with
  | zero => exact absurd HA.out (by simp [impl_LostToClocks.sw.l0])
  | succ k1 =>
   have H := HA.out
   clear HA
   simp only [impl_LostToClocks.sw.l0] at H
   obtain ⟨ji7, hji7⟩ : ∃ j_ : Int, (mn a1 1000) = j_ := ⟨_, rfl⟩
   replace H : (if x8_1 < (ji7) then ((h_ x8_1).bind fun t516 => (if t516 = true then (if (wrap64 ((x7_1.length : Int) - 1)) ≥ 0 then (if 0 ≤ (wrap64 ((x7_1.length : Int) - 1)) then (if (wrap64 ((x7_1.length : Int) - 1)) < (x7_1.length : Int) then (if ((rd_T102 x7_1 (wrap64 ((x7_1.length : Int) - 1))).f1) = x8_1 then (impl_LostToClocks.sw.l0 h_ k1 a1 (x7_1.set ((wrap64 ((x7_1.length : Int) - 1)) : Int).toNat (⟨(rd_T102 x7_1 (wrap64 ((x7_1.length : Int) - 1))).f0, wrap64 (((rd_T102 x7_1 (wrap64 ((x7_1.length : Int) - 1))).f1) + 1)⟩ : S102)) (wrap64 (x8_1 + 1))) else (if x7_1.length < 8796093022208 then (impl_LostToClocks.sw.l0 h_ k1 a1 (x7_1 ++ [(⟨x8_1, wrap64 (x8_1 + 1)⟩ : S102)]) (wrap64 (x8_1 + 1))) else (none))) else (none)) else (none)) else (if x7_1.length < 8796093022208 then (impl_LostToClocks.sw.l0 h_ k1 a1 (x7_1 ++ [(⟨x8_1, wrap64 (x8_1 + 1)⟩ : S102)]) (wrap64 (x8_1 + 1))) else (none))) else (impl_LostToClocks.sw.l0 h_ k1 a1 x7_1 (wrap64 (x8_1 + 1))))) else (some x7_1)) = some r := by first | (rw [hji7] at H; exact H) | (simp only [hji7] at H ⊢; exact H)
   have hji7_ : (if 1000 < a1 then 1000 else a1) = ji7 := hji7
   obtain ⟨c8, H⟩ | ⟨c8, H⟩ := ie_ H
   ·have c8b0 := decide_eq_true c8
    clear c8
    obtain ⟨t516, A9, H⟩ := bnd H
    obtain rfl | rfl := tt t516
    ·replace H := ip H
     obtain ⟨c11, H⟩ | ⟨c11, H⟩ := ie_ H
     ·have c11b0 := decide_eq_true c11
      clear c11
      obtain ⟨ji12, hji12⟩ : ∃ j_ : Int, (wrap64 ((x7_1.length : Int) - 1)) = j_ := ⟨_, rfl⟩
      replace H : (if 0 ≤ (ji12) then (if (ji12) < (x7_1.length : Int) then (if ((rd_T102 x7_1 (ji12)).f1) = x8_1 then (impl_LostToClocks.sw.l0 h_ k1 a1 (x7_1.set ((ji12) : Int).toNat (⟨(rd_T102 x7_1 (ji12)).f0, wrap64 (((rd_T102 x7_1 (ji12)).f1) + 1)⟩ : S102)) (wrap64 (x8_1 + 1))) else (if x7_1.length < 8796093022208 then (impl_LostToClocks.sw.l0 h_ k1 a1 (x7_1 ++ [(⟨x8_1, wrap64 (x8_1 + 1)⟩ : S102)]) (wrap64 (x8_1 + 1))) else (none))) else (none)) else (none)) = some r := by first | (rw [hji12] at H; exact H) | (simp only [hji12] at H ⊢; exact H)
      (try rw [hji12] at c11b0)
      (try rw [hji12] at A9)
      have hji12w : (IntKind.i64.wrap ((x7_1.length : Int) - 1)) = ji12 := (i64_w _).trans hji12
      obtain ⟨c13b0, H⟩ := id_ H
      obtain ⟨c14b0, H⟩ := id_ H
      obtain ⟨c15, H⟩ | ⟨c15, H⟩ := ie_ H
      ·have c15b0 : (((rd_T102 x7_1 (ji12)).f1) == x8_1) = true := beq_iff_eq.mpr c15
       have c15b1 : (((rd_T102 x7_1 (ji12)).f1) != x8_1) = false := bne_eq_false_iff_eq.mpr c15
       clear c15
       obtain ⟨y519, hy519⟩ : ∃ y_ : List (S102), y_ = (x7_1.set ((ji12) : Int).toNat (⟨(rd_T102 x7_1 (ji12)).f0, wrap64 (((rd_T102 x7_1 (ji12)).f1) + 1)⟩ : S102)) := ⟨_, rfl⟩
       replace H : (impl_LostToClocks.sw.l0 h_ k1 a1 y519 (wrap64 (x8_1 + 1))) = some r := ry hy519 H
       have Ny519 := am hy519
       clear hy519
       have H' := am H
       clear H
       go_wp2_with (first | (go_at_call 100; refine (hh x8_1 true _ (sb) A9.out).mono ?_; rintro e w17 ⟨rfl, hb⟩; replace HO_7 := rb HO_7 hb; replace HB := bs hb; (try clear hb); (try clear hb2); (try clear hk); (try clear hi); obtain ⟨Ao18, co18, eo18⟩ := Kd.R_slice HO_7.out; subst eo18; have p517 : 0 ≤ ((ji12) : Int) := sa; have q517 : (ji12) < (x7_1.length : Int) := sa; obtain ⟨ad517, e517, hx517_0, hx517_1⟩ := at_T102 (Kd.R_reads' HO_7.out).2.2 (ji12) p517 q517; cases e517; replace p517 := eq_true p517; replace q517 := eq_true q517; have p518 : 0 ≤ ((ji12) : Int) := sa; have q518 : (ji12) < (x7_1.length : Int) := sa; obtain ⟨ad518, e518, hx518_0, hx518_1⟩ := at_T102 (Kd.R_reads' HO_7.out).2.2 (ji12) p518 q518; obtain rfl : ad517 = ad518 := (by injection e518); replace p518 := eq_true p518; replace q518 := eq_true q518; have p16 : 0 ≤ ((ji12) : Int) := sa; have q16 : ((ji12) : Int) < ((x7_1.length : Int) : Int) := sa; obtain ⟨go16, co16, eo16, gb16, gl16, cl16, HG16⟩ := Kd.R_form HO_7.out (by omega); (first | cases eo16 | (injection eo16 with ea_ en_ ec_; (first | subst ea_ | (injection ea_ with ea_; subst ea_)); subst ec_; clear en_)); have GB16 := am gb16; have GG16 := am HG16; clear gb16 gl16 HG16; (first | simp only [add_plain] at hx517_0 | skip); (first | simp only [add_plain] at hx517_1 | skip); (first | simp only [add_plain] at hx518_0 | skip); (first | simp only [add_plain] at hx518_1 | skip); obtain ⟨ce16, hcl16, hM16, hcc16, hfr16⟩ := Kd.R_elem HO_7.out z102 ((ji12) : Int) p16 q16; obtain rfl := k102_openM hM16; have hx16_0 : w17.cell? ⟨go16, ((ji12) : Int).toNat * 2, none⟩ = some (.int .i64 ((rd_T102 x7_1 (ji12)).f0)) := hcc16 0 _ rfl; have hx16_1 : w17.cell? ⟨go16, ((ji12) : Int).toNat * 2 + 1, none⟩ = some (.int .i64 ((rd_T102 x7_1 (ji12)).f1)) := hcc16 1 _ rfl; have hf16_0 : w17.frozen? ⟨go16, ((ji12) : Int).toNat * 2, none⟩ = false := hfr16 0; have hf16_1 : w17.frozen? ⟨go16, ((ji12) : Int).toNat * 2 + 1, none⟩ = false := hfr16 1; (try clear hcl16); (try clear hcc16); (try clear hfr16); (try clear hM16); replace p16 := eq_true p16; replace q16 := eq_true q16; have HX19 := am (show Kd.R k102 102 w17 w.heap.size (fun _ => True) (.slice (some ⟨go16, 0, none⟩) x7_1.length co18) x7_1 from (sr HO_7)); obtain ⟨ce19, hcl19, hM19, hcc19, hfr19⟩ := Kd.R_elem HX19.out z102 ((ji12) : Int) (sa) (by have h_ : ((ji12) : Int) < ((x7_1.length : Int) : Int) := sa; first | exact h_ | (have e_ := (Kd.R_reads' HO_7.out).1; omega) | simpa using h_); obtain rfl := k102_openM hM19; have HP19 := Kd.R_seg HX19.out ((ji12) : Int) (sa) (by have h_ : ((ji12) : Int) < ((x7_1.length : Int) : Int) := sa; first | exact h_ | (have e_ := (Kd.R_reads' HO_7.out).1; omega) | simpa using h_) (seg := [.int .i64 (wrap64 (((rd_T102 x7_1 (ji12)).f1) + 1))]) (j := 1) hcl19 hcc19 (show 2 ≤ 2 from by decide) (x' := (⟨(rd_T102 x7_1 (ji12)).f0, wrap64 (((rd_T102 x7_1 (ji12)).f1) + 1)⟩ : S102)) (k102_mkM _ _ _ (⟨(rd_T102 x7_1 (ji12)).f0, wrap64 (((rd_T102 x7_1 (ji12)).f1) + 1)⟩ : S102) ) (fun _ hk => hk); have hx19_1 := hcc19 1 _ rfl; (try simp only [show (k102).sz = 2 from rfl, Nat.mul_one, Nat.add_zero] at hx19_1); have hf19_1 := hfr19 1; (try simp only [show (k102).sz = 2 from rfl, Nat.mul_one, Nat.add_zero] at hf19_1); (try clear hcl19); (try clear hcc19); (try clear hfr19); (try clear hM19)) | ((with_reducible refine gate_store (t := 3) (p := 44) rfl ?_); refine store_event (t := 3) (p := 44) (v := ?vo_w20) (w1 := (w17.setCell ⟨go16, ((ji12) : Int).toNat * 2 + 1, none⟩ (.int .i64 (wrap64 (((rd_T102 x7_1 (ji12)).f1) + 1))))) ?hg ?ho ?hn ?hr ?_; (case ho => rfl); (case hg => rfl); (case hn => rfl); (case hr => first | (go_simp; done) | (go_simp; rfl)); intro w20 hw; have hg : w17.grownBy w20 (some go16) := (by rw [hw]; exact HP19.2); have hp_ : Kd.R k102 102 w20 w.heap.size (fun _ => True) (.slice (some ⟨go16, 0, none⟩) x7_1.length co18) y519 := (by rw [hw, Ny519.out]; exact HP19.1); clear HP19; replace HO_7 := am hp_; replace HB := am ((by rw [hw]; exact below_set (HB.out) GB16.out : Below w.heap.size w w20)); clear hg hw hp_))
       go_roundg k1
       case measure => have := HK1.out; omega
       case rel => exact ⟨(y519), (wrap64 (x8_1 + 1)), sc, H', kk1, ⟨sr HO_7⟩, ⟨sb⟩⟩
      ·have c15b0 : (((rd_T102 x7_1 (ji12)).f1) == x8_1) = false := beq_eq_false_iff_ne.mpr c15
       have c15b1 : (((rd_T102 x7_1 (ji12)).f1) != x8_1) = true := bne_iff_ne.mpr c15
       obtain ⟨LMc21, H⟩ := il_ H
       obtain ⟨y520, hy520⟩ : ∃ y_ : List (S102), y_ = (x7_1 ++ [(⟨x8_1, wrap64 (x8_1 + 1)⟩ : S102)]) := ⟨_, rfl⟩
       replace H : (impl_LostToClocks.sw.l0 h_ k1 a1 y520 (wrap64 (x8_1 + 1))) = some r := ry hy520 H
       have Ny520 := am hy520
       clear hy520
       have H' := am H
       clear H
       go_wp2_with (first | (go_at_call 100; refine (hh x8_1 true _ (sb) A9.out).mono ?_; rintro e w22 ⟨rfl, hb⟩; replace HO_7 := rb HO_7 hb; replace HB := bs hb; (try clear hb); (try clear hb2); (try clear hk); (try clear hi); obtain ⟨Ao23, co23, eo23⟩ := Kd.R_slice HO_7.out; subst eo23; have p517 : 0 ≤ ((ji12) : Int) := sa; have q517 : (ji12) < (x7_1.length : Int) := sa; obtain ⟨ad517, e517, hx517_0, hx517_1⟩ := at_T102 (Kd.R_reads' HO_7.out).2.2 (ji12) p517 q517; cases e517; replace p517 := eq_true p517; replace q517 := eq_true q517) | ((with_reducible refine gate_builtin (b := .append) (xs := #[.tmp 45, .tmp 50]) rfl ?_); at_builtin; refine Kd.R_append k102 (w0 := w) w.heap.size rfl (.tmp 45) (.tmp 50) 48 102 (.agg #[(.int .i64 0), (.int .i64 0)]) 16 rfl Try.underlying48 info102 rfl (by decide) (by omega) (.slice (some ad517) x7_1.length co23) x7_1 (⟨x8_1, wrap64 (x8_1 + 1)⟩ : S102) [.int .i64 x8_1, .int .i64 (wrap64 (x8_1 + 1))] (fun _ => True) (fun _ => False) rfl rfl ?aP (fun _ hk => hk.elim) ?aF ?aO ?aB ?aS ?aL ?_; (case aP => exact k102_mkM _ _ _ (⟨x8_1, wrap64 (x8_1 + 1)⟩ : S102)); (case aB => exact (sb)); (case aF => exact (fun _ _ => trivial)); (case aO => exact (sr HO_7)); (case aS => exact (below_size (sb))); (case aL => have := LMc21.out; omega); intro v521 w24 ho hb hg hat; rw [← Ny520.out] at ho; replace HB := am hb; have HO522 := am ho; clear HO_7; clear ho hb hg hat))
       go_roundg k1
       case measure => have := HK1.out; omega
       case rel => exact ⟨(y520), (wrap64 (x8_1 + 1)), sc, H', kk1, ⟨sr HO522⟩, ⟨sb⟩⟩
     ·have c11b0 := decide_eq_false c11
      clear c11
      obtain ⟨LMc25, H⟩ := il_ H
      obtain ⟨y523, hy523⟩ : ∃ y_ : List (S102), y_ = (x7_1 ++ [(⟨x8_1, wrap64 (x8_1 + 1)⟩ : S102)]) := ⟨_, rfl⟩
      replace H : (impl_LostToClocks.sw.l0 h_ k1 a1 y523 (wrap64 (x8_1 + 1))) = some r := ry hy523 H
      have Ny523 := am hy523
      clear hy523
      have H' := am H
      clear H
      go_wp2_with (first | (go_at_call 100; refine (hh x8_1 true _ (sb) A9.out).mono ?_; rintro e w26 ⟨rfl, hb⟩; replace HO_7 := rb HO_7 hb; replace HB := bs hb; (try clear hb); (try clear hb2); (try clear hk); (try clear hi); obtain ⟨Ao27, co27, eo27⟩ := Kd.R_slice HO_7.out; subst eo27) | ((with_reducible refine gate_builtin (b := .append) (xs := #[.tmp 45, .tmp 50]) rfl ?_); at_builtin; refine Kd.R_append k102 (w0 := w) w.heap.size rfl (.tmp 45) (.tmp 50) 48 102 (.agg #[(.int .i64 0), (.int .i64 0)]) 16 rfl Try.underlying48 info102 rfl (by decide) (by omega) (.slice Ao27 x7_1.length co27) x7_1 (⟨x8_1, wrap64 (x8_1 + 1)⟩ : S102) [.int .i64 x8_1, .int .i64 (wrap64 (x8_1 + 1))] (fun _ => True) (fun _ => False) rfl rfl ?aP (fun _ hk => hk.elim) ?aF ?aO ?aB ?aS ?aL ?_; (case aP => exact k102_mkM _ _ _ (⟨x8_1, wrap64 (x8_1 + 1)⟩ : S102)); (case aB => exact (sb)); (case aF => exact (fun _ _ => trivial)); (case aO => exact (sr HO_7)); (case aS => exact (below_size (sb))); (case aL => have := LMc25.out; omega); intro v524 w28 ho hb hg hat; rw [← Ny523.out] at ho; replace HB := am hb; have HO525 := am ho; clear HO_7; clear ho hb hg hat))
      go_roundg k1
      case measure => have := HK1.out; omega
      case rel => exact ⟨(y523), (wrap64 (x8_1 + 1)), sc, H', kk1, ⟨sr HO525⟩, ⟨sb⟩⟩
    ·replace H := im H
     have H' := am H
     clear H
     go_wp2_with (first | (go_at_call 100; refine (hh x8_1 false _ (sb) A9.out).mono ?_; rintro e w29 ⟨rfl, hb⟩; replace HO_7 := rb HO_7 hb; replace HB := bs hb; (try clear hb); (try clear hb2); (try clear hk); (try clear hi)))
     go_roundg k1
     case measure => have := HK1.out; omega
     case rel => exact ⟨(x7_1), (wrap64 (x8_1 + 1)), sc, H', kk1, ⟨sr HO_7⟩, ⟨sb⟩⟩
   ·have c8b0 := decide_eq_false c8
    clear c8
    obtain rfl := Option.some.inj H
    go_wp2
    go_ret
    exact ⟨_, by first | rfl | (simp [errW_none, errW_some] <;> rfl) | (simp only [← hji4, ← hji7]; first | rfl | (simp [errW_none, errW_some] <;> rfl)) | (simp [*, errW_none, errW_some] <;> rfl), sr HO_7, sb⟩

def impl_LostToClocks.f (k : Nat) (a0_0 : Int) (a0_1 : Int) (a0_2 : Int) (l0_3 : List (S105)) (a1 : Int) (a2 : Int) : Option (Int) := (impl_LostToClocks.sw.f (impl_LostToClocks.o k a0_0 a0_1 a0_2 l0_3 a1 a2) k 0 1000 0).bind fun l => impl_TicksOf.f k l
theorem impl_LostToClocks.mono_o (n f s : Int) (l3 : List (S105)) (a b t : Int) (k : Nat) : LeO (impl_LostToClocks.o k n f s l3 a b t) (impl_LostToClocks.o (k + 1) n f s l3 a b t) :=
  LeO.bind (LeO.refl _) fun q => LeO.ite (LeO.bind (impl_MayUse.mono n f s l3 a b t k) fun _ => LeO.refl _) (LeO.refl _)
theorem impl_LostToClocks.mono : ∀ a0 a1 a2 a3 a4 a5 k, LeO (impl_LostToClocks.f k a0 a1 a2 a3 a4 a5) (impl_LostToClocks.f (k + 1) a0 a1 a2 a3 a4 a5) := fun a0 a1 a2 a3 a4 a5 k =>
  LeO.bind ((impl_LostToClocks.sw.mono _ _ _ _ _).trans (impl_LostToClocks.sw.mono_h (fun t => impl_LostToClocks.mono_o a0 a1 a2 a3 a4 a5 t k) _ _ _ _)) fun l => impl_TicksOf.mono l k
theorem impl_LostToClocks.calls (k : Nat) (a0_0 : Int) (a0_1 : Int) (a0_2 : Int) (A0_3 : Option Addr) (c0_3 : Nat) (l0_3 : List (S105)) (a1 : Int) (a2 : Int) (r : Int) (w : World) (hr0_3 : Kd.C k105 w A0_3 l0_3.length l0_3) (hc0_3 : l0_3.length ≤ c0_3) (h : impl_LostToClocks.f k a0_0 a0_1 a0_2 l0_3 a1 a2 = some r) :
    Calls Try.prog 38 #[.agg #[.int .i64 a0_0, .int .i64 a0_1, .int .i64 a0_2, .slice A0_3 l0_3.length c0_3], .int .i64 a1, .int .i64 a2] w fun e w' => e = .returned (.int .i64 r) ∧ Below w.heap.size w w' := by
 have hu := Try.underlying31
 unfold impl_LostToClocks.f at h
 obtain ⟨l, hl, h⟩ := Option.bind_eq_some_iff.mp h
 have H0 := am hl
 have H := am h
 clear h hl
 go_enter Try.func38, Try.ntmps38
 go_wp2_with (first | ((with_reducible refine gd 3 rfl ?_); refine bx 3 #[.int .i64 a0_0, .int .i64 a0_1, .int .i64 a0_2, .slice A0_3 l0_3.length c0_3] 31 ?_; intro g3 hg3 w3 hbox3 hb3; clear hg3; have B3 := am hbox3; have M3 := am hb3; clear hbox3 hb3) | ((with_reducible refine gd 4 rfl ?_); refine bx 4 #[.int .i64 a1] 3 ?_; intro g4 hg4 w4 hbox4 hb4; clear hg4; have B4 := am hbox4; have B3' := am (blk_below B3.out hb4); have M4 := am (below_step M3.out hb4); clear hbox4 hb4) | ((with_reducible refine gd 5 rfl ?_); refine bx 5 #[.int .i64 a2] 3 ?_; intro g5 hg5 w5 hbox5 hb5; clear hg5; have B5 := am hbox5; have B4' := am (blk_below B4.out hb5); have B3'' := am (blk_below B3'.out hb5); have M5 := am (below_step M4.out hb5); clear hbox5 hb5) | (go_at_call 91; refine (impl_LostToClocks.sw.calls (impl_LostToClocks.o k a0_0 a0_1 a0_2 l0_3 a1 a2) g3 g4 g5 k 0 1000 0 l _ (fun t q W hB hq => impl_LostToClocks.lit k a0_0 a0_1 a0_2 A0_3 c0_3 l0_3 a1 a2 t q g3 g4 g5 W (Kd.C_below hr0_3 (below_step M5.out hB)) hc0_3 ((blk_cell (blk_below B3''.out hB) 0).trans rfl) ((blk_cell (blk_below B3''.out hB) 1).trans rfl) ((blk_cell (blk_below B3''.out hB) 2).trans rfl) ((blk_cell (blk_below B3''.out hB) 3).trans rfl) ((blk_cell (blk_below B4'.out hB) 0).trans rfl) ((blk_cell (blk_below B5.out hB) 0).trans rfl) hq) H0.out).mono ?_; rintro e w6 ⟨v6, rfl, ho6, hb6⟩; have HO6 := am ho6; have M6 := am (below_step M5.out hb6); clear ho6 hb6; obtain ⟨A6, c6, e6⟩ := Kd.R_slice HO6.out; subst e6) | (go_at_call 37; refine (impl_TicksOf.calls k A6 c6 l r _ (Kd.R_reads' HO6.out).2.2 (Kd.R_reads' HO6.out).2.1 H.out).mono ?_; rintro e w7 ⟨rfl, hb7⟩; have M7 := am (below_step M6.out hb7); clear hb7))
 go_ret
 exact ⟨rfl, M7.out⟩

end Go.Proofs.Ytiihaabhjphaeaa.QFnMargins
