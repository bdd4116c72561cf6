/- Printed by a program of the session. Conditions: none. (squeezed). -/
import Derived.Test.YtohbccekdmdmbaaVFnExactRepairHopQFnExactRepairHopx13
namespace Go.Proofs.Ytohbccekdmdmbaa.QFnExactRepairHop
set_option maxHeartbeats 8000000
set_option maxRecDepth 100000
open Go.RowKit Go.Proofs.YtohbccekdmdmbaaW.PrintWords Go.Proofs.YtohbccekdmdmbaaW.PrintLast Go.Proofs.YtohbccekdmdmbaaW.PrintMore Go.Proofs.Ytohbccekdmdmbaa.Open Go.Proofs.Ytohbccekdmdmbaa.Sq
attribute [local go_sem] max2_int min2_int max_two min_two max_three min_three max_four min_four   -- for this text's walks alone
attribute [local go_sem] isSome_set
set_option linter.unusedVariables false
set_option linter.unusedSimpArgs false

theorem a14_0 {P : Prop} (h : P := by (with_reducible repeat (first | apply Kd.R_alloc | apply Kd.R_drewN | apply Kd.R_drew)); exact (Kd.R_mono (Kd.R_far (p := ⟨gb562, 3, none⟩) (Kd.R_far (p := ⟨gb562, 2, none⟩) (Kd.R_far (p := ⟨gb562, 1, none⟩) (Kd.R_far (p := ⟨gb562, 0, none⟩) (Kd.R_types HO_7.out BK562.out (by decide)) (fun _ hk => hk.2) (.int .i64 ((rd_T75 l0_3 x14_1).f0.f0))) (fun _ hk => hk.2) (.int .i64 ((rd_T75 l0_3 x14_1).f0.f1))) (fun _ hk => hk.2) (.slice A561_2 ((rd_T75 l0_3 x14_1).f1).length c561_2)) (fun _ hk => hk.2) (.slice A561_3 ((rd_T75 l0_3 x14_1).f2).length c561_3)) (fun _ h_ => h_.1))) : P := h
def impl_PiecesIn.l0 : Nat → Int → Int → List Int → List (S75) → Int → Int → Option (List Int)
  | 0, _, _, _, _, _, _ => none
  | k + 1, x1, x2, x7, x12, x13, x14 => if x14 < x13 then (if 0 ≤ x14 then (if x14 < (x12.length : Int) then ((impl_IsSpan.f ((rd_T75 x12 x14).f0.f0) ((rd_T75 x12 x14).f0.f1)).bind fun t563 => (if t563 = true then (if x1 ≤ x2 then (if ((rd_T75 x12 x14).f0.f0) ≤ x2 then (if ((rd_T75 x12 x14).f0.f1) > x1 then (if x7.length < 17592186044416 then (impl_PiecesIn.l0 k x1 x2 (x7 ++ [x14]) x12 x13 (wrap64 (x14 + 1))) else (none)) else (impl_PiecesIn.l0 k x1 x2 x7 x12 x13 (wrap64 (x14 + 1)))) else (impl_PiecesIn.l0 k x1 x2 x7 x12 x13 (wrap64 (x14 + 1)))) else (impl_PiecesIn.l0 k x1 x2 x7 x12 x13 (wrap64 (x14 + 1)))) else (impl_PiecesIn.l0 k x1 x2 x7 x12 x13 (wrap64 (x14 + 1))))) else (none)) else (none)) else (some x7)
def impl_PiecesIn.f (k : Nat) (a0_0 : Int) (a0_1 : Int) (a0_2 : Int) (l0_3 : List (S75)) (a1 : Int) (a2 : Int) : Option (List Int) := impl_PiecesIn.l0 k a1 a2 (([] : List Int)) l0_3 (l0_3.length : Int) 0
theorem impl_PiecesIn.mono_l : ∀ k, (∀ y0 y1 y2 y3 y4 y5, LeO (impl_PiecesIn.l0 k y0 y1 y2 y3 y4 y5) (impl_PiecesIn.l0 (k + 1) y0 y1 y2 y3 y4 y5))
  | 0 => fun _ _ _ _ _ _ r h => by simp [impl_PiecesIn.l0] at h
  | k + 1 => by
    have ih0 := impl_PiecesIn.mono_l k
    · intro y0 y1 y2 y3 y4 y5
      unfold impl_PiecesIn.l0
      exact mo
theorem impl_PiecesIn.mono : ∀ a0 a1 a2 a3 a4 a5 k, LeO (impl_PiecesIn.f k a0 a1 a2 a3 a4 a5) (impl_PiecesIn.f (k + 1) a0 a1 a2 a3 a4 a5) := by
  intro a0 a1 a2 a3 a4 a5 k
  have ih0 := impl_PiecesIn.mono_l k
  unfold impl_PiecesIn.f
  exact mo
theorem e14_0 {P : Prop} (h : P := by
 go_wp2_with (first | ((with_reducible refine gd 9 rfl ?_); refine bx 9 #[.int .i64 0, .int .i64 0, .slice none 0 0, .slice none 0 0] 75 ?_; intro gb562 hg w17 hbox hb; replace HO_7 := rb HO_7 hb; have GW562 := bzw w hg; have GE562 := bzw w hg; replace HB := bsw hb; have BK562 := am hbox; have NB557_562 := nl BK557 hg; have NB562_557 := ng BK557 hg; replace BK557 := bb BK557 hb; clear hb hbox hg; have hnb18 := NB562_557.out; have hnc18 := NB557_562.out; obtain ⟨hcz19_0, hcz19_1, hcz19_2, hcz19_3, hfz19_0, hfz19_1, hfz19_2, hfz19_3⟩ := cc4 BK562) | (have _ := c14b0; (with_reducible refine gc 82 rfl ?_); refine gL (some 21) Try.func82 #[.agg #[.int .i64 ((rd_T75 l0_3 x14_1).f0.f0), .int .i64 ((rd_T75 l0_3 x14_1).f0.f1)]] ?_; (with_reducible refine (impl_IsSpan.calls ((rd_T75 l0_3 x14_1).f0.f0) ((rd_T75 l0_3 x14_1).f0.f1) true _ A11.out).mono ?_); rintro e w20 ⟨rfl, hb⟩; refine ⟨_, rfl, ?_⟩; replace HO_7 := am (Kd.R_below a14_0 hb); replace BK557 := am (blk_below (g := gb557) (o := .cells #[.int .i64 a0_0, .int .i64 a0_1, .int .i64 a0_2, .slice (some ad561) l0_3.length c0_3] 49 (0, 0)) (sp BK557) hb); replace BK562 := am (blk_below (g := gb562) (o := .cells #[.int .i64 ((rd_T75 l0_3 x14_1).f0.f0), .int .i64 ((rd_T75 l0_3 x14_1).f0.f1), .slice A561_2 ((rd_T75 l0_3 x14_1).f1).length c561_2, .slice A561_3 ((rd_T75 l0_3 x14_1).f2).length c561_3] 75 (0, 0)) (sp BK562) hb); replace HB := bsw hb; (try clear hb); (try clear hk); obtain ⟨hcz21_0, hcz21_1, hcz21_2, hcz21_3, hfz21_0, hfz21_1, hfz21_2, hfz21_3⟩ := cc4 BK562) | (have _ := c14b0; (with_reducible refine gate_builtin (b := .append) (xs := #[.tmp 41, .tmp 43]) rfl ?_); at_builtin; refine Kd.R_append (Kd.int .i64) (w0 := w) w.heap.size rfl (.tmp 41) (.tmp 43) 22 3 (.int .i64 0) 8 rfl Try.underlying22 info3 rfl (by decide) (by omega) u7 x7_1 x14_1 [.int .i64 x14_1] (fun _ => True) (fun _ => False) rfl rfl ?aP (fun _ hk => hk.elim) ?aF ?aO ?aB ?aS ?aL ?_; (case aP => exact rfl); (case aB => exact (sbw)); (case aF => exact (fun _ _ => trivial)); (case aO => exact (sr HO_7)); (case aS => exact (below_size (sbw))); (case aL => have := LMc16.out; omega); intro v565 w22 ho hb hg hat; rw [← Ny564.out] at ho; replace BK557 := am (blk_grown (g := gb557) (o := .cells #[.int .i64 a0_0, .int .i64 a0_1, .int .i64 a0_2, .slice (some ad561) l0_3.length c0_3] 49 (0, 0)) (sk BK557) hg (Kd.R_ne HO_7.out BK557.out (by decide))); replace BK562 := am (blk_grown (g := gb562) (o := .cells #[.int .i64 ((rd_T75 l0_3 x14_1).f0.f0), .int .i64 ((rd_T75 l0_3 x14_1).f0.f1), .slice A561_2 ((rd_T75 l0_3 x14_1).f1).length c561_2, .slice A561_3 ((rd_T75 l0_3 x14_1).f2).length c561_3] 75 (0, 0)) (sk BK562) hg (Kd.R_ne HO_7.out BK562.out (by decide))); replace HB := am hb; have HO566 := am ho; clear HO_7; clear ho hb hg hat) | (have _ := c13b0; (with_reducible refine gc 82 rfl ?_); refine gL (some 21) Try.func82 #[.agg #[.int .i64 ((rd_T75 l0_3 x14_1).f0.f0), .int .i64 ((rd_T75 l0_3 x14_1).f0.f1)]] ?_; (with_reducible refine (impl_IsSpan.calls ((rd_T75 l0_3 x14_1).f0.f0) ((rd_T75 l0_3 x14_1).f0.f1) true _ A11.out).mono ?_); rintro e w36 ⟨rfl, hb⟩; refine ⟨_, rfl, ?_⟩; replace HO_7 := am (Kd.R_below a14_0 hb); replace BK557 := am (blk_below (g := gb557) (o := .cells #[.int .i64 a0_0, .int .i64 a0_1, .int .i64 a0_2, .slice (some ad561) l0_3.length c0_3] 49 (0, 0)) (sp BK557) hb); replace BK562 := am (blk_below (g := gb562) (o := .cells #[.int .i64 ((rd_T75 l0_3 x14_1).f0.f0), .int .i64 ((rd_T75 l0_3 x14_1).f0.f1), .slice A561_2 ((rd_T75 l0_3 x14_1).f1).length c561_2, .slice A561_3 ((rd_T75 l0_3 x14_1).f2).length c561_3] 75 (0, 0)) (sp BK562) hb); replace HB := bsw hb; (try clear hb); (try clear hk)) | ((with_reducible refine gc 82 rfl ?_); refine gL (some 21) Try.func82 #[.agg #[.int .i64 ((rd_T75 l0_3 x14_1).f0.f0), .int .i64 ((rd_T75 l0_3 x14_1).f0.f1)]] ?_; (with_reducible refine (impl_IsSpan.calls ((rd_T75 l0_3 x14_1).f0.f0) ((rd_T75 l0_3 x14_1).f0.f1) false _ A11.out).mono ?_); rintro e w40 ⟨rfl, hb⟩; refine ⟨_, rfl, ?_⟩; replace HO_7 := am (Kd.R_below a14_0 hb); replace BK557 := am (blk_below (g := gb557) (o := .cells #[.int .i64 a0_0, .int .i64 a0_1, .int .i64 a0_2, .slice (some ad561) l0_3.length c0_3] 49 (0, 0)) (sp BK557) hb); replace BK562 := am (blk_below (g := gb562) (o := .cells #[.int .i64 ((rd_T75 l0_3 x14_1).f0.f0), .int .i64 ((rd_T75 l0_3 x14_1).f0.f1), .slice A561_2 ((rd_T75 l0_3 x14_1).f1).length c561_2, .slice A561_3 ((rd_T75 l0_3 x14_1).f2).length c561_3] 75 (0, 0)) (sp BK562) hb); replace HB := bsw hb; (try clear hb); (try clear hk)))
 first
 | have _ := y564
   go_roundg k1
   case measure => have := HK1.out; omega
   case rel => exact ⟨(y564), (wrap64 (x14_1 + 1)), sc, H', kk1, ⟨sr HO566⟩, ⟨sk BK557⟩, ⟨sbw⟩⟩
 | go_roundg k1
   case measure => have := HK1.out; omega
   case rel => exact ⟨(x7_1), (wrap64 (x14_1 + 1)), sc, H', kk1, ⟨sr HO_7⟩, ⟨sk BK557⟩, ⟨sbw⟩⟩) : P := h
theorem impl_PiecesIn.calls (k : Nat) (a0_0 : Int) (a0_1 : Int) (a0_2 : Int) (A0_3 : Option Addr) (c0_3 : Nat) (l0_3 : List (S75)) (a1 : Int) (a2 : Int) (r : List Int) (w : World) (hr0_3 : Kd.C k75 w A0_3 l0_3.length l0_3) (hc0_3 : l0_3.length ≤ c0_3) (h : impl_PiecesIn.f k a0_0 a0_1 a0_2 l0_3 a1 a2 = some r) :
    Calls Try.prog 65 #[.agg #[.int .i64 a0_0, .int .i64 a0_1, .int .i64 a0_2, .slice A0_3 l0_3.length c0_3], .int .i64 a1, .int .i64 a2] w fun e w' => ∃ v0_ : Value, e = .returned (v0_) ∧ Kd.R (Kd.int .i64) 3 w' w.heap.size (fun _ => True) v0_ r ∧ Below w.heap.size w w' := by
 have hu49 := Try.underlying49
 have hu75 := Try.underlying75
 have hu72 := Try.underlying72
 have HR0_3 := am hr0_3
 have HC0_3 := am hc0_3
 clear hr0_3 hc0_3
 have HB := am (Below.refl w.heap.size w)
 have H := h; unfold impl_PiecesIn.f at H
 clear h
 obtain ⟨y558, hy558⟩ : ∃ y_ : List Int, y_ = (([] : List Int)) := ⟨_, rfl⟩
 replace H : (impl_PiecesIn.l0 k a1 a2 y558 l0_3 (l0_3.length : Int) 0) = some r := ry hy558 H
 have Ny558 := am hy558
 clear hy558
 have H' := am H
 clear H
 go_enter Try.func65, Try.ntmps65
 go_wp2_with (first | ((with_reducible refine gd 3 rfl ?_); refine bx 3 #[.int .i64 a0_0, .int .i64 a0_1, .int .i64 a0_2, .slice A0_3 l0_3.length c0_3] 49 ?_; intro gb557 hg w4 hbox hb; have GW557 := bz w hg; have GE557 := bz w hg; replace HB := bs hb; have BK557 := am hbox; clear hb hbox hg) | ((with_reducible refine gd 10 rfl ?_); refine Kd.R_lit (Kd.int .i64) _ 3 ?hg (N := 10) ?hd (xs := ([] : List Int)) (inner := []) (ok := fun _ => True) (okp := fun _ => True) ?hr ?hp (fun _ hk => hk) trivial (Below.refl _ _) (Nat.le_refl _) (by simp) ?_; (case hd => rfl); (case hg => rfl); (case hr => first | (go_simp; done) | (go_simp; rfl)); (case hp => exact (Reps.none _ _)); intro v559 w5 ho6 hb hg_ hnew_; clear hg_ hnew_; (first | rw [← Ny558.out] at ho6 | (simp only [Int.reduceToNat] at ho6; rw [← Ny558.out] at ho6)); have HO560 := am (Kd.R_lower ho6 (below_size (sbw))); replace BK557 := bb BK557 hb; replace HB := bsw hb; clear hb ho6; obtain ⟨hcz7_0, hcz7_1, hcz7_2, hcz7_3, hfz7_0, hfz7_1, hfz7_2, hfz7_3⟩ := cc4 BK557))
 go_loopg [7, 14] k (fun kq v7 v14 w' => ∃ (x7_1 : List Int) (x14_1 : Int), v14 = .int .i64 x14_1 ∧ Aside0 (impl_PiecesIn.l0 kq a1 a2 x7_1 l0_3 (l0_3.length : Int) x14_1 = some r) ∧ Aside0 (kq ≤ k) ∧ Aside0 (Kd.R (Kd.int .i64) 3 w' w.heap.size (fun _ => True) v7 x7_1) ∧ Aside0 (w'.heap[gb557]? = some (.cells #[.int .i64 a0_0, .int .i64 a0_1, .int .i64 a0_2, (.slice A0_3 l0_3.length c0_3)] 49 (0, 0))) ∧ Aside0 (Below w.heap.size w w'))
 case atStart => exact ⟨(y558), (0), sc, H', kk0, ⟨sr HO560⟩, ⟨sk BK557⟩, ⟨sbw⟩⟩
 case round =>
  clear H'
  try clear hcz7_0
  try clear hcz7_1
  try clear hcz7_2
  try clear hcz7_3
  try clear hfz7_0
  try clear hfz7_1
  try clear hfz7_2
  try clear hfz7_3
  obtain ⟨x7_1, x14_1, rfl, HA, HK1, HO_7, BK557, HB⟩ := hrel
  cases gk with
  | zero => exact absurd HA.out (by simp [impl_PiecesIn.l0])
  | succ k1 =>
   have H := HA.out
   clear HA
   simp only [impl_PiecesIn.l0] at H
   obtain ⟨-, c8b0, H⟩ | ⟨-, c8b0, H⟩ := ic_ H
   ·obtain ⟨c9b0, H⟩ := id_ H
    obtain ⟨c10b0, H⟩ := id_ H
    obtain ⟨t563, A11, H⟩ := bnd H
    obtain rfl | rfl := tt t563
    ·replace H := ip H
     obtain ⟨-, c13b0, H⟩ | ⟨-, c13b0, H⟩ := ic_ H
     ·obtain ⟨-, c14b0, H⟩ | ⟨-, c14b0, H⟩ := ic_ H
      ·obtain ⟨-, c15b0, H⟩ | ⟨-, c15b0, H⟩ := ic_ H
       ·obtain ⟨LMc16, H⟩ := il_ H
        obtain ⟨y564, hy564⟩ : ∃ y_ : List Int, y_ = (x7_1 ++ [x14_1]) := ⟨_, rfl⟩
        replace H : (impl_PiecesIn.l0 k1 a1 a2 y564 l0_3 (l0_3.length : Int) (wrap64 (x14_1 + 1))) = some r := ry hy564 H
        have Ny564 := am hy564
        clear hy564
        have H' := am H
        clear H
        obtain ⟨p561, q561, ad561, A561_2, c561_2, A561_3, c561_3, e561, _, _, _, _, hx561_0, hx561_1, hx561_2, hx561_3, HC561_2, HR561_2, HC561_3, HR561_3⟩ := aT_T75 HR0_3 HB x14_1
        cases e561
        exact e14_0
       ·have H' := am H
        clear H
        obtain ⟨p561, q561, ad561, A561_2, c561_2, A561_3, c561_3, e561, _, _, _, _, hx561_0, hx561_1, hx561_2, hx561_3, HC561_2, HR561_2, HC561_3, HR561_3⟩ := aT_T75 HR0_3 HB x14_1
        cases e561
        exact e14_0
      ·have H' := am H
       clear H
       obtain ⟨p561, q561, ad561, A561_2, c561_2, A561_3, c561_3, e561, _, _, _, _, hx561_0, hx561_1, hx561_2, hx561_3, HC561_2, HR561_2, HC561_3, HR561_3⟩ := aT_T75 HR0_3 HB x14_1
       cases e561
       exact e14_0
     ·have H' := am H
      clear H
      obtain ⟨p561, q561, ad561, A561_2, c561_2, A561_3, c561_3, e561, _, _, _, _, hx561_0, hx561_1, hx561_2, hx561_3, HC561_2, HR561_2, HC561_3, HR561_3⟩ := aT_T75 HR0_3 HB x14_1
      cases e561
      exact e14_0
    ·replace H := im H
     have H' := am H
     clear H
     obtain ⟨p561, q561, ad561, A561_2, c561_2, A561_3, c561_3, e561, _, _, _, _, hx561_0, hx561_1, hx561_2, hx561_3, HC561_2, HR561_2, HC561_3, HR561_3⟩ := aT_T75 HR0_3 HB x14_1
     cases e561
     exact e14_0
   ·obtain rfl := Option.some.inj H
    go_wp2
    go_ret
    exact ⟨_, se, sr HO_7, sbw⟩

end Go.Proofs.Ytohbccekdmdmbaa.QFnExactRepairHop
