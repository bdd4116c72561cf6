/- Printed by a program of the session. Conditions: none. (squeezed). -/
import Derived.Test.YthnlkgbhohchoaaGreatVFnExactRepairedAtQFnExactRepairedAtx15
import Derived.Test.YthnlkgbhohchoaaGreatVFnExactRepairedAtQFnExactRepairedAtx16
namespace Go.Proofs.YthnlkgbhohchoaaGreat.QFnExactRepairedAt
set_option maxHeartbeats 8000000
set_option maxRecDepth 100000
open Go.RowKit Go.Proofs.YthnlkgbhohchoaaGreatW.PrintWords Go.Proofs.YthnlkgbhohchoaaGreatW.PrintLast Go.Proofs.YthnlkgbhohchoaaGreatW.PrintMore Go.Proofs.YthnlkgbhohchoaaGreat.Open Go.Proofs.YthnlkgbhohchoaaGreat.Sq
attribute [local go_sem] max2_int min2_int max_two min_two max_three min_three max_four min_four   -- for this text's walks alone
attribute [local go_sem] isSome_set
set_option linter.unusedVariables false
set_option linter.unusedSimpArgs false

theorem a17_0 {P : Prop} (h : P := by (with_reducible repeat (first | apply Kd.R_alloc | apply Kd.R_drewN | apply Kd.R_drew)); exact (Kd.R_mono (Kd.R_far (p := ⟨gb613, 3, none⟩) (Kd.R_far (p := ⟨gb613, 2, none⟩) (Kd.R_far (p := ⟨gb613, 1, none⟩) (Kd.R_far (p := ⟨gb613, 0, none⟩) (Kd.R_types HO_7.out BK613.out (by decide)) (fun _ hk => hk.2) (.int .i64 ((rd_T76 l0_3 x14_1).f0.f0))) (fun _ hk => hk.2) (.int .i64 ((rd_T76 l0_3 x14_1).f0.f1))) (fun _ hk => hk.2) (.slice A612_2 ((rd_T76 l0_3 x14_1).f1).length c612_2)) (fun _ hk => hk.2) (.slice A612_3 ((rd_T76 l0_3 x14_1).f2).length c612_3)) (fun _ h_ => h_.1))) : P := h
def impl_PiecesIn.l0 : Nat → Int → Int → List Int → List (S76) → Int → Int → Option (List Int)
  | 0, _, _, _, _, _, _ => none
  | k + 1, x1, x2, x7, x12, x13, x14 => if x14 < x13 then (if 0 ≤ x14 then (if x14 < (x12.length : Int) then ((impl_IsSpan.f ((rd_T76 x12 x14).f0.f0) ((rd_T76 x12 x14).f0.f1)).bind fun t614 => (if t614 = true then (if x1 ≤ x2 then (if ((rd_T76 x12 x14).f0.f0) ≤ x2 then (if ((rd_T76 x12 x14).f0.f1) > x1 then (if x7.length < 17592186044416 then (impl_PiecesIn.l0 k x1 x2 (x7 ++ [x14]) x12 x13 (wrap64 (x14 + 1))) else (none)) else (impl_PiecesIn.l0 k x1 x2 x7 x12 x13 (wrap64 (x14 + 1)))) else (impl_PiecesIn.l0 k x1 x2 x7 x12 x13 (wrap64 (x14 + 1)))) else (impl_PiecesIn.l0 k x1 x2 x7 x12 x13 (wrap64 (x14 + 1)))) else (impl_PiecesIn.l0 k x1 x2 x7 x12 x13 (wrap64 (x14 + 1))))) else (none)) else (none)) else (some x7)
def impl_PiecesIn.f (k : Nat) (a0_0 : Int) (a0_1 : Int) (a0_2 : Int) (l0_3 : List (S76)) (a1 : Int) (a2 : Int) : Option (List Int) := impl_PiecesIn.l0 k a1 a2 (([] : List Int)) l0_3 (l0_3.length : Int) 0
theorem impl_PiecesIn.mono_l : ∀ k, (∀ y0 y1 y2 y3 y4 y5, LeO (impl_PiecesIn.l0 k y0 y1 y2 y3 y4 y5) (impl_PiecesIn.l0 (k + 1) y0 y1 y2 y3 y4 y5))
  | 0 => fun _ _ _ _ _ _ r h => by simp [impl_PiecesIn.l0] at h
  | k + 1 => by
    have ih0 := impl_PiecesIn.mono_l k
    · intro y0 y1 y2 y3 y4 y5
      unfold impl_PiecesIn.l0
      exact mo
theorem impl_PiecesIn.mono : ∀ a0 a1 a2 a3 a4 a5 k, LeO (impl_PiecesIn.f k a0 a1 a2 a3 a4 a5) (impl_PiecesIn.f (k + 1) a0 a1 a2 a3 a4 a5) := by
  intro a0 a1 a2 a3 a4 a5 k
  have ih0 := impl_PiecesIn.mono_l k
  unfold impl_PiecesIn.f
  exact mo
theorem e17_0 {P : Prop} (h : P := by
 go_wp2_with (first | ((with_reducible refine gd 9 rfl ?_); refine bx 9 #[.int .i64 0, .int .i64 0, .slice none 0 0, .slice none 0 0] 76 ?_; intro gb613 hg w17 hbox hb; replace HO_7 := rb HO_7 hb; have GW613 := bzw w hg; have GE613 := bzw w hg; replace HB := bsw hb; have BK613 := am hbox; have NB608_613 := nl BK608 hg; have NB613_608 := ng BK608 hg; replace BK608 := bb BK608 hb; clear hb hbox hg; have hnb18 := NB613_608.out; have hnc18 := NB608_613.out; obtain ⟨_, _, _, _, _, _, _, _⟩ := cc4 BK613) | (have _ := c14b0; (with_reducible refine gc 46 rfl ?_); refine gL (some 21) Tryz.func46 #[.agg #[.int .i64 ((rd_T76 l0_3 x14_1).f0.f0), .int .i64 ((rd_T76 l0_3 x14_1).f0.f1)]] ?_; (with_reducible refine (impl_IsSpan.calls ((rd_T76 l0_3 x14_1).f0.f0) ((rd_T76 l0_3 x14_1).f0.f1) true _ A11.out).mono ?_); rintro e w20 ⟨rfl, hb⟩; refine ⟨_, rfl, ?_⟩; replace HO_7 := am (Kd.R_below a17_0 hb); replace BK608 := am (blk_below (g := gb608) (o := .cells #[.int .i64 a0_0, .int .i64 a0_1, .int .i64 a0_2, .slice (some ad612) l0_3.length c0_3] 32 (0, 0)) (sp BK608) hb); replace BK613 := am (blk_below (g := gb613) (o := .cells #[.int .i64 ((rd_T76 l0_3 x14_1).f0.f0), .int .i64 ((rd_T76 l0_3 x14_1).f0.f1), .slice A612_2 ((rd_T76 l0_3 x14_1).f1).length c612_2, .slice A612_3 ((rd_T76 l0_3 x14_1).f2).length c612_3] 76 (0, 0)) (sp BK613) hb); replace HB := bsw hb; (try clear hb); (try clear hk); obtain ⟨_, _, _, _, _, _, _, _⟩ := cc4 BK613) | (have _ := c14b0; (with_reducible refine gate_builtin (b := .append) (xs := #[.tmp 41, .tmp 43]) rfl ?_); at_builtin; refine Kd.R_append (Kd.int .i64) (w0 := w) w.heap.size rfl (.tmp 41) (.tmp 43) 25 3 (.int .i64 0) 8 rfl Tryz.underlying25 info3 rfl (by decide) (by omega) u7 x7_1 x14_1 [.int .i64 x14_1] (fun _ => True) (fun _ => False) rfl rfl ?aP (fun _ hk => hk.elim) ?aF ?aO ?aB ?aS ?aL ?_; (case aP => exact rfl); (case aB => exact (sbw)); (case aF => exact (fun _ _ => trivial)); (case aO => exact (sr HO_7)); (case aS => exact (below_size (sbw))); (case aL => have := LMc16.out; omega); intro v616 w22 ho hb hg hat; rw [← Ny615.out] at ho; replace BK608 := am (blk_grown (g := gb608) (o := .cells #[.int .i64 a0_0, .int .i64 a0_1, .int .i64 a0_2, .slice (some ad612) l0_3.length c0_3] 32 (0, 0)) (sk BK608) hg (Kd.R_ne HO_7.out BK608.out (by decide))); replace BK613 := am (blk_grown (g := gb613) (o := .cells #[.int .i64 ((rd_T76 l0_3 x14_1).f0.f0), .int .i64 ((rd_T76 l0_3 x14_1).f0.f1), .slice A612_2 ((rd_T76 l0_3 x14_1).f1).length c612_2, .slice A612_3 ((rd_T76 l0_3 x14_1).f2).length c612_3] 76 (0, 0)) (sk BK613) hg (Kd.R_ne HO_7.out BK613.out (by decide))); replace HB := am hb; have HO617 := am ho; clear HO_7; clear ho hb hg hat) | (have _ := c13b0; (with_reducible refine gc 46 rfl ?_); refine gL (some 21) Tryz.func46 #[.agg #[.int .i64 ((rd_T76 l0_3 x14_1).f0.f0), .int .i64 ((rd_T76 l0_3 x14_1).f0.f1)]] ?_; (with_reducible refine (impl_IsSpan.calls ((rd_T76 l0_3 x14_1).f0.f0) ((rd_T76 l0_3 x14_1).f0.f1) true _ A11.out).mono ?_); rintro e w36 ⟨rfl, hb⟩; refine ⟨_, rfl, ?_⟩; replace HO_7 := am (Kd.R_below a17_0 hb); replace BK608 := am (blk_below (g := gb608) (o := .cells #[.int .i64 a0_0, .int .i64 a0_1, .int .i64 a0_2, .slice (some ad612) l0_3.length c0_3] 32 (0, 0)) (sp BK608) hb); replace BK613 := am (blk_below (g := gb613) (o := .cells #[.int .i64 ((rd_T76 l0_3 x14_1).f0.f0), .int .i64 ((rd_T76 l0_3 x14_1).f0.f1), .slice A612_2 ((rd_T76 l0_3 x14_1).f1).length c612_2, .slice A612_3 ((rd_T76 l0_3 x14_1).f2).length c612_3] 76 (0, 0)) (sp BK613) hb); replace HB := bsw hb; (try clear hb); (try clear hk)) | ((with_reducible refine gc 46 rfl ?_); refine gL (some 21) Tryz.func46 #[.agg #[.int .i64 ((rd_T76 l0_3 x14_1).f0.f0), .int .i64 ((rd_T76 l0_3 x14_1).f0.f1)]] ?_; (with_reducible refine (impl_IsSpan.calls ((rd_T76 l0_3 x14_1).f0.f0) ((rd_T76 l0_3 x14_1).f0.f1) false _ A11.out).mono ?_); rintro e w40 ⟨rfl, hb⟩; refine ⟨_, rfl, ?_⟩; replace HO_7 := am (Kd.R_below a17_0 hb); replace BK608 := am (blk_below (g := gb608) (o := .cells #[.int .i64 a0_0, .int .i64 a0_1, .int .i64 a0_2, .slice (some ad612) l0_3.length c0_3] 32 (0, 0)) (sp BK608) hb); replace BK613 := am (blk_below (g := gb613) (o := .cells #[.int .i64 ((rd_T76 l0_3 x14_1).f0.f0), .int .i64 ((rd_T76 l0_3 x14_1).f0.f1), .slice A612_2 ((rd_T76 l0_3 x14_1).f1).length c612_2, .slice A612_3 ((rd_T76 l0_3 x14_1).f2).length c612_3] 76 (0, 0)) (sp BK613) hb); replace HB := bsw hb; (try clear hb); (try clear hk)))
 first
 | have _ := y615
   go_roundg k1
   case measure => have := HK1.out; omega
   case rel => exact ⟨(y615), (wrap64 (x14_1 + 1)), sc, H', kk1, ⟨sr HO617⟩, ⟨sk BK608⟩, ⟨sbw⟩⟩
 | go_roundg k1
   case measure => have := HK1.out; omega
   case rel => exact ⟨(x7_1), (wrap64 (x14_1 + 1)), sc, H', kk1, ⟨sr HO_7⟩, ⟨sk BK608⟩, ⟨sbw⟩⟩) : P := h
theorem impl_PiecesIn.calls (k : Nat) (a0_0 : Int) (a0_1 : Int) (a0_2 : Int) (A0_3 : Option Addr) (c0_3 : Nat) (l0_3 : List (S76)) (a1 : Int) (a2 : Int) (r : List Int) (w : World) (hr0_3 : Kd.C k76 w A0_3 l0_3.length l0_3) (hc0_3 : l0_3.length ≤ c0_3) (h : impl_PiecesIn.f k a0_0 a0_1 a0_2 l0_3 a1 a2 = some r) :
    Calls Tryz.prog 110 #[.agg #[.int .i64 a0_0, .int .i64 a0_1, .int .i64 a0_2, .slice A0_3 l0_3.length c0_3], .int .i64 a1, .int .i64 a2] w fun e w' => ∃ v0_ : Value, e = .returned (v0_) ∧ Kd.R (Kd.int .i64) 3 w' w.heap.size (fun _ => True) v0_ r ∧ Below w.heap.size w w' := by
 have hu32 := Tryz.underlying32
 have hu76 := Tryz.underlying76
 have hu73 := Tryz.underlying73
 have HR0_3 := am hr0_3
 have HC0_3 := am hc0_3
 clear hr0_3 hc0_3
 have HB := am (Below.refl w.heap.size w)
 have H := h; unfold impl_PiecesIn.f at H
 clear h
 obtain ⟨y609, hy609⟩ : ∃ y_ : List Int, y_ = (([] : List Int)) := ⟨_, rfl⟩
 replace H : (impl_PiecesIn.l0 k a1 a2 y609 l0_3 (l0_3.length : Int) 0) = some r := ry hy609 H
 have Ny609 := am hy609
 clear hy609
 have H' := am H
 clear H
 go_enter Tryz.func110, Tryz.ntmps110
 go_wp2_with (first | ((with_reducible refine gd 3 rfl ?_); refine bx 3 #[.int .i64 a0_0, .int .i64 a0_1, .int .i64 a0_2, .slice A0_3 l0_3.length c0_3] 32 ?_; intro gb608 hg w4 hbox hb; have GW608 := bz w hg; have GE608 := bz w hg; replace HB := bs hb; have BK608 := am hbox; clear hb hbox hg) | ((with_reducible refine gd 10 rfl ?_); refine rl_ (Kd.int .i64) 3 10 ?_; intro v610 w5 ho6 hb; (first | rw [← Ny609.out] at ho6 | (simp only [Int.reduceToNat] at ho6; rw [← Ny609.out] at ho6)); have HO611 := am (Kd.R_lower ho6 (below_size (sbw))); replace BK608 := bb BK608 hb; replace HB := bsw hb; clear hb ho6; obtain ⟨hcz7_0, hcz7_1, hcz7_2, hcz7_3, hfz7_0, hfz7_1, hfz7_2, hfz7_3⟩ := cc4 BK608))
 go_loopg [7, 14] k (fun kq v7 v14 w' => ∃ (x7_1 : List Int) (x14_1 : Int), v14 = .int .i64 x14_1 ∧ Aside0 (impl_PiecesIn.l0 kq a1 a2 x7_1 l0_3 (l0_3.length : Int) x14_1 = some r) ∧ Aside0 (kq ≤ k) ∧ Aside0 (Kd.R (Kd.int .i64) 3 w' w.heap.size (fun _ => True) v7 x7_1) ∧ Aside0 (w'.heap[gb608]? = some (.cells #[.int .i64 a0_0, .int .i64 a0_1, .int .i64 a0_2, (.slice A0_3 l0_3.length c0_3)] 32 (0, 0))) ∧ Aside0 (Below w.heap.size w w'))
 case atStart => exact ⟨(y609), (0), sc, H', kk0, ⟨sr HO611⟩, ⟨sk BK608⟩, ⟨sbw⟩⟩
 case round =>
  clear H'
  try clear hcz7_0
  try clear hcz7_1
  try clear hcz7_2
  try clear hcz7_3
  try clear hfz7_0
  try clear hfz7_1
  try clear hfz7_2
  try clear hfz7_3
  obtain ⟨x7_1, x14_1, rfl, HA, HK1, HO_7, BK608, HB⟩ := hrel
  cases gk with
  | zero => exact absurd HA.out (by simp [impl_PiecesIn.l0])
  | succ k1 =>
   have H := HA.out
   clear HA
   simp only [impl_PiecesIn.l0] at H
   obtain ⟨-, c8b0, H⟩ | ⟨-, c8b0, H⟩ := ic_ H
   ·obtain ⟨c9b0, H⟩ := id_ H
    obtain ⟨c10b0, H⟩ := id_ H
    obtain ⟨t614, A11, H⟩ := bnd H
    obtain rfl | rfl := tt t614
    ·replace H := ip H
     obtain ⟨-, c13b0, H⟩ | ⟨-, c13b0, H⟩ := ic_ H
     ·obtain ⟨-, c14b0, H⟩ | ⟨-, c14b0, H⟩ := ic_ H
      ·obtain ⟨-, c15b0, H⟩ | ⟨-, c15b0, H⟩ := ic_ H
       ·obtain ⟨LMc16, H⟩ := il_ H
        obtain ⟨y615, hy615⟩ : ∃ y_ : List Int, y_ = (x7_1 ++ [x14_1]) := ⟨_, rfl⟩
        replace H : (impl_PiecesIn.l0 k1 a1 a2 y615 l0_3 (l0_3.length : Int) (wrap64 (x14_1 + 1))) = some r := ry hy615 H
        have Ny615 := am hy615
        clear hy615
        have H' := am H
        clear H
        obtain ⟨p612, q612, ad612, A612_2, c612_2, A612_3, c612_3, e612, _, _, _, _, hx612_0, hx612_1, hx612_2, hx612_3, HC612_2, HR612_2, HC612_3, HR612_3⟩ := aT_T76 HR0_3 HB x14_1
        cases e612
        exact e17_0
       ·have H' := am H
        clear H
        obtain ⟨p612, q612, ad612, A612_2, c612_2, A612_3, c612_3, e612, _, _, _, _, hx612_0, hx612_1, hx612_2, hx612_3, HC612_2, HR612_2, HC612_3, HR612_3⟩ := aT_T76 HR0_3 HB x14_1
        cases e612
        exact e17_0
      ·have H' := am H
       clear H
       obtain ⟨p612, q612, ad612, A612_2, c612_2, A612_3, c612_3, e612, _, _, _, _, hx612_0, hx612_1, hx612_2, hx612_3, HC612_2, HR612_2, HC612_3, HR612_3⟩ := aT_T76 HR0_3 HB x14_1
       cases e612
       exact e17_0
     ·have H' := am H
      clear H
      obtain ⟨p612, q612, ad612, A612_2, c612_2, A612_3, c612_3, e612, _, _, _, _, hx612_0, hx612_1, hx612_2, hx612_3, HC612_2, HR612_2, HC612_3, HR612_3⟩ := aT_T76 HR0_3 HB x14_1
      cases e612
      exact e17_0
    ·replace H := im H
     have H' := am H
     clear H
     obtain ⟨p612, q612, ad612, A612_2, c612_2, A612_3, c612_3, e612, _, _, _, _, hx612_0, hx612_1, hx612_2, hx612_3, HC612_2, HR612_2, HC612_3, HR612_3⟩ := aT_T76 HR0_3 HB x14_1
     cases e612
     exact e17_0
   ·obtain rfl := Option.some.inj H
    go_wp2
    go_ret
    exact ⟨_, se, sr HO_7, sbw⟩

def impl_IsSafeMix.l0 : Nat → Int → List (List Int) → List Int → Int → Int → Int → Int → Int → List (S76) → Option (Bool)
  | 0, _, _, _, _, _, _, _, _, _ => none
  | k + 1, x1, x9, x18, x19, x20, x619000, x619001, x619002, x619003 => if x20 < x19 then (if 0 ≤ x20 then (if x20 < (x18.length : Int) then ((impl_TableIn.f x619000 x619001 x619002 x619003 (rd x18 x20) x1).bind fun bt626 => (if x9.length < 5864062014805 then (impl_IsSafeMix.l0 k x1 (x9 ++ [bt626.2.2.1]) x18 x19 (wrap64 (x20 + 1)) x619000 x619001 x619002 x619003) else (none))) else (none)) else (none)) else ((impl_UnionHasLoop.f k x9).bind fun t638 => (some (!t638)))
def impl_IsSafeMix.f (k : Nat) (a0_0 : Int) (a0_1 : Int) (a0_2 : Int) (l0_3 : List (S76)) (a1 : Int) (a2 : Int) (a3 : Int) : Option (Bool) := (impl_PiecesIn.f k a0_0 a0_1 a0_2 l0_3 a2 a3).bind fun t622 => (impl_IsSafeMix.l0 k a1 (([] : List (List Int))) t622 (t622.length : Int) 0 a0_0 a0_1 a0_2 l0_3)
theorem impl_IsSafeMix.mono_l : ∀ k, (∀ y0 y1 y2 y3 y4 y5 y6 y7 y8, LeO (impl_IsSafeMix.l0 k y0 y1 y2 y3 y4 y5 y6 y7 y8) (impl_IsSafeMix.l0 (k + 1) y0 y1 y2 y3 y4 y5 y6 y7 y8))
  | 0 => fun _ _ _ _ _ _ _ _ _ r h => by simp [impl_IsSafeMix.l0] at h
  | k + 1 => by
    have ih0 := impl_IsSafeMix.mono_l k
    · intro y0 y1 y2 y3 y4 y5 y6 y7 y8
      unfold impl_IsSafeMix.l0
      have m0 := @impl_PiecesIn.mono
      have m1 := @impl_UnionHasLoop.mono
      exact mo
theorem impl_IsSafeMix.mono : ∀ a0 a1 a2 a3 a4 a5 a6 k, LeO (impl_IsSafeMix.f k a0 a1 a2 a3 a4 a5 a6) (impl_IsSafeMix.f (k + 1) a0 a1 a2 a3 a4 a5 a6) := by
  intro a0 a1 a2 a3 a4 a5 a6 k
  have ih0 := impl_IsSafeMix.mono_l k
  unfold impl_IsSafeMix.f
  have m0 := @impl_PiecesIn.mono
  have m1 := @impl_UnionHasLoop.mono
  exact mo
theorem impl_IsSafeMix.calls (k : Nat) (a0_0 : Int) (a0_1 : Int) (a0_2 : Int) (A0_3 : Option Addr) (c0_3 : Nat) (l0_3 : List (S76)) (a1 : Int) (a2 : Int) (a3 : Int) (r : Bool) (w : World) (hr0_3 : Kd.C k76 w A0_3 l0_3.length l0_3) (hc0_3 : l0_3.length ≤ c0_3) (h : impl_IsSafeMix.f k a0_0 a0_1 a0_2 l0_3 a1 a2 a3 = some r) :
    Calls Tryz.prog 108 #[.agg #[.int .i64 a0_0, .int .i64 a0_1, .int .i64 a0_2, .slice A0_3 l0_3.length c0_3], .int .i64 a1, .int .i64 a2, .int .i64 a3] w fun e w' => e = .returned (.bool r) ∧ Below w.heap.size w w' := by
 have hu32 := Tryz.underlying32
 have hu50 := Tryz.underlying50
 have HR0_3 := am hr0_3
 have HC0_3 := am hc0_3
 clear hr0_3 hc0_3
 have HB := am (Below.refl w.heap.size w)
 have H := h; unfold impl_IsSafeMix.f at H
 clear h
 obtain ⟨y619, hy619⟩ : ∃ y_ : List (List Int), y_ = (([] : List (List Int))) := ⟨_, rfl⟩
 replace H : ((impl_PiecesIn.f k a0_0 a0_1 a0_2 l0_3 a2 a3).bind fun t622 => (impl_IsSafeMix.l0 k a1 y619 t622 (t622.length : Int) 0 a0_0 a0_1 a0_2 l0_3)) = some r := ry hy619 H
 have Ny619 := am hy619
 clear hy619
 obtain ⟨t622, A5, H⟩ := bnd H
 have H' := am H
 clear H
 go_enter Tryz.func108, Tryz.ntmps108
 go_wp2_with (first | ((with_reducible refine gd 4 rfl ?_); refine bx 4 #[.int .i64 a0_0, .int .i64 a0_1, .int .i64 a0_2, .slice A0_3 l0_3.length c0_3] 32 ?_; intro gb618 hg w6 hbox hb; have GW618 := bz w hg; have GE618 := bz w hg; replace HB := bs hb; have BK618 := am hbox; clear hb hbox hg) | ((with_reducible refine gd 14 rfl ?_); refine Kd.S_lit (Kd.slice 3 (Kd.int .i64)) _ 25 ?hg (N := 14) ?hd (xs := ([] : List (List Int))) (inner := []) (ok := fun _ => True) (okp := fun _ => True) ?hr ?hp (fun _ hk => hk) trivial (Below.refl _ _) (Nat.le_refl _) (by simp) ?_; (case hd => rfl); (case hg => rfl); (case hr => first | (go_simp; done) | (go_simp; rfl)); (case hp => exact (Reps.none _ _)); intro v620 w7 ho8 hb hg_ hnew_; clear hg_ hnew_; (first | rw [← Ny619.out] at ho8 | (simp only [Int.reduceToNat] at ho8; rw [← Ny619.out] at ho8)); have HO621 := am (Kd.S_lower ho8 (below_size (sbw))); replace BK618 := bb BK618 hb; replace HB := bsw hb; clear hb ho8; obtain ⟨_, _, _, _, _, _, _, _⟩ := cc4 BK618) | ((with_reducible refine gc 110 rfl ?_); refine gL (some 18) Tryz.func110 #[.agg #[.int .i64 a0_0, .int .i64 a0_1, .int .i64 a0_2, .slice A0_3 l0_3.length c0_3], .int .i64 a2, .int .i64 a3] ?_; (with_reducible refine (impl_PiecesIn.calls k a0_0 a0_1 a0_2 _ _ l0_3 a2 a3 t622 _ ?side1 ?side2 A5.out).mono ?_); (case side1 => exact cb HR0_3); (case side2 => exact HC0_3.out); rintro e w10 ⟨v623, rfl, ho0, hb⟩; refine ⟨_, rfl, ?_⟩; replace HO621 := am (Kd.S_elder' (ss HO621) (Kd.R_base ho0) hb); have HO624 := am (Kd.R_lower ho0 (below_size (sbw))); replace BK618 := bb BK618 hb; replace HB := bsw hb; (try clear hb); (try clear hk); (try clear ho0); obtain ⟨Ao11, co11, eo11⟩ := Kd.R_slice HO624.out; subst eo11))
 go_loopg [9, 20] k (fun kq v9 v20 w' => ∃ (x9_1 : List (List Int)) (x20_1 : Int), v20 = .int .i64 x20_1 ∧ Aside0 (impl_IsSafeMix.l0 kq a1 x9_1 t622 (t622.length : Int) x20_1 a0_0 a0_1 a0_2 l0_3 = some r) ∧ Aside0 (kq ≤ k) ∧ Aside0 (Kd.S (Kd.slice 3 (Kd.int .i64)) 25 w' w.heap.size (fun k_ => some k_ ≠ ((.slice Ao11 t622.length co11) : Value).ownBlock) v9 x9_1) ∧ Aside0 (Kd.R (Kd.int .i64) 3 w' w.heap.size (fun _ => True) (.slice Ao11 t622.length co11) t622) ∧ Aside0 (w'.heap[gb618]? = some (.cells #[.int .i64 a0_0, .int .i64 a0_1, .int .i64 a0_2, (.slice A0_3 l0_3.length c0_3)] 32 (0, 0))) ∧ Aside0 (Below w.heap.size w w'))
 case atStart => exact ⟨(y619), (0), sc, H', kk0, ⟨by (with_reducible repeat (first | apply Kd.S_alloc | apply Kd.S_drewN | apply Kd.S_drew)); exact Kd.S_mono HO621.out (fun _ hk => hk.2)⟩, ⟨sr HO624⟩, ⟨sk BK618⟩, ⟨sbw⟩⟩
 case round =>
  clear H'
  obtain ⟨x9_1, x20_1, rfl, HA, HK1, HO_9, HO_18, BK618, HB⟩ := hrel
  cases gk with
  | zero => exact absurd HA.out (by simp [impl_IsSafeMix.l0])
  | succ k1 =>
   have H := HA.out
   clear HA
   simp only [impl_IsSafeMix.l0] at H
   obtain ⟨-, c12b0, H⟩ | ⟨-, c12b0, H⟩ := ic_ H
   ·obtain ⟨c13b0, H⟩ := id_ H
    obtain ⟨c14b0, H⟩ := id_ H
    obtain ⟨⟨t626, t627, t630, t633⟩, A15, H⟩ := bnd H
    try dsimp only at H
    obtain ⟨LMc16, H⟩ := il_ H
    obtain ⟨y635, hy635⟩ : ∃ y_ : List (List Int), y_ = (x9_1 ++ [t630]) := ⟨_, rfl⟩
    replace H : (impl_IsSafeMix.l0 k1 a1 y635 t622 (t622.length : Int) (wrap64 (x20_1 + 1)) a0_0 a0_1 a0_2 l0_3) = some r := ry hy635 H
    have Ny635 := am hy635
    clear hy635
    have H' := am H
    clear H
    have p625 : 0 ≤ (x20_1 : Int) := sa
    have q625 : x20_1 < (t622.length : Int) := sa
    obtain ⟨ad625, e625, hx625_0⟩ := Kd.at_int (Kd.R_reads' HO_18.out).2.2 x20_1 p625 q625
    cases e625
    replace p625 := eq_true p625
    replace q625 := eq_true q625
    obtain ⟨_, _, _, _, _, _, _, _⟩ := cc4 BK618
    go_wp2_with (first | ((with_reducible refine gc 74 rfl ?_); refine gL (some 28) Tryz.func74 #[.agg #[.int .i64 a0_0, .int .i64 a0_1, .int .i64 a0_2, .slice A0_3 l0_3.length c0_3], .int .i64 (rd t622 x20_1), .int .i64 a1] ?_; (with_reducible refine (impl_TableIn.calls a0_0 a0_1 a0_2 _ _ l0_3 (rd t622 x20_1) a1 t626 t627 t630 t633 _ ?side1 ?side2 A15.out).mono ?_); (case side1 => exact cb HR0_3); (case side2 => exact HC0_3.out); rintro e w18 ⟨v628, v631, rfl, ho0, ho1, hb⟩; refine ⟨_, rfl, ?_⟩; replace HO_9 := am (Kd.S_mono (Kd.S_told (Kd.S_told (Kd.S_old (ss HO_9) hb) (Kd.R_base ho0)) (Kd.R_base ho1)) (fun _ h_ => h_.1)); have HO629 := am (Kd.R_lower (Kd.R_new' ho0 (Kd.R_lt (sr HO_18))) (below_size (sbw))); have HO632 := am (Kd.R_lower (Kd.R_new' ho1 (Kd.R_lt (sr HO_18))) (below_size (sbw))); replace HO_18 := am (Kd.R_mono (Kd.R_told (Kd.R_told (Kd.R_old (sr HO_18) hb) (Kd.R_base ho0)) (Kd.R_base ho1)) (fun _ h_ => h_.1)); replace BK618 := bb BK618 hb; replace HB := bsw hb; (try clear hb); (try clear hk); (try clear ho0); (try clear ho1)) | ((with_reducible refine gd 12 rfl ?_); refine bx 12 #[.int .i64 0, .slice none 0 0, .slice none 0 0] 50 ?_; intro gb634 hg w19 hbox hb; replace HO_9 := am (Kd.S_below (ss HO_9) hb); replace HO_18 := rb HO_18 hb; replace HO629 := rb HO629 hb; replace HO632 := rb HO632 hb; have GW634 := bzw w hg; have GE634 := bzw w hg; replace HB := bsw hb; have BK634 := am hbox; have NB618_634 := nl BK618 hg; have NB634_618 := ng BK618 hg; replace BK618 := bb BK618 hb; clear hb hbox hg; have hnb20 := NB634_618.out; have hnc20 := NB618_634.out; obtain ⟨_, _, _, _, _, _⟩ := cc3 BK634; obtain ⟨Ao22, co22, eo22⟩ := Kd.R_slice HO629.out; subst eo22; obtain ⟨Ao23, co23, eo23⟩ := Kd.R_slice HO632.out; subst eo23) | ((with_reducible refine gate_store (t := 50) (p := 12) rfl ?_); refine store_event (t := 50) (p := 12) (v := ?vo_w24) (w1 := (((w19.setCell ⟨gb634, 0, none⟩ (.int .i64 t626)).setCell ⟨gb634, 1, none⟩ (.slice Ao22 t627.length co22)).setCell ⟨gb634, 2, none⟩ (.slice Ao23 t630.length co23))) ?hg ?ho ?hn ?hr ?_; (case ho => rfl); (case hg => rfl); (case hn => rfl); (case hr => first | (go_simp; done) | (go_simp; rfl)); intro w24 hw; replace HO_9 : Aside0 (Kd.S (Kd.slice 3 (Kd.int .i64)) 25 w24 w.heap.size (fun k_ => some k_ ≠ (.slice (some ad625) t622.length co11 : Value).ownBlock ∧ some k_ ≠ (.slice Ao22 t627.length co22 : Value).ownBlock ∧ some k_ ≠ (.slice Ao23 t630.length co23 : Value).ownBlock) u9 x9_1) := ⟨(by rw [hw]; exact (by (with_reducible repeat (first | apply Kd.S_alloc | apply Kd.S_drewN | apply Kd.S_drew)); exact Kd.S_mono (Kd.S_far (p := ⟨gb634, 2, none⟩) (Kd.S_far (p := ⟨gb634, 1, none⟩) (Kd.S_far (p := ⟨gb634, 0, none⟩) (Kd.S_types HO_9.out BK634.out (by decide)) (fun _ hk => hk.2) (.int .i64 t626)) (fun _ hk => hk.2) (.slice Ao22 t627.length co22)) (fun _ hk => hk.2) (.slice Ao23 t630.length co23)) (fun _ hk => ⟨hk.1.1.1, ⟨hk.1.1.2, hk.1.2⟩⟩)))⟩; replace HO_18 : Aside0 (Kd.R (Kd.int .i64) 3 w24 w.heap.size (fun k_ => some k_ ≠ (.slice Ao22 t627.length co22 : Value).ownBlock ∧ some k_ ≠ (.slice Ao23 t630.length co23 : Value).ownBlock) (.slice (some ad625) t622.length co11) t622) := ⟨(by rw [hw]; exact (by (with_reducible repeat (first | apply Kd.R_alloc | apply Kd.R_drewN | apply Kd.R_drew)); exact Kd.R_mono (h3 HO_18 BK634) (fun _ hk => ⟨hk.1.1.2, hk.1.2⟩)))⟩; replace HO629 : Aside0 (Kd.R (Kd.int .i64) 3 w24 w.heap.size (fun k_ => some k_ ≠ (.slice (some ad625) t622.length co11 : Value).ownBlock ∧ some k_ ≠ (.slice Ao23 t630.length co23 : Value).ownBlock) (.slice Ao22 t627.length co22) t627) := ⟨(by rw [hw]; exact (by (with_reducible repeat (first | apply Kd.R_alloc | apply Kd.R_drewN | apply Kd.R_drew)); exact Kd.R_mono (h3 HO629 BK634) (fun _ hk => ⟨hk.1.2, hk.1.1⟩)))⟩; replace HO632 : Aside0 (Kd.R (Kd.int .i64) 3 w24 w.heap.size (fun k_ => some k_ ≠ (.slice (some ad625) t622.length co11 : Value).ownBlock ∧ some k_ ≠ (.slice Ao22 t627.length co22 : Value).ownBlock) (.slice Ao23 t630.length co23) t630) := ⟨(by rw [hw]; exact (by (with_reducible repeat (first | apply Kd.R_alloc | apply Kd.R_drewN | apply Kd.R_drew)); exact Kd.R_mono (h3 HO632 BK634) (fun _ hk => ⟨hk.1.2, hk.1.1⟩)))⟩; replace BK618 : Aside0 (w24.heap[gb618]? = some (.cells #[.int .i64 a0_0, .int .i64 a0_1, .int .i64 a0_2, .slice A0_3 l0_3.length c0_3] 32 (0, 0))) := ⟨(by rw [hw]; exact (sp BK618))⟩; replace BK634 : Aside0 (w24.heap[gb634]? = some (.cells #[.int .i64 t626, .slice Ao22 t627.length co22, .slice Ao23 t630.length co23] 50 (0, 0))) := ⟨(by rw [hw]; exact (sp BK634))⟩; replace HB : Aside0 (Below w.heap.size w w24) := ⟨(by rw [hw]; exact (sbw))⟩; clear hw; obtain ⟨_, _, _, _, _, _⟩ := cc3 BK634) | ((with_reducible refine gate_builtin (b := .append) (xs := #[.tmp 31, .tmp 34]) rfl ?_); at_builtin; refine Kd.S_append (Kd.slice 3 (Kd.int .i64)) (w0 := w) w.heap.size rfl (.tmp 31) (.tmp 34) 26 25 (.slice none 0 0) 24 rfl Tryz.underlying26 info25 rfl (by decide) (by omega) u9 x9_1 t630 [.slice Ao23 t630.length co23] (fun k_ => some k_ ≠ (.slice (some ad625) t622.length co11 : Value).ownBlock ∧ some k_ ≠ (.slice Ao22 t627.length co22 : Value).ownBlock) (fun k_ => some k_ = (.slice Ao23 t630.length co23 : Value).ownBlock) rfl rfl ?aP (fun k_ hk_ => ((Kd.R_mono (ok' := fun k_ => ((fun k_ => some k_ ≠ (.slice (some ad625) t622.length co11 : Value).ownBlock ∧ some k_ ≠ (.slice Ao22 t627.length co22 : Value).ownBlock)) k_ ∧ some k_ ≠ (u9 : Value).ownBlock) (Kd.R_apart' (HO632.out) (Kd.S_typed HO_9.out) (by decide)) (fun k_ hk => ⟨⟨hk.1.1, hk.1.2⟩, hk.2⟩))).1 k_ hk_.symm) ?aF ?aO ?aB ?aS ?aL ?_; (case aP => exact Kd.M_row (Kd.R_mono (Kd.R_tight rfl (Kd.R_mono (ok' := fun k_ => ((fun k_ => some k_ ≠ (.slice (some ad625) t622.length co11 : Value).ownBlock ∧ some k_ ≠ (.slice Ao22 t627.length co22 : Value).ownBlock)) k_ ∧ some k_ ≠ (u9 : Value).ownBlock) (Kd.R_apart' (HO632.out) (Kd.S_typed HO_9.out) (by decide)) (fun k_ hk => ⟨⟨hk.1.1, hk.1.2⟩, hk.2⟩))) (fun _ h_ => h_))); (case aB => exact (sbw)); (case aF => exact (fun k_ hk => ⟨Kd.fresh' (Kd.R_lt (sr HO_18)) k_ hk, Kd.fresh' (Kd.R_lt (sr HO629)) k_ hk⟩)); (case aO => exact (by (with_reducible repeat (first | apply Kd.S_alloc | apply Kd.S_drewN | apply Kd.S_drew)); exact Kd.S_mono HO_9.out (fun k_ hk => ⟨⟨hk.1, hk.2.1⟩, fun e_ => hk.2.2 e_⟩))); (case aS => exact (below_size (sbw))); (case aL => have := LMc16.out; omega); intro v636 w26 ho hb hg hat; rw [← Ny635.out] at ho; replace HO_18 := am (Kd.R_over' (sr HO_18) (Kd.S_typed (ss HO_9)) (by decide) hg); replace BK618 := am (blk_grown (g := gb618) (o := .cells #[.int .i64 a0_0, .int .i64 a0_1, .int .i64 a0_2, .slice A0_3 l0_3.length c0_3] 32 (0, 0)) (sk BK618) hg (Kd.S_ne HO_9.out BK618.out (by decide))); replace HO629 := am (Kd.R_over' (sr HO629) (Kd.S_typed (ss HO_9)) (by decide) hg); replace BK634 := am (blk_grown (g := gb634) (o := .cells #[.int .i64 t626, .slice Ao22 t627.length co22, .slice Ao23 t630.length co23] 50 (0, 0)) (sk BK634) hg (Kd.S_ne HO_9.out BK634.out (by decide))); replace HB := am hb; have HO637 := am ho; clear HO_9 HO632; clear ho hb hg hat))
    go_roundg k1
    case measure => have := HK1.out; omega
    case rel => exact ⟨(y635), (wrap64 (x20_1 + 1)), sc, H', kk1, ⟨by (with_reducible repeat (first | apply Kd.S_alloc | apply Kd.S_drewN | apply Kd.S_drew)); exact Kd.S_mono HO637.out (fun _ hk => hk.1)⟩, ⟨by exact rm HO_18 (fun _ hk => trivial)⟩, ⟨sk BK618⟩, ⟨sbw⟩⟩
   ·obtain ⟨t638, A27, H⟩ := bnd H
    obtain rfl := Option.some.inj H
    obtain ⟨Ao28, co28, eo28⟩ := Kd.S_slice HO_9.out
    subst eo28
    go_wp2_with (first | ((with_reducible refine gc 50 rfl ?_); refine gL (some 38) Tryz.func50 #[.slice Ao28 x9_1.length co28] ?_; (with_reducible refine (impl_UnionHasLoop.calls k1 _ _ x9_1 t638 _ ?side1 ?side2 A27.out).mono ?_); (case side1 => repeat (first | exact (Kd.S_reads' HO_9.out).2.2 | (with_reducible refine Kd.C_alloc ?_ _) | (with_reducible refine Kd.C_drewN ?_ _) | (with_reducible refine Kd.C_drew ?_))); (case side2 => exact (Kd.S_reads' HO_9.out).2.1); rintro e w29 ⟨rfl, hb⟩; refine ⟨_, rfl, ?_⟩; replace HO_9 := am (Kd.S_below (ss HO_9) hb); replace HO_18 := rb HO_18 hb; replace BK618 := bb BK618 hb; replace HB := bsw hb; (try clear hb)))
    go_ret
    exact ⟨se, sbw⟩

end Go.Proofs.YthnlkgbhohchoaaGreat.QFnExactRepairedAt
