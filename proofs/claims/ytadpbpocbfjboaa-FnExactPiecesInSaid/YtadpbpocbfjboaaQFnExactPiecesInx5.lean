/- What the Go functions of the law FnExactPiecesIn come to, as Lean functions, and that they do: by a program of the session, out of the kit's printer. Conditions: none. (squeezed). -/
import Derived.Test.YtadpbpocbfjboaaSq
import Derived.Test.YtadpbpocbfjboaaMk
import Derived.Test.YtadpbpocbfjboaaQFnExactPiecesInx0
namespace Go.Proofs.Ytadpbpocbfjboaa.QFnExactPiecesIn
open Go.RowKit Go.Proofs.YtadpbpocbfjboaaW.PrintWords Go.Proofs.YtadpbpocbfjboaaW.PrintLast Go.Proofs.YtadpbpocbfjboaaW.PrintMore Go.Proofs.Ytadpbpocbfjboaa.Open Go.Proofs.Ytadpbpocbfjboaa.Sq
attribute [local go_sem] max2_int min2_int max_two min_two max_three min_three max_four min_four   -- for this text's walks alone
attribute [local go_sem] isSome_set
set_option linter.unusedVariables false
set_option linter.unusedSimpArgs false

/-! ### impl_IsSpan: function 67 -/
def impl_IsSpan.f (a0_0 : Int) (a0_1 : Int) : Option (Bool) := if a0_0 ≥ 0 then (if a0_1 ≤ 1000 then (some (decide (a0_0 < a0_1))) else (some false)) else (some false)
set_option maxHeartbeats 8000000 in
set_option maxRecDepth 100000 in
theorem impl_IsSpan.calls (a0_0 : Int) (a0_1 : Int) (r : Bool) (w : World) (h : impl_IsSpan.f a0_0 a0_1 = some r) :
    Calls Try.prog 67 #[.agg #[.int .i64 a0_0, .int .i64 a0_1]] w fun e w' => e = .returned (.bool r) ∧ Below w.heap.size w w' := by
 have hu65 := Try.underlying65
 have HB := Aside0.mk (Below.refl w.heap.size w)
 have H : (if a0_0 ≥ 0 then (if a0_1 ≤ 1000 then (some (decide (a0_0 < a0_1))) else (some false)) else (some false)) = some r := h
 clear h
 obtain ⟨c2, H⟩ | ⟨c2, H⟩ := ie_ H
 ·have c2b0 := decide_eq_true c2
  clear c2
  obtain ⟨c3, H⟩ | ⟨c3, H⟩ := ie_ H
  ·have c3b0 := decide_eq_true c3
   clear c3
   obtain rfl := Option.some.inj H
   go_enter Try.func67, Try.ntmps67
   go_wp2_with (first | ((with_reducible refine gate_dst (N := 1) rfl ?_); refine bx 1 #[.int .i64 a0_0, .int .i64 a0_1] 65 ?_; intro gb220 hg w4 hbox hb; have BK220 := Aside0.mk hbox; have GW220 := bz w hg; have GE220 := bz w hg; replace HB := bs hb; clear hb hbox hg; obtain ⟨hcz5_0, hcz5_1, hfz5_0, hfz5_1⟩ := cc2 BK220))
   go_ret
   exact ⟨se, sbw⟩
  ·have c3b0 := decide_eq_false c3
   clear c3
   obtain rfl := Option.some.inj H
   go_enter Try.func67, Try.ntmps67
   go_wp2_with (first | ((with_reducible refine gate_dst (N := 1) rfl ?_); refine bx 1 #[.int .i64 a0_0, .int .i64 a0_1] 65 ?_; intro gb220 hg w6 hbox hb; have BK220 := Aside0.mk hbox; have GW220 := bz w hg; have GE220 := bz w hg; replace HB := bs hb; clear hb hbox hg; obtain ⟨hcz7_0, hcz7_1, hfz7_0, hfz7_1⟩ := cc2 BK220))
   go_ret
   exact ⟨se, sbw⟩
 ·have c2b0 := decide_eq_false c2
  clear c2
  obtain rfl := Option.some.inj H
  go_enter Try.func67, Try.ntmps67
  go_wp2_with (first | ((with_reducible refine gate_dst (N := 1) rfl ?_); refine bx 1 #[.int .i64 a0_0, .int .i64 a0_1] 65 ?_; intro gb220 hg w8 hbox hb; have BK220 := Aside0.mk hbox; have GW220 := bz w hg; have GE220 := bz w hg; replace HB := bs hb; clear hb hbox hg; obtain ⟨hcz9_0, hcz9_1, hfz9_0, hfz9_1⟩ := cc2 BK220))
  go_ret
  exact ⟨se, sbw⟩

/-! ### impl_PiecesIn: function 27 -/
def impl_PiecesIn.l0 : Nat → Int → Int → List Int → List (S69) → Int → Int → Option (List Int)
  | 0, _, _, _, _, _, _ => none
  | k + 1, x1, x2, x7, x12, x13, x14 => if x14 < x13 then (if 0 ≤ x14 then (if x14 < (x12.length : Int) then ((impl_IsSpan.f ((rd_T69 x12 x14).f0.f0) ((rd_T69 x12 x14).f0.f1)).bind fun t227 => (if t227 = true then (if x1 ≤ x2 then (if ((rd_T69 x12 x14).f0.f0) ≤ x2 then (if ((rd_T69 x12 x14).f0.f1) > x1 then (if x7.length < 17592186044416 then (impl_PiecesIn.l0 k x1 x2 (x7 ++ [x14]) x12 x13 (wrap64 (x14 + 1))) else (none)) else (impl_PiecesIn.l0 k x1 x2 x7 x12 x13 (wrap64 (x14 + 1)))) else (impl_PiecesIn.l0 k x1 x2 x7 x12 x13 (wrap64 (x14 + 1)))) else (impl_PiecesIn.l0 k x1 x2 x7 x12 x13 (wrap64 (x14 + 1)))) else (impl_PiecesIn.l0 k x1 x2 x7 x12 x13 (wrap64 (x14 + 1))))) else (none)) else (none)) else (some x7)
def impl_PiecesIn.f (k : Nat) (a0_0 : Int) (a0_1 : Int) (a0_2 : Int) (l0_3 : List (S69)) (a1 : Int) (a2 : Int) : Option (List Int) := impl_PiecesIn.l0 k a1 a2 (([] : List Int)) l0_3 (l0_3.length : Int) 0
theorem impl_PiecesIn.mono_l : ∀ k, (∀ y0 y1 y2 y3 y4 y5, LeO (impl_PiecesIn.l0 k y0 y1 y2 y3 y4 y5) (impl_PiecesIn.l0 (k + 1) y0 y1 y2 y3 y4 y5))
  | 0 => fun _ _ _ _ _ _ r h => by simp [impl_PiecesIn.l0] at h
  | k + 1 => by
    have ih0 := impl_PiecesIn.mono_l k
    · intro y0 y1 y2 y3 y4 y5
      unfold impl_PiecesIn.l0
      exact mo
theorem impl_PiecesIn.mono : ∀ a0 a1 a2 a3 a4 a5 k, LeO (impl_PiecesIn.f k a0 a1 a2 a3 a4 a5) (impl_PiecesIn.f (k + 1) a0 a1 a2 a3 a4 a5) := by
  intro a0 a1 a2 a3 a4 a5 k
  have ih0 := impl_PiecesIn.mono_l k
  unfold impl_PiecesIn.f
  exact mo
set_option maxHeartbeats 8000000 in
set_option maxRecDepth 100000 in
theorem impl_PiecesIn.calls (k : Nat) (a0_0 : Int) (a0_1 : Int) (a0_2 : Int) (A0_3 : Option Addr) (c0_3 : Nat) (l0_3 : List (S69)) (a1 : Int) (a2 : Int) (r : List Int) (w : World) (hr0_3 : Kd.C k69 w A0_3 l0_3.length l0_3) (hc0_3 : l0_3.length ≤ c0_3) (h : impl_PiecesIn.f k a0_0 a0_1 a0_2 l0_3 a1 a2 = some r) :
    Calls Try.prog 27 #[.agg #[.int .i64 a0_0, .int .i64 a0_1, .int .i64 a0_2, .slice A0_3 l0_3.length c0_3], .int .i64 a1, .int .i64 a2] w fun e w' => ∃ v0_ : Value, e = .returned (v0_) ∧ Kd.R (Kd.int .i64) 3 w' w.heap.size (fun _ => True) v0_ r ∧ Below w.heap.size w w' := by
 have hu29 := Try.underlying29
 have hu69 := Try.underlying69
 have hu65 := Try.underlying65
 have HR0_3 := Aside0.mk hr0_3
 have HC0_3 := Aside0.mk hc0_3
 clear hr0_3 hc0_3
 have HB := Aside0.mk (Below.refl w.heap.size w)
 have H : (impl_PiecesIn.l0 k a1 a2 (([] : List Int)) l0_3 (l0_3.length : Int) 0) = some r := h
 clear h
 obtain ⟨y222, hy222⟩ : ∃ y_ : List Int, y_ = (([] : List Int)) := ⟨_, rfl⟩
 replace H : (impl_PiecesIn.l0 k a1 a2 y222 l0_3 (l0_3.length : Int) 0) = some r := by first | (rw [hy222]; with_reducible exact H) | (have H2_ := (Option.bind_some _ _).symm.trans H; rw [hy222]; with_reducible exact H2_) | (have H2_ := (Option.bind_some _ _).symm.trans H; with_reducible exact H2_) | with_reducible exact H | (rw [hy222]; exact H) | exact H
 have Ny222 := Aside0.mk hy222
 clear hy222
 have H' := Aside0.mk H
 clear H
 go_enter Try.func27, Try.ntmps27
 go_wp2_with (first | ((with_reducible refine gate_dst (N := 3) rfl ?_); refine bx 3 #[.int .i64 a0_0, .int .i64 a0_1, .int .i64 a0_2, .slice A0_3 l0_3.length c0_3] 29 ?_; intro gb221 hg w4 hbox hb; have BK221 := Aside0.mk hbox; have GW221 := bz w hg; have GE221 := bz w hg; replace HB := bs hb; clear hb hbox hg) | ((with_reducible refine gate_dst (N := 10) rfl ?_); refine Kd.R_lit (Kd.int .i64) _ 3 ?hg (N := 10) ?hd (xs := ([] : List Int)) (inner := []) (ok := fun _ => True) (okp := fun _ => True) ?hr ?hp (fun _ hk => hk) trivial (Below.refl _ _) (Nat.le_refl _) (by simp) ?_; (case hd => rfl); (case hg => rfl); (case hr => first | (go_simp; done) | (go_simp; rfl)); (case hp => exact (Reps.none _ _)); intro v223 w5 ho6 hb hg_ hnew_; clear hg_ hnew_; (first | rw [← Ny222.out] at ho6 | (simp only [Int.reduceToNat] at ho6; rw [← Ny222.out] at ho6)); have HO224 := Aside0.mk (Kd.R_lower ho6 (below_size (sbw))); replace BK221 := bb BK221 hb; replace HB := bsw hb; clear hb ho6; obtain ⟨hcz7_0, hcz7_1, hcz7_2, hcz7_3, hfz7_0, hfz7_1, hfz7_2, hfz7_3⟩ := cc4 BK221))
 go_loopg [7, 14] k (fun kq v7 v14 w' => ∃ (x7_1 : List Int) (x14_1 : Int), v14 = .int .i64 x14_1 ∧ Aside0 (impl_PiecesIn.l0 kq a1 a2 x7_1 l0_3 (l0_3.length : Int) x14_1 = some r) ∧ Aside0 (kq ≤ k) ∧ Aside0 (Kd.R (Kd.int .i64) 3 w' w.heap.size (fun _ => True) v7 x7_1) ∧ Aside0 (w'.heap[gb221]? = some (.cells #[.int .i64 a0_0, .int .i64 a0_1, .int .i64 a0_2, (.slice A0_3 l0_3.length c0_3)] 29 (0, 0))) ∧ Aside0 (Below w.heap.size w w'))
 case atStart => exact ⟨(y222), (0), sc, H', kk0, ⟨sr HO224⟩, ⟨sk BK221⟩, ⟨sbw⟩⟩
 case round =>
  clear H'
  try clear hcz7_0
  try clear hcz7_1
  try clear hcz7_2
  try clear hcz7_3
  try clear hfz7_0
  try clear hfz7_1
  try clear hfz7_2
  try clear hfz7_3
  obtain ⟨x7_1, x14_1, rfl, HA, HK1, HO_7, BK221, HB⟩ := hrel
  cases gk with
  | zero => exact absurd HA.out (by simp [impl_PiecesIn.l0])
  | succ k1 =>
   have H := HA.out
   clear HA
   simp only [impl_PiecesIn.l0] at H
   obtain ⟨c8, H⟩ | ⟨c8, H⟩ := ie_ H
   ·have c8b0 := decide_eq_true c8
    clear c8
    obtain ⟨c9b0, H⟩ := id_ H
    obtain ⟨c10b0, H⟩ := id_ H
    obtain ⟨t227, A11, H⟩ := bnd H
    obtain rfl | rfl := tt t227
    ·replace H := ip H
     obtain ⟨c13, H⟩ | ⟨c13, H⟩ := ie_ H
     ·have c13b0 := decide_eq_true c13
      clear c13
      obtain ⟨c14, H⟩ | ⟨c14, H⟩ := ie_ H
      ·have c14b0 := decide_eq_true c14
       clear c14
       obtain ⟨c15, H⟩ | ⟨c15, H⟩ := ie_ H
       ·have c15b0 := decide_eq_true c15
        clear c15
        obtain ⟨LMc16, H⟩ := il_ H
        obtain ⟨y228, hy228⟩ : ∃ y_ : List Int, y_ = (x7_1 ++ [x14_1]) := ⟨_, rfl⟩
        replace H : (impl_PiecesIn.l0 k1 a1 a2 y228 l0_3 (l0_3.length : Int) (wrap64 (x14_1 + 1))) = some r := by first | (rw [hy228]; with_reducible exact H) | (have H2_ := (Option.bind_some _ _).symm.trans H; rw [hy228]; with_reducible exact H2_) | (have H2_ := (Option.bind_some _ _).symm.trans H; with_reducible exact H2_) | with_reducible exact H | (rw [hy228]; exact H) | exact H
        have Ny228 := Aside0.mk hy228
        clear hy228
        have H' := Aside0.mk H
        clear H
        obtain ⟨p225, q225, ad225, A225_2, c225_2, A225_3, c225_3, e225, _, _, _, _, hx225_0, hx225_1, hx225_2, hx225_3, HC225_2, HR225_2, HC225_3, HR225_3⟩ := aT_T69 HR0_3 HB x14_1
        cases e225
        go_wp2_with (first | ((with_reducible refine gate_dst (N := 9) rfl ?_); refine bx 9 #[.int .i64 0, .int .i64 0, .slice none 0 0, .slice none 0 0] 69 ?_; intro gb226 hg w17 hbox hb; replace HO_7 := Aside0.mk (Kd.R_below (sr HO_7) hb); have BK226 := Aside0.mk hbox; have GW226 := bzw w hg; have GE226 := bzw w hg; replace HB := bsw hb; have NB221_226 := nl BK221 hg; have NB226_221 := ng BK221 hg; replace BK221 := bb BK221 hb; clear hb hbox hg; have hnb18 := NB226_221.out; have hnc18 := NB221_226.out; obtain ⟨hcz19_0, hcz19_1, hcz19_2, hcz19_3, hfz19_0, hfz19_1, hfz19_2, hfz19_3⟩ := cc4 BK226) | ((with_reducible refine gate_callee (f := 67) rfl ?_); refine gL (some 21) Try.func67 #[.agg #[.int .i64 ((rd_T69 l0_3 x14_1).f0.f0), .int .i64 ((rd_T69 l0_3 x14_1).f0.f1)]] ?_; (with_reducible refine (impl_IsSpan.calls ((rd_T69 l0_3 x14_1).f0.f0) ((rd_T69 l0_3 x14_1).f0.f1) true _ A11.out).mono ?_); rintro e w20 ⟨rfl, hb⟩; refine ⟨_, rfl, ?_⟩; replace HO_7 := Aside0.mk (Kd.R_below (by (with_reducible repeat (first | apply Kd.R_alloc | apply Kd.R_drewN | apply Kd.R_drew)); exact (Kd.R_mono (Kd.R_far (p := ⟨gb226, 3, none⟩) (Kd.R_far (p := ⟨gb226, 2, none⟩) (Kd.R_far (p := ⟨gb226, 1, none⟩) (Kd.R_far (p := ⟨gb226, 0, none⟩) (Kd.R_types HO_7.out BK226.out (by decide)) (fun _ hk => hk.2) (.int .i64 ((rd_T69 l0_3 x14_1).f0.f0))) (fun _ hk => hk.2) (.int .i64 ((rd_T69 l0_3 x14_1).f0.f1))) (fun _ hk => hk.2) (.slice A225_2 ((rd_T69 l0_3 x14_1).f1).length c225_2)) (fun _ hk => hk.2) (.slice A225_3 ((rd_T69 l0_3 x14_1).f2).length c225_3)) (fun _ h_ => h_.1))) hb); replace BK221 := Aside0.mk (blk_below (g := gb221) (o := .cells #[.int .i64 a0_0, .int .i64 a0_1, .int .i64 a0_2, .slice (some ad225) l0_3.length c0_3] 29 (0, 0)) (sp BK221) hb); replace BK226 := Aside0.mk (blk_below (g := gb226) (o := .cells #[.int .i64 ((rd_T69 l0_3 x14_1).f0.f0), .int .i64 ((rd_T69 l0_3 x14_1).f0.f1), .slice A225_2 ((rd_T69 l0_3 x14_1).f1).length c225_2, .slice A225_3 ((rd_T69 l0_3 x14_1).f2).length c225_3] 69 (0, 0)) (sp BK226) hb); replace HB := bsw hb; (try clear hb); (try clear hb2); (try clear hk); (try clear hi); obtain ⟨hcz21_0, hcz21_1, hcz21_2, hcz21_3, hfz21_0, hfz21_1, hfz21_2, hfz21_3⟩ := cc4 BK226) | ((with_reducible refine gate_builtin (b := .append) (xs := #[.tmp 41, .tmp 43]) rfl ?_); at_builtin; refine Kd.R_append (Kd.int .i64) (w0 := w) w.heap.size rfl (.tmp 41) (.tmp 43) 37 3 (.int .i64 0) 8 rfl Try.underlying37 info3 rfl (by decide) (by omega) u7 x7_1 x14_1 [.int .i64 x14_1] (fun _ => True) (fun _ => False) rfl rfl ?aP (fun _ hk => hk.elim) ?aF ?aO ?aB ?aS ?aL ?_; (case aP => exact rfl); (case aB => exact (sbw)); (case aF => exact (fun _ _ => trivial)); (case aO => exact (sr HO_7)); (case aS => exact (below_size (sbw))); (case aL => have := LMc16.out; omega); intro v229 w22 ho hb hg hat; rw [← Ny228.out] at ho; replace BK221 := Aside0.mk (blk_grown (g := gb221) (o := .cells #[.int .i64 a0_0, .int .i64 a0_1, .int .i64 a0_2, .slice (some ad225) l0_3.length c0_3] 29 (0, 0)) (sk BK221) hg (Kd.R_ne HO_7.out BK221.out (by decide))); replace BK226 := Aside0.mk (blk_grown (g := gb226) (o := .cells #[.int .i64 ((rd_T69 l0_3 x14_1).f0.f0), .int .i64 ((rd_T69 l0_3 x14_1).f0.f1), .slice A225_2 ((rd_T69 l0_3 x14_1).f1).length c225_2, .slice A225_3 ((rd_T69 l0_3 x14_1).f2).length c225_3] 69 (0, 0)) (sk BK226) hg (Kd.R_ne HO_7.out BK226.out (by decide))); replace HB := Aside0.mk hb; have HO230 := Aside0.mk ho; clear HO_7; clear ho hb hg hat))
        go_roundg k1
        case measure => have := HK1.out; omega
        case rel => exact ⟨(y228), (wrap64 (x14_1 + 1)), sc, H', kk1, ⟨sr HO230⟩, ⟨sk BK221⟩, ⟨sbw⟩⟩
       ·have c15b0 := decide_eq_false c15
        clear c15
        have H' := Aside0.mk H
        clear H
        obtain ⟨p225, q225, ad225, A225_2, c225_2, A225_3, c225_3, e225, _, _, _, _, hx225_0, hx225_1, hx225_2, hx225_3, HC225_2, HR225_2, HC225_3, HR225_3⟩ := aT_T69 HR0_3 HB x14_1
        cases e225
        go_wp2_with (first | ((with_reducible refine gate_dst (N := 9) rfl ?_); refine bx 9 #[.int .i64 0, .int .i64 0, .slice none 0 0, .slice none 0 0] 69 ?_; intro gb226 hg w23 hbox hb; replace HO_7 := Aside0.mk (Kd.R_below (sr HO_7) hb); have BK226 := Aside0.mk hbox; have GW226 := bzw w hg; have GE226 := bzw w hg; replace HB := bsw hb; have NB221_226 := nl BK221 hg; have NB226_221 := ng BK221 hg; replace BK221 := bb BK221 hb; clear hb hbox hg; have hnb24 := NB226_221.out; have hnc24 := NB221_226.out; obtain ⟨hcz25_0, hcz25_1, hcz25_2, hcz25_3, hfz25_0, hfz25_1, hfz25_2, hfz25_3⟩ := cc4 BK226) | ((with_reducible refine gate_callee (f := 67) rfl ?_); refine gL (some 21) Try.func67 #[.agg #[.int .i64 ((rd_T69 l0_3 x14_1).f0.f0), .int .i64 ((rd_T69 l0_3 x14_1).f0.f1)]] ?_; (with_reducible refine (impl_IsSpan.calls ((rd_T69 l0_3 x14_1).f0.f0) ((rd_T69 l0_3 x14_1).f0.f1) true _ A11.out).mono ?_); rintro e w26 ⟨rfl, hb⟩; refine ⟨_, rfl, ?_⟩; replace HO_7 := Aside0.mk (Kd.R_below (by (with_reducible repeat (first | apply Kd.R_alloc | apply Kd.R_drewN | apply Kd.R_drew)); exact (Kd.R_mono (Kd.R_far (p := ⟨gb226, 3, none⟩) (Kd.R_far (p := ⟨gb226, 2, none⟩) (Kd.R_far (p := ⟨gb226, 1, none⟩) (Kd.R_far (p := ⟨gb226, 0, none⟩) (Kd.R_types HO_7.out BK226.out (by decide)) (fun _ hk => hk.2) (.int .i64 ((rd_T69 l0_3 x14_1).f0.f0))) (fun _ hk => hk.2) (.int .i64 ((rd_T69 l0_3 x14_1).f0.f1))) (fun _ hk => hk.2) (.slice A225_2 ((rd_T69 l0_3 x14_1).f1).length c225_2)) (fun _ hk => hk.2) (.slice A225_3 ((rd_T69 l0_3 x14_1).f2).length c225_3)) (fun _ h_ => h_.1))) hb); replace BK221 := Aside0.mk (blk_below (g := gb221) (o := .cells #[.int .i64 a0_0, .int .i64 a0_1, .int .i64 a0_2, .slice (some ad225) l0_3.length c0_3] 29 (0, 0)) (sp BK221) hb); replace BK226 := Aside0.mk (blk_below (g := gb226) (o := .cells #[.int .i64 ((rd_T69 l0_3 x14_1).f0.f0), .int .i64 ((rd_T69 l0_3 x14_1).f0.f1), .slice A225_2 ((rd_T69 l0_3 x14_1).f1).length c225_2, .slice A225_3 ((rd_T69 l0_3 x14_1).f2).length c225_3] 69 (0, 0)) (sp BK226) hb); replace HB := bsw hb; (try clear hb); (try clear hb2); (try clear hk); (try clear hi); obtain ⟨hcz27_0, hcz27_1, hcz27_2, hcz27_3, hfz27_0, hfz27_1, hfz27_2, hfz27_3⟩ := cc4 BK226))
        go_roundg k1
        case measure => have := HK1.out; omega
        case rel => exact ⟨(x7_1), (wrap64 (x14_1 + 1)), sc, H', kk1, ⟨sr HO_7⟩, ⟨sk BK221⟩, ⟨sbw⟩⟩
      ·have c14b0 := decide_eq_false c14
       clear c14
       have H' := Aside0.mk H
       clear H
       obtain ⟨p225, q225, ad225, A225_2, c225_2, A225_3, c225_3, e225, _, _, _, _, hx225_0, hx225_1, hx225_2, hx225_3, HC225_2, HR225_2, HC225_3, HR225_3⟩ := aT_T69 HR0_3 HB x14_1
       cases e225
       go_wp2_with (first | ((with_reducible refine gate_dst (N := 9) rfl ?_); refine bx 9 #[.int .i64 0, .int .i64 0, .slice none 0 0, .slice none 0 0] 69 ?_; intro gb226 hg w28 hbox hb; replace HO_7 := Aside0.mk (Kd.R_below (sr HO_7) hb); have BK226 := Aside0.mk hbox; have GW226 := bzw w hg; have GE226 := bzw w hg; replace HB := bsw hb; have NB221_226 := nl BK221 hg; have NB226_221 := ng BK221 hg; replace BK221 := bb BK221 hb; clear hb hbox hg; have hnb29 := NB226_221.out; have hnc29 := NB221_226.out; obtain ⟨hcz30_0, hcz30_1, hcz30_2, hcz30_3, hfz30_0, hfz30_1, hfz30_2, hfz30_3⟩ := cc4 BK226) | ((with_reducible refine gate_callee (f := 67) rfl ?_); refine gL (some 21) Try.func67 #[.agg #[.int .i64 ((rd_T69 l0_3 x14_1).f0.f0), .int .i64 ((rd_T69 l0_3 x14_1).f0.f1)]] ?_; (with_reducible refine (impl_IsSpan.calls ((rd_T69 l0_3 x14_1).f0.f0) ((rd_T69 l0_3 x14_1).f0.f1) true _ A11.out).mono ?_); rintro e w31 ⟨rfl, hb⟩; refine ⟨_, rfl, ?_⟩; replace HO_7 := Aside0.mk (Kd.R_below (by (with_reducible repeat (first | apply Kd.R_alloc | apply Kd.R_drewN | apply Kd.R_drew)); exact (Kd.R_mono (Kd.R_far (p := ⟨gb226, 3, none⟩) (Kd.R_far (p := ⟨gb226, 2, none⟩) (Kd.R_far (p := ⟨gb226, 1, none⟩) (Kd.R_far (p := ⟨gb226, 0, none⟩) (Kd.R_types HO_7.out BK226.out (by decide)) (fun _ hk => hk.2) (.int .i64 ((rd_T69 l0_3 x14_1).f0.f0))) (fun _ hk => hk.2) (.int .i64 ((rd_T69 l0_3 x14_1).f0.f1))) (fun _ hk => hk.2) (.slice A225_2 ((rd_T69 l0_3 x14_1).f1).length c225_2)) (fun _ hk => hk.2) (.slice A225_3 ((rd_T69 l0_3 x14_1).f2).length c225_3)) (fun _ h_ => h_.1))) hb); replace BK221 := Aside0.mk (blk_below (g := gb221) (o := .cells #[.int .i64 a0_0, .int .i64 a0_1, .int .i64 a0_2, .slice (some ad225) l0_3.length c0_3] 29 (0, 0)) (sp BK221) hb); replace BK226 := Aside0.mk (blk_below (g := gb226) (o := .cells #[.int .i64 ((rd_T69 l0_3 x14_1).f0.f0), .int .i64 ((rd_T69 l0_3 x14_1).f0.f1), .slice A225_2 ((rd_T69 l0_3 x14_1).f1).length c225_2, .slice A225_3 ((rd_T69 l0_3 x14_1).f2).length c225_3] 69 (0, 0)) (sp BK226) hb); replace HB := bsw hb; (try clear hb); (try clear hb2); (try clear hk); (try clear hi); obtain ⟨hcz32_0, hcz32_1, hcz32_2, hcz32_3, hfz32_0, hfz32_1, hfz32_2, hfz32_3⟩ := cc4 BK226))
       go_roundg k1
       case measure => have := HK1.out; omega
       case rel => exact ⟨(x7_1), (wrap64 (x14_1 + 1)), sc, H', kk1, ⟨sr HO_7⟩, ⟨sk BK221⟩, ⟨sbw⟩⟩
     ·have c13b0 := decide_eq_false c13
      clear c13
      have H' := Aside0.mk H
      clear H
      obtain ⟨p225, q225, ad225, A225_2, c225_2, A225_3, c225_3, e225, _, _, _, _, hx225_0, hx225_1, hx225_2, hx225_3, HC225_2, HR225_2, HC225_3, HR225_3⟩ := aT_T69 HR0_3 HB x14_1
      cases e225
      go_wp2_with (first | ((with_reducible refine gate_dst (N := 9) rfl ?_); refine bx 9 #[.int .i64 0, .int .i64 0, .slice none 0 0, .slice none 0 0] 69 ?_; intro gb226 hg w33 hbox hb; replace HO_7 := Aside0.mk (Kd.R_below (sr HO_7) hb); have BK226 := Aside0.mk hbox; have GW226 := bzw w hg; have GE226 := bzw w hg; replace HB := bsw hb; have NB221_226 := nl BK221 hg; have NB226_221 := ng BK221 hg; replace BK221 := bb BK221 hb; clear hb hbox hg; have hnb34 := NB226_221.out; have hnc34 := NB221_226.out; obtain ⟨hcz35_0, hcz35_1, hcz35_2, hcz35_3, hfz35_0, hfz35_1, hfz35_2, hfz35_3⟩ := cc4 BK226) | ((with_reducible refine gate_callee (f := 67) rfl ?_); refine gL (some 21) Try.func67 #[.agg #[.int .i64 ((rd_T69 l0_3 x14_1).f0.f0), .int .i64 ((rd_T69 l0_3 x14_1).f0.f1)]] ?_; (with_reducible refine (impl_IsSpan.calls ((rd_T69 l0_3 x14_1).f0.f0) ((rd_T69 l0_3 x14_1).f0.f1) true _ A11.out).mono ?_); rintro e w36 ⟨rfl, hb⟩; refine ⟨_, rfl, ?_⟩; replace HO_7 := Aside0.mk (Kd.R_below (by (with_reducible repeat (first | apply Kd.R_alloc | apply Kd.R_drewN | apply Kd.R_drew)); exact (Kd.R_mono (Kd.R_far (p := ⟨gb226, 3, none⟩) (Kd.R_far (p := ⟨gb226, 2, none⟩) (Kd.R_far (p := ⟨gb226, 1, none⟩) (Kd.R_far (p := ⟨gb226, 0, none⟩) (Kd.R_types HO_7.out BK226.out (by decide)) (fun _ hk => hk.2) (.int .i64 ((rd_T69 l0_3 x14_1).f0.f0))) (fun _ hk => hk.2) (.int .i64 ((rd_T69 l0_3 x14_1).f0.f1))) (fun _ hk => hk.2) (.slice A225_2 ((rd_T69 l0_3 x14_1).f1).length c225_2)) (fun _ hk => hk.2) (.slice A225_3 ((rd_T69 l0_3 x14_1).f2).length c225_3)) (fun _ h_ => h_.1))) hb); replace BK221 := Aside0.mk (blk_below (g := gb221) (o := .cells #[.int .i64 a0_0, .int .i64 a0_1, .int .i64 a0_2, .slice (some ad225) l0_3.length c0_3] 29 (0, 0)) (sp BK221) hb); replace BK226 := Aside0.mk (blk_below (g := gb226) (o := .cells #[.int .i64 ((rd_T69 l0_3 x14_1).f0.f0), .int .i64 ((rd_T69 l0_3 x14_1).f0.f1), .slice A225_2 ((rd_T69 l0_3 x14_1).f1).length c225_2, .slice A225_3 ((rd_T69 l0_3 x14_1).f2).length c225_3] 69 (0, 0)) (sp BK226) hb); replace HB := bsw hb; (try clear hb); (try clear hb2); (try clear hk); (try clear hi)))
      go_roundg k1
      case measure => have := HK1.out; omega
      case rel => exact ⟨(x7_1), (wrap64 (x14_1 + 1)), sc, H', kk1, ⟨sr HO_7⟩, ⟨sk BK221⟩, ⟨sbw⟩⟩
    ·replace H := im H
     have H' := Aside0.mk H
     clear H
     obtain ⟨p225, q225, ad225, A225_2, c225_2, A225_3, c225_3, e225, _, _, _, _, hx225_0, hx225_1, hx225_2, hx225_3, HC225_2, HR225_2, HC225_3, HR225_3⟩ := aT_T69 HR0_3 HB x14_1
     cases e225
     go_wp2_with (first | ((with_reducible refine gate_dst (N := 9) rfl ?_); refine bx 9 #[.int .i64 0, .int .i64 0, .slice none 0 0, .slice none 0 0] 69 ?_; intro gb226 hg w37 hbox hb; replace HO_7 := Aside0.mk (Kd.R_below (sr HO_7) hb); have BK226 := Aside0.mk hbox; have GW226 := bzw w hg; have GE226 := bzw w hg; replace HB := bsw hb; have NB221_226 := nl BK221 hg; have NB226_221 := ng BK221 hg; replace BK221 := bb BK221 hb; clear hb hbox hg; have hnb38 := NB226_221.out; have hnc38 := NB221_226.out; obtain ⟨hcz39_0, hcz39_1, hcz39_2, hcz39_3, hfz39_0, hfz39_1, hfz39_2, hfz39_3⟩ := cc4 BK226) | ((with_reducible refine gate_callee (f := 67) rfl ?_); refine gL (some 21) Try.func67 #[.agg #[.int .i64 ((rd_T69 l0_3 x14_1).f0.f0), .int .i64 ((rd_T69 l0_3 x14_1).f0.f1)]] ?_; (with_reducible refine (impl_IsSpan.calls ((rd_T69 l0_3 x14_1).f0.f0) ((rd_T69 l0_3 x14_1).f0.f1) false _ A11.out).mono ?_); rintro e w40 ⟨rfl, hb⟩; refine ⟨_, rfl, ?_⟩; replace HO_7 := Aside0.mk (Kd.R_below (by (with_reducible repeat (first | apply Kd.R_alloc | apply Kd.R_drewN | apply Kd.R_drew)); exact (Kd.R_mono (Kd.R_far (p := ⟨gb226, 3, none⟩) (Kd.R_far (p := ⟨gb226, 2, none⟩) (Kd.R_far (p := ⟨gb226, 1, none⟩) (Kd.R_far (p := ⟨gb226, 0, none⟩) (Kd.R_types HO_7.out BK226.out (by decide)) (fun _ hk => hk.2) (.int .i64 ((rd_T69 l0_3 x14_1).f0.f0))) (fun _ hk => hk.2) (.int .i64 ((rd_T69 l0_3 x14_1).f0.f1))) (fun _ hk => hk.2) (.slice A225_2 ((rd_T69 l0_3 x14_1).f1).length c225_2)) (fun _ hk => hk.2) (.slice A225_3 ((rd_T69 l0_3 x14_1).f2).length c225_3)) (fun _ h_ => h_.1))) hb); replace BK221 := Aside0.mk (blk_below (g := gb221) (o := .cells #[.int .i64 a0_0, .int .i64 a0_1, .int .i64 a0_2, .slice (some ad225) l0_3.length c0_3] 29 (0, 0)) (sp BK221) hb); replace BK226 := Aside0.mk (blk_below (g := gb226) (o := .cells #[.int .i64 ((rd_T69 l0_3 x14_1).f0.f0), .int .i64 ((rd_T69 l0_3 x14_1).f0.f1), .slice A225_2 ((rd_T69 l0_3 x14_1).f1).length c225_2, .slice A225_3 ((rd_T69 l0_3 x14_1).f2).length c225_3] 69 (0, 0)) (sp BK226) hb); replace HB := bsw hb; (try clear hb); (try clear hb2); (try clear hk); (try clear hi)))
     go_roundg k1
     case measure => have := HK1.out; omega
     case rel => exact ⟨(x7_1), (wrap64 (x14_1 + 1)), sc, H', kk1, ⟨sr HO_7⟩, ⟨sk BK221⟩, ⟨sbw⟩⟩
   ·have c8b0 := decide_eq_false c8
    clear c8
    obtain rfl := Option.some.inj H
    go_wp2
    go_ret
    exact ⟨_, se, sr HO_7, sbw⟩

/-! ### laws_markLinkS: function 91 -/
def laws_markLinkS.l0 : Nat → List (S71) → Int → Int → Option (Int × (List (S71)))
  | 0, _, _, _ => none
  | k + 1, x0, x1, x5 => if x5 < (x0.length : Int) then (if 0 ≤ x5 then ((some (x0.set (x5 : Int).toNat (⟨x1, (rd_T71 x0 x5).f1⟩ : S71) : List (S71))).bind fun y231 => (laws_markLinkS.l0 k (y231.set (x5 : Int).toNat (⟨(rd_T71 y231 x5).f0, wrap64 (x1 + 1)⟩ : S71)) (wrap64 ((wrap64 (x1 + 1)) + 1)) (wrap64 (x5 + 1)))) else (none)) else (some (x1, x0))
def laws_markLinkS.f (k : Nat) (l0 : List (S71)) (a1 : Int) : Option (Int × (List (S71))) := laws_markLinkS.l0 k l0 a1 0
theorem laws_markLinkS.mono_l : ∀ k, (∀ y0 y1 y2, LeO (laws_markLinkS.l0 k y0 y1 y2) (laws_markLinkS.l0 (k + 1) y0 y1 y2))
  | 0 => fun _ _ _ r h => by simp [laws_markLinkS.l0] at h
  | k + 1 => by
    have ih0 := laws_markLinkS.mono_l k
    · intro y0 y1 y2
      unfold laws_markLinkS.l0
      exact mo
theorem laws_markLinkS.mono : ∀ a0 a1 k, LeO (laws_markLinkS.f k a0 a1) (laws_markLinkS.f (k + 1) a0 a1) := by
  intro a0 a1 k
  have ih0 := laws_markLinkS.mono_l k
  unfold laws_markLinkS.f
  exact mo
set_option maxHeartbeats 8000000 in
set_option maxRecDepth 100000 in
theorem laws_markLinkS.calls (k : Nat) (P0_ : Nat → Prop) (u9000_ : Value) (l0 : List (S71)) (a1 : Int) (r1 : Int) (r2 : List (S71)) (w0 w : World) (hB : Below w0.heap.size w0 w) (ho0 : Kd.R k71 71 w w0.heap.size P0_ u9000_ l0) (h : laws_markLinkS.f k l0 a1 = some (r1, r2)) :
    Calls Try.prog 91 #[u9000_, .int .i64 a1] w fun e w' => e = .returned (.int .i64 r1) ∧ Kd.R k71 71 w' w0.heap.size (fun k_ => (P0_ k_ ∨ w.heap.size ≤ k_)) u9000_ r2 ∧ Below w0.heap.size w0 w' ∧ Kept w w' (fun k_ => P0_ k_) := by
 have HO0 := Aside0.mk (show Kd.R k71 71 w w0.heap.size (fun k_ => (P0_ k_ ∨ w.heap.size ≤ k_)) u9000_ l0 from Kd.R_mono ho0 (fun k_ hk => (.inl hk)))
 have HK := Aside0.mk (Kept.refl w (fun k_ => P0_ k_))
 have HW0 := Aside0.mk hB.size
 have HB := Aside0.mk hB
 clear hB
 have H : (laws_markLinkS.l0 k l0 a1 0) = some (r1, r2) := h
 clear h
 have H' := Aside0.mk H
 clear H
 go_enter Try.func91, Try.ntmps91
 go_wp2
 go_loopg [1, 5] k (fun kq v1 v5 w' => ∃ (x0_1 : List (S71)) (x1_1 : Int) (x5_1 : Int), v1 = .int .i64 x1_1 ∧ v5 = .int .i64 x5_1 ∧ Aside0 (laws_markLinkS.l0 kq x0_1 x1_1 x5_1 = some (r1, r2)) ∧ Aside0 (kq ≤ k) ∧ Aside0 (Kd.R k71 71 w' w0.heap.size (fun k_ => (P0_ k_ ∨ w.heap.size ≤ k_)) u9000_ x0_1) ∧ Aside0 (Kept w w' (fun k_ => P0_ k_)) ∧ Aside0 (Below w0.heap.size w0 w'))
 case atStart => exact ⟨(l0), (a1), (0), sc, sc, H', kk0, ⟨sr HO0⟩, ⟨by repeat (first | (with_reducible first | exact HK.out | apply Kept.alloc | apply Kept.drewN | apply Kept.drew) | exact HK.out)⟩, ⟨sb⟩⟩
 case round =>
  clear H'
  obtain ⟨x0_1, x1_1, x5_1, rfl, rfl, HA, HK1, HO_0, HK, HB⟩ := hrel
  cases gk with
  | zero => exact absurd HA.out (by simp [laws_markLinkS.l0])
  | succ k1 =>
   have H := HA.out
   clear HA
   simp only [laws_markLinkS.l0] at H
   obtain ⟨c3, H⟩ | ⟨c3, H⟩ := ie_ H
   ·have c3b0 := decide_eq_true c3
    clear c3
    obtain ⟨c4b0, H⟩ := id_ H
    obtain ⟨y231, hy231⟩ : ∃ y_ : List (S71), y_ = (x0_1.set (x5_1 : Int).toNat (⟨x1_1, (rd_T71 x0_1 x5_1).f1⟩ : S71)) := ⟨_, rfl⟩
    replace H : (laws_markLinkS.l0 k1 (y231.set (x5_1 : Int).toNat (⟨(rd_T71 y231 x5_1).f0, wrap64 (x1_1 + 1)⟩ : S71)) (wrap64 ((wrap64 (x1_1 + 1)) + 1)) (wrap64 (x5_1 + 1))) = some (r1, r2) := by first | (rw [hy231]; with_reducible exact H) | (have H2_ := (Option.bind_some _ _).symm.trans H; rw [hy231]; with_reducible exact H2_) | (have H2_ := (Option.bind_some _ _).symm.trans H; with_reducible exact H2_) | with_reducible exact H | (rw [hy231]; exact H) | exact H
    have Ny231 := Aside0.mk hy231
    clear hy231
    obtain ⟨y232, hy232⟩ : ∃ y_ : List (S71), y_ = (y231.set (x5_1 : Int).toNat (⟨(rd_T71 y231 x5_1).f0, wrap64 (x1_1 + 1)⟩ : S71)) := ⟨_, rfl⟩
    replace H : (laws_markLinkS.l0 k1 y232 (wrap64 ((wrap64 (x1_1 + 1)) + 1)) (wrap64 (x5_1 + 1))) = some (r1, r2) := by first | (rw [hy232]; with_reducible exact H) | (have H2_ := (Option.bind_some _ _).symm.trans H; rw [hy232]; with_reducible exact H2_) | (have H2_ := (Option.bind_some _ _).symm.trans H; with_reducible exact H2_) | with_reducible exact H | (rw [hy232]; exact H) | exact H
    have Ny232 := Aside0.mk hy232
    clear hy232
    have H' := Aside0.mk H
    clear H
    obtain ⟨Ao7, co7, eo7⟩ := Kd.R_slice HO_0.out
    subst eo7
    have p5 : 0 ≤ (x5_1 : Int) := sa
    have q5 : (x5_1 : Int) < ((x0_1.length : Int) : Int) := sa
    obtain ⟨go5, co5, eo5, gb5, gl5, cl5, HG5⟩ := Kd.R_form HO_0.out (by omega)
    (first | cases eo5 | (injection eo5 with ea_ en_ ec_; (first | subst ea_ | (injection ea_ with ea_; subst ea_)); subst ec_; clear en_))
    have GB5 := Aside0.mk gb5
    have GG5 := Aside0.mk HG5
    clear gb5 gl5 HG5
    have HMgo5 := Aside0.mk (show (P0_ go5 ∨ w.heap.size ≤ go5) from (HO_0.out.1 _ rfl))
    obtain ⟨ce5, hcl5, hM5, hcc5, hfr5⟩ := Kd.R_elem HO_0.out z71 (x5_1 : Int) p5 q5
    obtain rfl := k71_openM hM5
    have hx5_0 : wr.cell? ⟨go5, (x5_1 : Int).toNat * 2, none⟩ = some (.int .i64 ((rd_T71 x0_1 x5_1).f0)) := hcc5 0 _ rfl
    have hx5_1 : wr.cell? ⟨go5, (x5_1 : Int).toNat * 2 + 1, none⟩ = some (.int .i64 ((rd_T71 x0_1 x5_1).f1)) := hcc5 1 _ rfl
    have hf5_0 : wr.frozen? ⟨go5, (x5_1 : Int).toNat * 2, none⟩ = false := hfr5 0
    have hf5_1 : wr.frozen? ⟨go5, (x5_1 : Int).toNat * 2 + 1, none⟩ = false := hfr5 1
    (try clear hcl5); (try clear hcc5); (try clear hfr5); (try clear hM5)
    replace p5 := eq_true p5
    replace q5 := eq_true q5
    have HX8 := Aside0.mk (show Kd.R k71 71 wr w0.heap.size (fun k_ => (P0_ k_ ∨ w.heap.size ≤ k_)) (.slice (some ⟨go5, 0, none⟩) x0_1.length co7) x0_1 from (sr HO_0))
    obtain ⟨ce8, hcl8, hM8, hcc8, hfr8⟩ := Kd.R_elem HX8.out z71 (x5_1 : Int) (sa) (by have h_ : (x5_1 : Int) < ((x0_1.length : Int) : Int) := sa; first | exact h_ | (have e_ := (Kd.R_reads' HO_0.out).1; omega) | simpa using h_)
    obtain rfl := k71_openM hM8
    have HP8 := Kd.R_seg HX8.out (x5_1 : Int) (sa) (by have h_ : (x5_1 : Int) < ((x0_1.length : Int) : Int) := sa; first | exact h_ | (have e_ := (Kd.R_reads' HO_0.out).1; omega) | simpa using h_) (seg := [.int .i64 x1_1]) (j := 0) hcl8 hcc8 (show 1 ≤ 2 from by decide) (x' := (⟨x1_1, (rd_T71 x0_1 x5_1).f1⟩ : S71)) (k71_mkM _ _ _ (⟨x1_1, (rd_T71 x0_1 x5_1).f1⟩ : S71) ) (fun _ hk => hk)
    have hx8_0 := hcc8 0 _ rfl
    (try simp only [show (k71).sz = 2 from rfl, Nat.mul_one, Nat.add_zero] at hx8_0)
    have hf8_0 := hfr8 0
    (try simp only [show (k71).sz = 2 from rfl, Nat.mul_one, Nat.add_zero] at hf8_0)
    (try clear hcl8); (try clear hcc8); (try clear hfr8); (try clear hM8)
    go_wp2_with (first | ((with_reducible refine gate_store (t := 3) (p := 16) rfl ?_); refine store_event (t := 3) (p := 16) (v := ?vo_w9) (w1 := (wr.setCell ⟨go5, (x5_1 : Int).toNat * 2, none⟩ (.int .i64 x1_1))) ?hg ?ho ?hn ?hr ?_; (case ho => rfl); (case hg => rfl); (case hn => rfl); (case hr => first | (go_simp; done) | (go_simp; rfl)); intro w9 hw; have hg : wr.grownBy w9 (some go5) := (by rw [hw]; exact HP8.2); have hp_ : Kd.R k71 71 w9 w0.heap.size (fun k_ => (P0_ k_ ∨ w.heap.size ≤ k_)) (.slice (some ⟨go5, 0, none⟩) x0_1.length co7) y231 := (by rw [hw, Ny231.out]; exact HP8.1); clear HP8; replace HB := Aside0.mk ((by rw [hw]; exact below_set (HB.out) GB5.out : Below w0.heap.size w0 w9)); replace HK := Aside0.mk (Kept.of_grown (S := (fun k_ => P0_ k_)) hg (by repeat (first | (with_reducible first | exact HK.out | apply Kept.alloc | apply Kept.drewN | apply Kept.drew) | exact HK.out)) (fun k_ e_ => (HO_0.out.1 k_ e_))); replace HO_0 := Aside0.mk hp_; clear hg hw hp_; have p6 : 0 ≤ (x5_1 : Int) := sa; have q6 : (x5_1 : Int) < ((x0_1.length : Int) : Int) := sa; obtain ⟨ce6, hcl6, hM6, hcc6, hfr6⟩ := Kd.R_elem HO_0.out z71 (x5_1 : Int) p6 q6; obtain rfl := k71_openM hM6; have hx6_0 : w9.cell? ⟨go5, (x5_1 : Int).toNat * 2, none⟩ = some (.int .i64 ((rd_T71 y231 x5_1).f0)) := hcc6 0 _ rfl; have hx6_1 : w9.cell? ⟨go5, (x5_1 : Int).toNat * 2 + 1, none⟩ = some (.int .i64 ((rd_T71 y231 x5_1).f1)) := hcc6 1 _ rfl; have hf6_0 : w9.frozen? ⟨go5, (x5_1 : Int).toNat * 2, none⟩ = false := hfr6 0; have hf6_1 : w9.frozen? ⟨go5, (x5_1 : Int).toNat * 2 + 1, none⟩ = false := hfr6 1; (try clear hcl6); (try clear hcc6); (try clear hfr6); (try clear hM6); replace p6 := eq_true p6; replace q6 := eq_true q6; have HX10 := Aside0.mk (show Kd.R k71 71 w9 w0.heap.size (fun k_ => (P0_ k_ ∨ w.heap.size ≤ k_)) (.slice (some ⟨go5, 0, none⟩) x0_1.length co7) y231 from (sr HO_0)); obtain ⟨ce10, hcl10, hM10, hcc10, hfr10⟩ := Kd.R_elem HX10.out z71 (x5_1 : Int) (sa) (by have h_ : (x5_1 : Int) < ((x0_1.length : Int) : Int) := sa; first | exact h_ | (have e_ := (Kd.R_reads' HO_0.out).1; omega) | simpa using h_); obtain rfl := k71_openM hM10; have HP10 := Kd.R_seg HX10.out (x5_1 : Int) (sa) (by have h_ : (x5_1 : Int) < ((x0_1.length : Int) : Int) := sa; first | exact h_ | (have e_ := (Kd.R_reads' HO_0.out).1; omega) | simpa using h_) (seg := [.int .i64 (wrap64 (x1_1 + 1))]) (j := 1) hcl10 hcc10 (show 2 ≤ 2 from by decide) (x' := (⟨(rd_T71 y231 x5_1).f0, wrap64 (x1_1 + 1)⟩ : S71)) (k71_mkM _ _ _ (⟨(rd_T71 y231 x5_1).f0, wrap64 (x1_1 + 1)⟩ : S71) ) (fun _ hk => hk); have hx10_1 := hcc10 1 _ rfl; (try simp only [show (k71).sz = 2 from rfl, Nat.mul_one, Nat.add_zero] at hx10_1); have hf10_1 := hfr10 1; (try simp only [show (k71).sz = 2 from rfl, Nat.mul_one, Nat.add_zero] at hf10_1); (try clear hcl10); (try clear hcc10); (try clear hfr10); (try clear hM10)) | ((with_reducible refine gate_store (t := 3) (p := 23) rfl ?_); refine store_event (t := 3) (p := 23) (v := ?vo_w11) (w1 := (w9.setCell ⟨go5, (x5_1 : Int).toNat * 2 + 1, none⟩ (.int .i64 (wrap64 (x1_1 + 1))))) ?hg ?ho ?hn ?hr ?_; (case ho => rfl); (case hg => rfl); (case hn => rfl); (case hr => first | (go_simp; done) | (go_simp; rfl)); intro w11 hw; have hg : w9.grownBy w11 (some go5) := (by rw [hw]; exact HP10.2); have hp_ : Kd.R k71 71 w11 w0.heap.size (fun k_ => (P0_ k_ ∨ w.heap.size ≤ k_)) (.slice (some ⟨go5, 0, none⟩) x0_1.length co7) y232 := (by rw [hw, Ny232.out]; exact HP10.1); clear HP10; replace HB := Aside0.mk ((by rw [hw]; exact below_set (HB.out) GB5.out : Below w0.heap.size w0 w11)); replace HK := Aside0.mk (Kept.of_grown (S := (fun k_ => P0_ k_)) hg (by repeat (first | (with_reducible first | exact HK.out | apply Kept.alloc | apply Kept.drewN | apply Kept.drew) | exact HK.out)) (fun k_ e_ => (HO_0.out.1 k_ e_))); replace HO_0 := Aside0.mk hp_; clear hg hw hp_))
    go_roundg k1
    case measure => have := HK1.out; omega
    case rel => exact ⟨(y232), (wrap64 ((wrap64 (x1_1 + 1)) + 1)), (wrap64 (x5_1 + 1)), sc, sc, H', kk1, ⟨sr HO_0⟩, ⟨by repeat (first | (with_reducible first | exact HK.out | apply Kept.alloc | apply Kept.drewN | apply Kept.drew) | exact HK.out)⟩, ⟨sb⟩⟩
   ·have c3b0 := decide_eq_false c3
    clear c3
    simp only [Option.some.injEq, Prod.mk.injEq] at H
    obtain ⟨rfl, rfl⟩ := H
    obtain ⟨Ao12, co12, eo12⟩ := Kd.R_slice HO_0.out
    subst eo12
    go_wp2
    go_ret
    exact ⟨se, sr HO_0, sb, by repeat (first | (with_reducible first | exact HK.out | apply Kept.alloc | apply Kept.drewN | apply Kept.drew) | exact HK.out)⟩

/-! ### laws_markIntS: function 30 -/
def laws_markIntS.l0 : Nat → List Int → Int → Int → Option (Int × List Int)
  | 0, _, _, _ => none
  | k + 1, x0, x1, x5 => if x5 < (x0.length : Int) then (if 0 ≤ x5 then (laws_markIntS.l0 k (x0.set (x5 : Int).toNat x1) (wrap64 (x1 + 1)) (wrap64 (x5 + 1))) else (none)) else (some (x1, x0))
def laws_markIntS.f (k : Nat) (l0 : List Int) (a1 : Int) : Option (Int × List Int) := laws_markIntS.l0 k l0 a1 0
theorem laws_markIntS.mono_l : ∀ k, (∀ y0 y1 y2, LeO (laws_markIntS.l0 k y0 y1 y2) (laws_markIntS.l0 (k + 1) y0 y1 y2))
  | 0 => fun _ _ _ r h => by simp [laws_markIntS.l0] at h
  | k + 1 => by
    have ih0 := laws_markIntS.mono_l k
    · intro y0 y1 y2
      unfold laws_markIntS.l0
      exact mo
theorem laws_markIntS.mono : ∀ a0 a1 k, LeO (laws_markIntS.f k a0 a1) (laws_markIntS.f (k + 1) a0 a1) := by
  intro a0 a1 k
  have ih0 := laws_markIntS.mono_l k
  unfold laws_markIntS.f
  exact mo
set_option maxHeartbeats 8000000 in
set_option maxRecDepth 100000 in
theorem laws_markIntS.calls (k : Nat) (P0_ : Nat → Prop) (u9000_ : Value) (l0 : List Int) (a1 : Int) (r1 : Int) (r2 : List Int) (w0 w : World) (hB : Below w0.heap.size w0 w) (ho0 : Kd.R (Kd.int .i64) 3 w w0.heap.size P0_ u9000_ l0) (h : laws_markIntS.f k l0 a1 = some (r1, r2)) :
    Calls Try.prog 30 #[u9000_, .int .i64 a1] w fun e w' => e = .returned (.int .i64 r1) ∧ Kd.R (Kd.int .i64) 3 w' w0.heap.size (fun k_ => (P0_ k_ ∨ w.heap.size ≤ k_)) u9000_ r2 ∧ Below w0.heap.size w0 w' ∧ Kept w w' (fun k_ => P0_ k_) := by
 have HO0 := Aside0.mk (show Kd.R (Kd.int .i64) 3 w w0.heap.size (fun k_ => (P0_ k_ ∨ w.heap.size ≤ k_)) u9000_ l0 from Kd.R_mono ho0 (fun k_ hk => (.inl hk)))
 have HK := Aside0.mk (Kept.refl w (fun k_ => P0_ k_))
 have HW0 := Aside0.mk hB.size
 have HB := Aside0.mk hB
 clear hB
 have H : (laws_markIntS.l0 k l0 a1 0) = some (r1, r2) := h
 clear h
 have H' := Aside0.mk H
 clear H
 go_enter Try.func30, Try.ntmps30
 go_wp2
 go_loopg [1, 5] k (fun kq v1 v5 w' => ∃ (x0_1 : List Int) (x1_1 : Int) (x5_1 : Int), v1 = .int .i64 x1_1 ∧ v5 = .int .i64 x5_1 ∧ Aside0 (laws_markIntS.l0 kq x0_1 x1_1 x5_1 = some (r1, r2)) ∧ Aside0 (kq ≤ k) ∧ Aside0 (Kd.R (Kd.int .i64) 3 w' w0.heap.size (fun k_ => (P0_ k_ ∨ w.heap.size ≤ k_)) u9000_ x0_1) ∧ Aside0 (Kept w w' (fun k_ => P0_ k_)) ∧ Aside0 (Below w0.heap.size w0 w'))
 case atStart => exact ⟨(l0), (a1), (0), sc, sc, H', kk0, ⟨sr HO0⟩, ⟨by repeat (first | (with_reducible first | exact HK.out | apply Kept.alloc | apply Kept.drewN | apply Kept.drew) | exact HK.out)⟩, ⟨sb⟩⟩
 case round =>
  clear H'
  obtain ⟨x0_1, x1_1, x5_1, rfl, rfl, HA, HK1, HO_0, HK, HB⟩ := hrel
  cases gk with
  | zero => exact absurd HA.out (by simp [laws_markIntS.l0])
  | succ k1 =>
   have H := HA.out
   clear HA
   simp only [laws_markIntS.l0] at H
   obtain ⟨c3, H⟩ | ⟨c3, H⟩ := ie_ H
   ·have c3b0 := decide_eq_true c3
    clear c3
    obtain ⟨c4b0, H⟩ := id_ H
    obtain ⟨y233, hy233⟩ : ∃ y_ : List Int, y_ = (x0_1.set (x5_1 : Int).toNat x1_1) := ⟨_, rfl⟩
    replace H : (laws_markIntS.l0 k1 y233 (wrap64 (x1_1 + 1)) (wrap64 (x5_1 + 1))) = some (r1, r2) := by first | (rw [hy233]; with_reducible exact H) | (have H2_ := (Option.bind_some _ _).symm.trans H; rw [hy233]; with_reducible exact H2_) | (have H2_ := (Option.bind_some _ _).symm.trans H; with_reducible exact H2_) | with_reducible exact H | (rw [hy233]; exact H) | exact H
    have Ny233 := Aside0.mk hy233
    clear hy233
    have H' := Aside0.mk H
    clear H
    obtain ⟨Ao6, co6, eo6⟩ := Kd.R_slice HO_0.out
    subst eo6
    have p5 : 0 ≤ (x5_1 : Int) := sa
    have q5 : (x5_1 : Int) < ((x0_1.length : Int) : Int) := sa
    obtain ⟨go5, co5, eo5, gb5, gl5, cl5, HG5⟩ := Kd.R_form HO_0.out (by omega)
    (first | cases eo5 | (injection eo5 with ea_ en_ ec_; (first | subst ea_ | (injection ea_ with ea_; subst ea_)); subst ec_; clear en_))
    have GB5 := Aside0.mk gb5
    have GG5 := Aside0.mk HG5
    clear gb5 gl5 HG5
    have HMgo5 := Aside0.mk (show (P0_ go5 ∨ w.heap.size ≤ go5) from (HO_0.out.1 _ rfl))
    obtain ⟨hx5_0, hf5_0⟩ := Kd.R_celln 0 HO_0.out (x5_1 : Int) p5 q5
    replace p5 := eq_true p5
    replace q5 := eq_true q5
    have HP7 := Kd.R_putg HO_0.out (x5_1 : Int) x1_1
    go_wp2_with (first | ((with_reducible refine gate_store (t := 3) (p := 15) rfl ?_); refine store_event (t := 3) (p := 15) (v := ?vo_w8) (w1 := (wr.setCell ⟨go5, (x5_1 : Int).toNat, none⟩ (.int .i64 x1_1))) ?hg ?ho ?hn ?hr ?_; (case ho => rfl); (case hg => rfl); (case hn => rfl); (case hr => first | (go_simp; done) | (go_simp; rfl)); intro w8 hw; have hg : wr.grownBy w8 (some go5) := (by rw [hw]; exact HP7.2); have hp_ : Kd.R (Kd.int .i64) 3 w8 w0.heap.size (fun k_ => (P0_ k_ ∨ w.heap.size ≤ k_)) (.slice (some ⟨go5, 0, none⟩) x0_1.length co6) y233 := (by rw [hw, Ny233.out]; exact HP7.1); clear HP7; replace HB := Aside0.mk ((by rw [hw]; exact below_set (HB.out) GB5.out : Below w0.heap.size w0 w8)); replace HK := Aside0.mk (Kept.of_grown (S := (fun k_ => P0_ k_)) hg (by repeat (first | (with_reducible first | exact HK.out | apply Kept.alloc | apply Kept.drewN | apply Kept.drew) | exact HK.out)) (fun k_ e_ => (HO_0.out.1 k_ e_))); replace HO_0 := Aside0.mk hp_; clear hg hw hp_))
    go_roundg k1
    case measure => have := HK1.out; omega
    case rel => exact ⟨(y233), (wrap64 (x1_1 + 1)), (wrap64 (x5_1 + 1)), sc, sc, H', kk1, ⟨sr HO_0⟩, ⟨by repeat (first | (with_reducible first | exact HK.out | apply Kept.alloc | apply Kept.drewN | apply Kept.drew) | exact HK.out)⟩, ⟨sb⟩⟩
   ·have c3b0 := decide_eq_false c3
    clear c3
    simp only [Option.some.injEq, Prod.mk.injEq] at H
    obtain ⟨rfl, rfl⟩ := H
    obtain ⟨Ao9, co9, eo9⟩ := Kd.R_slice HO_0.out
    subst eo9
    go_wp2
    go_ret
    exact ⟨se, sr HO_0, sb, by repeat (first | (with_reducible first | exact HK.out | apply Kept.alloc | apply Kept.drewN | apply Kept.drew) | exact HK.out)⟩

-- NOT PRINTED: function 92 (laws_markTableS)

-- NOT PRINTED: function 68 (laws_markPieceS)

/-! ### laws_markProgram: function 29 (with laws.markPieceS, laws.markTableS, and the two rows' own, for rows that may share) -/
set_option maxHeartbeats 8000000 in
set_option maxRecDepth 100000 in
theorem laws_markProgram.ints (P : Nat → Prop) (w0 w : World) (v : Value) (n : Nat) (a : Int) (hP : ∀ k, P k → w0.heap.size ≤ k) (hB : Below w0.heap.size w0 w) (hv : Mk.Ints P w v n n) :
    Calls Try.prog 30 #[v, .int .i64 a] w fun e w' => e = .returned (.int .i64 (Mk.bump n a)) ∧ Below w0.heap.size w0 w' ∧ Mk.Marked P w w' := by
  obtain ⟨A, c, rfl, hm, hv⟩ := hv
  go_enter Try.func30, Try.ntmps30
  go_wp2
  go_loopg [1, 5] n (fun gg v1 v5 wr => ∃ i : Int, 0 ≤ i ∧ i ≤ (n : Int) ∧ (n : Int) - i ≤ gg ∧ v5 = .int .i64 i ∧ v1 = .int .i64 (Mk.bump i.toNat a) ∧ Aside0 (Below w0.heap.size w0 wr) ∧ Aside0 (Mk.Marked P w wr))
  case atStart => exact ⟨0, by omega, by omega, by omega, rfl, rfl, ⟨hB⟩, ⟨Mk.Marked.refl P w⟩⟩
  case round =>
    obtain ⟨i, h0, h1, hg, rfl, rfl, HB, HM⟩ := hrel
    by_cases hlt : i < (n : Int)
    · obtain ⟨g, rfl, hPg, hb, hj⟩ := hv (by omega)
      obtain ⟨x0, hx0⟩ := hj i.toNat (by omega)
      obtain ⟨x, hx⟩ := HM.out.num hb hx0
      have hf : wr.frozen? ⟨g, i.toNat, none⟩ = false := (hb.on HM.out).thaw _
      have hM := HM.out.put hPg hb hx (Mk.bump i.toNat a)
      have p5 : (0 ≤ i) = True := eq_true h0
      have q5 : (i < (n : Int)) = True := eq_true hlt
      have hd : decide (i < (n : Int)) = true := decide_eq_true hlt
      go_wp2_with (first | ((with_reducible refine gate_store (t := 3) (p := 15) rfl ?_); refine store_event (t := 3) (p := 15) (v := ?vo_w8) (w1 := (wr.setCell ⟨g, i.toNat, none⟩ (.int .i64 (Mk.bump i.toNat a)))) ?hg ?ho ?hn ?hr ?_; (case ho => rfl); (case hg => rfl); (case hn => rfl); (case hr => first | (go_simp; done) | (go_simp; rfl)); intro w8 hw; have HB2 := Aside0.mk ((by rw [hw]; exact below_set HB.out (hP g hPg)) : Below w0.heap.size w0 w8); have HM2 := Aside0.mk ((by rw [hw]; exact hM) : Mk.Marked P w w8); clear hw))
      go_roundg (n - (i.toNat + 1))
      case measure => omega
      case rel =>
        refine ⟨i + 1, by omega, by omega, by omega, by go_num, ?_, HB2, HM2⟩
        rw [show (i + 1).toNat = i.toNat + 1 by omega, Mk.bump]
    · have : i = (n : Int) := by omega
      subst this
      have hd : decide ((n : Int) < (n : Int)) = false := decide_eq_false (by omega)
      go_wp2
      go_ret
      exact ⟨rfl, HB.out, HM.out⟩
set_option maxHeartbeats 8000000 in
set_option maxRecDepth 100000 in
theorem laws_markProgram.links (P : Nat → Prop) (w0 w : World) (v : Value) (n : Nat) (a : Int) (hP : ∀ k, P k → w0.heap.size ≤ k) (hB : Below w0.heap.size w0 w) (hv : Mk.Ints P w v n (n * 2)) :
    Calls Try.prog 91 #[v, .int .i64 a] w fun e w' => e = .returned (.int .i64 (Mk.bump (n * 2) a)) ∧ Below w0.heap.size w0 w' ∧ Mk.Marked P w w' := by
  have hu := Try.underlying71
  obtain ⟨A, c, rfl, hm, hv⟩ := hv
  go_enter Try.func91, Try.ntmps91
  go_wp2
  go_loopg [1, 5] n (fun gg v1 v5 wr => ∃ i : Int, 0 ≤ i ∧ i ≤ (n : Int) ∧ (n : Int) - i ≤ gg ∧ v5 = .int .i64 i ∧ v1 = .int .i64 (Mk.bump (i.toNat * 2) a) ∧ Aside0 (Below w0.heap.size w0 wr) ∧ Aside0 (Mk.Marked P w wr))
  case atStart => exact ⟨0, by omega, by omega, by omega, rfl, rfl, ⟨hB⟩, ⟨Mk.Marked.refl P w⟩⟩
  case round =>
    obtain ⟨i, h0, h1, hg, rfl, rfl, HB, HM⟩ := hrel
    by_cases hlt : i < (n : Int)
    · obtain ⟨g, rfl, hPg, hb, hj⟩ := hv (by omega)
      obtain ⟨x0, hx0⟩ := hj (i.toNat * 2) (by omega)
      obtain ⟨y0, hy0⟩ := hj (i.toNat * 2 + 1) (by omega)
      obtain ⟨x, hx⟩ := HM.out.num hb hx0
      have hf : wr.frozen? ⟨g, i.toNat * 2, none⟩ = false := (hb.on HM.out).thaw _
      have hM := HM.out.put hPg hb hx (Mk.bump (i.toNat * 2) a)
      have p5 : (0 ≤ i) = True := eq_true h0
      have q5 : (i < (n : Int)) = True := eq_true hlt
      have hd : decide (i < (n : Int)) = true := decide_eq_true hlt
      go_wp2_with (first | ((with_reducible refine gate_store (t := 3) (p := 16) rfl ?_); refine store_event (t := 3) (p := 16) (v := ?vo_w8) (w1 := (wr.setCell ⟨g, i.toNat * 2, none⟩ (.int .i64 (Mk.bump (i.toNat * 2) a)))) ?hg ?ho ?hn ?hr ?_; (case ho => rfl); (case hg => rfl); (case hn => rfl); (case hr => first | (go_simp; done) | (go_simp; rfl)); intro w8 hw; have HB2 := Aside0.mk ((by rw [hw]; exact below_set HB.out (hP g hPg)) : Below w0.heap.size w0 w8); have HM2 := Aside0.mk ((by rw [hw]; exact hM) : Mk.Marked P w w8); obtain ⟨y, hy⟩ := HM2.out.num hb hy0; have hf2 : w8.frozen? ⟨g, i.toNat * 2 + 1, none⟩ = false := (hb.on HM2.out).thaw _; have hM2 := HM2.out.put hPg hb hy (wrap64 (Mk.bump (i.toNat * 2) a + 1)); clear hw) | ((with_reducible refine gate_store (t := 3) (p := 23) rfl ?_); refine store_event (t := 3) (p := 23) (v := ?vo_w9) (w1 := (w8.setCell ⟨g, i.toNat * 2 + 1, none⟩ (.int .i64 (wrap64 (Mk.bump (i.toNat * 2) a + 1))))) ?hg ?ho ?hn ?hr ?_; (case ho => rfl); (case hg => rfl); (case hn => rfl); (case hr => first | (go_simp; done) | (go_simp; rfl)); intro w9 hw; have HB3 := Aside0.mk ((by rw [hw]; exact below_set HB2.out (hP g hPg)) : Below w0.heap.size w0 w9); have HM3 := Aside0.mk ((by rw [hw]; exact hM2) : Mk.Marked P w w9); clear hw))
      go_roundg (n - (i.toNat + 1))
      case measure => omega
      case rel =>
        refine ⟨i + 1, by omega, by omega, by omega, by go_num, ?_, HB3, HM3⟩
        rw [show (i + 1).toNat * 2 = (i.toNat * 2 + 1) + 1 by omega, Mk.bump, Mk.bump]
    · have : i = (n : Int) := by omega
      subst this
      have hd : decide ((n : Int) < (n : Int)) = false := decide_eq_false (by omega)
      go_wp2
      go_ret
      exact ⟨rfl, HB.out, HM.out⟩
set_option maxHeartbeats 8000000 in
set_option maxRecDepth 100000 in
theorem laws_markProgram.tables (P : Nat → Prop) (w0 w : World) (v : Value) (ns : List (Nat × Nat)) (a : Int) (hP : ∀ k, P k → w0.heap.size ≤ k) (hB : Below w0.heap.size w0 w) (hv : Mk.Tabs P w v ns) :
    Calls Try.prog 92 #[v, .int .i64 a] w fun e w' => e = .returned (.int .i64 (Mk.bump (Mk.sumT ns) a)) ∧ Below w0.heap.size w0 w' ∧ Mk.Marked P w w' := by
  have hu := Try.underlying44
  obtain ⟨A, c, rfl, hm, hv⟩ := hv
  go_enter Try.func92, Try.ntmps92
  go_wp2
  go_loopg [1, 5] ns.length (fun gg v1 v5 wr => ∃ i : Int, 0 ≤ i ∧ i ≤ (ns.length : Int) ∧ (ns.length : Int) - i ≤ gg ∧ v5 = .int .i64 i ∧ v1 = .int .i64 (Mk.bump (Mk.sumT (ns.take i.toNat)) a) ∧ Aside0 (Below w0.heap.size w0 wr) ∧ Aside0 (Mk.Marked P w wr))
  case atStart => exact ⟨0, by omega, by omega, by omega, rfl, rfl, ⟨hB⟩, ⟨Mk.Marked.refl P w⟩⟩
  case round =>
    obtain ⟨i, h0, h1, hg, rfl, rfl, HB, HM⟩ := hrel
    by_cases hlt : i < (ns.length : Int)
    · obtain ⟨g, rfl, hPg, hb, hj⟩ := hv (by omega)
      obtain ⟨q, hq⟩ : ∃ q, ns[i.toNat]? = some q := ⟨_, List.getElem?_eq_getElem (show i.toNat < ns.length by omega)⟩
      obtain ⟨⟨x0, hx0⟩, ⟨u1, hu1, hi1⟩, ⟨u2, hu2, hi2⟩⟩ := hj i.toNat q hq
      have hs1 := hi1.slice
      have hs2 := hi2.slice
      have hi1' := Aside0.mk hi1
      have hi2' := Aside0.mk hi2
      obtain ⟨A1, c1, rfl, _, _⟩ := hi1
      obtain ⟨A2, c2, rfl, _, _⟩ := hi2
      obtain ⟨x, hx⟩ := HM.out.num hb hx0
      have hf : wr.frozen? ⟨g, i.toNat * 3, none⟩ = false := (hb.on HM.out).thaw _
      have hsum : Mk.sumT (ns.take (i.toNat + 1)) = Mk.sumT (ns.take i.toNat) + (1 + q.1 + q.2) := Mk.take_sum (f := fun p : Nat × Nat => 1 + p.1 + p.2) hq
      generalize Mk.sumT (ns.take i.toNat) = s at hsum ⊢
      have hM := HM.out.put hPg hb hx (Mk.bump s a)
      have p5 : (0 ≤ i) = True := eq_true h0
      have q5 : (i < (ns.length : Int)) = True := eq_true hlt
      have hd : decide (i < (ns.length : Int)) = true := decide_eq_true hlt
      go_wp2_with (first | ((with_reducible refine gate_store (t := 3) (p := 16) rfl ?_); refine store_event (t := 3) (p := 16) (v := ?vo_w8) (w1 := (wr.setCell ⟨g, i.toNat * 3, none⟩ (.int .i64 (Mk.bump s a)))) ?hg ?ho ?hn ?hr ?_; (case ho => rfl); (case hg => rfl); (case hn => rfl); (case hr => first | (go_simp; done) | (go_simp; rfl)); intro w8 hw; have HB2 := Aside0.mk ((by rw [hw]; exact below_set HB.out (hP g hPg)) : Below w0.heap.size w0 w8); have HM2 := Aside0.mk ((by rw [hw]; exact hM) : Mk.Marked P w w8); clear hw; have hc1 : w8.cell? ⟨g, i.toNat * 3 + 1, none⟩ = some (.slice A1 q.1 c1) := HM2.out.cell hb hu1 hs1) | ((with_reducible refine gate_dst (N := 25) rfl ?_); (with_reducible refine gate_callee (f := 30) rfl ?_); refine goesL_ (some 25) rfl rfl Try.func30 (by kernel_rfl) rfl #[.slice A1 q.1 c1, .int .i64 (wrap64 (Mk.bump s a + 1))] rfl (by (try simp only [List.map_toArray, List.map_cons, List.map_nil]); first | done | rfl | (go_simp; rfl)) ?_; refine (laws_markProgram.ints P w0 w8 _ q.1 _ hP HB2.out (hi1'.out.on HM2.out)).mono ?_; rintro e w9 ⟨rfl, hb3, hm3⟩; refine ⟨_, rfl, ?_⟩; have HB3 := Aside0.mk hb3; have HM3 := Aside0.mk (HM2.out.trans hm3); clear hb3 hm3; have hc2 : w9.cell? ⟨g, i.toNat * 3 + 2, none⟩ = some (.slice A2 q.2 c2) := HM3.out.cell hb hu2 hs2) | ((with_reducible refine gate_callee (f := 30) rfl ?_); refine goesL_ _ rfl rfl Try.func30 (by kernel_rfl) rfl #[.slice A2 q.2 c2, .int .i64 (Mk.bump q.1 (wrap64 (Mk.bump s a + 1)))] rfl (by (try simp only [List.map_toArray, List.map_cons, List.map_nil]); first | done | rfl | (go_simp; rfl)) ?_; refine (laws_markProgram.ints P w0 w9 _ q.2 _ hP HB3.out (hi2'.out.on HM3.out)).mono ?_; rintro e w10 ⟨rfl, hb4, hm4⟩; refine ⟨_, rfl, ?_⟩; have HB4 := Aside0.mk hb4; have HM4 := Aside0.mk (HM3.out.trans hm4); clear hb4 hm4))
      go_roundg (ns.length - (i.toNat + 1))
      case measure => omega
      case rel =>
        refine ⟨i + 1, by omega, by omega, by omega, by go_num, ?_, HB4, HM4⟩
        rw [show (i + 1).toNat = i.toNat + 1 by omega, hsum, show wrap64 (Mk.bump s a + 1) = Mk.bump 1 (Mk.bump s a) from rfl, Mk.bump_add, Mk.bump_add, Mk.bump_add, show q.2 + q.1 + 1 + s = s + (1 + q.1 + q.2) by omega]
    · have : i = (ns.length : Int) := by omega
      subst this
      have hd : decide ((ns.length : Int) < (ns.length : Int)) = false := decide_eq_false (by omega)
      rw [Int.toNat_natCast, List.take_length]
      go_wp2
      go_ret
      exact ⟨rfl, HB.out, HM.out⟩
set_option maxHeartbeats 8000000 in
set_option maxRecDepth 100000 in
theorem laws_markProgram.pieces (P : Nat → Prop) (w0 w : World) (v : Value) (ns : List (Nat × List (Nat × Nat))) (a : Int) (hP : ∀ k, P k → w0.heap.size ≤ k) (hB : Below w0.heap.size w0 w) (hv : Mk.Pcs P w v ns) :
    Calls Try.prog 68 #[v, .int .i64 a] w fun e w' => e = .returned (.int .i64 (Mk.bump (Mk.sumP ns) a)) ∧ Below w0.heap.size w0 w' ∧ Mk.Marked P w w' := by
  have hu := Try.underlying69
  have hus := Try.underlying65
  obtain ⟨A, c, rfl, hm, hv⟩ := hv
  go_enter Try.func68, Try.ntmps68
  go_wp2
  go_loopg [1, 5] ns.length (fun gg v1 v5 wr => ∃ i : Int, 0 ≤ i ∧ i ≤ (ns.length : Int) ∧ (ns.length : Int) - i ≤ gg ∧ v5 = .int .i64 i ∧ v1 = .int .i64 (Mk.bump (Mk.sumP (ns.take i.toNat)) a) ∧ Aside0 (Below w0.heap.size w0 wr) ∧ Aside0 (Mk.Marked P w wr))
  case atStart => exact ⟨0, by omega, by omega, by omega, rfl, rfl, ⟨hB⟩, ⟨Mk.Marked.refl P w⟩⟩
  case round =>
    obtain ⟨i, h0, h1, hg, rfl, rfl, HB, HM⟩ := hrel
    by_cases hlt : i < (ns.length : Int)
    · obtain ⟨g, rfl, hPg, hb, hj⟩ := hv (by omega)
      obtain ⟨q, hq⟩ : ∃ q, ns[i.toNat]? = some q := ⟨_, List.getElem?_eq_getElem (show i.toNat < ns.length by omega)⟩
      obtain ⟨⟨x0, hx0⟩, ⟨y0, hy0⟩, ⟨u1, hu1, hi1⟩, ⟨u2, hu2, hi2⟩⟩ := hj i.toNat q hq
      have hs1 := hi1.slice
      have hs2 := hi2.slice
      have hi1' := Aside0.mk hi1
      have hi2' := Aside0.mk hi2
      obtain ⟨A1, c1, rfl, _, _⟩ := hi1
      obtain ⟨A2, c2, rfl, _, _⟩ := hi2
      obtain ⟨x, hx⟩ := HM.out.num hb hx0
      have hf : wr.frozen? ⟨g, i.toNat * 4, none⟩ = false := (hb.on HM.out).thaw _
      have hsum : Mk.sumP (ns.take (i.toNat + 1)) = Mk.sumP (ns.take i.toNat) + (2 + q.1 * 2 + Mk.sumT q.2) := Mk.take_sum (f := fun p : Nat × List (Nat × Nat) => 2 + p.1 * 2 + Mk.sumT p.2) hq
      generalize Mk.sumP (ns.take i.toNat) = s at hsum ⊢
      have hM := HM.out.put hPg hb hx (Mk.bump s a)
      have p5 : (0 ≤ i) = True := eq_true h0
      have q5 : (i < (ns.length : Int)) = True := eq_true hlt
      have hd : decide (i < (ns.length : Int)) = true := decide_eq_true hlt
      go_wp2_with (first | ((with_reducible refine gate_store (t := 3) (p := 17) rfl ?_); refine store_event (t := 3) (p := 17) (v := ?vo_w8) (w1 := (wr.setCell ⟨g, i.toNat * 4, none⟩ (.int .i64 (Mk.bump s a)))) ?hg ?ho ?hn ?hr ?_; (case ho => rfl); (case hg => rfl); (case hn => rfl); (case hr => first | (go_simp; done) | (go_simp; rfl)); intro w8 hw; have HB2 := Aside0.mk ((by rw [hw]; exact below_set HB.out (hP g hPg)) : Below w0.heap.size w0 w8); have HM2 := Aside0.mk ((by rw [hw]; exact hM) : Mk.Marked P w w8); clear hw; obtain ⟨y, hy⟩ := HM2.out.num hb hy0; have hf2 : w8.frozen? ⟨g, i.toNat * 4 + 1, none⟩ = false := (hb.on HM2.out).thaw _; have hM2 := HM2.out.put hPg hb hy (wrap64 (Mk.bump s a + 1))) | ((with_reducible refine gate_store (t := 3) (p := 25) rfl ?_); refine store_event (t := 3) (p := 25) (v := ?vo_w9) (w1 := (w8.setCell ⟨g, i.toNat * 4 + 1, none⟩ (.int .i64 (wrap64 (Mk.bump s a + 1))))) ?hg ?ho ?hn ?hr ?_; (case ho => rfl); (case hg => rfl); (case hn => rfl); (case hr => first | (go_simp; done) | (go_simp; rfl)); intro w9 hw; have HB3 := Aside0.mk ((by rw [hw]; exact below_set HB2.out (hP g hPg)) : Below w0.heap.size w0 w9); have HM3 := Aside0.mk ((by rw [hw]; exact hM2) : Mk.Marked P w w9); clear hw; have hc1 : w9.cell? ⟨g, i.toNat * 4 + 2, none⟩ = some (.slice A1 q.1 c1) := HM3.out.cell hb hu1 hs1) | ((with_reducible refine gate_callee (f := 91) rfl ?_); refine goesL_ _ rfl rfl Try.func91 (by kernel_rfl) rfl #[.slice A1 q.1 c1, .int .i64 (wrap64 (wrap64 (Mk.bump s a + 1) + 1))] rfl (by (try simp only [List.map_toArray, List.map_cons, List.map_nil]); first | done | rfl | (go_simp; rfl)) ?_; refine (laws_markProgram.links P w0 w9 _ q.1 _ hP HB3.out (hi1'.out.on HM3.out)).mono ?_; rintro e w10 ⟨rfl, hb4, hm4⟩; refine ⟨_, rfl, ?_⟩; have HB4 := Aside0.mk hb4; have HM4 := Aside0.mk (HM3.out.trans hm4); clear hb4 hm4; have hc2 : w10.cell? ⟨g, i.toNat * 4 + 3, none⟩ = some (.slice A2 q.2.length c2) := HM4.out.cell hb hu2 hs2) | ((with_reducible refine gate_callee (f := 92) rfl ?_); refine goesL_ _ rfl rfl Try.func92 (by kernel_rfl) rfl #[.slice A2 q.2.length c2, .int .i64 (Mk.bump (q.1 * 2) (wrap64 (wrap64 (Mk.bump s a + 1) + 1)))] rfl (by (try simp only [List.map_toArray, List.map_cons, List.map_nil]); first | done | rfl | (go_simp; rfl)) ?_; refine (laws_markProgram.tables P w0 w10 _ q.2 _ hP HB4.out (hi2'.out.on HM4.out)).mono ?_; rintro e w11 ⟨rfl, hb5, hm5⟩; refine ⟨_, rfl, ?_⟩; have HB5 := Aside0.mk hb5; have HM5 := Aside0.mk (HM4.out.trans hm5); clear hb5 hm5))
      go_roundg (ns.length - (i.toNat + 1))
      case measure => omega
      case rel =>
        refine ⟨i + 1, by omega, by omega, by omega, by go_num, ?_, HB5, HM5⟩
        rw [show (i + 1).toNat = i.toNat + 1 by omega, hsum, show wrap64 (wrap64 (Mk.bump s a + 1) + 1) = Mk.bump 2 (Mk.bump s a) from rfl, Mk.bump_add, Mk.bump_add, Mk.bump_add, show Mk.sumT q.2 + q.1 * 2 + 2 + s = s + (2 + q.1 * 2 + Mk.sumT q.2) by omega]
    · have : i = (ns.length : Int) := by omega
      subst this
      have hd : decide ((ns.length : Int) < (ns.length : Int)) = false := decide_eq_false (by omega)
      rw [Int.toNat_natCast, List.take_length]
      go_wp2
      go_ret
      exact ⟨rfl, HB.out, HM.out⟩
def laws_markProgram.cnt (l : List S69) : List (Nat × List (Nat × Nat)) := l.map fun x => (x.f1.length, x.f2.map fun t => (t.f1.length, t.f2.length))
theorem laws_markProgram.ints_of {w : World} {base : Nat} {ok : Nat → Prop} {v : Value} {xs : List Int} (h : (Kd.int .i64).R 3 w base ok v xs) : Mk.Ints (fun k => ok k ∧ base ≤ k) w v xs.length xs.length := by
  obtain ⟨A, c, rfl⟩ := Kd.R_slice h
  refine ⟨A, c, rfl, Mk.R_len h, fun hn => ?_⟩
  obtain ⟨g, cap, e, hg, _, cs, hcs⟩ := Kd.R_form h hn
  injection e with e _ _
  subst e
  refine ⟨g, rfl, ⟨h.1 g rfl, hg⟩, ⟨cs, 3, hcs⟩, fun j hj => ⟨rdOf 0 xs (j : Int), ?_⟩⟩
  have := (Kd.R_celln 0 h (j : Int) (by omega) (by omega)).1
  rwa [Int.toNat_natCast] at this
theorem laws_markProgram.links_of {w : World} {base : Nat} {ok : Nat → Prop} {v : Value} {xs : List S71} (h : k71.R 71 w base ok v xs) : Mk.Ints (fun k => ok k ∧ base ≤ k) w v xs.length (xs.length * 2) := by
  obtain ⟨A, c, rfl⟩ := Kd.R_slice h
  refine ⟨A, c, rfl, Mk.R_len h, fun hn => ?_⟩
  obtain ⟨g, cap, e, hg, _, cs, hcs⟩ := Kd.R_form h hn
  injection e with e _ _
  subst e
  refine ⟨g, rfl, ⟨h.1 g rfl, hg⟩, ⟨cs, _, hcs⟩, fun j hj => ?_⟩
  obtain ⟨ce, _, hM, hcc, _⟩ := Kd.R_elem h z71 ((j / 2 : Nat) : Int) (by omega) (by omega)
  obtain rfl := k71_openM hM
  rw [Int.toNat_natCast] at hcc
  have h0 : w.cell? ⟨g, j / 2 * 2 + 0, none⟩ = some _ := hcc 0 _ rfl
  have h1 : w.cell? ⟨g, j / 2 * 2 + 1, none⟩ = some _ := hcc 1 _ rfl
  rcases (show j % 2 = 0 ∨ j % 2 = 1 by omega) with e | e
  · exact ⟨_, by rw [show j = j / 2 * 2 + 0 by omega]; exact h0⟩
  · exact ⟨_, by rw [show j = j / 2 * 2 + 1 by omega]; exact h1⟩
theorem laws_markProgram.tables_of {w : World} {base : Nat} {ok : Nat → Prop} {v : Value} {xs : List S44} (h : k44.R 44 w base ok v xs) : Mk.Tabs (fun k => ok k ∧ base ≤ k) w v (xs.map fun t => (t.f1.length, t.f2.length)) := by
  obtain ⟨A, c, rfl⟩ := Kd.R_slice h
  refine ⟨A, c, by rw [List.length_map], by rw [List.length_map]; exact Mk.R_len h, fun hn => ?_⟩
  rw [List.length_map] at hn
  obtain ⟨g, cap, e, hg, _, cs, hcs⟩ := Kd.R_form h hn
  injection e with e _ _
  subst e
  refine ⟨g, rfl, ⟨h.1 g rfl, hg⟩, ⟨cs, _, hcs⟩, fun i p hp => ?_⟩
  rw [List.getElem?_map] at hp
  obtain ⟨t, ht, rfl⟩ := Option.map_eq_some_iff.1 hp
  have hlt : i < xs.length := (List.getElem?_eq_some_iff.1 ht).1
  obtain ⟨ce, _, hM, hcc, _⟩ := Kd.R_elem h z44 (i : Int) (by omega) (by omega)
  rw [Int.toNat_natCast] at hM hcc
  rw [List.getD_eq_getElem?_getD, ht] at hM
  obtain ⟨v1, v2, rfl, r1, r2⟩ := k44_openM hM
  have ok2 : ∀ {v : Value} {l : List Int}, (Kd.int .i64).R 3 w base (fun k => ok k ∧ k ≠ g) v l → Mk.Ints (fun k => ok k ∧ base ≤ k) w v l.length l.length := fun r => laws_markProgram.ints_of (Kd.R_mono r fun _ hk => hk.1)
  exact ⟨⟨_, hcc 0 _ rfl⟩, ⟨v1, hcc 1 _ rfl, ok2 r1⟩, ⟨v2, hcc 2 _ rfl, ok2 r2⟩⟩
theorem laws_markProgram.pieces_of {w : World} {base : Nat} {ok : Nat → Prop} {v : Value} {xs : List S69} (h : k69.R 69 w base ok v xs) : Mk.Pcs (fun k => ok k ∧ base ≤ k) w v (laws_markProgram.cnt xs) := by
  obtain ⟨A, c, rfl⟩ := Kd.R_slice h
  unfold laws_markProgram.cnt
  refine ⟨A, c, by rw [List.length_map], by rw [List.length_map]; exact Mk.R_len h, fun hn => ?_⟩
  rw [List.length_map] at hn
  obtain ⟨g, cap, e, hg, _, cs, hcs⟩ := Kd.R_form h hn
  injection e with e _ _
  subst e
  refine ⟨g, rfl, ⟨h.1 g rfl, hg⟩, ⟨cs, _, hcs⟩, fun i p hp => ?_⟩
  rw [List.getElem?_map] at hp
  obtain ⟨t, ht, rfl⟩ := Option.map_eq_some_iff.1 hp
  have hlt : i < xs.length := (List.getElem?_eq_some_iff.1 ht).1
  obtain ⟨ce, _, hM, hcc, _⟩ := Kd.R_elem h z69 (i : Int) (by omega) (by omega)
  rw [Int.toNat_natCast] at hM hcc
  rw [List.getD_eq_getElem?_getD, ht] at hM
  obtain ⟨v2, v3, rfl, r2, r3⟩ := k69_openM hM
  exact ⟨⟨_, hcc 0 _ rfl⟩, ⟨_, hcc 1 _ rfl⟩, ⟨v2, hcc 2 _ rfl, laws_markProgram.links_of (Kd.R_mono r2 fun _ hk => hk.1)⟩, ⟨v3, hcc 3 _ rfl, laws_markProgram.tables_of (Kd.R_mono r3 fun _ hk => hk.1)⟩⟩
def laws_markProgram.f (_a0_0 : Int) (_a0_1 : Int) (_a0_2 : Int) (l0_3 : List (S69)) (a1 : Int) : Option (Int) := some (Mk.bump (Mk.sumP (laws_markProgram.cnt l0_3)) a1)
set_option maxHeartbeats 8000000 in
set_option maxRecDepth 100000 in
theorem laws_markProgram.calls (a0_0 : Int) (a0_1 : Int) (a0_2 : Int) (P0_3_ : Nat → Prop) (u9000_ : Value) (l0_3 : List (S69)) (a1 : Int) (r : Int) (w0 w : World) (hB : Below w0.heap.size w0 w) (ho0_3 : Kd.R k69 69 w w0.heap.size P0_3_ u9000_ l0_3) (h : laws_markProgram.f a0_0 a0_1 a0_2 l0_3 a1 = some r) :
    Calls Try.prog 29 #[.agg #[.int .i64 a0_0, .int .i64 a0_1, .int .i64 a0_2, u9000_], .int .i64 a1] w fun e w' => e = .returned (.int .i64 r) ∧ Below w0.heap.size w0 w' ∧ Kept w w' (fun k_ => P0_3_ k_) := by
 have hu := Try.underlying29
 obtain rfl := Option.some.inj h
 obtain ⟨A0_3, c0_3, rfl⟩ := Kd.R_slice ho0_3
 have HO := Aside0.mk ho0_3
 have HB := Aside0.mk hB
 clear ho0_3 hB h
 go_enter Try.func29, Try.ntmps29
 go_wp2_with (first | ((with_reducible refine gate_dst (N := 2) rfl ?_); refine bx 2 #[.int .i64 a0_0, .int .i64 a0_1, .int .i64 a0_2, .slice A0_3 l0_3.length c0_3] 29 ?_; intro gbx hg w3 hbox hb3; have hc3 : w3.cell? ⟨gbx, 3, none⟩ = some (.slice A0_3 l0_3.length c0_3) := (blk_cell hbox 3).trans rfl; have HB3 := Aside0.mk (below_then HB.out HB.out.size hb3); have HO3 := Aside0.mk (Kd.R_below HO.out hb3); have HK3 := Aside0.mk (Kept.of_below hb3 (fun k_ => P0_3_ k_)); clear hb3 hbox hg) | ((with_reducible refine gate_callee (f := 68) rfl ?_); refine goesL_ _ rfl rfl Try.func68 (by kernel_rfl) rfl #[.slice A0_3 l0_3.length c0_3, .int .i64 a1] rfl (by (try simp only [List.map_toArray, List.map_cons, List.map_nil]); first | done | rfl | (go_simp; rfl)) ?_; refine (laws_markProgram.pieces (fun k => P0_3_ k ∧ w0.heap.size ≤ k) w0 w3 _ _ a1 (fun _ hk => hk.2) HB3.out (laws_markProgram.pieces_of HO3.out)).mono ?_; rintro e w4 ⟨rfl, hb4, hm4⟩; refine ⟨_, rfl, ?_⟩; have HB4 := Aside0.mk hb4; have HM4 := Aside0.mk hm4; clear hb4 hm4))
 go_ret
 exact ⟨rfl, HB4.out, HK3.out.then_ HM4.out.kept (fun _ hk => .inl hk.1)⟩

/-! ### laws_heldIntS: function 31 -/
def laws_heldIntS.l0 : Nat → List Int → Int → Int → Option (Int)
  | 0, _, _, _ => none
  | k + 1, x0, x1, x5 => if x5 < (x0.length : Int) then (if 0 ≤ x5 then (if (rd x0 x5) = x1 then (laws_heldIntS.l0 k x0 (wrap64 (x1 + 1)) (wrap64 (x5 + 1))) else (some (-1))) else (none)) else (some x1)
def laws_heldIntS.f (k : Nat) (l0 : List Int) (a1 : Int) : Option (Int) := laws_heldIntS.l0 k l0 a1 0
theorem laws_heldIntS.mono_l : ∀ k, (∀ y0 y1 y2, LeO (laws_heldIntS.l0 k y0 y1 y2) (laws_heldIntS.l0 (k + 1) y0 y1 y2))
  | 0 => fun _ _ _ r h => by simp [laws_heldIntS.l0] at h
  | k + 1 => by
    have ih0 := laws_heldIntS.mono_l k
    · intro y0 y1 y2
      unfold laws_heldIntS.l0
      exact mo
theorem laws_heldIntS.mono : ∀ a0 a1 k, LeO (laws_heldIntS.f k a0 a1) (laws_heldIntS.f (k + 1) a0 a1) := by
  intro a0 a1 k
  have ih0 := laws_heldIntS.mono_l k
  unfold laws_heldIntS.f
  exact mo
set_option maxHeartbeats 8000000 in
set_option maxRecDepth 100000 in
theorem laws_heldIntS.calls (k : Nat) (A0 : Option Addr) (c0 : Nat) (l0 : List Int) (a1 : Int) (r : Int) (w : World) (hr0 : Kd.C (Kd.int .i64) w A0 l0.length l0) (hc0 : l0.length ≤ c0) (h : laws_heldIntS.f k l0 a1 = some r) :
    Calls Try.prog 31 #[.slice A0 l0.length c0, .int .i64 a1] w fun e w' => e = .returned (.int .i64 r) ∧ Drawn0 w w' := by
 have HR0 := Aside0.mk hr0
 have HC0 := Aside0.mk hc0
 clear hr0 hc0
 have H : (laws_heldIntS.l0 k l0 a1 0) = some r := h
 clear h
 have H' := Aside0.mk H
 clear H
 go_enter Try.func31, Try.ntmps31
 go_wp2
 go_loopg [1, 5] k (fun kq v1 v5 w' => ∃ (x1_1 : Int) (x5_1 : Int), v1 = .int .i64 x1_1 ∧ v5 = .int .i64 x5_1 ∧ Aside0 (laws_heldIntS.l0 kq l0 x1_1 x5_1 = some r) ∧ Aside0 (kq ≤ k) ∧ Drawn0 w w')
 case atStart => exact ⟨(a1), (0), sc, sc, H', kk0, sd⟩
 case round =>
  clear H'
  obtain ⟨x1_1, x5_1, rfl, rfl, HA, HK1, ⟨m1, rfl⟩⟩ := hrel
  cases gk with
  | zero => exact absurd HA.out (by simp [laws_heldIntS.l0])
  | succ k1 =>
   have H := HA.out
   clear HA
   simp only [laws_heldIntS.l0] at H
   obtain ⟨c3, H⟩ | ⟨c3, H⟩ := ie_ H
   ·have c3b0 := decide_eq_true c3
    clear c3
    obtain ⟨c4b0, H⟩ := id_ H
    obtain ⟨c5, H⟩ | ⟨c5, H⟩ := ie_ H
    ·have c5b0 : ((rd l0 x5_1) == x1_1) = true := beq_iff_eq.mpr c5
     have c5b1 : ((rd l0 x5_1) != x1_1) = false := bne_eq_false_iff_eq.mpr c5
     clear c5
     have H' := Aside0.mk H
     clear H
     have p235 : 0 ≤ (x5_1 : Int) := sa
     have q235 : x5_1 < (l0.length : Int) := sa
     obtain ⟨ad235, e235, hx235_0⟩ := Kd.at_int HR0.out x5_1 p235 q235
     cases e235
     replace p235 := eq_true p235
     replace q235 := eq_true q235
     go_wp2
     go_roundg k1
     case measure => have := HK1.out; omega
     case rel => exact ⟨(wrap64 (x1_1 + 1)), (wrap64 (x5_1 + 1)), sc, sc, H', kk1, sd⟩
    ·have c5b0 : ((rd l0 x5_1) == x1_1) = false := beq_eq_false_iff_ne.mpr c5
     have c5b1 : ((rd l0 x5_1) != x1_1) = true := bne_iff_ne.mpr c5
     obtain rfl := Option.some.inj H
     have p235 : 0 ≤ (x5_1 : Int) := sa
     have q235 : x5_1 < (l0.length : Int) := sa
     obtain ⟨ad235, e235, hx235_0⟩ := Kd.at_int HR0.out x5_1 p235 q235
     cases e235
     replace p235 := eq_true p235
     replace q235 := eq_true q235
     go_wp2
     go_ret
     exact ⟨sc, sd⟩
   ·have c3b0 := decide_eq_false c3
    clear c3
    obtain rfl := Option.some.inj H
    go_wp2
    go_ret
    exact ⟨sc, sd⟩

end Go.Proofs.Ytadpbpocbfjboaa.QFnExactPiecesIn
