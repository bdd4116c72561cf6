/- What the Go functions of the law FnExactNextsAt come to, as Lean functions, and that they do: by a program of the session, out of the kit's printer. Conditions: none. (squeezed). -/
import Derived.Test.YtlakjlolahjphaaVFnExactNextsAtSq
import Derived.Test.YtlakjlolahjphaaVFnExactNextsAtQFnExactNextsAtx0
import Derived.Test.YtlakjlolahjphaaVFnExactNextsAtQFnExactNextsAtx5
namespace Go.Proofs.Ytlakjlolahjphaa.QFnExactNextsAt
open Go.RowKit Go.Proofs.YtlakjlolahjphaaW.PrintWords Go.Proofs.YtlakjlolahjphaaW.PrintLast Go.Proofs.YtlakjlolahjphaaW.PrintMore Go.Proofs.Ytlakjlolahjphaa.Open Go.Proofs.Ytlakjlolahjphaa.Sq
attribute [local go_sem] max2_int min2_int max_two min_two max_three min_three max_four min_four   -- for this text's walks alone
attribute [local go_sem] isSome_set
set_option linter.unusedVariables false
set_option linter.unusedSimpArgs false

/-! ### spec_PiecesIn: function 127 -/
def spec_PiecesIn.l0 : Nat → Int → Int → List Int → Int → Int → Int → Int → List (S106) → Option (List Int)
  | 0, _, _, _, _, _, _, _, _ => none
  | k + 1, x1, x2, x7, x8, x243000, x243001, x243002, x243003 => if x8 < (x243003.length : Int) then (if 0 ≤ x8 then ((spec_IsSpan.f ((rd_T106 x243003 x8).f0.f0) ((rd_T106 x243003 x8).f0.f1)).bind fun t248 => (if t248 = true then (if x1 ≤ x2 then (if ((rd_T106 x243003 x8).f0.f0) ≤ x2 then (if x1 < ((rd_T106 x243003 x8).f0.f1) then (if x7.length < 17592186044416 then (spec_PiecesIn.l0 k x1 x2 (x7 ++ [x8]) (wrap64 (x8 + 1)) x243000 x243001 x243002 x243003) else (none)) else (spec_PiecesIn.l0 k x1 x2 x7 (wrap64 (x8 + 1)) x243000 x243001 x243002 x243003)) else (spec_PiecesIn.l0 k x1 x2 x7 (wrap64 (x8 + 1)) x243000 x243001 x243002 x243003)) else (spec_PiecesIn.l0 k x1 x2 x7 (wrap64 (x8 + 1)) x243000 x243001 x243002 x243003)) else (spec_PiecesIn.l0 k x1 x2 x7 (wrap64 (x8 + 1)) x243000 x243001 x243002 x243003))) else (none)) else (some x7)
def spec_PiecesIn.f (k : Nat) (a0_0 : Int) (a0_1 : Int) (a0_2 : Int) (l0_3 : List (S106)) (a1 : Int) (a2 : Int) : Option (List Int) := spec_PiecesIn.l0 k a1 a2 (([] : List Int)) 0 a0_0 a0_1 a0_2 l0_3
theorem spec_PiecesIn.mono_l : ∀ k, (∀ y0 y1 y2 y3 y4 y5 y6 y7, LeO (spec_PiecesIn.l0 k y0 y1 y2 y3 y4 y5 y6 y7) (spec_PiecesIn.l0 (k + 1) y0 y1 y2 y3 y4 y5 y6 y7))
  | 0 => fun _ _ _ _ _ _ _ _ r h => by simp [spec_PiecesIn.l0] at h
  | k + 1 => by
    have ih0 := spec_PiecesIn.mono_l k
    · intro y0 y1 y2 y3 y4 y5 y6 y7
      unfold spec_PiecesIn.l0
      exact mo
theorem spec_PiecesIn.mono : ∀ a0 a1 a2 a3 a4 a5 k, LeO (spec_PiecesIn.f k a0 a1 a2 a3 a4 a5) (spec_PiecesIn.f (k + 1) a0 a1 a2 a3 a4 a5) := by
  intro a0 a1 a2 a3 a4 a5 k
  have ih0 := spec_PiecesIn.mono_l k
  unfold spec_PiecesIn.f
  exact mo
set_option maxHeartbeats 8000000 in
set_option maxRecDepth 100000 in
theorem spec_PiecesIn.calls (k : Nat) (a0_0 : Int) (a0_1 : Int) (a0_2 : Int) (A0_3 : Option Addr) (c0_3 : Nat) (l0_3 : List (S106)) (a1 : Int) (a2 : Int) (r : List Int) (w : World) (hr0_3 : Kd.C k106 w A0_3 l0_3.length l0_3) (hc0_3 : l0_3.length ≤ c0_3) (h : spec_PiecesIn.f k a0_0 a0_1 a0_2 l0_3 a1 a2 = some r) :
    Calls Try.prog 127 #[.agg #[.int .i64 a0_0, .int .i64 a0_1, .int .i64 a0_2, .slice A0_3 l0_3.length c0_3], .int .i64 a1, .int .i64 a2] w fun e w' => ∃ v0_ : Value, e = .returned (v0_) ∧ Kd.R (Kd.int .i64) 3 w' w.heap.size (fun _ => True) v0_ r ∧ Below w.heap.size w w' := by
 have hu29 := Try.underlying29
 have hu91 := Try.underlying91
 have HR0_3 := Aside0.mk hr0_3
 have HC0_3 := Aside0.mk hc0_3
 clear hr0_3 hc0_3
 have HB := Aside0.mk (Below.refl w.heap.size w)
 have H : (spec_PiecesIn.l0 k a1 a2 (([] : List Int)) 0 a0_0 a0_1 a0_2 l0_3) = some r := h
 clear h
 obtain ⟨y243, hy243⟩ : ∃ y_ : List Int, y_ = (([] : List Int)) := ⟨_, rfl⟩
 replace H : (spec_PiecesIn.l0 k a1 a2 y243 0 a0_0 a0_1 a0_2 l0_3) = some r := by first | (rw [hy243]; with_reducible exact H) | (have H2_ := (Option.bind_some _ _).symm.trans H; rw [hy243]; with_reducible exact H2_) | (have H2_ := (Option.bind_some _ _).symm.trans H; with_reducible exact H2_) | with_reducible exact H | (rw [hy243]; exact H) | exact H
 have Ny243 := Aside0.mk hy243
 clear hy243
 have H' := Aside0.mk H
 clear H
 go_enter Try.func127, Try.ntmps127
 go_wp2_with (first | ((with_reducible refine gate_dst (N := 3) rfl ?_); refine bx 3 #[.int .i64 a0_0, .int .i64 a0_1, .int .i64 a0_2, .slice A0_3 l0_3.length c0_3] 29 ?_; intro gb242 hg w4 hbox hb; have BK242 := Aside0.mk hbox; have GW242 := bz w hg; have GE242 := bz w hg; replace HB := bs hb; clear hb hbox hg) | ((with_reducible refine gate_dst (N := 10) rfl ?_); refine Kd.R_lit (Kd.int .i64) _ 3 ?hg (N := 10) ?hd (xs := ([] : List Int)) (inner := []) (ok := fun _ => True) (okp := fun _ => True) ?hr ?hp (fun _ hk => hk) trivial (Below.refl _ _) (Nat.le_refl _) (by simp) ?_; (case hd => rfl); (case hg => rfl); (case hr => first | (go_simp; done) | (go_simp; rfl)); (case hp => exact (Reps.none _ _)); intro v244 w5 ho6 hb hg_ hnew_; clear hg_ hnew_; (first | rw [← Ny243.out] at ho6 | (simp only [Int.reduceToNat] at ho6; rw [← Ny243.out] at ho6)); have HO245 := Aside0.mk (Kd.R_lower ho6 (below_size (sbw))); replace BK242 := bb BK242 hb; replace HB := bsw hb; clear hb ho6))
 go_loopg [7, 8] k (fun kq v7 v8 w' => ∃ (x7_1 : List Int) (x8_1 : Int), v8 = .int .i64 x8_1 ∧ Aside0 (spec_PiecesIn.l0 kq a1 a2 x7_1 x8_1 a0_0 a0_1 a0_2 l0_3 = some r) ∧ Aside0 (kq ≤ k) ∧ Aside0 (Kd.R (Kd.int .i64) 3 w' w.heap.size (fun _ => True) v7 x7_1) ∧ Aside0 (w'.heap[gb242]? = some (.cells #[.int .i64 a0_0, .int .i64 a0_1, .int .i64 a0_2, (.slice A0_3 l0_3.length c0_3)] 29 (0, 0))) ∧ Aside0 (Below w.heap.size w w'))
 case atStart => exact ⟨(y243), (0), sc, H', kk0, ⟨sr HO245⟩, ⟨sk BK242⟩, ⟨sbw⟩⟩
 case round =>
  clear H'
  obtain ⟨x7_1, x8_1, rfl, HA, HK1, HO_7, BK242, HB⟩ := hrel
  cases gk with
  | zero => exact absurd HA.out (by simp [spec_PiecesIn.l0])
  | succ k1 =>
   have H := HA.out
   clear HA
   simp only [spec_PiecesIn.l0] at H
   obtain ⟨c7, H⟩ | ⟨c7, H⟩ := ie_ H
   ·have c7b0 := decide_eq_true c7
    clear c7
    obtain ⟨c8b0, H⟩ := id_ H
    obtain ⟨t248, A9, H⟩ := bnd H
    obtain rfl | rfl := tt t248
    ·replace H := ip H
     obtain ⟨c11, H⟩ | ⟨c11, H⟩ := ie_ H
     ·have c11b0 := decide_eq_true c11
      clear c11
      obtain ⟨c12, H⟩ | ⟨c12, H⟩ := ie_ H
      ·have c12b0 := decide_eq_true c12
       clear c12
       obtain ⟨c13, H⟩ | ⟨c13, H⟩ := ie_ H
       ·have c13b0 := decide_eq_true c13
        clear c13
        obtain ⟨LMc14, H⟩ := il_ H
        obtain ⟨y249, hy249⟩ : ∃ y_ : List Int, y_ = (x7_1 ++ [x8_1]) := ⟨_, rfl⟩
        replace H : (spec_PiecesIn.l0 k1 a1 a2 y249 (wrap64 (x8_1 + 1)) a0_0 a0_1 a0_2 l0_3) = some r := by first | (rw [hy249]; with_reducible exact H) | (have H2_ := (Option.bind_some _ _).symm.trans H; rw [hy249]; with_reducible exact H2_) | (have H2_ := (Option.bind_some _ _).symm.trans H; with_reducible exact H2_) | with_reducible exact H | (rw [hy249]; exact H) | exact H
        have Ny249 := Aside0.mk hy249
        clear hy249
        have H' := Aside0.mk H
        clear H
        obtain ⟨hcz15_0, hcz15_1, hcz15_2, hcz15_3, hfz15_0, hfz15_1, hfz15_2, hfz15_3⟩ := cc4 BK242
        obtain ⟨p246, q246, ad246, A246_2, c246_2, A246_3, c246_3, e246, _, _, _, _, hx246_0, hx246_1, hx246_2, hx246_3, HC246_2, HR246_2, HC246_3, HR246_3⟩ := aT_T106 HR0_3 HB x8_1
        cases e246
        go_wp2_with (first | ((with_reducible refine gate_dst (N := 9) rfl ?_); refine bx 9 #[.int .i64 0, .int .i64 0] 91 ?_; intro gb247 hg w16 hbox hb; replace HO_7 := Aside0.mk (Kd.R_below (sr HO_7) hb); have BK247 := Aside0.mk hbox; have GW247 := bzw w hg; have GE247 := bzw w hg; replace HB := bsw hb; have NB242_247 := nl BK242 hg; have NB247_242 := ng BK242 hg; replace BK242 := bb BK242 hb; clear hb hbox hg; have hnb17 := NB247_242.out; have hnc17 := NB242_247.out; obtain ⟨hcz18_0, hcz18_1, hfz18_0, hfz18_1⟩ := cc2 BK247) | ((with_reducible refine gate_callee (f := 143) rfl ?_); refine gL (some 25) Try.func143 #[.agg #[.int .i64 ((rd_T106 l0_3 x8_1).f0.f0), .int .i64 ((rd_T106 l0_3 x8_1).f0.f1)]] ?_; (with_reducible refine (spec_IsSpan.calls ((rd_T106 l0_3 x8_1).f0.f0) ((rd_T106 l0_3 x8_1).f0.f1) true _ A9.out).mono ?_); rintro e w19 ⟨rfl, hb⟩; refine ⟨_, rfl, ?_⟩; replace HO_7 := Aside0.mk (Kd.R_below (by (with_reducible repeat (first | apply Kd.R_alloc | apply Kd.R_drewN | apply Kd.R_drew)); exact (Kd.R_mono (Kd.R_far (p := ⟨gb247, 1, none⟩) (Kd.R_far (p := ⟨gb247, 0, none⟩) (Kd.R_types HO_7.out BK247.out (by decide)) (fun _ hk => hk.2) (.int .i64 ((rd_T106 l0_3 x8_1).f0.f0))) (fun _ hk => hk.2) (.int .i64 ((rd_T106 l0_3 x8_1).f0.f1))) (fun _ h_ => h_.1))) hb); replace BK242 := Aside0.mk (blk_below (g := gb242) (o := .cells #[.int .i64 a0_0, .int .i64 a0_1, .int .i64 a0_2, .slice (some ad246) l0_3.length c0_3] 29 (0, 0)) (sp BK242) hb); replace BK247 := Aside0.mk (blk_below (g := gb247) (o := .cells #[.int .i64 ((rd_T106 l0_3 x8_1).f0.f0), .int .i64 ((rd_T106 l0_3 x8_1).f0.f1)] 91 (0, 0)) (sp BK247) hb); replace HB := bsw hb; (try clear hb); (try clear hb2); (try clear hk); (try clear hi); obtain ⟨hcz20_0, hcz20_1, hfz20_0, hfz20_1⟩ := cc2 BK247) | ((with_reducible refine gate_builtin (b := .append) (xs := #[.tmp 43, .tmp 45]) rfl ?_); at_builtin; refine Kd.R_append (Kd.int .i64) (w0 := w) w.heap.size rfl (.tmp 43) (.tmp 45) 40 3 (.int .i64 0) 8 rfl Try.underlying40 info3 rfl (by decide) (by omega) u7 x7_1 x8_1 [.int .i64 x8_1] (fun _ => True) (fun _ => False) rfl rfl ?aP (fun _ hk => hk.elim) ?aF ?aO ?aB ?aS ?aL ?_; (case aP => exact rfl); (case aB => exact (sbw)); (case aF => exact (fun _ _ => trivial)); (case aO => exact (sr HO_7)); (case aS => exact (below_size (sbw))); (case aL => have := LMc14.out; omega); intro v250 w21 ho hb hg hat; rw [← Ny249.out] at ho; replace BK242 := Aside0.mk (blk_grown (g := gb242) (o := .cells #[.int .i64 a0_0, .int .i64 a0_1, .int .i64 a0_2, .slice (some ad246) l0_3.length c0_3] 29 (0, 0)) (sk BK242) hg (Kd.R_ne HO_7.out BK242.out (by decide))); replace BK247 := Aside0.mk (blk_grown (g := gb247) (o := .cells #[.int .i64 ((rd_T106 l0_3 x8_1).f0.f0), .int .i64 ((rd_T106 l0_3 x8_1).f0.f1)] 91 (0, 0)) (sk BK247) hg (Kd.R_ne HO_7.out BK247.out (by decide))); replace HB := Aside0.mk hb; have HO251 := Aside0.mk ho; clear HO_7; clear ho hb hg hat))
        go_roundg k1
        case measure => have := HK1.out; omega
        case rel => exact ⟨(y249), (wrap64 (x8_1 + 1)), sc, H', kk1, ⟨sr HO251⟩, ⟨sk BK242⟩, ⟨sbw⟩⟩
       ·have c13b0 := decide_eq_false c13
        clear c13
        have H' := Aside0.mk H
        clear H
        obtain ⟨hcz22_0, hcz22_1, hcz22_2, hcz22_3, hfz22_0, hfz22_1, hfz22_2, hfz22_3⟩ := cc4 BK242
        obtain ⟨p246, q246, ad246, A246_2, c246_2, A246_3, c246_3, e246, _, _, _, _, hx246_0, hx246_1, hx246_2, hx246_3, HC246_2, HR246_2, HC246_3, HR246_3⟩ := aT_T106 HR0_3 HB x8_1
        cases e246
        go_wp2_with (first | ((with_reducible refine gate_dst (N := 9) rfl ?_); refine bx 9 #[.int .i64 0, .int .i64 0] 91 ?_; intro gb247 hg w23 hbox hb; replace HO_7 := Aside0.mk (Kd.R_below (sr HO_7) hb); have BK247 := Aside0.mk hbox; have GW247 := bzw w hg; have GE247 := bzw w hg; replace HB := bsw hb; have NB242_247 := nl BK242 hg; have NB247_242 := ng BK242 hg; replace BK242 := bb BK242 hb; clear hb hbox hg; have hnb24 := NB247_242.out; have hnc24 := NB242_247.out; obtain ⟨hcz25_0, hcz25_1, hfz25_0, hfz25_1⟩ := cc2 BK247) | ((with_reducible refine gate_callee (f := 143) rfl ?_); refine gL (some 25) Try.func143 #[.agg #[.int .i64 ((rd_T106 l0_3 x8_1).f0.f0), .int .i64 ((rd_T106 l0_3 x8_1).f0.f1)]] ?_; (with_reducible refine (spec_IsSpan.calls ((rd_T106 l0_3 x8_1).f0.f0) ((rd_T106 l0_3 x8_1).f0.f1) true _ A9.out).mono ?_); rintro e w26 ⟨rfl, hb⟩; refine ⟨_, rfl, ?_⟩; replace HO_7 := Aside0.mk (Kd.R_below (by (with_reducible repeat (first | apply Kd.R_alloc | apply Kd.R_drewN | apply Kd.R_drew)); exact (Kd.R_mono (Kd.R_far (p := ⟨gb247, 1, none⟩) (Kd.R_far (p := ⟨gb247, 0, none⟩) (Kd.R_types HO_7.out BK247.out (by decide)) (fun _ hk => hk.2) (.int .i64 ((rd_T106 l0_3 x8_1).f0.f0))) (fun _ hk => hk.2) (.int .i64 ((rd_T106 l0_3 x8_1).f0.f1))) (fun _ h_ => h_.1))) hb); replace BK242 := Aside0.mk (blk_below (g := gb242) (o := .cells #[.int .i64 a0_0, .int .i64 a0_1, .int .i64 a0_2, .slice (some ad246) l0_3.length c0_3] 29 (0, 0)) (sp BK242) hb); replace BK247 := Aside0.mk (blk_below (g := gb247) (o := .cells #[.int .i64 ((rd_T106 l0_3 x8_1).f0.f0), .int .i64 ((rd_T106 l0_3 x8_1).f0.f1)] 91 (0, 0)) (sp BK247) hb); replace HB := bsw hb; (try clear hb); (try clear hb2); (try clear hk); (try clear hi); obtain ⟨hcz27_0, hcz27_1, hfz27_0, hfz27_1⟩ := cc2 BK247))
        go_roundg k1
        case measure => have := HK1.out; omega
        case rel => exact ⟨(x7_1), (wrap64 (x8_1 + 1)), sc, H', kk1, ⟨sr HO_7⟩, ⟨sk BK242⟩, ⟨sbw⟩⟩
      ·have c12b0 := decide_eq_false c12
       clear c12
       have H' := Aside0.mk H
       clear H
       obtain ⟨hcz28_0, hcz28_1, hcz28_2, hcz28_3, hfz28_0, hfz28_1, hfz28_2, hfz28_3⟩ := cc4 BK242
       obtain ⟨p246, q246, ad246, A246_2, c246_2, A246_3, c246_3, e246, _, _, _, _, hx246_0, hx246_1, hx246_2, hx246_3, HC246_2, HR246_2, HC246_3, HR246_3⟩ := aT_T106 HR0_3 HB x8_1
       cases e246
       go_wp2_with (first | ((with_reducible refine gate_dst (N := 9) rfl ?_); refine bx 9 #[.int .i64 0, .int .i64 0] 91 ?_; intro gb247 hg w29 hbox hb; replace HO_7 := Aside0.mk (Kd.R_below (sr HO_7) hb); have BK247 := Aside0.mk hbox; have GW247 := bzw w hg; have GE247 := bzw w hg; replace HB := bsw hb; have NB242_247 := nl BK242 hg; have NB247_242 := ng BK242 hg; replace BK242 := bb BK242 hb; clear hb hbox hg; have hnb30 := NB247_242.out; have hnc30 := NB242_247.out; obtain ⟨hcz31_0, hcz31_1, hfz31_0, hfz31_1⟩ := cc2 BK247) | ((with_reducible refine gate_callee (f := 143) rfl ?_); refine gL (some 25) Try.func143 #[.agg #[.int .i64 ((rd_T106 l0_3 x8_1).f0.f0), .int .i64 ((rd_T106 l0_3 x8_1).f0.f1)]] ?_; (with_reducible refine (spec_IsSpan.calls ((rd_T106 l0_3 x8_1).f0.f0) ((rd_T106 l0_3 x8_1).f0.f1) true _ A9.out).mono ?_); rintro e w32 ⟨rfl, hb⟩; refine ⟨_, rfl, ?_⟩; replace HO_7 := Aside0.mk (Kd.R_below (by (with_reducible repeat (first | apply Kd.R_alloc | apply Kd.R_drewN | apply Kd.R_drew)); exact (Kd.R_mono (Kd.R_far (p := ⟨gb247, 1, none⟩) (Kd.R_far (p := ⟨gb247, 0, none⟩) (Kd.R_types HO_7.out BK247.out (by decide)) (fun _ hk => hk.2) (.int .i64 ((rd_T106 l0_3 x8_1).f0.f0))) (fun _ hk => hk.2) (.int .i64 ((rd_T106 l0_3 x8_1).f0.f1))) (fun _ h_ => h_.1))) hb); replace BK242 := Aside0.mk (blk_below (g := gb242) (o := .cells #[.int .i64 a0_0, .int .i64 a0_1, .int .i64 a0_2, .slice (some ad246) l0_3.length c0_3] 29 (0, 0)) (sp BK242) hb); replace BK247 := Aside0.mk (blk_below (g := gb247) (o := .cells #[.int .i64 ((rd_T106 l0_3 x8_1).f0.f0), .int .i64 ((rd_T106 l0_3 x8_1).f0.f1)] 91 (0, 0)) (sp BK247) hb); replace HB := bsw hb; (try clear hb); (try clear hb2); (try clear hk); (try clear hi); obtain ⟨hcz33_0, hcz33_1, hfz33_0, hfz33_1⟩ := cc2 BK247))
       go_roundg k1
       case measure => have := HK1.out; omega
       case rel => exact ⟨(x7_1), (wrap64 (x8_1 + 1)), sc, H', kk1, ⟨sr HO_7⟩, ⟨sk BK242⟩, ⟨sbw⟩⟩
     ·have c11b0 := decide_eq_false c11
      clear c11
      have H' := Aside0.mk H
      clear H
      obtain ⟨hcz34_0, hcz34_1, hcz34_2, hcz34_3, hfz34_0, hfz34_1, hfz34_2, hfz34_3⟩ := cc4 BK242
      obtain ⟨p246, q246, ad246, A246_2, c246_2, A246_3, c246_3, e246, _, _, _, _, hx246_0, hx246_1, hx246_2, hx246_3, HC246_2, HR246_2, HC246_3, HR246_3⟩ := aT_T106 HR0_3 HB x8_1
      cases e246
      go_wp2_with (first | ((with_reducible refine gate_dst (N := 9) rfl ?_); refine bx 9 #[.int .i64 0, .int .i64 0] 91 ?_; intro gb247 hg w35 hbox hb; replace HO_7 := Aside0.mk (Kd.R_below (sr HO_7) hb); have BK247 := Aside0.mk hbox; have GW247 := bzw w hg; have GE247 := bzw w hg; replace HB := bsw hb; have NB242_247 := nl BK242 hg; have NB247_242 := ng BK242 hg; replace BK242 := bb BK242 hb; clear hb hbox hg; have hnb36 := NB247_242.out; have hnc36 := NB242_247.out; obtain ⟨hcz37_0, hcz37_1, hfz37_0, hfz37_1⟩ := cc2 BK247) | ((with_reducible refine gate_callee (f := 143) rfl ?_); refine gL (some 25) Try.func143 #[.agg #[.int .i64 ((rd_T106 l0_3 x8_1).f0.f0), .int .i64 ((rd_T106 l0_3 x8_1).f0.f1)]] ?_; (with_reducible refine (spec_IsSpan.calls ((rd_T106 l0_3 x8_1).f0.f0) ((rd_T106 l0_3 x8_1).f0.f1) true _ A9.out).mono ?_); rintro e w38 ⟨rfl, hb⟩; refine ⟨_, rfl, ?_⟩; replace HO_7 := Aside0.mk (Kd.R_below (by (with_reducible repeat (first | apply Kd.R_alloc | apply Kd.R_drewN | apply Kd.R_drew)); exact (Kd.R_mono (Kd.R_far (p := ⟨gb247, 1, none⟩) (Kd.R_far (p := ⟨gb247, 0, none⟩) (Kd.R_types HO_7.out BK247.out (by decide)) (fun _ hk => hk.2) (.int .i64 ((rd_T106 l0_3 x8_1).f0.f0))) (fun _ hk => hk.2) (.int .i64 ((rd_T106 l0_3 x8_1).f0.f1))) (fun _ h_ => h_.1))) hb); replace BK242 := Aside0.mk (blk_below (g := gb242) (o := .cells #[.int .i64 a0_0, .int .i64 a0_1, .int .i64 a0_2, .slice (some ad246) l0_3.length c0_3] 29 (0, 0)) (sp BK242) hb); replace BK247 := Aside0.mk (blk_below (g := gb247) (o := .cells #[.int .i64 ((rd_T106 l0_3 x8_1).f0.f0), .int .i64 ((rd_T106 l0_3 x8_1).f0.f1)] 91 (0, 0)) (sp BK247) hb); replace HB := bsw hb; (try clear hb); (try clear hb2); (try clear hk); (try clear hi)))
      go_roundg k1
      case measure => have := HK1.out; omega
      case rel => exact ⟨(x7_1), (wrap64 (x8_1 + 1)), sc, H', kk1, ⟨sr HO_7⟩, ⟨sk BK242⟩, ⟨sbw⟩⟩
    ·replace H := im H
     have H' := Aside0.mk H
     clear H
     obtain ⟨hcz39_0, hcz39_1, hcz39_2, hcz39_3, hfz39_0, hfz39_1, hfz39_2, hfz39_3⟩ := cc4 BK242
     obtain ⟨p246, q246, ad246, A246_2, c246_2, A246_3, c246_3, e246, _, _, _, _, hx246_0, hx246_1, hx246_2, hx246_3, HC246_2, HR246_2, HC246_3, HR246_3⟩ := aT_T106 HR0_3 HB x8_1
     cases e246
     go_wp2_with (first | ((with_reducible refine gate_dst (N := 9) rfl ?_); refine bx 9 #[.int .i64 0, .int .i64 0] 91 ?_; intro gb247 hg w40 hbox hb; replace HO_7 := Aside0.mk (Kd.R_below (sr HO_7) hb); have BK247 := Aside0.mk hbox; have GW247 := bzw w hg; have GE247 := bzw w hg; replace HB := bsw hb; have NB242_247 := nl BK242 hg; have NB247_242 := ng BK242 hg; replace BK242 := bb BK242 hb; clear hb hbox hg; have hnb41 := NB247_242.out; have hnc41 := NB242_247.out; obtain ⟨hcz42_0, hcz42_1, hfz42_0, hfz42_1⟩ := cc2 BK247) | ((with_reducible refine gate_callee (f := 143) rfl ?_); refine gL (some 25) Try.func143 #[.agg #[.int .i64 ((rd_T106 l0_3 x8_1).f0.f0), .int .i64 ((rd_T106 l0_3 x8_1).f0.f1)]] ?_; (with_reducible refine (spec_IsSpan.calls ((rd_T106 l0_3 x8_1).f0.f0) ((rd_T106 l0_3 x8_1).f0.f1) false _ A9.out).mono ?_); rintro e w43 ⟨rfl, hb⟩; refine ⟨_, rfl, ?_⟩; replace HO_7 := Aside0.mk (Kd.R_below (by (with_reducible repeat (first | apply Kd.R_alloc | apply Kd.R_drewN | apply Kd.R_drew)); exact (Kd.R_mono (Kd.R_far (p := ⟨gb247, 1, none⟩) (Kd.R_far (p := ⟨gb247, 0, none⟩) (Kd.R_types HO_7.out BK247.out (by decide)) (fun _ hk => hk.2) (.int .i64 ((rd_T106 l0_3 x8_1).f0.f0))) (fun _ hk => hk.2) (.int .i64 ((rd_T106 l0_3 x8_1).f0.f1))) (fun _ h_ => h_.1))) hb); replace BK242 := Aside0.mk (blk_below (g := gb242) (o := .cells #[.int .i64 a0_0, .int .i64 a0_1, .int .i64 a0_2, .slice (some ad246) l0_3.length c0_3] 29 (0, 0)) (sp BK242) hb); replace BK247 := Aside0.mk (blk_below (g := gb247) (o := .cells #[.int .i64 ((rd_T106 l0_3 x8_1).f0.f0), .int .i64 ((rd_T106 l0_3 x8_1).f0.f1)] 91 (0, 0)) (sp BK247) hb); replace HB := bsw hb; (try clear hb); (try clear hb2); (try clear hk); (try clear hi)))
     go_roundg k1
     case measure => have := HK1.out; omega
     case rel => exact ⟨(x7_1), (wrap64 (x8_1 + 1)), sc, H', kk1, ⟨sr HO_7⟩, ⟨sk BK242⟩, ⟨sbw⟩⟩
   ·have c7b0 := decide_eq_false c7
    clear c7
    obtain rfl := Option.some.inj H
    obtain ⟨hcz44_0, hcz44_1, hcz44_2, hcz44_3, hfz44_0, hfz44_1, hfz44_2, hfz44_3⟩ := cc4 BK242
    go_wp2
    go_ret
    exact ⟨_, se, sr HO_7, sbw⟩

/-! ### spec_l15Has: function 102 -/
def spec_l15Has.l0 : Nat → List Int → Int → Int → Option (Bool)
  | 0, _, _, _ => none
  | k + 1, x0, x1, x5 => if x5 < (x0.length : Int) then (if 0 ≤ x5 then (if (rd x0 x5) = x1 then (some true) else (spec_l15Has.l0 k x0 x1 (wrap64 (x5 + 1)))) else (none)) else (some false)
def spec_l15Has.f (k : Nat) (l0 : List Int) (a1 : Int) : Option (Bool) := spec_l15Has.l0 k l0 a1 0
theorem spec_l15Has.mono_l : ∀ k, (∀ y0 y1 y2, LeO (spec_l15Has.l0 k y0 y1 y2) (spec_l15Has.l0 (k + 1) y0 y1 y2))
  | 0 => fun _ _ _ r h => by simp [spec_l15Has.l0] at h
  | k + 1 => by
    have ih0 := spec_l15Has.mono_l k
    · intro y0 y1 y2
      unfold spec_l15Has.l0
      exact mo
theorem spec_l15Has.mono : ∀ a0 a1 k, LeO (spec_l15Has.f k a0 a1) (spec_l15Has.f (k + 1) a0 a1) := by
  intro a0 a1 k
  have ih0 := spec_l15Has.mono_l k
  unfold spec_l15Has.f
  exact mo
set_option maxHeartbeats 8000000 in
set_option maxRecDepth 100000 in
theorem spec_l15Has.calls (k : Nat) (A0 : Option Addr) (c0 : Nat) (l0 : List Int) (a1 : Int) (r : Bool) (w : World) (hr0 : Kd.C (Kd.int .i64) w A0 l0.length l0) (hc0 : l0.length ≤ c0) (h : spec_l15Has.f k l0 a1 = some r) :
    Calls Try.prog 102 #[.slice A0 l0.length c0, .int .i64 a1] w fun e w' => e = .returned (.bool r) ∧ Drawn0 w w' := by
 have HR0 := Aside0.mk hr0
 have HC0 := Aside0.mk hc0
 clear hr0 hc0
 have H : (spec_l15Has.l0 k l0 a1 0) = some r := h
 clear h
 have H' := Aside0.mk H
 clear H
 go_enter Try.func102, Try.ntmps102
 go_wp2
 go_loopg [5] k (fun kq v5 w' => ∃ (x5_1 : Int), v5 = .int .i64 x5_1 ∧ Aside0 (spec_l15Has.l0 kq l0 a1 x5_1 = some r) ∧ Aside0 (kq ≤ k) ∧ Drawn0 w w')
 case atStart => exact ⟨(0), sc, H', kk0, sd⟩
 case round =>
  clear H'
  obtain ⟨x5_1, rfl, HA, HK1, ⟨m1, rfl⟩⟩ := hrel
  cases gk with
  | zero => exact absurd HA.out (by simp [spec_l15Has.l0])
  | succ k1 =>
   have H := HA.out
   clear HA
   simp only [spec_l15Has.l0] at H
   obtain ⟨c3, H⟩ | ⟨c3, H⟩ := ie_ H
   ·have c3b0 := decide_eq_true c3
    clear c3
    obtain ⟨c4b0, H⟩ := id_ H
    obtain ⟨c5, H⟩ | ⟨c5, H⟩ := ie_ H
    ·have c5b0 : ((rd l0 x5_1) == a1) = true := beq_iff_eq.mpr c5
     have c5b1 : ((rd l0 x5_1) != a1) = false := bne_eq_false_iff_eq.mpr c5
     clear c5
     obtain rfl := Option.some.inj H
     have p252 : 0 ≤ (x5_1 : Int) := sa
     have q252 : x5_1 < (l0.length : Int) := sa
     obtain ⟨ad252, e252, hx252_0⟩ := Kd.at_int HR0.out x5_1 p252 q252
     cases e252
     replace p252 := eq_true p252
     replace q252 := eq_true q252
     go_wp2
     go_ret
     exact ⟨sc, sd⟩
    ·have c5b0 : ((rd l0 x5_1) == a1) = false := beq_eq_false_iff_ne.mpr c5
     have c5b1 : ((rd l0 x5_1) != a1) = true := bne_iff_ne.mpr c5
     have H' := Aside0.mk H
     clear H
     have p252 : 0 ≤ (x5_1 : Int) := sa
     have q252 : x5_1 < (l0.length : Int) := sa
     obtain ⟨ad252, e252, hx252_0⟩ := Kd.at_int HR0.out x5_1 p252 q252
     cases e252
     replace p252 := eq_true p252
     replace q252 := eq_true q252
     go_wp2
     go_roundg k1
     case measure => have := HK1.out; omega
     case rel => exact ⟨(wrap64 (x5_1 + 1)), sc, H', kk1, sd⟩
   ·have c3b0 := decide_eq_false c3
    clear c3
    obtain rfl := Option.some.inj H
    go_wp2
    go_ret
    exact ⟨sc, sd⟩

/-! ### spec_Max: function 132 -/
def spec_Max.f (a0 : Int) (a1 : Int) : Option (Int) := if a1 > a0 then (some a1) else (some a0)
set_option maxHeartbeats 8000000 in
set_option maxRecDepth 100000 in
theorem spec_Max.calls (a0 : Int) (a1 : Int) (r : Int) (w : World) (h : spec_Max.f a0 a1 = some r) :
    Calls Try.prog 132 #[.int .i64 a0, .int .i64 a1] w fun e w' => e = .returned (.int .i64 r) ∧ Drawn0 w w' := by
 have H : (if a1 > a0 then (some a1) else (some a0)) = some r := h
 clear h
 obtain ⟨c3, H⟩ | ⟨c3, H⟩ := ie_ H
 ·have c3b0 := decide_eq_true c3
  clear c3
  obtain rfl := Option.some.inj H
  go_enter Try.func132, Try.ntmps132
  go_wp2
  go_ret
  exact ⟨sc, sd⟩
 ·have c3b0 := decide_eq_false c3
  clear c3
  obtain rfl := Option.some.inj H
  go_enter Try.func132, Try.ntmps132
  go_wp2
  go_ret
  exact ⟨sc, sd⟩

/-! ### spec_l18Size: function 166 -/
def spec_l18Size.l0 : Nat → List (List Int) → Int → Int → Option (Int)
  | 0, _, _, _ => none
  | k + 1, x0, x3, x4 => if x4 < (x0.length : Int) then (if 0 ≤ x4 then ((spec_Max.f x3 ((rd_L2 x0 x4).length : Int)).bind fun t254 => (spec_l18Size.l0 k x0 t254 (wrap64 (x4 + 1)))) else (none)) else (some x3)
def spec_l18Size.f (k : Nat) (l0 : List (List Int)) : Option (Int) := spec_l18Size.l0 k l0 0 0
theorem spec_l18Size.mono_l : ∀ k, (∀ y0 y1 y2, LeO (spec_l18Size.l0 k y0 y1 y2) (spec_l18Size.l0 (k + 1) y0 y1 y2))
  | 0 => fun _ _ _ r h => by simp [spec_l18Size.l0] at h
  | k + 1 => by
    have ih0 := spec_l18Size.mono_l k
    · intro y0 y1 y2
      unfold spec_l18Size.l0
      exact mo
theorem spec_l18Size.mono : ∀ a0 k, LeO (spec_l18Size.f k a0) (spec_l18Size.f (k + 1) a0) := by
  intro a0 k
  have ih0 := spec_l18Size.mono_l k
  unfold spec_l18Size.f
  exact mo
set_option maxHeartbeats 8000000 in
set_option maxRecDepth 100000 in
theorem spec_l18Size.calls (k : Nat) (A0 : Option Addr) (c0 : Nat) (l0 : List (List Int)) (r : Int) (w : World) (hr0 : Kd.C (Kd.slice 3 (Kd.int .i64)) w A0 l0.length l0) (hc0 : l0.length ≤ c0) (h : spec_l18Size.f k l0 = some r) :
    Calls Try.prog 166 #[.slice A0 l0.length c0] w fun e w' => e = .returned (.int .i64 r) ∧ Drawn0 w w' := by
 have HR0 := Aside0.mk hr0
 have HC0 := Aside0.mk hc0
 clear hr0 hc0
 have H : (spec_l18Size.l0 k l0 0 0) = some r := h
 clear h
 have H' := Aside0.mk H
 clear H
 go_enter Try.func166, Try.ntmps166
 go_wp2
 go_loopg [3, 4] k (fun kq v3 v4 w' => ∃ (x3_1 : Int) (x4_1 : Int), v3 = .int .i64 x3_1 ∧ v4 = .int .i64 x4_1 ∧ Aside0 (spec_l18Size.l0 kq l0 x3_1 x4_1 = some r) ∧ Aside0 (kq ≤ k) ∧ Drawn0 w w')
 case atStart => exact ⟨(0), (0), sc, sc, H', kk0, sd⟩
 case round =>
  clear H'
  obtain ⟨x3_1, x4_1, rfl, rfl, HA, HK1, ⟨m1, rfl⟩⟩ := hrel
  cases gk with
  | zero => exact absurd HA.out (by simp [spec_l18Size.l0])
  | succ k1 =>
   have H := HA.out
   clear HA
   simp only [spec_l18Size.l0] at H
   obtain ⟨c2, H⟩ | ⟨c2, H⟩ := ie_ H
   ·have c2b0 := decide_eq_true c2
    clear c2
    obtain ⟨c3b0, H⟩ := id_ H
    obtain ⟨t254, A4, H⟩ := bnd H
    have H' := Aside0.mk H
    clear H
    have p253 : 0 ≤ (x4_1 : Int) := sa
    have q253 : x4_1 < (l0.length : Int) := sa
    obtain ⟨ad253, A253_0, c253_0, e253, hx253_0, hl253_0, hi253_0⟩ := at_L2 HR0.out x4_1 p253 q253
    cases e253
    have HR253_0 := Aside0.mk hi253_0
    have HC253_0 := Aside0.mk hl253_0
    clear hi253_0 hl253_0
    replace p253 := eq_true p253
    replace q253 := eq_true q253
    go_wp2_with (first | ((with_reducible refine gate_callee (f := 132) rfl ?_); refine gL (some 17) Try.func132 #[.int .i64 x3_1, .int .i64 ((rd_L2 l0 x4_1).length : Int)] ?_; (with_reducible refine (spec_Max.calls x3_1 ((rd_L2 l0 x4_1).length : Int) t254 _ A4.out).mono ?_); rintro e w' ⟨rfl, ⟨nd, rfl⟩⟩; refine ⟨_, rfl, ?_⟩))
    go_roundg k1
    case measure => have := HK1.out; omega
    case rel => exact ⟨(t254), (wrap64 (x4_1 + 1)), sc, sc, H', kk1, sd⟩
   ·have c2b0 := decide_eq_false c2
    clear c2
    obtain rfl := Option.some.inj H
    go_wp2
    go_ret
    exact ⟨sc, sd⟩

/-! ### spec_l18Steps: function 167 -/
def spec_l18Steps.l0 : Nat → List (List Int) → Int → Int → List Int → Int → Option (List Int)
  | 0, _, _, _, _, _ => none
  | k + 1, x0, x1, x2, x7, x8 => if x8 < (x0.length : Int) then (if 0 ≤ x8 then (if x2 < ((rd_L2 x0 x8).length : Int) then (if 0 ≤ x2 then ((spec_l1In.f (rd (rd_L2 x0 x8) x2) 0 (wrap64 (x1 - 1))).bind fun t261 => (if t261 = true then ((spec_l15Has.f k x7 (rd (rd_L2 x0 x8) x2)).bind fun t264 => (if t264 = true then (spec_l18Steps.l0 k x0 x1 x2 x7 (wrap64 (x8 + 1))) else (if x7.length < 17592186044416 then (spec_l18Steps.l0 k x0 x1 x2 (x7 ++ [rd (rd_L2 x0 x8) x2]) (wrap64 (x8 + 1))) else (none)))) else (spec_l18Steps.l0 k x0 x1 x2 x7 (wrap64 (x8 + 1))))) else (none)) else (spec_l18Steps.l0 k x0 x1 x2 x7 (wrap64 (x8 + 1)))) else (none)) else (some x7)
def spec_l18Steps.f (k : Nat) (l0 : List (List Int)) (a1 : Int) (a2 : Int) : Option (List Int) := spec_l18Steps.l0 k l0 a1 a2 (([] : List Int)) 0
theorem spec_l18Steps.mono_l : ∀ k, (∀ y0 y1 y2 y3 y4, LeO (spec_l18Steps.l0 k y0 y1 y2 y3 y4) (spec_l18Steps.l0 (k + 1) y0 y1 y2 y3 y4))
  | 0 => fun _ _ _ _ _ r h => by simp [spec_l18Steps.l0] at h
  | k + 1 => by
    have ih0 := spec_l18Steps.mono_l k
    · intro y0 y1 y2 y3 y4
      unfold spec_l18Steps.l0
      have m0 := @spec_l15Has.mono
      exact mo
theorem spec_l18Steps.mono : ∀ a0 a1 a2 k, LeO (spec_l18Steps.f k a0 a1 a2) (spec_l18Steps.f (k + 1) a0 a1 a2) := by
  intro a0 a1 a2 k
  have ih0 := spec_l18Steps.mono_l k
  unfold spec_l18Steps.f
  have m0 := @spec_l15Has.mono
  exact mo
set_option maxHeartbeats 8000000 in
set_option maxRecDepth 100000 in
theorem spec_l18Steps.calls (k : Nat) (A0 : Option Addr) (c0 : Nat) (l0 : List (List Int)) (a1 : Int) (a2 : Int) (r : List Int) (w : World) (hr0 : Kd.C (Kd.slice 3 (Kd.int .i64)) w A0 l0.length l0) (hc0 : l0.length ≤ c0) (h : spec_l18Steps.f k l0 a1 a2 = some r) :
    Calls Try.prog 167 #[.slice A0 l0.length c0, .int .i64 a1, .int .i64 a2] w fun e w' => ∃ v0_ : Value, e = .returned (v0_) ∧ Kd.R (Kd.int .i64) 3 w' w.heap.size (fun _ => True) v0_ r ∧ Below w.heap.size w w' := by
 have HR0 := Aside0.mk hr0
 have HC0 := Aside0.mk hc0
 clear hr0 hc0
 have HB := Aside0.mk (Below.refl w.heap.size w)
 have H : (spec_l18Steps.l0 k l0 a1 a2 (([] : List Int)) 0) = some r := h
 clear h
 obtain ⟨y255, hy255⟩ : ∃ y_ : List Int, y_ = (([] : List Int)) := ⟨_, rfl⟩
 replace H : (spec_l18Steps.l0 k l0 a1 a2 y255 0) = some r := by first | (rw [hy255]; with_reducible exact H) | (have H2_ := (Option.bind_some _ _).symm.trans H; rw [hy255]; with_reducible exact H2_) | (have H2_ := (Option.bind_some _ _).symm.trans H; with_reducible exact H2_) | with_reducible exact H | (rw [hy255]; exact H) | exact H
 have Ny255 := Aside0.mk hy255
 clear hy255
 have H' := Aside0.mk H
 clear H
 go_enter Try.func167, Try.ntmps167
 go_wp2_with (first | ((with_reducible refine gate_dst (N := 9) rfl ?_); refine Kd.R_lit (Kd.int .i64) _ 3 ?hg (N := 9) ?hd (xs := ([] : List Int)) (inner := []) (ok := fun _ => True) (okp := fun _ => True) ?hr ?hp (fun _ hk => hk) trivial (Below.refl _ _) (Nat.le_refl _) (by simp) ?_; (case hd => rfl); (case hg => rfl); (case hr => first | (go_simp; done) | (go_simp; rfl)); (case hp => exact (Reps.none _ _)); intro v256 w4 ho5 hb hg_ hnew_; clear hg_ hnew_; (first | rw [← Ny255.out] at ho5 | (simp only [Int.reduceToNat] at ho5; rw [← Ny255.out] at ho5)); have HO257 := Aside0.mk (Kd.R_lower ho5 (below_size (sb))); replace HB := bs hb; clear hb ho5))
 go_loopg [7, 8] k (fun kq v7 v8 w' => ∃ (x7_1 : List Int) (x8_1 : Int), v8 = .int .i64 x8_1 ∧ Aside0 (spec_l18Steps.l0 kq l0 a1 a2 x7_1 x8_1 = some r) ∧ Aside0 (kq ≤ k) ∧ Aside0 (Kd.R (Kd.int .i64) 3 w' w.heap.size (fun _ => True) v7 x7_1) ∧ Aside0 (Below w.heap.size w w'))
 case atStart => exact ⟨(y255), (0), sc, H', kk0, ⟨sr HO257⟩, ⟨sb⟩⟩
 case round =>
  clear H'
  obtain ⟨x7_1, x8_1, rfl, HA, HK1, HO_7, HB⟩ := hrel
  cases gk with
  | zero => exact absurd HA.out (by simp [spec_l18Steps.l0])
  | succ k1 =>
   have H := HA.out
   clear HA
   simp only [spec_l18Steps.l0] at H
   obtain ⟨c6, H⟩ | ⟨c6, H⟩ := ie_ H
   ·have c6b0 := decide_eq_true c6
    clear c6
    obtain ⟨c7b0, H⟩ := id_ H
    obtain ⟨c8, H⟩ | ⟨c8, H⟩ := ie_ H
    ·have c8b0 := decide_eq_true c8
     clear c8
     obtain ⟨c9b0, H⟩ := id_ H
     obtain ⟨t261, A10, H⟩ := bnd H
     obtain rfl | rfl := tt t261
     ·replace H := ip H
      obtain ⟨t264, A12, H⟩ := bnd H
      obtain rfl | rfl := tt t264
      ·replace H := ip H
       have H' := Aside0.mk H
       clear H
       obtain ⟨p258, q258, ad258, A258_0, c258_0, e258, _, hx258_0, HC258_0, HR258_0⟩ := aT_L2 HR0 HB x8_1
       cases e258
       obtain ⟨p259, q259, ad259, A259_0, c259_0, e259, _, hx259_0, HC259_0, HR259_0⟩ := aT_L2 HR0 HB x8_1
       obtain rfl : ad258 = ad259 := (by injection e259)
       have ea_ := Option.some.inj (hx258_0.symm.trans hx259_0)
       injection ea_ with ea_ en_ ec_
       subst ea_
       subst ec_
       clear en_
       obtain ⟨p260, q260, ad260, e260, _, hx260_0⟩ := at_i HR259_0 HB a2
       cases e260
       go_wp2_with (first | (go_at_call 63; (try simp only [i64_w, i32_w]); (with_reducible refine (spec_l1In.calls (rd (rd_L2 l0 x8_1) a2) 0 (wrap64 (a1 - 1)) true _ A10.out).mono ?_); rintro e w' ⟨rfl, ⟨nd, rfl⟩⟩; obtain ⟨p262, q262, ad262, A262_0, c262_0, e262, _, hx262_0, HC262_0, HR262_0⟩ := aT_L2 HR0 HB x8_1; obtain rfl : ad258 = ad262 := (by injection e262); have ea_ := Option.some.inj (hx258_0.symm.trans hx262_0); injection ea_ with ea_ en_ ec_; subst ea_; subst ec_; clear en_; obtain ⟨p263, q263, ad263, e263, _, hx263_0⟩ := at_i HR262_0 HB a2; cases e263; obtain ⟨Ao14, co14, eo14⟩ := Kd.R_slice HO_7.out; subst eo14) | (go_at_call 102; (with_reducible refine (spec_l15Has.calls k1 _ _ x7_1 (rd (rd_L2 l0 x8_1) a2) true _ ?side1 ?side2 A12.out).mono ?_); (case side1 => repeat (first | exact (Kd.R_reads' HO_7.out).2.2 | (with_reducible refine Kd.C_alloc ?_ _) | (with_reducible refine Kd.C_drewN ?_ _) | (with_reducible refine Kd.C_drew ?_))); (case side2 => exact (Kd.R_reads' HO_7.out).2.1); rintro e w' ⟨rfl, ⟨nd, rfl⟩⟩))
       go_roundg k1
       case measure => have := HK1.out; omega
       case rel => exact ⟨(x7_1), (wrap64 (x8_1 + 1)), sc, H', kk1, ⟨sr HO_7⟩, ⟨sb⟩⟩
      ·replace H := im H
       obtain ⟨LMc15, H⟩ := il_ H
       obtain ⟨y267, hy267⟩ : ∃ y_ : List Int, y_ = (x7_1 ++ [rd (rd_L2 l0 x8_1) a2]) := ⟨_, rfl⟩
       replace H : (spec_l18Steps.l0 k1 l0 a1 a2 y267 (wrap64 (x8_1 + 1))) = some r := by first | (rw [hy267]; with_reducible exact H) | (have H2_ := (Option.bind_some _ _).symm.trans H; rw [hy267]; with_reducible exact H2_) | (have H2_ := (Option.bind_some _ _).symm.trans H; with_reducible exact H2_) | with_reducible exact H | (rw [hy267]; exact H) | exact H
       have Ny267 := Aside0.mk hy267
       clear hy267
       have H' := Aside0.mk H
       clear H
       obtain ⟨p258, q258, ad258, A258_0, c258_0, e258, _, hx258_0, HC258_0, HR258_0⟩ := aT_L2 HR0 HB x8_1
       cases e258
       obtain ⟨p259, q259, ad259, A259_0, c259_0, e259, _, hx259_0, HC259_0, HR259_0⟩ := aT_L2 HR0 HB x8_1
       obtain rfl : ad258 = ad259 := (by injection e259)
       have ea_ := Option.some.inj (hx258_0.symm.trans hx259_0)
       injection ea_ with ea_ en_ ec_
       subst ea_
       subst ec_
       clear en_
       obtain ⟨p260, q260, ad260, e260, _, hx260_0⟩ := at_i HR259_0 HB a2
       cases e260
       go_wp2_with (first | (go_at_call 63; (try simp only [i64_w, i32_w]); (with_reducible refine (spec_l1In.calls (rd (rd_L2 l0 x8_1) a2) 0 (wrap64 (a1 - 1)) true _ A10.out).mono ?_); rintro e w' ⟨rfl, ⟨nd, rfl⟩⟩; obtain ⟨p262, q262, ad262, A262_0, c262_0, e262, _, hx262_0, HC262_0, HR262_0⟩ := aT_L2 HR0 HB x8_1; obtain rfl : ad258 = ad262 := (by injection e262); have ea_ := Option.some.inj (hx258_0.symm.trans hx262_0); injection ea_ with ea_ en_ ec_; subst ea_; subst ec_; clear en_; obtain ⟨p263, q263, ad263, e263, _, hx263_0⟩ := at_i HR262_0 HB a2; cases e263; obtain ⟨Ao16, co16, eo16⟩ := Kd.R_slice HO_7.out; subst eo16) | (go_at_call 102; (with_reducible refine (spec_l15Has.calls k1 _ _ x7_1 (rd (rd_L2 l0 x8_1) a2) false _ ?side1 ?side2 A12.out).mono ?_); (case side1 => repeat (first | exact (Kd.R_reads' HO_7.out).2.2 | (with_reducible refine Kd.C_alloc ?_ _) | (with_reducible refine Kd.C_drewN ?_ _) | (with_reducible refine Kd.C_drew ?_))); (case side2 => exact (Kd.R_reads' HO_7.out).2.1); rintro e w' ⟨rfl, ⟨nd, rfl⟩⟩; obtain ⟨p265, q265, ad265, A265_0, c265_0, e265, _, hx265_0, HC265_0, HR265_0⟩ := aT_L2 HR0 HB x8_1; obtain rfl : ad258 = ad265 := (by injection e265); have ea_ := Option.some.inj (hx258_0.symm.trans hx265_0); injection ea_ with ea_ en_ ec_; subst ea_; subst ec_; clear en_; obtain ⟨p266, q266, ad266, e266, _, hx266_0⟩ := at_i HR265_0 HB a2; cases e266) | ((with_reducible refine gate_builtin (b := .append) (xs := #[.tmp 47, .tmp 55]) rfl ?_); at_builtin; refine Kd.R_append (Kd.int .i64) (w0 := w) w.heap.size rfl (.tmp 47) (.tmp 55) 40 3 (.int .i64 0) 8 rfl Try.underlying40 info3 rfl (by decide) (by omega) (.slice Ao16 x7_1.length co16) x7_1 (rd (rd_L2 l0 x8_1) a2) [.int .i64 (rd (rd_L2 l0 x8_1) a2)] (fun _ => True) (fun _ => False) rfl rfl ?aP (fun _ hk => hk.elim) ?aF ?aO ?aB ?aS ?aL ?_; (case aP => exact rfl); (case aB => exact (sb)); (case aF => exact (fun _ _ => trivial)); (case aO => exact (sr HO_7)); (case aS => exact (below_size (sb))); (case aL => have := LMc15.out; omega); intro v268 w17 ho hb hg hat; rw [← Ny267.out] at ho; replace HB := Aside0.mk hb; have HO269 := Aside0.mk ho; clear HO_7; clear ho hb hg hat))
       go_roundg k1
       case measure => have := HK1.out; omega
       case rel => exact ⟨(y267), (wrap64 (x8_1 + 1)), sc, H', kk1, ⟨sr HO269⟩, ⟨sb⟩⟩
     ·replace H := im H
      have H' := Aside0.mk H
      clear H
      obtain ⟨p258, q258, ad258, A258_0, c258_0, e258, _, hx258_0, HC258_0, HR258_0⟩ := aT_L2 HR0 HB x8_1
      cases e258
      obtain ⟨p259, q259, ad259, A259_0, c259_0, e259, _, hx259_0, HC259_0, HR259_0⟩ := aT_L2 HR0 HB x8_1
      obtain rfl : ad258 = ad259 := (by injection e259)
      have ea_ := Option.some.inj (hx258_0.symm.trans hx259_0)
      injection ea_ with ea_ en_ ec_
      subst ea_
      subst ec_
      clear en_
      obtain ⟨p260, q260, ad260, e260, _, hx260_0⟩ := at_i HR259_0 HB a2
      cases e260
      go_wp2_with (first | (go_at_call 63; (try simp only [i64_w, i32_w]); (with_reducible refine (spec_l1In.calls (rd (rd_L2 l0 x8_1) a2) 0 (wrap64 (a1 - 1)) false _ A10.out).mono ?_); rintro e w' ⟨rfl, ⟨nd, rfl⟩⟩))
      go_roundg k1
      case measure => have := HK1.out; omega
      case rel => exact ⟨(x7_1), (wrap64 (x8_1 + 1)), sc, H', kk1, ⟨sr HO_7⟩, ⟨sb⟩⟩
    ·have c8b0 := decide_eq_false c8
     clear c8
     have H' := Aside0.mk H
     clear H
     obtain ⟨p258, q258, ad258, A258_0, c258_0, e258, _, hx258_0, HC258_0, HR258_0⟩ := aT_L2 HR0 HB x8_1
     cases e258
     go_wp2
     go_roundg k1
     case measure => have := HK1.out; omega
     case rel => exact ⟨(x7_1), (wrap64 (x8_1 + 1)), sc, H', kk1, ⟨sr HO_7⟩, ⟨sb⟩⟩
   ·have c6b0 := decide_eq_false c6
    clear c6
    obtain rfl := Option.some.inj H
    go_wp2
    go_ret
    exact ⟨_, se, sr HO_7, sb⟩

end Go.Proofs.Ytlakjlolahjphaa.QFnExactNextsAt
