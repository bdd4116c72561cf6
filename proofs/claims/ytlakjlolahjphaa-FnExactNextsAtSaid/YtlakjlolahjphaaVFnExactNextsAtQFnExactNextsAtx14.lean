/- What the Go functions of the law FnExactNextsAt come to, as Lean functions, and that they do: by a program of the session, out of the kit's printer. Conditions: none. (squeezed). -/
import Derived.Test.YtlakjlolahjphaaVFnExactNextsAtSq
import Derived.Test.YtlakjlolahjphaaVFnExactNextsAtQFnExactNextsAtx0
import Derived.Test.YtlakjlolahjphaaVFnExactNextsAtQFnExactNextsAtx11
import Derived.Test.YtlakjlolahjphaaVFnExactNextsAtQFnExactNextsAtx12
import Derived.Test.YtlakjlolahjphaaVFnExactNextsAtQFnExactNextsAtx13
namespace Go.Proofs.Ytlakjlolahjphaa.QFnExactNextsAt
open Go.RowKit Go.Proofs.YtlakjlolahjphaaW.PrintWords Go.Proofs.YtlakjlolahjphaaW.PrintLast Go.Proofs.YtlakjlolahjphaaW.PrintMore Go.Proofs.Ytlakjlolahjphaa.Open Go.Proofs.Ytlakjlolahjphaa.Sq
attribute [local go_sem] max2_int min2_int max_two min_two max_three min_three max_four min_four   -- for this text's walks alone
attribute [local go_sem] isSome_set
set_option linter.unusedVariables false
set_option linter.unusedSimpArgs false

/-! ### impl_PiecesIn: function 130 -/
def impl_PiecesIn.l0 : Nat → Int → Int → List Int → List (S106) → Int → Int → Option (List Int)
  | 0, _, _, _, _, _, _ => none
  | k + 1, x1, x2, x7, x12, x13, x14 => if x14 < x13 then (if 0 ≤ x14 then (if x14 < (x12.length : Int) then ((impl_IsSpan.f ((rd_T106 x12 x14).f0.f0) ((rd_T106 x12 x14).f0.f1)).bind fun t402 => (if t402 = true then (if x1 ≤ x2 then (if ((rd_T106 x12 x14).f0.f0) ≤ x2 then (if ((rd_T106 x12 x14).f0.f1) > x1 then (if x7.length < 17592186044416 then (impl_PiecesIn.l0 k x1 x2 (x7 ++ [x14]) x12 x13 (wrap64 (x14 + 1))) else (none)) else (impl_PiecesIn.l0 k x1 x2 x7 x12 x13 (wrap64 (x14 + 1)))) else (impl_PiecesIn.l0 k x1 x2 x7 x12 x13 (wrap64 (x14 + 1)))) else (impl_PiecesIn.l0 k x1 x2 x7 x12 x13 (wrap64 (x14 + 1)))) else (impl_PiecesIn.l0 k x1 x2 x7 x12 x13 (wrap64 (x14 + 1))))) else (none)) else (none)) else (some x7)
def impl_PiecesIn.f (k : Nat) (a0_0 : Int) (a0_1 : Int) (a0_2 : Int) (l0_3 : List (S106)) (a1 : Int) (a2 : Int) : Option (List Int) := impl_PiecesIn.l0 k a1 a2 (([] : List Int)) l0_3 (l0_3.length : Int) 0
theorem impl_PiecesIn.mono_l : ∀ k, (∀ y0 y1 y2 y3 y4 y5, LeO (impl_PiecesIn.l0 k y0 y1 y2 y3 y4 y5) (impl_PiecesIn.l0 (k + 1) y0 y1 y2 y3 y4 y5))
  | 0 => fun _ _ _ _ _ _ r h => by simp [impl_PiecesIn.l0] at h
  | k + 1 => by
    have ih0 := impl_PiecesIn.mono_l k
    · intro y0 y1 y2 y3 y4 y5
      unfold impl_PiecesIn.l0
      exact mo
theorem impl_PiecesIn.mono : ∀ a0 a1 a2 a3 a4 a5 k, LeO (impl_PiecesIn.f k a0 a1 a2 a3 a4 a5) (impl_PiecesIn.f (k + 1) a0 a1 a2 a3 a4 a5) := by
  intro a0 a1 a2 a3 a4 a5 k
  have ih0 := impl_PiecesIn.mono_l k
  unfold impl_PiecesIn.f
  exact mo
set_option maxHeartbeats 8000000 in
set_option maxRecDepth 100000 in
theorem impl_PiecesIn.calls (k : Nat) (a0_0 : Int) (a0_1 : Int) (a0_2 : Int) (A0_3 : Option Addr) (c0_3 : Nat) (l0_3 : List (S106)) (a1 : Int) (a2 : Int) (r : List Int) (w : World) (hr0_3 : Kd.C k106 w A0_3 l0_3.length l0_3) (hc0_3 : l0_3.length ≤ c0_3) (h : impl_PiecesIn.f k a0_0 a0_1 a0_2 l0_3 a1 a2 = some r) :
    Calls Try.prog 130 #[.agg #[.int .i64 a0_0, .int .i64 a0_1, .int .i64 a0_2, .slice A0_3 l0_3.length c0_3], .int .i64 a1, .int .i64 a2] w fun e w' => ∃ v0_ : Value, e = .returned (v0_) ∧ Kd.R (Kd.int .i64) 3 w' w.heap.size (fun _ => True) v0_ r ∧ Below w.heap.size w w' := by
 have hu29 := Try.underlying29
 have hu106 := Try.underlying106
 have hu91 := Try.underlying91
 have HR0_3 := Aside0.mk hr0_3
 have HC0_3 := Aside0.mk hc0_3
 clear hr0_3 hc0_3
 have HB := Aside0.mk (Below.refl w.heap.size w)
 have H : (impl_PiecesIn.l0 k a1 a2 (([] : List Int)) l0_3 (l0_3.length : Int) 0) = some r := h
 clear h
 obtain ⟨y397, hy397⟩ : ∃ y_ : List Int, y_ = (([] : List Int)) := ⟨_, rfl⟩
 replace H : (impl_PiecesIn.l0 k a1 a2 y397 l0_3 (l0_3.length : Int) 0) = some r := by first | (rw [hy397]; with_reducible exact H) | (have H2_ := (Option.bind_some _ _).symm.trans H; rw [hy397]; with_reducible exact H2_) | (have H2_ := (Option.bind_some _ _).symm.trans H; with_reducible exact H2_) | with_reducible exact H | (rw [hy397]; exact H) | exact H
 have Ny397 := Aside0.mk hy397
 clear hy397
 have H' := Aside0.mk H
 clear H
 go_enter Try.func130, Try.ntmps130
 go_wp2_with (first | ((with_reducible refine gate_dst (N := 3) rfl ?_); refine bx 3 #[.int .i64 a0_0, .int .i64 a0_1, .int .i64 a0_2, .slice A0_3 l0_3.length c0_3] 29 ?_; intro gb396 hg w4 hbox hb; have BK396 := Aside0.mk hbox; have GW396 := bz w hg; have GE396 := bz w hg; replace HB := bs hb; clear hb hbox hg) | ((with_reducible refine gate_dst (N := 10) rfl ?_); refine Kd.R_lit (Kd.int .i64) _ 3 ?hg (N := 10) ?hd (xs := ([] : List Int)) (inner := []) (ok := fun _ => True) (okp := fun _ => True) ?hr ?hp (fun _ hk => hk) trivial (Below.refl _ _) (Nat.le_refl _) (by simp) ?_; (case hd => rfl); (case hg => rfl); (case hr => first | (go_simp; done) | (go_simp; rfl)); (case hp => exact (Reps.none _ _)); intro v398 w5 ho6 hb hg_ hnew_; clear hg_ hnew_; (first | rw [← Ny397.out] at ho6 | (simp only [Int.reduceToNat] at ho6; rw [← Ny397.out] at ho6)); have HO399 := Aside0.mk (Kd.R_lower ho6 (below_size (sbw))); replace BK396 := bb BK396 hb; replace HB := bsw hb; clear hb ho6; obtain ⟨hcz7_0, hcz7_1, hcz7_2, hcz7_3, hfz7_0, hfz7_1, hfz7_2, hfz7_3⟩ := cc4 BK396))
 go_loopg [7, 14] k (fun kq v7 v14 w' => ∃ (x7_1 : List Int) (x14_1 : Int), v14 = .int .i64 x14_1 ∧ Aside0 (impl_PiecesIn.l0 kq a1 a2 x7_1 l0_3 (l0_3.length : Int) x14_1 = some r) ∧ Aside0 (kq ≤ k) ∧ Aside0 (Kd.R (Kd.int .i64) 3 w' w.heap.size (fun _ => True) v7 x7_1) ∧ Aside0 (w'.heap[gb396]? = some (.cells #[.int .i64 a0_0, .int .i64 a0_1, .int .i64 a0_2, (.slice A0_3 l0_3.length c0_3)] 29 (0, 0))) ∧ Aside0 (Below w.heap.size w w'))
 case atStart => exact ⟨(y397), (0), sc, H', kk0, ⟨sr HO399⟩, ⟨sk BK396⟩, ⟨sbw⟩⟩
 case round =>
  clear H'
  try clear hcz7_0
  try clear hcz7_1
  try clear hcz7_2
  try clear hcz7_3
  try clear hfz7_0
  try clear hfz7_1
  try clear hfz7_2
  try clear hfz7_3
  obtain ⟨x7_1, x14_1, rfl, HA, HK1, HO_7, BK396, HB⟩ := hrel
  cases gk with
  | zero => exact absurd HA.out (by simp [impl_PiecesIn.l0])
  | succ k1 =>
   have H := HA.out
   clear HA
   simp only [impl_PiecesIn.l0] at H
   obtain ⟨c8, H⟩ | ⟨c8, H⟩ := ie_ H
   ·have c8b0 := decide_eq_true c8
    clear c8
    obtain ⟨c9b0, H⟩ := id_ H
    obtain ⟨c10b0, H⟩ := id_ H
    obtain ⟨t402, A11, H⟩ := bnd H
    obtain rfl | rfl := tt t402
    ·replace H := ip H
     obtain ⟨c13, H⟩ | ⟨c13, H⟩ := ie_ H
     ·have c13b0 := decide_eq_true c13
      clear c13
      obtain ⟨c14, H⟩ | ⟨c14, H⟩ := ie_ H
      ·have c14b0 := decide_eq_true c14
       clear c14
       obtain ⟨c15, H⟩ | ⟨c15, H⟩ := ie_ H
       ·have c15b0 := decide_eq_true c15
        clear c15
        obtain ⟨LMc16, H⟩ := il_ H
        obtain ⟨y403, hy403⟩ : ∃ y_ : List Int, y_ = (x7_1 ++ [x14_1]) := ⟨_, rfl⟩
        replace H : (impl_PiecesIn.l0 k1 a1 a2 y403 l0_3 (l0_3.length : Int) (wrap64 (x14_1 + 1))) = some r := by first | (rw [hy403]; with_reducible exact H) | (have H2_ := (Option.bind_some _ _).symm.trans H; rw [hy403]; with_reducible exact H2_) | (have H2_ := (Option.bind_some _ _).symm.trans H; with_reducible exact H2_) | with_reducible exact H | (rw [hy403]; exact H) | exact H
        have Ny403 := Aside0.mk hy403
        clear hy403
        have H' := Aside0.mk H
        clear H
        obtain ⟨p400, q400, ad400, A400_2, c400_2, A400_3, c400_3, e400, _, _, _, _, hx400_0, hx400_1, hx400_2, hx400_3, HC400_2, HR400_2, HC400_3, HR400_3⟩ := aT_T106 HR0_3 HB x14_1
        cases e400
        go_wp2_with (first | ((with_reducible refine gate_dst (N := 9) rfl ?_); refine bx 9 #[.int .i64 0, .int .i64 0, .slice none 0 0, .slice none 0 0] 106 ?_; intro gb401 hg w17 hbox hb; replace HO_7 := Aside0.mk (Kd.R_below (sr HO_7) hb); have BK401 := Aside0.mk hbox; have GW401 := bzw w hg; have GE401 := bzw w hg; replace HB := bsw hb; have NB396_401 := nl BK396 hg; have NB401_396 := ng BK396 hg; replace BK396 := bb BK396 hb; clear hb hbox hg; have hnb18 := NB401_396.out; have hnc18 := NB396_401.out; obtain ⟨hcz19_0, hcz19_1, hcz19_2, hcz19_3, hfz19_0, hfz19_1, hfz19_2, hfz19_3⟩ := cc4 BK401) | ((with_reducible refine gate_callee (f := 90) rfl ?_); refine gL (some 21) Try.func90 #[.agg #[.int .i64 ((rd_T106 l0_3 x14_1).f0.f0), .int .i64 ((rd_T106 l0_3 x14_1).f0.f1)]] ?_; (with_reducible refine (impl_IsSpan.calls ((rd_T106 l0_3 x14_1).f0.f0) ((rd_T106 l0_3 x14_1).f0.f1) true _ A11.out).mono ?_); rintro e w20 ⟨rfl, hb⟩; refine ⟨_, rfl, ?_⟩; replace HO_7 := Aside0.mk (Kd.R_below (by (with_reducible repeat (first | apply Kd.R_alloc | apply Kd.R_drewN | apply Kd.R_drew)); exact (Kd.R_mono (Kd.R_far (p := ⟨gb401, 3, none⟩) (Kd.R_far (p := ⟨gb401, 2, none⟩) (Kd.R_far (p := ⟨gb401, 1, none⟩) (Kd.R_far (p := ⟨gb401, 0, none⟩) (Kd.R_types HO_7.out BK401.out (by decide)) (fun _ hk => hk.2) (.int .i64 ((rd_T106 l0_3 x14_1).f0.f0))) (fun _ hk => hk.2) (.int .i64 ((rd_T106 l0_3 x14_1).f0.f1))) (fun _ hk => hk.2) (.slice A400_2 ((rd_T106 l0_3 x14_1).f1).length c400_2)) (fun _ hk => hk.2) (.slice A400_3 ((rd_T106 l0_3 x14_1).f2).length c400_3)) (fun _ h_ => h_.1))) hb); replace BK396 := Aside0.mk (blk_below (g := gb396) (o := .cells #[.int .i64 a0_0, .int .i64 a0_1, .int .i64 a0_2, .slice (some ad400) l0_3.length c0_3] 29 (0, 0)) (sp BK396) hb); replace BK401 := Aside0.mk (blk_below (g := gb401) (o := .cells #[.int .i64 ((rd_T106 l0_3 x14_1).f0.f0), .int .i64 ((rd_T106 l0_3 x14_1).f0.f1), .slice A400_2 ((rd_T106 l0_3 x14_1).f1).length c400_2, .slice A400_3 ((rd_T106 l0_3 x14_1).f2).length c400_3] 106 (0, 0)) (sp BK401) hb); replace HB := bsw hb; (try clear hb); (try clear hb2); (try clear hk); (try clear hi); obtain ⟨hcz21_0, hcz21_1, hcz21_2, hcz21_3, hfz21_0, hfz21_1, hfz21_2, hfz21_3⟩ := cc4 BK401) | ((with_reducible refine gate_builtin (b := .append) (xs := #[.tmp 41, .tmp 43]) rfl ?_); at_builtin; refine Kd.R_append (Kd.int .i64) (w0 := w) w.heap.size rfl (.tmp 41) (.tmp 43) 40 3 (.int .i64 0) 8 rfl Try.underlying40 info3 rfl (by decide) (by omega) u7 x7_1 x14_1 [.int .i64 x14_1] (fun _ => True) (fun _ => False) rfl rfl ?aP (fun _ hk => hk.elim) ?aF ?aO ?aB ?aS ?aL ?_; (case aP => exact rfl); (case aB => exact (sbw)); (case aF => exact (fun _ _ => trivial)); (case aO => exact (sr HO_7)); (case aS => exact (below_size (sbw))); (case aL => have := LMc16.out; omega); intro v404 w22 ho hb hg hat; rw [← Ny403.out] at ho; replace BK396 := Aside0.mk (blk_grown (g := gb396) (o := .cells #[.int .i64 a0_0, .int .i64 a0_1, .int .i64 a0_2, .slice (some ad400) l0_3.length c0_3] 29 (0, 0)) (sk BK396) hg (Kd.R_ne HO_7.out BK396.out (by decide))); replace BK401 := Aside0.mk (blk_grown (g := gb401) (o := .cells #[.int .i64 ((rd_T106 l0_3 x14_1).f0.f0), .int .i64 ((rd_T106 l0_3 x14_1).f0.f1), .slice A400_2 ((rd_T106 l0_3 x14_1).f1).length c400_2, .slice A400_3 ((rd_T106 l0_3 x14_1).f2).length c400_3] 106 (0, 0)) (sk BK401) hg (Kd.R_ne HO_7.out BK401.out (by decide))); replace HB := Aside0.mk hb; have HO405 := Aside0.mk ho; clear HO_7; clear ho hb hg hat))
        go_roundg k1
        case measure => have := HK1.out; omega
        case rel => exact ⟨(y403), (wrap64 (x14_1 + 1)), sc, H', kk1, ⟨sr HO405⟩, ⟨sk BK396⟩, ⟨sbw⟩⟩
       ·have c15b0 := decide_eq_false c15
        clear c15
        have H' := Aside0.mk H
        clear H
        obtain ⟨p400, q400, ad400, A400_2, c400_2, A400_3, c400_3, e400, _, _, _, _, hx400_0, hx400_1, hx400_2, hx400_3, HC400_2, HR400_2, HC400_3, HR400_3⟩ := aT_T106 HR0_3 HB x14_1
        cases e400
        go_wp2_with (first | ((with_reducible refine gate_dst (N := 9) rfl ?_); refine bx 9 #[.int .i64 0, .int .i64 0, .slice none 0 0, .slice none 0 0] 106 ?_; intro gb401 hg w23 hbox hb; replace HO_7 := Aside0.mk (Kd.R_below (sr HO_7) hb); have BK401 := Aside0.mk hbox; have GW401 := bzw w hg; have GE401 := bzw w hg; replace HB := bsw hb; have NB396_401 := nl BK396 hg; have NB401_396 := ng BK396 hg; replace BK396 := bb BK396 hb; clear hb hbox hg; have hnb24 := NB401_396.out; have hnc24 := NB396_401.out; obtain ⟨hcz25_0, hcz25_1, hcz25_2, hcz25_3, hfz25_0, hfz25_1, hfz25_2, hfz25_3⟩ := cc4 BK401) | ((with_reducible refine gate_callee (f := 90) rfl ?_); refine gL (some 21) Try.func90 #[.agg #[.int .i64 ((rd_T106 l0_3 x14_1).f0.f0), .int .i64 ((rd_T106 l0_3 x14_1).f0.f1)]] ?_; (with_reducible refine (impl_IsSpan.calls ((rd_T106 l0_3 x14_1).f0.f0) ((rd_T106 l0_3 x14_1).f0.f1) true _ A11.out).mono ?_); rintro e w26 ⟨rfl, hb⟩; refine ⟨_, rfl, ?_⟩; replace HO_7 := Aside0.mk (Kd.R_below (by (with_reducible repeat (first | apply Kd.R_alloc | apply Kd.R_drewN | apply Kd.R_drew)); exact (Kd.R_mono (Kd.R_far (p := ⟨gb401, 3, none⟩) (Kd.R_far (p := ⟨gb401, 2, none⟩) (Kd.R_far (p := ⟨gb401, 1, none⟩) (Kd.R_far (p := ⟨gb401, 0, none⟩) (Kd.R_types HO_7.out BK401.out (by decide)) (fun _ hk => hk.2) (.int .i64 ((rd_T106 l0_3 x14_1).f0.f0))) (fun _ hk => hk.2) (.int .i64 ((rd_T106 l0_3 x14_1).f0.f1))) (fun _ hk => hk.2) (.slice A400_2 ((rd_T106 l0_3 x14_1).f1).length c400_2)) (fun _ hk => hk.2) (.slice A400_3 ((rd_T106 l0_3 x14_1).f2).length c400_3)) (fun _ h_ => h_.1))) hb); replace BK396 := Aside0.mk (blk_below (g := gb396) (o := .cells #[.int .i64 a0_0, .int .i64 a0_1, .int .i64 a0_2, .slice (some ad400) l0_3.length c0_3] 29 (0, 0)) (sp BK396) hb); replace BK401 := Aside0.mk (blk_below (g := gb401) (o := .cells #[.int .i64 ((rd_T106 l0_3 x14_1).f0.f0), .int .i64 ((rd_T106 l0_3 x14_1).f0.f1), .slice A400_2 ((rd_T106 l0_3 x14_1).f1).length c400_2, .slice A400_3 ((rd_T106 l0_3 x14_1).f2).length c400_3] 106 (0, 0)) (sp BK401) hb); replace HB := bsw hb; (try clear hb); (try clear hb2); (try clear hk); (try clear hi); obtain ⟨hcz27_0, hcz27_1, hcz27_2, hcz27_3, hfz27_0, hfz27_1, hfz27_2, hfz27_3⟩ := cc4 BK401))
        go_roundg k1
        case measure => have := HK1.out; omega
        case rel => exact ⟨(x7_1), (wrap64 (x14_1 + 1)), sc, H', kk1, ⟨sr HO_7⟩, ⟨sk BK396⟩, ⟨sbw⟩⟩
      ·have c14b0 := decide_eq_false c14
       clear c14
       have H' := Aside0.mk H
       clear H
       obtain ⟨p400, q400, ad400, A400_2, c400_2, A400_3, c400_3, e400, _, _, _, _, hx400_0, hx400_1, hx400_2, hx400_3, HC400_2, HR400_2, HC400_3, HR400_3⟩ := aT_T106 HR0_3 HB x14_1
       cases e400
       go_wp2_with (first | ((with_reducible refine gate_dst (N := 9) rfl ?_); refine bx 9 #[.int .i64 0, .int .i64 0, .slice none 0 0, .slice none 0 0] 106 ?_; intro gb401 hg w28 hbox hb; replace HO_7 := Aside0.mk (Kd.R_below (sr HO_7) hb); have BK401 := Aside0.mk hbox; have GW401 := bzw w hg; have GE401 := bzw w hg; replace HB := bsw hb; have NB396_401 := nl BK396 hg; have NB401_396 := ng BK396 hg; replace BK396 := bb BK396 hb; clear hb hbox hg; have hnb29 := NB401_396.out; have hnc29 := NB396_401.out; obtain ⟨hcz30_0, hcz30_1, hcz30_2, hcz30_3, hfz30_0, hfz30_1, hfz30_2, hfz30_3⟩ := cc4 BK401) | ((with_reducible refine gate_callee (f := 90) rfl ?_); refine gL (some 21) Try.func90 #[.agg #[.int .i64 ((rd_T106 l0_3 x14_1).f0.f0), .int .i64 ((rd_T106 l0_3 x14_1).f0.f1)]] ?_; (with_reducible refine (impl_IsSpan.calls ((rd_T106 l0_3 x14_1).f0.f0) ((rd_T106 l0_3 x14_1).f0.f1) true _ A11.out).mono ?_); rintro e w31 ⟨rfl, hb⟩; refine ⟨_, rfl, ?_⟩; replace HO_7 := Aside0.mk (Kd.R_below (by (with_reducible repeat (first | apply Kd.R_alloc | apply Kd.R_drewN | apply Kd.R_drew)); exact (Kd.R_mono (Kd.R_far (p := ⟨gb401, 3, none⟩) (Kd.R_far (p := ⟨gb401, 2, none⟩) (Kd.R_far (p := ⟨gb401, 1, none⟩) (Kd.R_far (p := ⟨gb401, 0, none⟩) (Kd.R_types HO_7.out BK401.out (by decide)) (fun _ hk => hk.2) (.int .i64 ((rd_T106 l0_3 x14_1).f0.f0))) (fun _ hk => hk.2) (.int .i64 ((rd_T106 l0_3 x14_1).f0.f1))) (fun _ hk => hk.2) (.slice A400_2 ((rd_T106 l0_3 x14_1).f1).length c400_2)) (fun _ hk => hk.2) (.slice A400_3 ((rd_T106 l0_3 x14_1).f2).length c400_3)) (fun _ h_ => h_.1))) hb); replace BK396 := Aside0.mk (blk_below (g := gb396) (o := .cells #[.int .i64 a0_0, .int .i64 a0_1, .int .i64 a0_2, .slice (some ad400) l0_3.length c0_3] 29 (0, 0)) (sp BK396) hb); replace BK401 := Aside0.mk (blk_below (g := gb401) (o := .cells #[.int .i64 ((rd_T106 l0_3 x14_1).f0.f0), .int .i64 ((rd_T106 l0_3 x14_1).f0.f1), .slice A400_2 ((rd_T106 l0_3 x14_1).f1).length c400_2, .slice A400_3 ((rd_T106 l0_3 x14_1).f2).length c400_3] 106 (0, 0)) (sp BK401) hb); replace HB := bsw hb; (try clear hb); (try clear hb2); (try clear hk); (try clear hi); obtain ⟨hcz32_0, hcz32_1, hcz32_2, hcz32_3, hfz32_0, hfz32_1, hfz32_2, hfz32_3⟩ := cc4 BK401))
       go_roundg k1
       case measure => have := HK1.out; omega
       case rel => exact ⟨(x7_1), (wrap64 (x14_1 + 1)), sc, H', kk1, ⟨sr HO_7⟩, ⟨sk BK396⟩, ⟨sbw⟩⟩
     ·have c13b0 := decide_eq_false c13
      clear c13
      have H' := Aside0.mk H
      clear H
      obtain ⟨p400, q400, ad400, A400_2, c400_2, A400_3, c400_3, e400, _, _, _, _, hx400_0, hx400_1, hx400_2, hx400_3, HC400_2, HR400_2, HC400_3, HR400_3⟩ := aT_T106 HR0_3 HB x14_1
      cases e400
      go_wp2_with (first | ((with_reducible refine gate_dst (N := 9) rfl ?_); refine bx 9 #[.int .i64 0, .int .i64 0, .slice none 0 0, .slice none 0 0] 106 ?_; intro gb401 hg w33 hbox hb; replace HO_7 := Aside0.mk (Kd.R_below (sr HO_7) hb); have BK401 := Aside0.mk hbox; have GW401 := bzw w hg; have GE401 := bzw w hg; replace HB := bsw hb; have NB396_401 := nl BK396 hg; have NB401_396 := ng BK396 hg; replace BK396 := bb BK396 hb; clear hb hbox hg; have hnb34 := NB401_396.out; have hnc34 := NB396_401.out; obtain ⟨hcz35_0, hcz35_1, hcz35_2, hcz35_3, hfz35_0, hfz35_1, hfz35_2, hfz35_3⟩ := cc4 BK401) | ((with_reducible refine gate_callee (f := 90) rfl ?_); refine gL (some 21) Try.func90 #[.agg #[.int .i64 ((rd_T106 l0_3 x14_1).f0.f0), .int .i64 ((rd_T106 l0_3 x14_1).f0.f1)]] ?_; (with_reducible refine (impl_IsSpan.calls ((rd_T106 l0_3 x14_1).f0.f0) ((rd_T106 l0_3 x14_1).f0.f1) true _ A11.out).mono ?_); rintro e w36 ⟨rfl, hb⟩; refine ⟨_, rfl, ?_⟩; replace HO_7 := Aside0.mk (Kd.R_below (by (with_reducible repeat (first | apply Kd.R_alloc | apply Kd.R_drewN | apply Kd.R_drew)); exact (Kd.R_mono (Kd.R_far (p := ⟨gb401, 3, none⟩) (Kd.R_far (p := ⟨gb401, 2, none⟩) (Kd.R_far (p := ⟨gb401, 1, none⟩) (Kd.R_far (p := ⟨gb401, 0, none⟩) (Kd.R_types HO_7.out BK401.out (by decide)) (fun _ hk => hk.2) (.int .i64 ((rd_T106 l0_3 x14_1).f0.f0))) (fun _ hk => hk.2) (.int .i64 ((rd_T106 l0_3 x14_1).f0.f1))) (fun _ hk => hk.2) (.slice A400_2 ((rd_T106 l0_3 x14_1).f1).length c400_2)) (fun _ hk => hk.2) (.slice A400_3 ((rd_T106 l0_3 x14_1).f2).length c400_3)) (fun _ h_ => h_.1))) hb); replace BK396 := Aside0.mk (blk_below (g := gb396) (o := .cells #[.int .i64 a0_0, .int .i64 a0_1, .int .i64 a0_2, .slice (some ad400) l0_3.length c0_3] 29 (0, 0)) (sp BK396) hb); replace BK401 := Aside0.mk (blk_below (g := gb401) (o := .cells #[.int .i64 ((rd_T106 l0_3 x14_1).f0.f0), .int .i64 ((rd_T106 l0_3 x14_1).f0.f1), .slice A400_2 ((rd_T106 l0_3 x14_1).f1).length c400_2, .slice A400_3 ((rd_T106 l0_3 x14_1).f2).length c400_3] 106 (0, 0)) (sp BK401) hb); replace HB := bsw hb; (try clear hb); (try clear hb2); (try clear hk); (try clear hi)))
      go_roundg k1
      case measure => have := HK1.out; omega
      case rel => exact ⟨(x7_1), (wrap64 (x14_1 + 1)), sc, H', kk1, ⟨sr HO_7⟩, ⟨sk BK396⟩, ⟨sbw⟩⟩
    ·replace H := im H
     have H' := Aside0.mk H
     clear H
     obtain ⟨p400, q400, ad400, A400_2, c400_2, A400_3, c400_3, e400, _, _, _, _, hx400_0, hx400_1, hx400_2, hx400_3, HC400_2, HR400_2, HC400_3, HR400_3⟩ := aT_T106 HR0_3 HB x14_1
     cases e400
     go_wp2_with (first | ((with_reducible refine gate_dst (N := 9) rfl ?_); refine bx 9 #[.int .i64 0, .int .i64 0, .slice none 0 0, .slice none 0 0] 106 ?_; intro gb401 hg w37 hbox hb; replace HO_7 := Aside0.mk (Kd.R_below (sr HO_7) hb); have BK401 := Aside0.mk hbox; have GW401 := bzw w hg; have GE401 := bzw w hg; replace HB := bsw hb; have NB396_401 := nl BK396 hg; have NB401_396 := ng BK396 hg; replace BK396 := bb BK396 hb; clear hb hbox hg; have hnb38 := NB401_396.out; have hnc38 := NB396_401.out; obtain ⟨hcz39_0, hcz39_1, hcz39_2, hcz39_3, hfz39_0, hfz39_1, hfz39_2, hfz39_3⟩ := cc4 BK401) | ((with_reducible refine gate_callee (f := 90) rfl ?_); refine gL (some 21) Try.func90 #[.agg #[.int .i64 ((rd_T106 l0_3 x14_1).f0.f0), .int .i64 ((rd_T106 l0_3 x14_1).f0.f1)]] ?_; (with_reducible refine (impl_IsSpan.calls ((rd_T106 l0_3 x14_1).f0.f0) ((rd_T106 l0_3 x14_1).f0.f1) false _ A11.out).mono ?_); rintro e w40 ⟨rfl, hb⟩; refine ⟨_, rfl, ?_⟩; replace HO_7 := Aside0.mk (Kd.R_below (by (with_reducible repeat (first | apply Kd.R_alloc | apply Kd.R_drewN | apply Kd.R_drew)); exact (Kd.R_mono (Kd.R_far (p := ⟨gb401, 3, none⟩) (Kd.R_far (p := ⟨gb401, 2, none⟩) (Kd.R_far (p := ⟨gb401, 1, none⟩) (Kd.R_far (p := ⟨gb401, 0, none⟩) (Kd.R_types HO_7.out BK401.out (by decide)) (fun _ hk => hk.2) (.int .i64 ((rd_T106 l0_3 x14_1).f0.f0))) (fun _ hk => hk.2) (.int .i64 ((rd_T106 l0_3 x14_1).f0.f1))) (fun _ hk => hk.2) (.slice A400_2 ((rd_T106 l0_3 x14_1).f1).length c400_2)) (fun _ hk => hk.2) (.slice A400_3 ((rd_T106 l0_3 x14_1).f2).length c400_3)) (fun _ h_ => h_.1))) hb); replace BK396 := Aside0.mk (blk_below (g := gb396) (o := .cells #[.int .i64 a0_0, .int .i64 a0_1, .int .i64 a0_2, .slice (some ad400) l0_3.length c0_3] 29 (0, 0)) (sp BK396) hb); replace BK401 := Aside0.mk (blk_below (g := gb401) (o := .cells #[.int .i64 ((rd_T106 l0_3 x14_1).f0.f0), .int .i64 ((rd_T106 l0_3 x14_1).f0.f1), .slice A400_2 ((rd_T106 l0_3 x14_1).f1).length c400_2, .slice A400_3 ((rd_T106 l0_3 x14_1).f2).length c400_3] 106 (0, 0)) (sp BK401) hb); replace HB := bsw hb; (try clear hb); (try clear hb2); (try clear hk); (try clear hi)))
     go_roundg k1
     case measure => have := HK1.out; omega
     case rel => exact ⟨(x7_1), (wrap64 (x14_1 + 1)), sc, H', kk1, ⟨sr HO_7⟩, ⟨sk BK396⟩, ⟨sbw⟩⟩
   ·have c8b0 := decide_eq_false c8
    clear c8
    obtain rfl := Option.some.inj H
    go_wp2
    go_ret
    exact ⟨_, se, sr HO_7, sbw⟩

/-! ### impl_IsSafeMix: function 69 -/
def impl_IsSafeMix.l0 : Nat → Int → List (List Int) → List Int → Int → Int → Int → Int → Int → List (S106) → Option (Bool)
  | 0, _, _, _, _, _, _, _, _, _ => none
  | k + 1, x1, x9, x18, x19, x20, x407000, x407001, x407002, x407003 => if x20 < x19 then (if 0 ≤ x20 then (if x20 < (x18.length : Int) then ((impl_TableIn.f x407000 x407001 x407002 x407003 (rd x18 x20) x1).bind fun bt414 => (if x9.length < 5864062014805 then (impl_IsSafeMix.l0 k x1 (x9 ++ [bt414.2.2.1]) x18 x19 (wrap64 (x20 + 1)) x407000 x407001 x407002 x407003) else (none))) else (none)) else (none)) else ((impl_UnionHasLoop.f k x9).bind fun t426 => (some (!t426)))
def impl_IsSafeMix.f (k : Nat) (a0_0 : Int) (a0_1 : Int) (a0_2 : Int) (l0_3 : List (S106)) (a1 : Int) (a2 : Int) (a3 : Int) : Option (Bool) := (impl_PiecesIn.f k a0_0 a0_1 a0_2 l0_3 a2 a3).bind fun t410 => (impl_IsSafeMix.l0 k a1 (([] : List (List Int))) t410 (t410.length : Int) 0 a0_0 a0_1 a0_2 l0_3)
theorem impl_IsSafeMix.mono_l : ∀ k, (∀ y0 y1 y2 y3 y4 y5 y6 y7 y8, LeO (impl_IsSafeMix.l0 k y0 y1 y2 y3 y4 y5 y6 y7 y8) (impl_IsSafeMix.l0 (k + 1) y0 y1 y2 y3 y4 y5 y6 y7 y8))
  | 0 => fun _ _ _ _ _ _ _ _ _ r h => by simp [impl_IsSafeMix.l0] at h
  | k + 1 => by
    have ih0 := impl_IsSafeMix.mono_l k
    · intro y0 y1 y2 y3 y4 y5 y6 y7 y8
      unfold impl_IsSafeMix.l0
      have m0 := @impl_PiecesIn.mono
      have m1 := @impl_UnionHasLoop.mono
      exact mo
theorem impl_IsSafeMix.mono : ∀ a0 a1 a2 a3 a4 a5 a6 k, LeO (impl_IsSafeMix.f k a0 a1 a2 a3 a4 a5 a6) (impl_IsSafeMix.f (k + 1) a0 a1 a2 a3 a4 a5 a6) := by
  intro a0 a1 a2 a3 a4 a5 a6 k
  have ih0 := impl_IsSafeMix.mono_l k
  unfold impl_IsSafeMix.f
  have m0 := @impl_PiecesIn.mono
  have m1 := @impl_UnionHasLoop.mono
  exact mo
set_option maxHeartbeats 8000000 in
set_option maxRecDepth 100000 in
theorem impl_IsSafeMix.calls (k : Nat) (a0_0 : Int) (a0_1 : Int) (a0_2 : Int) (A0_3 : Option Addr) (c0_3 : Nat) (l0_3 : List (S106)) (a1 : Int) (a2 : Int) (a3 : Int) (r : Bool) (w : World) (hr0_3 : Kd.C k106 w A0_3 l0_3.length l0_3) (hc0_3 : l0_3.length ≤ c0_3) (h : impl_IsSafeMix.f k a0_0 a0_1 a0_2 l0_3 a1 a2 a3 = some r) :
    Calls Try.prog 69 #[.agg #[.int .i64 a0_0, .int .i64 a0_1, .int .i64 a0_2, .slice A0_3 l0_3.length c0_3], .int .i64 a1, .int .i64 a2, .int .i64 a3] w fun e w' => e = .returned (.bool r) ∧ Below w.heap.size w w' := by
 have hu29 := Try.underlying29
 have hu65 := Try.underlying65
 have HR0_3 := Aside0.mk hr0_3
 have HC0_3 := Aside0.mk hc0_3
 clear hr0_3 hc0_3
 have HB := Aside0.mk (Below.refl w.heap.size w)
 have H : ((impl_PiecesIn.f k a0_0 a0_1 a0_2 l0_3 a2 a3).bind fun t410 => (impl_IsSafeMix.l0 k a1 (([] : List (List Int))) t410 (t410.length : Int) 0 a0_0 a0_1 a0_2 l0_3)) = some r := h
 clear h
 obtain ⟨y407, hy407⟩ : ∃ y_ : List (List Int), y_ = (([] : List (List Int))) := ⟨_, rfl⟩
 replace H : ((impl_PiecesIn.f k a0_0 a0_1 a0_2 l0_3 a2 a3).bind fun t410 => (impl_IsSafeMix.l0 k a1 y407 t410 (t410.length : Int) 0 a0_0 a0_1 a0_2 l0_3)) = some r := by first | (rw [hy407]; with_reducible exact H) | (have H2_ := (Option.bind_some _ _).symm.trans H; rw [hy407]; with_reducible exact H2_) | (have H2_ := (Option.bind_some _ _).symm.trans H; with_reducible exact H2_) | with_reducible exact H | (rw [hy407]; exact H) | exact H
 have Ny407 := Aside0.mk hy407
 clear hy407
 obtain ⟨t410, A5, H⟩ := bnd H
 have H' := Aside0.mk H
 clear H
 go_enter Try.func69, Try.ntmps69
 go_wp2_with (first | ((with_reducible refine gate_dst (N := 4) rfl ?_); refine bx 4 #[.int .i64 a0_0, .int .i64 a0_1, .int .i64 a0_2, .slice A0_3 l0_3.length c0_3] 29 ?_; intro gb406 hg w6 hbox hb; have BK406 := Aside0.mk hbox; have GW406 := bz w hg; have GE406 := bz w hg; replace HB := bs hb; clear hb hbox hg) | ((with_reducible refine gate_dst (N := 14) rfl ?_); refine Kd.S_lit (Kd.slice 3 (Kd.int .i64)) _ 40 ?hg (N := 14) ?hd (xs := ([] : List (List Int))) (inner := []) (ok := fun _ => True) (okp := fun _ => True) ?hr ?hp (fun _ hk => hk) trivial (Below.refl _ _) (Nat.le_refl _) (by simp) ?_; (case hd => rfl); (case hg => rfl); (case hr => first | (go_simp; done) | (go_simp; rfl)); (case hp => exact (Reps.none _ _)); intro v408 w7 ho8 hb hg_ hnew_; clear hg_ hnew_; (first | rw [← Ny407.out] at ho8 | (simp only [Int.reduceToNat] at ho8; rw [← Ny407.out] at ho8)); have HO409 := Aside0.mk (Kd.S_lower ho8 (below_size (sbw))); replace BK406 := bb BK406 hb; replace HB := bsw hb; clear hb ho8; obtain ⟨hcz9_0, hcz9_1, hcz9_2, hcz9_3, hfz9_0, hfz9_1, hfz9_2, hfz9_3⟩ := cc4 BK406) | ((with_reducible refine gate_callee (f := 130) rfl ?_); refine gL (some 18) Try.func130 #[.agg #[.int .i64 a0_0, .int .i64 a0_1, .int .i64 a0_2, .slice A0_3 l0_3.length c0_3], .int .i64 a2, .int .i64 a3] ?_; (with_reducible refine (impl_PiecesIn.calls k a0_0 a0_1 a0_2 _ _ l0_3 a2 a3 t410 _ ?side1 ?side2 A5.out).mono ?_); (case side1 => exact cb HR0_3); (case side2 => exact HC0_3.out); rintro e w10 ⟨v411, rfl, ho0, hb⟩; refine ⟨_, rfl, ?_⟩; replace HO409 := Aside0.mk (Kd.S_elder' (ss HO409) (Kd.R_base ho0) hb); have HO412 := Aside0.mk (Kd.R_lower ho0 (below_size (sbw))); replace BK406 := bb BK406 hb; replace HB := bsw hb; (try clear hb); (try clear hb2); (try clear hk); (try clear hi); (try clear ho0); obtain ⟨Ao11, co11, eo11⟩ := Kd.R_slice HO412.out; subst eo11))
 go_loopg [9, 20] k (fun kq v9 v20 w' => ∃ (x9_1 : List (List Int)) (x20_1 : Int), v20 = .int .i64 x20_1 ∧ Aside0 (impl_IsSafeMix.l0 kq a1 x9_1 t410 (t410.length : Int) x20_1 a0_0 a0_1 a0_2 l0_3 = some r) ∧ Aside0 (kq ≤ k) ∧ Aside0 (Kd.S (Kd.slice 3 (Kd.int .i64)) 40 w' w.heap.size (fun k_ => some k_ ≠ ((.slice Ao11 t410.length co11) : Value).ownBlock) v9 x9_1) ∧ Aside0 (Kd.R (Kd.int .i64) 3 w' w.heap.size (fun _ => True) (.slice Ao11 t410.length co11) t410) ∧ Aside0 (w'.heap[gb406]? = some (.cells #[.int .i64 a0_0, .int .i64 a0_1, .int .i64 a0_2, (.slice A0_3 l0_3.length c0_3)] 29 (0, 0))) ∧ Aside0 (Below w.heap.size w w'))
 case atStart => exact ⟨(y407), (0), sc, H', kk0, ⟨by (with_reducible repeat (first | apply Kd.S_alloc | apply Kd.S_drewN | apply Kd.S_drew)); exact Kd.S_mono HO409.out (fun _ hk => hk.2)⟩, ⟨sr HO412⟩, ⟨sk BK406⟩, ⟨sbw⟩⟩
 case round =>
  clear H'
  obtain ⟨x9_1, x20_1, rfl, HA, HK1, HO_9, HO_18, BK406, HB⟩ := hrel
  cases gk with
  | zero => exact absurd HA.out (by simp [impl_IsSafeMix.l0])
  | succ k1 =>
   have H := HA.out
   clear HA
   simp only [impl_IsSafeMix.l0] at H
   obtain ⟨c12, H⟩ | ⟨c12, H⟩ := ie_ H
   ·have c12b0 := decide_eq_true c12
    clear c12
    obtain ⟨c13b0, H⟩ := id_ H
    obtain ⟨c14b0, H⟩ := id_ H
    obtain ⟨⟨t414, t415, t418, t421⟩, A15, H⟩ := bnd H
    replace H : (if x9_1.length < 5864062014805 then (impl_IsSafeMix.l0 k1 a1 (x9_1 ++ [t418]) t410 (t410.length : Int) (wrap64 (x20_1 + 1)) a0_0 a0_1 a0_2 l0_3) else (none)) = some r := H
    obtain ⟨LMc16, H⟩ := il_ H
    obtain ⟨y423, hy423⟩ : ∃ y_ : List (List Int), y_ = (x9_1 ++ [t418]) := ⟨_, rfl⟩
    replace H : (impl_IsSafeMix.l0 k1 a1 y423 t410 (t410.length : Int) (wrap64 (x20_1 + 1)) a0_0 a0_1 a0_2 l0_3) = some r := by first | (rw [hy423]; with_reducible exact H) | (have H2_ := (Option.bind_some _ _).symm.trans H; rw [hy423]; with_reducible exact H2_) | (have H2_ := (Option.bind_some _ _).symm.trans H; with_reducible exact H2_) | with_reducible exact H | (rw [hy423]; exact H) | exact H
    have Ny423 := Aside0.mk hy423
    clear hy423
    have H' := Aside0.mk H
    clear H
    have p413 : 0 ≤ (x20_1 : Int) := sa
    have q413 : x20_1 < (t410.length : Int) := sa
    obtain ⟨ad413, e413, hx413_0⟩ := Kd.at_int (Kd.R_reads' HO_18.out).2.2 x20_1 p413 q413
    cases e413
    replace p413 := eq_true p413
    replace q413 := eq_true q413
    obtain ⟨hcz17_0, hcz17_1, hcz17_2, hcz17_3, hfz17_0, hfz17_1, hfz17_2, hfz17_3⟩ := cc4 BK406
    go_wp2_with (first | ((with_reducible refine gate_callee (f := 51) rfl ?_); refine gL (some 28) Try.func51 #[.agg #[.int .i64 a0_0, .int .i64 a0_1, .int .i64 a0_2, .slice A0_3 l0_3.length c0_3], .int .i64 (rd t410 x20_1), .int .i64 a1] ?_; (with_reducible refine (impl_TableIn.calls a0_0 a0_1 a0_2 _ _ l0_3 (rd t410 x20_1) a1 t414 t415 t418 t421 _ ?side1 ?side2 A15.out).mono ?_); (case side1 => exact cb HR0_3); (case side2 => exact HC0_3.out); rintro e w18 ⟨v416, v419, rfl, ho0, ho1, hb⟩; refine ⟨_, rfl, ?_⟩; replace HO_9 := Aside0.mk (Kd.S_mono (Kd.S_told (Kd.S_told (Kd.S_old (ss HO_9) hb) (Kd.R_base ho0)) (Kd.R_base ho1)) (fun _ h_ => h_.1)); have HO417 := Aside0.mk (Kd.R_lower (Kd.R_new' ho0 (Kd.R_lt (sr HO_18))) (below_size (sbw))); have HO420 := Aside0.mk (Kd.R_lower (Kd.R_new' ho1 (Kd.R_lt (sr HO_18))) (below_size (sbw))); replace HO_18 := Aside0.mk (Kd.R_mono (Kd.R_told (Kd.R_told (Kd.R_old (sr HO_18) hb) (Kd.R_base ho0)) (Kd.R_base ho1)) (fun _ h_ => h_.1)); replace BK406 := bb BK406 hb; replace HB := bsw hb; (try clear hb); (try clear hb2); (try clear hk); (try clear hi); (try clear ho0); (try clear ho1)) | ((with_reducible refine gate_dst (N := 12) rfl ?_); refine bx 12 #[.int .i64 0, .slice none 0 0, .slice none 0 0] 65 ?_; intro gb422 hg w19 hbox hb; replace HO_9 := Aside0.mk (Kd.S_below (ss HO_9) hb); replace HO_18 := Aside0.mk (Kd.R_below (sr HO_18) hb); replace HO417 := Aside0.mk (Kd.R_below (sr HO417) hb); replace HO420 := Aside0.mk (Kd.R_below (sr HO420) hb); have BK422 := Aside0.mk hbox; have GW422 := bzw w hg; have GE422 := bzw w hg; replace HB := bsw hb; have NB406_422 := nl BK406 hg; have NB422_406 := ng BK406 hg; replace BK406 := bb BK406 hb; clear hb hbox hg; have hnb20 := NB422_406.out; have hnc20 := NB406_422.out; obtain ⟨hcz21_0, hcz21_1, hcz21_2, hfz21_0, hfz21_1, hfz21_2⟩ := cc3 BK422; obtain ⟨Ao22, co22, eo22⟩ := Kd.R_slice HO417.out; subst eo22; obtain ⟨Ao23, co23, eo23⟩ := Kd.R_slice HO420.out; subst eo23) | ((with_reducible refine gate_store (t := 65) (p := 12) rfl ?_); refine store_event (t := 65) (p := 12) (v := ?vo_w24) (w1 := (((w19.setCell ⟨gb422, 0, none⟩ (.int .i64 t414)).setCell ⟨gb422, 1, none⟩ (.slice Ao22 t415.length co22)).setCell ⟨gb422, 2, none⟩ (.slice Ao23 t418.length co23))) ?hg ?ho ?hn ?hr ?_; (case ho => rfl); (case hg => rfl); (case hn => rfl); (case hr => first | (go_simp; done) | (go_simp; rfl)); intro w24 hw; replace HO_9 : Aside0 (Kd.S (Kd.slice 3 (Kd.int .i64)) 40 w24 w.heap.size (fun k_ => some k_ ≠ (.slice (some ad413) t410.length co11 : Value).ownBlock ∧ some k_ ≠ (.slice Ao22 t415.length co22 : Value).ownBlock ∧ some k_ ≠ (.slice Ao23 t418.length co23 : Value).ownBlock) u9 x9_1) := ⟨(by rw [hw]; exact (by (with_reducible repeat (first | apply Kd.S_alloc | apply Kd.S_drewN | apply Kd.S_drew)); exact Kd.S_mono (Kd.S_far (p := ⟨gb422, 2, none⟩) (Kd.S_far (p := ⟨gb422, 1, none⟩) (Kd.S_far (p := ⟨gb422, 0, none⟩) (Kd.S_types HO_9.out BK422.out (by decide)) (fun _ hk => hk.2) (.int .i64 t414)) (fun _ hk => hk.2) (.slice Ao22 t415.length co22)) (fun _ hk => hk.2) (.slice Ao23 t418.length co23)) (fun _ hk => ⟨hk.1.1.1, ⟨hk.1.1.2, hk.1.2⟩⟩)))⟩; replace HO_18 : Aside0 (Kd.R (Kd.int .i64) 3 w24 w.heap.size (fun k_ => some k_ ≠ (.slice Ao22 t415.length co22 : Value).ownBlock ∧ some k_ ≠ (.slice Ao23 t418.length co23 : Value).ownBlock) (.slice (some ad413) t410.length co11) t410) := ⟨(by rw [hw]; exact (by (with_reducible repeat (first | apply Kd.R_alloc | apply Kd.R_drewN | apply Kd.R_drew)); exact Kd.R_mono (Kd.R_far (p := ⟨gb422, 2, none⟩) (Kd.R_far (p := ⟨gb422, 1, none⟩) (Kd.R_far (p := ⟨gb422, 0, none⟩) (Kd.R_types HO_18.out BK422.out (by decide)) (fun _ hk => hk.2) (.int .i64 t414)) (fun _ hk => hk.2) (.slice Ao22 t415.length co22)) (fun _ hk => hk.2) (.slice Ao23 t418.length co23)) (fun _ hk => ⟨hk.1.1.2, hk.1.2⟩)))⟩; replace HO417 : Aside0 (Kd.R (Kd.int .i64) 3 w24 w.heap.size (fun k_ => some k_ ≠ (.slice (some ad413) t410.length co11 : Value).ownBlock ∧ some k_ ≠ (.slice Ao23 t418.length co23 : Value).ownBlock) (.slice Ao22 t415.length co22) t415) := ⟨(by rw [hw]; exact (by (with_reducible repeat (first | apply Kd.R_alloc | apply Kd.R_drewN | apply Kd.R_drew)); exact Kd.R_mono (Kd.R_far (p := ⟨gb422, 2, none⟩) (Kd.R_far (p := ⟨gb422, 1, none⟩) (Kd.R_far (p := ⟨gb422, 0, none⟩) (Kd.R_types HO417.out BK422.out (by decide)) (fun _ hk => hk.2) (.int .i64 t414)) (fun _ hk => hk.2) (.slice Ao22 t415.length co22)) (fun _ hk => hk.2) (.slice Ao23 t418.length co23)) (fun _ hk => ⟨hk.1.2, hk.1.1⟩)))⟩; replace HO420 : Aside0 (Kd.R (Kd.int .i64) 3 w24 w.heap.size (fun k_ => some k_ ≠ (.slice (some ad413) t410.length co11 : Value).ownBlock ∧ some k_ ≠ (.slice Ao22 t415.length co22 : Value).ownBlock) (.slice Ao23 t418.length co23) t418) := ⟨(by rw [hw]; exact (by (with_reducible repeat (first | apply Kd.R_alloc | apply Kd.R_drewN | apply Kd.R_drew)); exact Kd.R_mono (Kd.R_far (p := ⟨gb422, 2, none⟩) (Kd.R_far (p := ⟨gb422, 1, none⟩) (Kd.R_far (p := ⟨gb422, 0, none⟩) (Kd.R_types HO420.out BK422.out (by decide)) (fun _ hk => hk.2) (.int .i64 t414)) (fun _ hk => hk.2) (.slice Ao22 t415.length co22)) (fun _ hk => hk.2) (.slice Ao23 t418.length co23)) (fun _ hk => ⟨hk.1.2, hk.1.1⟩)))⟩; replace BK406 : Aside0 (w24.heap[gb406]? = some (.cells #[.int .i64 a0_0, .int .i64 a0_1, .int .i64 a0_2, .slice A0_3 l0_3.length c0_3] 29 (0, 0))) := ⟨(by rw [hw]; exact (sp BK406))⟩; replace BK422 : Aside0 (w24.heap[gb422]? = some (.cells #[.int .i64 t414, .slice Ao22 t415.length co22, .slice Ao23 t418.length co23] 65 (0, 0))) := ⟨(by rw [hw]; exact (sp BK422))⟩; replace HB : Aside0 (Below w.heap.size w w24) := ⟨(by rw [hw]; exact (sbw))⟩; clear hw; obtain ⟨hcz25_0, hcz25_1, hcz25_2, hfz25_0, hfz25_1, hfz25_2⟩ := cc3 BK422) | ((with_reducible refine gate_builtin (b := .append) (xs := #[.tmp 31, .tmp 34]) rfl ?_); at_builtin; refine Kd.S_append (Kd.slice 3 (Kd.int .i64)) (w0 := w) w.heap.size rfl (.tmp 31) (.tmp 34) 100 40 (.slice none 0 0) 24 rfl Try.underlying100 info40 rfl (by decide) (by omega) u9 x9_1 t418 [.slice Ao23 t418.length co23] (fun k_ => some k_ ≠ (.slice (some ad413) t410.length co11 : Value).ownBlock ∧ some k_ ≠ (.slice Ao22 t415.length co22 : Value).ownBlock) (fun k_ => some k_ = (.slice Ao23 t418.length co23 : Value).ownBlock) rfl rfl ?aP (fun k_ hk_ => ((Kd.R_mono (ok' := fun k_ => ((fun k_ => some k_ ≠ (.slice (some ad413) t410.length co11 : Value).ownBlock ∧ some k_ ≠ (.slice Ao22 t415.length co22 : Value).ownBlock)) k_ ∧ some k_ ≠ (u9 : Value).ownBlock) (Kd.R_apart' (HO420.out) (Kd.S_typed HO_9.out) (by decide)) (fun k_ hk => ⟨⟨hk.1.1, hk.1.2⟩, hk.2⟩))).1 k_ hk_.symm) ?aF ?aO ?aB ?aS ?aL ?_; (case aP => exact Kd.M_row (Kd.R_mono (Kd.R_tight rfl (Kd.R_mono (ok' := fun k_ => ((fun k_ => some k_ ≠ (.slice (some ad413) t410.length co11 : Value).ownBlock ∧ some k_ ≠ (.slice Ao22 t415.length co22 : Value).ownBlock)) k_ ∧ some k_ ≠ (u9 : Value).ownBlock) (Kd.R_apart' (HO420.out) (Kd.S_typed HO_9.out) (by decide)) (fun k_ hk => ⟨⟨hk.1.1, hk.1.2⟩, hk.2⟩))) (fun _ h_ => h_))); (case aB => exact (sbw)); (case aF => exact (fun k_ hk => ⟨Kd.fresh' (Kd.R_lt (sr HO_18)) k_ hk, Kd.fresh' (Kd.R_lt (sr HO417)) k_ hk⟩)); (case aO => exact (by (with_reducible repeat (first | apply Kd.S_alloc | apply Kd.S_drewN | apply Kd.S_drew)); exact Kd.S_mono HO_9.out (fun k_ hk => ⟨⟨hk.1, hk.2.1⟩, fun e_ => hk.2.2 e_⟩))); (case aS => exact (below_size (sbw))); (case aL => have := LMc16.out; omega); intro v424 w26 ho hb hg hat; rw [← Ny423.out] at ho; replace HO_18 := Aside0.mk (Kd.R_over' (sr HO_18) (Kd.S_typed (ss HO_9)) (by decide) hg); replace BK406 := Aside0.mk (blk_grown (g := gb406) (o := .cells #[.int .i64 a0_0, .int .i64 a0_1, .int .i64 a0_2, .slice A0_3 l0_3.length c0_3] 29 (0, 0)) (sk BK406) hg (Kd.S_ne HO_9.out BK406.out (by decide))); replace HO417 := Aside0.mk (Kd.R_over' (sr HO417) (Kd.S_typed (ss HO_9)) (by decide) hg); replace BK422 := Aside0.mk (blk_grown (g := gb422) (o := .cells #[.int .i64 t414, .slice Ao22 t415.length co22, .slice Ao23 t418.length co23] 65 (0, 0)) (sk BK422) hg (Kd.S_ne HO_9.out BK422.out (by decide))); replace HB := Aside0.mk hb; have HO425 := Aside0.mk ho; clear HO_9 HO420; clear ho hb hg hat))
    go_roundg k1
    case measure => have := HK1.out; omega
    case rel => exact ⟨(y423), (wrap64 (x20_1 + 1)), sc, H', kk1, ⟨by (with_reducible repeat (first | apply Kd.S_alloc | apply Kd.S_drewN | apply Kd.S_drew)); exact Kd.S_mono HO425.out (fun _ hk => hk.1)⟩, ⟨by (with_reducible repeat (first | apply Kd.R_alloc | apply Kd.R_drewN | apply Kd.R_drew)); exact Kd.R_mono HO_18.out (fun _ hk => trivial)⟩, ⟨sk BK406⟩, ⟨sbw⟩⟩
   ·have c12b0 := decide_eq_false c12
    clear c12
    obtain ⟨t426, A27, H⟩ := bnd H
    obtain rfl := Option.some.inj H
    obtain ⟨Ao28, co28, eo28⟩ := Kd.S_slice HO_9.out
    subst eo28
    go_wp2_with (first | ((with_reducible refine gate_callee (f := 84) rfl ?_); refine gL (some 38) Try.func84 #[.slice Ao28 x9_1.length co28] ?_; (with_reducible refine (impl_UnionHasLoop.calls k1 _ _ x9_1 t426 _ ?side1 ?side2 A27.out).mono ?_); (case side1 => repeat (first | exact (Kd.S_reads' HO_9.out).2.2 | (with_reducible refine Kd.C_alloc ?_ _) | (with_reducible refine Kd.C_drewN ?_ _) | (with_reducible refine Kd.C_drew ?_))); (case side2 => exact (Kd.S_reads' HO_9.out).2.1); rintro e w29 ⟨rfl, hb⟩; refine ⟨_, rfl, ?_⟩; replace HO_9 := Aside0.mk (Kd.S_below (ss HO_9) hb); replace HO_18 := Aside0.mk (Kd.R_below (sr HO_18) hb); replace BK406 := bb BK406 hb; replace HB := bsw hb; (try clear hb); (try clear hb2); (try clear hk); (try clear hi)))
    go_ret
    exact ⟨se, sbw⟩

end Go.Proofs.Ytlakjlolahjphaa.QFnExactNextsAt
