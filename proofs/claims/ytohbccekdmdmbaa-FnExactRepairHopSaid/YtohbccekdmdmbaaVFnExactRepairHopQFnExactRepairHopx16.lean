/- Printed by a program of the session. Conditions: none. (squeezed). -/
import Derived.Test.YtohbccekdmdmbaaVFnExactRepairHopQFnExactRepairHopx14
import Derived.Test.YtohbccekdmdmbaaVFnExactRepairHopQFnExactRepairHopx15
namespace Go.Proofs.Ytohbccekdmdmbaa.QFnExactRepairHop
set_option maxHeartbeats 8000000
set_option maxRecDepth 100000
open Go.RowKit Go.Proofs.YtohbccekdmdmbaaW.PrintWords Go.Proofs.YtohbccekdmdmbaaW.PrintLast Go.Proofs.YtohbccekdmdmbaaW.PrintMore Go.Proofs.Ytohbccekdmdmbaa.Open Go.Proofs.Ytohbccekdmdmbaa.Sq
attribute [local go_sem] max2_int min2_int max_two min_two max_three min_three max_four min_four   -- for this text's walks alone
attribute [local go_sem] isSome_set
set_option linter.unusedVariables false
set_option linter.unusedSimpArgs false

def impl_IsSafeMix.l0 : Nat → Int → List (List Int) → List Int → Int → Int → Int → Int → Int → List (S75) → Option (Bool)
  | 0, _, _, _, _, _, _, _, _, _ => none
  | k + 1, x1, x9, x18, x19, x20, x580000, x580001, x580002, x580003 => if x20 < x19 then (if 0 ≤ x20 then (if x20 < (x18.length : Int) then ((impl_TableIn.f x580000 x580001 x580002 x580003 (rd x18 x20) x1).bind fun bt587 => (if x9.length < 5864062014805 then (impl_IsSafeMix.l0 k x1 (x9 ++ [bt587.2.2.1]) x18 x19 (wrap64 (x20 + 1)) x580000 x580001 x580002 x580003) else (none))) else (none)) else (none)) else ((impl_UnionHasLoop.f k x9).bind fun t599 => (some (!t599)))
def impl_IsSafeMix.f (k : Nat) (a0_0 : Int) (a0_1 : Int) (a0_2 : Int) (l0_3 : List (S75)) (a1 : Int) (a2 : Int) (a3 : Int) : Option (Bool) := (impl_PiecesIn.f k a0_0 a0_1 a0_2 l0_3 a2 a3).bind fun t583 => (impl_IsSafeMix.l0 k a1 (([] : List (List Int))) t583 (t583.length : Int) 0 a0_0 a0_1 a0_2 l0_3)
theorem impl_IsSafeMix.mono_l : ∀ k, (∀ y0 y1 y2 y3 y4 y5 y6 y7 y8, LeO (impl_IsSafeMix.l0 k y0 y1 y2 y3 y4 y5 y6 y7 y8) (impl_IsSafeMix.l0 (k + 1) y0 y1 y2 y3 y4 y5 y6 y7 y8))
  | 0 => fun _ _ _ _ _ _ _ _ _ r h => by simp [impl_IsSafeMix.l0] at h
  | k + 1 => by
    have ih0 := impl_IsSafeMix.mono_l k
    · intro y0 y1 y2 y3 y4 y5 y6 y7 y8
      unfold impl_IsSafeMix.l0
      have m0 := @impl_PiecesIn.mono
      have m1 := @impl_UnionHasLoop.mono
      exact mo
theorem impl_IsSafeMix.mono : ∀ a0 a1 a2 a3 a4 a5 a6 k, LeO (impl_IsSafeMix.f k a0 a1 a2 a3 a4 a5 a6) (impl_IsSafeMix.f (k + 1) a0 a1 a2 a3 a4 a5 a6) := by
  intro a0 a1 a2 a3 a4 a5 a6 k
  have ih0 := impl_IsSafeMix.mono_l k
  unfold impl_IsSafeMix.f
  have m0 := @impl_PiecesIn.mono
  have m1 := @impl_UnionHasLoop.mono
  exact mo
theorem impl_IsSafeMix.calls (k : Nat) (a0_0 : Int) (a0_1 : Int) (a0_2 : Int) (A0_3 : Option Addr) (c0_3 : Nat) (l0_3 : List (S75)) (a1 : Int) (a2 : Int) (a3 : Int) (r : Bool) (w : World) (hr0_3 : Kd.C k75 w A0_3 l0_3.length l0_3) (hc0_3 : l0_3.length ≤ c0_3) (h : impl_IsSafeMix.f k a0_0 a0_1 a0_2 l0_3 a1 a2 a3 = some r) :
    Calls Try.prog 63 #[.agg #[.int .i64 a0_0, .int .i64 a0_1, .int .i64 a0_2, .slice A0_3 l0_3.length c0_3], .int .i64 a1, .int .i64 a2, .int .i64 a3] w fun e w' => e = .returned (.bool r) ∧ Below w.heap.size w w' := by
 have hu49 := Try.underlying49
 have hu29 := Try.underlying29
 have HR0_3 := am hr0_3
 have HC0_3 := am hc0_3
 clear hr0_3 hc0_3
 have HB := am (Below.refl w.heap.size w)
 have H := h; unfold impl_IsSafeMix.f at H
 clear h
 obtain ⟨y580, hy580⟩ : ∃ y_ : List (List Int), y_ = (([] : List (List Int))) := ⟨_, rfl⟩
 replace H : ((impl_PiecesIn.f k a0_0 a0_1 a0_2 l0_3 a2 a3).bind fun t583 => (impl_IsSafeMix.l0 k a1 y580 t583 (t583.length : Int) 0 a0_0 a0_1 a0_2 l0_3)) = some r := ry hy580 H
 have Ny580 := am hy580
 clear hy580
 obtain ⟨t583, A5, H⟩ := bnd H
 have H' := am H
 clear H
 go_enter Try.func63, Try.ntmps63
 go_wp2_with (first | ((with_reducible refine gd 4 rfl ?_); refine bx 4 #[.int .i64 a0_0, .int .i64 a0_1, .int .i64 a0_2, .slice A0_3 l0_3.length c0_3] 49 ?_; intro gb579 hg w6 hbox hb; have GW579 := bz w hg; have GE579 := bz w hg; replace HB := bs hb; have BK579 := am hbox; clear hb hbox hg) | ((with_reducible refine gd 14 rfl ?_); refine Kd.S_lit (Kd.slice 3 (Kd.int .i64)) _ 22 ?hg (N := 14) ?hd (xs := ([] : List (List Int))) (inner := []) (ok := fun _ => True) (okp := fun _ => True) ?hr ?hp (fun _ hk => hk) trivial (Below.refl _ _) (Nat.le_refl _) (by simp) ?_; (case hd => rfl); (case hg => rfl); (case hr => first | (go_simp; done) | (go_simp; rfl)); (case hp => exact (Reps.none _ _)); intro v581 w7 ho8 hb hg_ hnew_; clear hg_ hnew_; (first | rw [← Ny580.out] at ho8 | (simp only [Int.reduceToNat] at ho8; rw [← Ny580.out] at ho8)); have HO582 := am (Kd.S_lower ho8 (below_size (sbw))); replace BK579 := bb BK579 hb; replace HB := bsw hb; clear hb ho8; obtain ⟨hcz9_0, hcz9_1, hcz9_2, hcz9_3, hfz9_0, hfz9_1, hfz9_2, hfz9_3⟩ := cc4 BK579) | ((with_reducible refine gc 65 rfl ?_); refine gL (some 18) Try.func65 #[.agg #[.int .i64 a0_0, .int .i64 a0_1, .int .i64 a0_2, .slice A0_3 l0_3.length c0_3], .int .i64 a2, .int .i64 a3] ?_; (with_reducible refine (impl_PiecesIn.calls k a0_0 a0_1 a0_2 _ _ l0_3 a2 a3 t583 _ ?side1 ?side2 A5.out).mono ?_); (case side1 => exact cb HR0_3); (case side2 => exact HC0_3.out); rintro e w10 ⟨v584, rfl, ho0, hb⟩; refine ⟨_, rfl, ?_⟩; replace HO582 := am (Kd.S_elder' (ss HO582) (Kd.R_base ho0) hb); have HO585 := am (Kd.R_lower ho0 (below_size (sbw))); replace BK579 := bb BK579 hb; replace HB := bsw hb; (try clear hb); (try clear hk); (try clear ho0); obtain ⟨Ao11, co11, eo11⟩ := Kd.R_slice HO585.out; subst eo11))
 go_loopg [9, 20] k (fun kq v9 v20 w' => ∃ (x9_1 : List (List Int)) (x20_1 : Int), v20 = .int .i64 x20_1 ∧ Aside0 (impl_IsSafeMix.l0 kq a1 x9_1 t583 (t583.length : Int) x20_1 a0_0 a0_1 a0_2 l0_3 = some r) ∧ Aside0 (kq ≤ k) ∧ Aside0 (Kd.S (Kd.slice 3 (Kd.int .i64)) 22 w' w.heap.size (fun k_ => some k_ ≠ ((.slice Ao11 t583.length co11) : Value).ownBlock) v9 x9_1) ∧ Aside0 (Kd.R (Kd.int .i64) 3 w' w.heap.size (fun _ => True) (.slice Ao11 t583.length co11) t583) ∧ Aside0 (w'.heap[gb579]? = some (.cells #[.int .i64 a0_0, .int .i64 a0_1, .int .i64 a0_2, (.slice A0_3 l0_3.length c0_3)] 49 (0, 0))) ∧ Aside0 (Below w.heap.size w w'))
 case atStart => exact ⟨(y580), (0), sc, H', kk0, ⟨by (with_reducible repeat (first | apply Kd.S_alloc | apply Kd.S_drewN | apply Kd.S_drew)); exact Kd.S_mono HO582.out (fun _ hk => hk.2)⟩, ⟨sr HO585⟩, ⟨sk BK579⟩, ⟨sbw⟩⟩
 case round =>
  clear H'
  obtain ⟨x9_1, x20_1, rfl, HA, HK1, HO_9, HO_18, BK579, HB⟩ := hrel
  cases gk with
  | zero => exact absurd HA.out (by simp [impl_IsSafeMix.l0])
  | succ k1 =>
   have H := HA.out
   clear HA
   simp only [impl_IsSafeMix.l0] at H
   obtain ⟨-, c12b0, H⟩ | ⟨-, c12b0, H⟩ := ic_ H
   ·obtain ⟨c13b0, H⟩ := id_ H
    obtain ⟨c14b0, H⟩ := id_ H
    obtain ⟨⟨t587, t588, t591, t594⟩, A15, H⟩ := bnd H
    try dsimp only at H
    obtain ⟨LMc16, H⟩ := il_ H
    obtain ⟨y596, hy596⟩ : ∃ y_ : List (List Int), y_ = (x9_1 ++ [t591]) := ⟨_, rfl⟩
    replace H : (impl_IsSafeMix.l0 k1 a1 y596 t583 (t583.length : Int) (wrap64 (x20_1 + 1)) a0_0 a0_1 a0_2 l0_3) = some r := ry hy596 H
    have Ny596 := am hy596
    clear hy596
    have H' := am H
    clear H
    have p586 : 0 ≤ (x20_1 : Int) := sa
    have q586 : x20_1 < (t583.length : Int) := sa
    obtain ⟨ad586, e586, hx586_0⟩ := Kd.at_int (Kd.R_reads' HO_18.out).2.2 x20_1 p586 q586
    cases e586
    replace p586 := eq_true p586
    replace q586 := eq_true q586
    obtain ⟨hcz17_0, hcz17_1, hcz17_2, hcz17_3, hfz17_0, hfz17_1, hfz17_2, hfz17_3⟩ := cc4 BK579
    go_wp2_with (first | ((with_reducible refine gc 48 rfl ?_); refine gL (some 28) Try.func48 #[.agg #[.int .i64 a0_0, .int .i64 a0_1, .int .i64 a0_2, .slice A0_3 l0_3.length c0_3], .int .i64 (rd t583 x20_1), .int .i64 a1] ?_; (with_reducible refine (impl_TableIn.calls a0_0 a0_1 a0_2 _ _ l0_3 (rd t583 x20_1) a1 t587 t588 t591 t594 _ ?side1 ?side2 A15.out).mono ?_); (case side1 => exact cb HR0_3); (case side2 => exact HC0_3.out); rintro e w18 ⟨v589, v592, rfl, ho0, ho1, hb⟩; refine ⟨_, rfl, ?_⟩; replace HO_9 := am (Kd.S_mono (Kd.S_told (Kd.S_told (Kd.S_old (ss HO_9) hb) (Kd.R_base ho0)) (Kd.R_base ho1)) (fun _ h_ => h_.1)); have HO590 := am (Kd.R_lower (Kd.R_new' ho0 (Kd.R_lt (sr HO_18))) (below_size (sbw))); have HO593 := am (Kd.R_lower (Kd.R_new' ho1 (Kd.R_lt (sr HO_18))) (below_size (sbw))); replace HO_18 := am (Kd.R_mono (Kd.R_told (Kd.R_told (Kd.R_old (sr HO_18) hb) (Kd.R_base ho0)) (Kd.R_base ho1)) (fun _ h_ => h_.1)); replace BK579 := bb BK579 hb; replace HB := bsw hb; (try clear hb); (try clear hk); (try clear ho0); (try clear ho1)) | ((with_reducible refine gd 12 rfl ?_); refine bx 12 #[.int .i64 0, .slice none 0 0, .slice none 0 0] 29 ?_; intro gb595 hg w19 hbox hb; replace HO_9 := am (Kd.S_below (ss HO_9) hb); replace HO_18 := rb HO_18 hb; replace HO590 := rb HO590 hb; replace HO593 := rb HO593 hb; have GW595 := bzw w hg; have GE595 := bzw w hg; replace HB := bsw hb; have BK595 := am hbox; have NB579_595 := nl BK579 hg; have NB595_579 := ng BK579 hg; replace BK579 := bb BK579 hb; clear hb hbox hg; have hnb20 := NB595_579.out; have hnc20 := NB579_595.out; obtain ⟨hcz21_0, hcz21_1, hcz21_2, hfz21_0, hfz21_1, hfz21_2⟩ := cc3 BK595; obtain ⟨Ao22, co22, eo22⟩ := Kd.R_slice HO590.out; subst eo22; obtain ⟨Ao23, co23, eo23⟩ := Kd.R_slice HO593.out; subst eo23) | ((with_reducible refine gate_store (t := 29) (p := 12) rfl ?_); refine store_event (t := 29) (p := 12) (v := ?vo_w24) (w1 := (((w19.setCell ⟨gb595, 0, none⟩ (.int .i64 t587)).setCell ⟨gb595, 1, none⟩ (.slice Ao22 t588.length co22)).setCell ⟨gb595, 2, none⟩ (.slice Ao23 t591.length co23))) ?hg ?ho ?hn ?hr ?_; (case ho => rfl); (case hg => rfl); (case hn => rfl); (case hr => first | (go_simp; done) | (go_simp; rfl)); intro w24 hw; replace HO_9 : Aside0 (Kd.S (Kd.slice 3 (Kd.int .i64)) 22 w24 w.heap.size (fun k_ => some k_ ≠ (.slice (some ad586) t583.length co11 : Value).ownBlock ∧ some k_ ≠ (.slice Ao22 t588.length co22 : Value).ownBlock ∧ some k_ ≠ (.slice Ao23 t591.length co23 : Value).ownBlock) u9 x9_1) := ⟨(by rw [hw]; exact (by (with_reducible repeat (first | apply Kd.S_alloc | apply Kd.S_drewN | apply Kd.S_drew)); exact Kd.S_mono (Kd.S_far (p := ⟨gb595, 2, none⟩) (Kd.S_far (p := ⟨gb595, 1, none⟩) (Kd.S_far (p := ⟨gb595, 0, none⟩) (Kd.S_types HO_9.out BK595.out (by decide)) (fun _ hk => hk.2) (.int .i64 t587)) (fun _ hk => hk.2) (.slice Ao22 t588.length co22)) (fun _ hk => hk.2) (.slice Ao23 t591.length co23)) (fun _ hk => ⟨hk.1.1.1, ⟨hk.1.1.2, hk.1.2⟩⟩)))⟩; replace HO_18 : Aside0 (Kd.R (Kd.int .i64) 3 w24 w.heap.size (fun k_ => some k_ ≠ (.slice Ao22 t588.length co22 : Value).ownBlock ∧ some k_ ≠ (.slice Ao23 t591.length co23 : Value).ownBlock) (.slice (some ad586) t583.length co11) t583) := ⟨(by rw [hw]; exact (by (with_reducible repeat (first | apply Kd.R_alloc | apply Kd.R_drewN | apply Kd.R_drew)); exact Kd.R_mono (h3 HO_18 BK595) (fun _ hk => ⟨hk.1.1.2, hk.1.2⟩)))⟩; replace HO590 : Aside0 (Kd.R (Kd.int .i64) 3 w24 w.heap.size (fun k_ => some k_ ≠ (.slice (some ad586) t583.length co11 : Value).ownBlock ∧ some k_ ≠ (.slice Ao23 t591.length co23 : Value).ownBlock) (.slice Ao22 t588.length co22) t588) := ⟨(by rw [hw]; exact (by (with_reducible repeat (first | apply Kd.R_alloc | apply Kd.R_drewN | apply Kd.R_drew)); exact Kd.R_mono (h3 HO590 BK595) (fun _ hk => ⟨hk.1.2, hk.1.1⟩)))⟩; replace HO593 : Aside0 (Kd.R (Kd.int .i64) 3 w24 w.heap.size (fun k_ => some k_ ≠ (.slice (some ad586) t583.length co11 : Value).ownBlock ∧ some k_ ≠ (.slice Ao22 t588.length co22 : Value).ownBlock) (.slice Ao23 t591.length co23) t591) := ⟨(by rw [hw]; exact (by (with_reducible repeat (first | apply Kd.R_alloc | apply Kd.R_drewN | apply Kd.R_drew)); exact Kd.R_mono (h3 HO593 BK595) (fun _ hk => ⟨hk.1.2, hk.1.1⟩)))⟩; replace BK579 : Aside0 (w24.heap[gb579]? = some (.cells #[.int .i64 a0_0, .int .i64 a0_1, .int .i64 a0_2, .slice A0_3 l0_3.length c0_3] 49 (0, 0))) := ⟨(by rw [hw]; exact (sp BK579))⟩; replace BK595 : Aside0 (w24.heap[gb595]? = some (.cells #[.int .i64 t587, .slice Ao22 t588.length co22, .slice Ao23 t591.length co23] 29 (0, 0))) := ⟨(by rw [hw]; exact (sp BK595))⟩; replace HB : Aside0 (Below w.heap.size w w24) := ⟨(by rw [hw]; exact (sbw))⟩; clear hw; obtain ⟨hcz25_0, hcz25_1, hcz25_2, hfz25_0, hfz25_1, hfz25_2⟩ := cc3 BK595) | ((with_reducible refine gate_builtin (b := .append) (xs := #[.tmp 31, .tmp 34]) rfl ?_); at_builtin; refine Kd.S_append (Kd.slice 3 (Kd.int .i64)) (w0 := w) w.heap.size rfl (.tmp 31) (.tmp 34) 102 22 (.slice none 0 0) 24 rfl Try.underlying102 info22 rfl (by decide) (by omega) u9 x9_1 t591 [.slice Ao23 t591.length co23] (fun k_ => some k_ ≠ (.slice (some ad586) t583.length co11 : Value).ownBlock ∧ some k_ ≠ (.slice Ao22 t588.length co22 : Value).ownBlock) (fun k_ => some k_ = (.slice Ao23 t591.length co23 : Value).ownBlock) rfl rfl ?aP (fun k_ hk_ => ((Kd.R_mono (ok' := fun k_ => ((fun k_ => some k_ ≠ (.slice (some ad586) t583.length co11 : Value).ownBlock ∧ some k_ ≠ (.slice Ao22 t588.length co22 : Value).ownBlock)) k_ ∧ some k_ ≠ (u9 : Value).ownBlock) (Kd.R_apart' (HO593.out) (Kd.S_typed HO_9.out) (by decide)) (fun k_ hk => ⟨⟨hk.1.1, hk.1.2⟩, hk.2⟩))).1 k_ hk_.symm) ?aF ?aO ?aB ?aS ?aL ?_; (case aP => exact Kd.M_row (Kd.R_mono (Kd.R_tight rfl (Kd.R_mono (ok' := fun k_ => ((fun k_ => some k_ ≠ (.slice (some ad586) t583.length co11 : Value).ownBlock ∧ some k_ ≠ (.slice Ao22 t588.length co22 : Value).ownBlock)) k_ ∧ some k_ ≠ (u9 : Value).ownBlock) (Kd.R_apart' (HO593.out) (Kd.S_typed HO_9.out) (by decide)) (fun k_ hk => ⟨⟨hk.1.1, hk.1.2⟩, hk.2⟩))) (fun _ h_ => h_))); (case aB => exact (sbw)); (case aF => exact (fun k_ hk => ⟨Kd.fresh' (Kd.R_lt (sr HO_18)) k_ hk, Kd.fresh' (Kd.R_lt (sr HO590)) k_ hk⟩)); (case aO => exact (by (with_reducible repeat (first | apply Kd.S_alloc | apply Kd.S_drewN | apply Kd.S_drew)); exact Kd.S_mono HO_9.out (fun k_ hk => ⟨⟨hk.1, hk.2.1⟩, fun e_ => hk.2.2 e_⟩))); (case aS => exact (below_size (sbw))); (case aL => have := LMc16.out; omega); intro v597 w26 ho hb hg hat; rw [← Ny596.out] at ho; replace HO_18 := am (Kd.R_over' (sr HO_18) (Kd.S_typed (ss HO_9)) (by decide) hg); replace BK579 := am (blk_grown (g := gb579) (o := .cells #[.int .i64 a0_0, .int .i64 a0_1, .int .i64 a0_2, .slice A0_3 l0_3.length c0_3] 49 (0, 0)) (sk BK579) hg (Kd.S_ne HO_9.out BK579.out (by decide))); replace HO590 := am (Kd.R_over' (sr HO590) (Kd.S_typed (ss HO_9)) (by decide) hg); replace BK595 := am (blk_grown (g := gb595) (o := .cells #[.int .i64 t587, .slice Ao22 t588.length co22, .slice Ao23 t591.length co23] 29 (0, 0)) (sk BK595) hg (Kd.S_ne HO_9.out BK595.out (by decide))); replace HB := am hb; have HO598 := am ho; clear HO_9 HO593; clear ho hb hg hat))
    go_roundg k1
    case measure => have := HK1.out; omega
    case rel => exact ⟨(y596), (wrap64 (x20_1 + 1)), sc, H', kk1, ⟨by (with_reducible repeat (first | apply Kd.S_alloc | apply Kd.S_drewN | apply Kd.S_drew)); exact Kd.S_mono HO598.out (fun _ hk => hk.1)⟩, ⟨by exact rm HO_18 (fun _ hk => trivial)⟩, ⟨sk BK579⟩, ⟨sbw⟩⟩
   ·obtain ⟨t599, A27, H⟩ := bnd H
    obtain rfl := Option.some.inj H
    obtain ⟨Ao28, co28, eo28⟩ := Kd.S_slice HO_9.out
    subst eo28
    go_wp2_with (first | ((with_reducible refine gc 81 rfl ?_); refine gL (some 38) Try.func81 #[.slice Ao28 x9_1.length co28] ?_; (with_reducible refine (impl_UnionHasLoop.calls k1 _ _ x9_1 t599 _ ?side1 ?side2 A27.out).mono ?_); (case side1 => repeat (first | exact (Kd.S_reads' HO_9.out).2.2 | (with_reducible refine Kd.C_alloc ?_ _) | (with_reducible refine Kd.C_drewN ?_ _) | (with_reducible refine Kd.C_drew ?_))); (case side2 => exact (Kd.S_reads' HO_9.out).2.1); rintro e w29 ⟨rfl, hb⟩; refine ⟨_, rfl, ?_⟩; replace HO_9 := am (Kd.S_below (ss HO_9) hb); replace HO_18 := rb HO_18 hb; replace BK579 := bb BK579 hb; replace HB := bsw hb; (try clear hb)))
    go_ret
    exact ⟨se, sbw⟩

def impl_HopAt.f (k : Nat) (a0_0 : Int) (a0_1 : Int) (a0_2 : Int) (l0_3 : List (S75)) (a1 : Int) (a2 : Int) (a3 : Int) : Option (Int) := (impl_PieceAt.f a0_0 a0_1 a0_2 l0_3 a3).bind fun t601 => ((impl_nextIn.f a0_0 a0_1 a0_2 l0_3 t601 a2 a1).bind fun bt602 => (if bt602.2 = true then ((impl_isSkewed.f a0_0 a0_1 a0_2 l0_3 a3).bind fun t604 => (if t604 = true then ((impl_IsSafeMix.f k a0_0 a0_1 a0_2 l0_3 a2 (wrap64 (a3 - (wrap64 (2 * a0_2)))) (wrap64 (a3 + (wrap64 (2 * a0_2))))).bind fun t605 => (if t605 = true then (some bt602.1) else (some (-1)))) else (some (-1)))) else (some (-1))))
theorem impl_HopAt.mono : ∀ a0 a1 a2 a3 a4 a5 a6 k, LeO (impl_HopAt.f k a0 a1 a2 a3 a4 a5 a6) (impl_HopAt.f (k + 1) a0 a1 a2 a3 a4 a5 a6) := by
  intro a0 a1 a2 a3 a4 a5 a6 k
  unfold impl_HopAt.f
  have m0 := @impl_IsSafeMix.mono
  exact mo
def impl_HopAt.T1 : Bool × List (List Nat × List Nat) := (true, [([], []), ([], []), ([], []), ([1, 2], [1, 2]), ([], []), ([], []), ([0, 3, 4, 5, 3], [0, 3, 4, 5]), ([6], [6]), ([7], [7]), ([7], [7]), ([8, 6, 0, 1, 2, 3, 4, 5, 6, 7, 8], [8]), ([9, 10, 0, 1, 2, 3, 4, 5, 6, 7, 8, 9, 10], [9])])
def impl_HopAt.B1 : List Nat := [0, 0, 0, 6, 0, 0, 63, 127, 255, 255, 511, 2047]
theorem impl_HopAt.tab1 : rtab .any (opsOf Try.f44 1) = impl_HopAt.T1 := by kernel_rfl
theorem impl_HopAt.bits1 : waitsOk impl_HopAt.T1.2 impl_HopAt.B1 = true := by kernel_rfl
theorem e16_0 {P : Prop} (h : P := by
 obtain rfl := Option.some.inj H
 go_enter Try.func44, Try.ntmps44
 try go_wp2_with (first | ((with_reducible refine gd 4 rfl ?_); refine bx 4 #[.int .i64 a0_0, .int .i64 a0_1, .int .i64 a0_2, .slice A0_3 l0_3.length c0_3] 49 ?_; intro gb600 hg w12 hbox hb; have GW600 := bz w hg; have GE600 := bz w hg; replace HB := bs hb; have BK600 := am hbox; clear hb hbox hg))
 replace BK600 := am (blk_drew BK600.out)
 replace HB := am (below_drew1 HB.out)
 refine start_ (n := 12) (S := fun w' => w'.cell? ⟨gb600, 0, none⟩ = some (.int .i64 a0_0) ∧ w'.cell? ⟨gb600, 1, none⟩ = some (.int .i64 a0_1) ∧ w'.cell? ⟨gb600, 2, none⟩ = some (.int .i64 a0_2) ∧ w'.cell? ⟨gb600, 3, none⟩ = some (.slice A0_3 l0_3.length c0_3)) (ds := []) #[false, false, false, false, false, false, false, false, false, false, false, false] (by kernel_rfl) rfl rfl ⟨bc0 BK600, bc1 BK600, bc2 BK600, bc3 BK600⟩ (fun hHeld => ?_); refine with_tabW impl_HopAt.tab1 impl_HopAt.bits1 (fun HT_ HW_ => ?_)
 generalize w12.drew = w13 at BK600 HB hHeld ⊢
 refine put 2 14 (bt 12 4) HT_ ?_
 refine put 4 16 (bt 12 20) HT_ ?_
 refine put 5 17 (bt 12 52) HT_ ?_
 refine tat4 0 12 (bt 12 53) HT_ HW_ hHeld ?_
 refine tat4 1 13 (bt 12 55) HT_ HW_ hHeld ?_
 refine on 3 15 (bt 12 63) HT_ (fun K hK => ?_)
 refine goes_ Try.func47 (by kernel_rfl) rfl #[.agg #[.int .i64 a0_0, .int .i64 a0_1, .int .i64 a0_2, .slice A0_3 l0_3.length c0_3], .int .i64 a3] (by rfl) rfl rfl sl ?_
 with_reducible refine (impl_PieceAt.calls a0_0 a0_1 a0_2 _ _ l0_3 a3 t601 _ ?side1 ?side2 A5.out).mono ?_
 (case side1 => exact cb HR0_3)
 (case side2 => exact HC0_3.out)
 rintro e w14 ⟨rfl, hb⟩
 refine ⟨_, rfl, ?_⟩
 replace BK600 := bb BK600 hb
 replace HB := bsw hb
 (try clear hb)
 (try clear hb2)
 (try clear hk)
 (try clear hi)
 refine hK.out _ _ ⟨bc0 BK600, bc1 BK600, bc2 BK600, bc3 BK600⟩ (fun hHeld => ?_)
 clear hK K
 refine nm 15 ?_
 refine on 6 18 (bt 12 127) HT_ (fun K hK => ?_)
 refine goes_ Try.func61 (by kernel_rfl) rfl #[.agg #[.int .i64 a0_0, .int .i64 a0_1, .int .i64 a0_2, .slice A0_3 l0_3.length c0_3], .int .i64 t601, .int .i64 a2, .int .i64 a1] (by rfl) rfl rfl sl ?_
 with_reducible refine (impl_nextIn.calls a0_0 a0_1 a0_2 _ _ l0_3 t601 a2 a1 t602 true _ ?side1 ?side2 A6.out).mono ?_
 (case side1 => exact cb HR0_3)
 (case side2 => exact HC0_3.out)
 rintro e w15 ⟨rfl, hb⟩
 refine ⟨_, rfl, ?_⟩
 replace BK600 := bb BK600 hb
 replace HB := bsw hb
 (try clear hb)
 (try clear hb2)
 (try clear hk)
 (try clear hi)
 refine hK.out _ _ ⟨bc0 BK600, bc1 BK600, bc2 BK600, bc3 BK600⟩ (fun hHeld => ?_)
 clear hK K
 refine nm 18 ?_
 refine put 7 11 (bt 12 255) HT_ ?_
 refine put 8 19 (bt 12 511) HT_ ?_
 refine put 9 20 (bt 12 1023) HT_ ?_
 refine put 10 9 (bt 12 2047) HT_ ?_
 refine put 11 10 (bt 12 4095) HT_ ?_
 refine done_ (done_of HT_.out (by kernel_rfl)) ?_
 obtain ⟨hcz16_0, hcz16_1, hcz16_2, hcz16_3, hfz16_0, hfz16_1, hfz16_2, hfz16_3⟩ := cc4 BK600
 try go_wp2_with (first | (have _ := A10; go_at_call 62; (with_reducible refine (impl_isSkewed.calls a0_0 a0_1 a0_2 _ _ l0_3 a3 true _ ?side1 ?side2 A8.out).mono ?_); (case side1 => exact cb HR0_3); (case side2 => exact HC0_3.out); rintro e w17 ⟨rfl, hb⟩; replace BK600 := bb BK600 hb; replace HB := bsw hb; (try clear hb); obtain ⟨hcz18_0, hcz18_1, hcz18_2, hcz18_3, hfz18_0, hfz18_1, hfz18_2, hfz18_3⟩ := cc4 BK600) | (have _ := A10; go_at_call 63; (try simp only [i64_w, i32_w]); (with_reducible refine (impl_IsSafeMix.calls k a0_0 a0_1 a0_2 _ _ l0_3 a2 (wrap64 (a3 - (wrap64 (2 * a0_2)))) (wrap64 (a3 + (wrap64 (2 * a0_2)))) true _ ?side1 ?side2 A10.out).mono ?_); (case side1 => exact cb HR0_3); (case side2 => exact HC0_3.out); rintro e w19 ⟨rfl, hb⟩; replace BK600 := bb BK600 hb; replace HB := bsw hb; (try clear hb)) | (go_at_call 62; (with_reducible refine (impl_isSkewed.calls a0_0 a0_1 a0_2 _ _ l0_3 a3 false _ ?side1 ?side2 A8.out).mono ?_); (case side1 => exact cb HR0_3); (case side2 => exact HC0_3.out); rintro e w33 ⟨rfl, hb⟩; replace BK600 := bb BK600 hb; replace HB := bsw hb; (try clear hb)))
 go_ret
 exact ⟨se, sbw⟩) : P := h
theorem impl_HopAt.calls (k : Nat) (a0_0 : Int) (a0_1 : Int) (a0_2 : Int) (A0_3 : Option Addr) (c0_3 : Nat) (l0_3 : List (S75)) (a1 : Int) (a2 : Int) (a3 : Int) (r : Int) (w : World) (hr0_3 : Kd.C k75 w A0_3 l0_3.length l0_3) (hc0_3 : l0_3.length ≤ c0_3) (h : impl_HopAt.f k a0_0 a0_1 a0_2 l0_3 a1 a2 a3 = some r) :
    Calls Try.prog 44 #[.agg #[.int .i64 a0_0, .int .i64 a0_1, .int .i64 a0_2, .slice A0_3 l0_3.length c0_3], .int .i64 a1, .int .i64 a2, .int .i64 a3] w fun e w' => e = .returned (.int .i64 r) ∧ Below w.heap.size w w' := by
 have hu49 := Try.underlying49
 have HR0_3 := am hr0_3
 have HC0_3 := am hc0_3
 clear hr0_3 hc0_3
 have HB := am (Below.refl w.heap.size w)
 have H := h; unfold impl_HopAt.f at H
 clear h
 obtain ⟨t601, A5, H⟩ := bnd H
 obtain ⟨⟨t602, t603⟩, A6, H⟩ := bnd H
 try dsimp only at H
 obtain rfl | rfl := tt t603
 ·replace H := ip H
  obtain ⟨t604, A8, H⟩ := bnd H
  obtain rfl | rfl := tt t604
  ·replace H := ip H
   obtain ⟨t605, A10, H⟩ := bnd H
   obtain rfl | rfl := tt t605
   ·replace H := ip H
    exact e16_0
   ·replace H := im H
    obtain rfl := Option.some.inj H
    go_enter Try.func44, Try.ntmps44
    try go_wp2_with (first | ((with_reducible refine gd 4 rfl ?_); refine bx 4 #[.int .i64 a0_0, .int .i64 a0_1, .int .i64 a0_2, .slice A0_3 l0_3.length c0_3] 49 ?_; intro gb600 hg w20 hbox hb; have GW600 := bz w hg; have GE600 := bz w hg; replace HB := bs hb; have BK600 := am hbox; clear hb hbox hg))
    replace BK600 := am (blk_drew BK600.out)
    replace HB := am (below_drew1 HB.out)
    refine start_ (n := 12) (S := fun w' => w'.cell? ⟨gb600, 0, none⟩ = some (.int .i64 a0_0) ∧ w'.cell? ⟨gb600, 1, none⟩ = some (.int .i64 a0_1) ∧ w'.cell? ⟨gb600, 2, none⟩ = some (.int .i64 a0_2) ∧ w'.cell? ⟨gb600, 3, none⟩ = some (.slice A0_3 l0_3.length c0_3)) (ds := []) #[false, false, false, false, false, false, false, false, false, false, false, false] (by kernel_rfl) rfl rfl ⟨bc0 BK600, bc1 BK600, bc2 BK600, bc3 BK600⟩ (fun hHeld => ?_); refine with_tabW impl_HopAt.tab1 impl_HopAt.bits1 (fun HT_ HW_ => ?_)
    generalize w20.drew = w21 at BK600 HB hHeld ⊢
    refine put 2 14 (bt 12 4) HT_ ?_
    refine put 4 16 (bt 12 20) HT_ ?_
    refine put 5 17 (bt 12 52) HT_ ?_
    refine tat4 0 12 (bt 12 53) HT_ HW_ hHeld ?_
    refine tat4 1 13 (bt 12 55) HT_ HW_ hHeld ?_
    refine on 3 15 (bt 12 63) HT_ (fun K hK => ?_)
    refine goes_ Try.func47 (by kernel_rfl) rfl #[.agg #[.int .i64 a0_0, .int .i64 a0_1, .int .i64 a0_2, .slice A0_3 l0_3.length c0_3], .int .i64 a3] (by rfl) rfl rfl sl ?_
    with_reducible refine (impl_PieceAt.calls a0_0 a0_1 a0_2 _ _ l0_3 a3 t601 _ ?side1 ?side2 A5.out).mono ?_
    (case side1 => exact cb HR0_3)
    (case side2 => exact HC0_3.out)
    rintro e w22 ⟨rfl, hb⟩
    refine ⟨_, rfl, ?_⟩
    replace BK600 := bb BK600 hb
    replace HB := bsw hb
    (try clear hb)
    (try clear hb2)
    (try clear hk)
    (try clear hi)
    refine hK.out _ _ ⟨bc0 BK600, bc1 BK600, bc2 BK600, bc3 BK600⟩ (fun hHeld => ?_)
    clear hK K
    refine nm 15 ?_
    refine on 6 18 (bt 12 127) HT_ (fun K hK => ?_)
    refine goes_ Try.func61 (by kernel_rfl) rfl #[.agg #[.int .i64 a0_0, .int .i64 a0_1, .int .i64 a0_2, .slice A0_3 l0_3.length c0_3], .int .i64 t601, .int .i64 a2, .int .i64 a1] (by rfl) rfl rfl sl ?_
    with_reducible refine (impl_nextIn.calls a0_0 a0_1 a0_2 _ _ l0_3 t601 a2 a1 t602 true _ ?side1 ?side2 A6.out).mono ?_
    (case side1 => exact cb HR0_3)
    (case side2 => exact HC0_3.out)
    rintro e w23 ⟨rfl, hb⟩
    refine ⟨_, rfl, ?_⟩
    replace BK600 := bb BK600 hb
    replace HB := bsw hb
    (try clear hb)
    (try clear hb2)
    (try clear hk)
    (try clear hi)
    refine hK.out _ _ ⟨bc0 BK600, bc1 BK600, bc2 BK600, bc3 BK600⟩ (fun hHeld => ?_)
    clear hK K
    refine nm 18 ?_
    refine put 7 11 (bt 12 255) HT_ ?_
    refine put 8 19 (bt 12 511) HT_ ?_
    refine put 9 20 (bt 12 1023) HT_ ?_
    refine put 10 9 (bt 12 2047) HT_ ?_
    refine put 11 10 (bt 12 4095) HT_ ?_
    refine done_ (done_of HT_.out (by kernel_rfl)) ?_
    obtain ⟨hcz24_0, hcz24_1, hcz24_2, hcz24_3, hfz24_0, hfz24_1, hfz24_2, hfz24_3⟩ := cc4 BK600
    try go_wp2_with (first | (go_at_call 62; (with_reducible refine (impl_isSkewed.calls a0_0 a0_1 a0_2 _ _ l0_3 a3 true _ ?side1 ?side2 A8.out).mono ?_); (case side1 => exact cb HR0_3); (case side2 => exact HC0_3.out); rintro e w25 ⟨rfl, hb⟩; replace BK600 := bb BK600 hb; replace HB := bsw hb; (try clear hb); obtain ⟨hcz26_0, hcz26_1, hcz26_2, hcz26_3, hfz26_0, hfz26_1, hfz26_2, hfz26_3⟩ := cc4 BK600) | (go_at_call 63; (try simp only [i64_w, i32_w]); (with_reducible refine (impl_IsSafeMix.calls k a0_0 a0_1 a0_2 _ _ l0_3 a2 (wrap64 (a3 - (wrap64 (2 * a0_2)))) (wrap64 (a3 + (wrap64 (2 * a0_2)))) false _ ?side1 ?side2 A10.out).mono ?_); (case side1 => exact cb HR0_3); (case side2 => exact HC0_3.out); rintro e w27 ⟨rfl, hb⟩; replace BK600 := bb BK600 hb; replace HB := bsw hb; (try clear hb)))
    go_ret
    exact ⟨se, sbw⟩
  ·replace H := im H
   exact e16_0
 ·replace H := im H
  obtain rfl := Option.some.inj H
  go_enter Try.func44, Try.ntmps44
  try go_wp2_with (first | ((with_reducible refine gd 4 rfl ?_); refine bx 4 #[.int .i64 a0_0, .int .i64 a0_1, .int .i64 a0_2, .slice A0_3 l0_3.length c0_3] 49 ?_; intro gb600 hg w34 hbox hb; have GW600 := bz w hg; have GE600 := bz w hg; replace HB := bs hb; have BK600 := am hbox; clear hb hbox hg))
  replace BK600 := am (blk_drew BK600.out)
  replace HB := am (below_drew1 HB.out)
  refine start_ (n := 12) (S := fun w' => w'.cell? ⟨gb600, 0, none⟩ = some (.int .i64 a0_0) ∧ w'.cell? ⟨gb600, 1, none⟩ = some (.int .i64 a0_1) ∧ w'.cell? ⟨gb600, 2, none⟩ = some (.int .i64 a0_2) ∧ w'.cell? ⟨gb600, 3, none⟩ = some (.slice A0_3 l0_3.length c0_3)) (ds := []) #[false, false, false, false, false, false, false, false, false, false, false, false] (by kernel_rfl) rfl rfl ⟨bc0 BK600, bc1 BK600, bc2 BK600, bc3 BK600⟩ (fun hHeld => ?_); refine with_tabW impl_HopAt.tab1 impl_HopAt.bits1 (fun HT_ HW_ => ?_)
  generalize w34.drew = w35 at BK600 HB hHeld ⊢
  refine put 2 14 (bt 12 4) HT_ ?_
  refine put 4 16 (bt 12 20) HT_ ?_
  refine put 5 17 (bt 12 52) HT_ ?_
  refine tat4 0 12 (bt 12 53) HT_ HW_ hHeld ?_
  refine tat4 1 13 (bt 12 55) HT_ HW_ hHeld ?_
  refine on 3 15 (bt 12 63) HT_ (fun K hK => ?_)
  refine goes_ Try.func47 (by kernel_rfl) rfl #[.agg #[.int .i64 a0_0, .int .i64 a0_1, .int .i64 a0_2, .slice A0_3 l0_3.length c0_3], .int .i64 a3] (by rfl) rfl rfl sl ?_
  with_reducible refine (impl_PieceAt.calls a0_0 a0_1 a0_2 _ _ l0_3 a3 t601 _ ?side1 ?side2 A5.out).mono ?_
  (case side1 => exact cb HR0_3)
  (case side2 => exact HC0_3.out)
  rintro e w36 ⟨rfl, hb⟩
  refine ⟨_, rfl, ?_⟩
  replace BK600 := bb BK600 hb
  replace HB := bsw hb
  (try clear hb)
  (try clear hb2)
  (try clear hk)
  (try clear hi)
  refine hK.out _ _ ⟨bc0 BK600, bc1 BK600, bc2 BK600, bc3 BK600⟩ (fun hHeld => ?_)
  clear hK K
  refine nm 15 ?_
  refine on 6 18 (bt 12 127) HT_ (fun K hK => ?_)
  refine goes_ Try.func61 (by kernel_rfl) rfl #[.agg #[.int .i64 a0_0, .int .i64 a0_1, .int .i64 a0_2, .slice A0_3 l0_3.length c0_3], .int .i64 t601, .int .i64 a2, .int .i64 a1] (by rfl) rfl rfl sl ?_
  with_reducible refine (impl_nextIn.calls a0_0 a0_1 a0_2 _ _ l0_3 t601 a2 a1 t602 false _ ?side1 ?side2 A6.out).mono ?_
  (case side1 => exact cb HR0_3)
  (case side2 => exact HC0_3.out)
  rintro e w37 ⟨rfl, hb⟩
  refine ⟨_, rfl, ?_⟩
  replace BK600 := bb BK600 hb
  replace HB := bsw hb
  (try clear hb)
  (try clear hb2)
  (try clear hk)
  (try clear hi)
  refine hK.out _ _ ⟨bc0 BK600, bc1 BK600, bc2 BK600, bc3 BK600⟩ (fun hHeld => ?_)
  clear hK K
  refine nm 18 ?_
  refine put 7 11 (bt 12 255) HT_ ?_
  refine put 8 19 (bt 12 511) HT_ ?_
  refine put 9 20 (bt 12 1023) HT_ ?_
  refine put 10 9 (bt 12 2047) HT_ ?_
  refine put 11 10 (bt 12 4095) HT_ ?_
  refine done_ (done_of HT_.out (by kernel_rfl)) ?_
  try go_wp2
  go_ret
  exact ⟨se, sbw⟩

end Go.Proofs.Ytohbccekdmdmbaa.QFnExactRepairHop
