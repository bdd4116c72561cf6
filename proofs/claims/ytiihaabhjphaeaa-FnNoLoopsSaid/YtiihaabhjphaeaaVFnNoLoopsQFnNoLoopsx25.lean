/- Printed by a program of the session. Conditions: none. (squeezed). -/
import Derived.Test.YtiihaabhjphaeaaVFnNoLoopsQFnNoLoopsx23
import Derived.Test.YtiihaabhjphaeaaVFnNoLoopsQFnNoLoopsx24
namespace Go.Proofs.Ytiihaabhjphaeaa.QFnNoLoops
set_option maxHeartbeats 8000000
set_option maxRecDepth 100000
open Go.RowKit Go.Proofs.YtiihaabhjphaeaaW.PrintWords Go.Proofs.YtiihaabhjphaeaaW.PrintLast Go.Proofs.YtiihaabhjphaeaaW.PrintMore Go.Proofs.Ytiihaabhjphaeaa.Open Go.Proofs.Ytiihaabhjphaeaa.Sq
attribute [local go_sem] max2_int min2_int max_two min_two max_three min_three max_four min_four   -- for this text's walks alone
attribute [local go_sem] isSome_set
set_option linter.unusedVariables false
set_option linter.unusedSimpArgs false

theorem a25_11 {P : Prop} (h : P := by (with_reducible repeat (first | apply Kd.S_alloc | apply Kd.S_drewN | apply Kd.S_drew)); exact Kd.S_mono HO781.out (fun _ hk => ⟨hk.1.1.1.1, ⟨hk.1.1.1.2, ⟨hk.2, hk.1.2⟩⟩⟩)) : P := h
theorem a25_10 {P : Prop} (h : P := by (with_reducible repeat (first | apply Kd.S_alloc | apply Kd.S_drewN | apply Kd.S_drew)); exact Kd.S_mono HO799.out (fun _ hk => ⟨hk.1.1.2, ⟨hk.1.2, ⟨hk.1.1.1.1, hk.1.1.1.2⟩⟩⟩)) : P := h
theorem a25_9 {P : Prop} (h : P := by (with_reducible repeat (first | apply Kd.R_alloc | apply Kd.R_drewN | apply Kd.R_drew)); exact (Kd.R_mono (Kd.R_far (p := ⟨gb804, 3, none⟩) (h3 HO803 BK804) (fun _ hk => hk.2) (.slice Ao24 t797.length co24)) (fun _ h_ => h_.1))) : P := h
theorem a25_8 {P : Prop} (h : P := by (with_reducible repeat (first | apply Kd.R_alloc | apply Kd.R_drewN | apply Kd.R_drew)); exact (Kd.R_mono (Kd.R_far (p := ⟨gb804, 3, none⟩) (h3 HO793 BK804) (fun _ hk => hk.2) (.slice Ao24 t797.length co24)) (fun _ h_ => h_.1))) : P := h
theorem a25_7 {P : Prop} (h : P := by (with_reducible repeat (first | apply Kd.R_alloc | apply Kd.R_drewN | apply Kd.R_drew)); exact (Kd.R_mono (Kd.R_far (p := ⟨gb804, 3, none⟩) (h3 HO786 BK804) (fun _ hk => hk.2) (.slice Ao24 t797.length co24)) (fun _ h_ => h_.1))) : P := h
theorem a25_6 {P : Prop} (h : P := by (with_reducible repeat (first | apply Kd.R_alloc | apply Kd.R_drewN | apply Kd.R_drew)); exact (Kd.R_mono (Kd.R_far (p := ⟨gb787, 3, none⟩) (h3 HO786 BK787) (fun _ hk => hk.2) (.slice Ao51 t779.length co51)) (fun _ h_ => h_.1))) : P := h
theorem a25_5 {P : Prop} (h : P := by (with_reducible repeat (first | apply Kd.R_alloc | apply Kd.R_drewN | apply Kd.R_drew)); exact (Kd.R_mono (Kd.R_far (p := ⟨gb787, 3, none⟩) (h3 HO786 BK787) (fun _ hk => hk.2) (.slice Ao13 t779.length co13)) (fun _ h_ => h_.1))) : P := h
theorem a25_4 {P : Prop} (h : P := by (with_reducible repeat (first | apply Kd.S_alloc | apply Kd.S_drewN | apply Kd.S_drew)); exact (Kd.S_mono (Kd.S_far (p := ⟨gb787, 3, none⟩) (Kd.S_far (p := ⟨gb787, 2, none⟩) (Kd.S_far (p := ⟨gb787, 1, none⟩) (Kd.S_far (p := ⟨gb787, 0, none⟩) (Kd.S_types HO781.out BK787.out (by decide)) (fun _ hk => hk.2) (.int .i64 t776)) (fun _ hk => hk.2) (.int .i64 t777)) (fun _ hk => hk.2) (.int .i64 t778)) (fun _ hk => hk.2) (.slice Ao51 t779.length co51)) (fun _ h_ => h_.1))) : P := h
theorem a25_3 {P : Prop} (h : P := by (with_reducible repeat (first | apply Kd.S_alloc | apply Kd.S_drewN | apply Kd.S_drew)); exact (Kd.S_mono (Kd.S_far (p := ⟨gb804, 3, none⟩) (Kd.S_far (p := ⟨gb804, 2, none⟩) (Kd.S_far (p := ⟨gb804, 1, none⟩) (Kd.S_far (p := ⟨gb804, 0, none⟩) (Kd.S_types HO799.out BK804.out (by decide)) (fun _ hk => hk.2) (.int .i64 t794)) (fun _ hk => hk.2) (.int .i64 t795)) (fun _ hk => hk.2) (.int .i64 t796)) (fun _ hk => hk.2) (.slice Ao24 t797.length co24)) (fun _ h_ => h_.1))) : P := h
theorem a25_2 {P : Prop} (h : P := by (with_reducible repeat (first | apply Kd.S_alloc | apply Kd.S_drewN | apply Kd.S_drew)); exact (Kd.S_mono (Kd.S_far (p := ⟨gb804, 3, none⟩) (Kd.S_far (p := ⟨gb804, 2, none⟩) (Kd.S_far (p := ⟨gb804, 1, none⟩) (Kd.S_far (p := ⟨gb804, 0, none⟩) (Kd.S_types HO781.out BK804.out (by decide)) (fun _ hk => hk.2) (.int .i64 t794)) (fun _ hk => hk.2) (.int .i64 t795)) (fun _ hk => hk.2) (.int .i64 t796)) (fun _ hk => hk.2) (.slice Ao24 t797.length co24)) (fun _ h_ => h_.1))) : P := h
theorem a25_1 {P : Prop} (h : P := by (with_reducible repeat (first | apply Kd.S_alloc | apply Kd.S_drewN | apply Kd.S_drew)); exact (Kd.S_mono (Kd.S_far (p := ⟨gb787, 3, none⟩) (Kd.S_far (p := ⟨gb787, 2, none⟩) (Kd.S_far (p := ⟨gb787, 1, none⟩) (Kd.S_far (p := ⟨gb787, 0, none⟩) (Kd.S_types HO781.out BK787.out (by decide)) (fun _ hk => hk.2) (.int .i64 t776)) (fun _ hk => hk.2) (.int .i64 t777)) (fun _ hk => hk.2) (.int .i64 t778)) (fun _ hk => hk.2) (.slice Ao13 t779.length co13)) (fun _ h_ => h_.1))) : P := h
theorem a25_0 {P : Prop} (h : P := by (with_reducible repeat (first | apply Kd.R_alloc | apply Kd.R_drewN | apply Kd.R_drew)); exact (Kd.R_mono (Kd.R_far (p := ⟨gb804, 3, none⟩) (h3 HO790 BK804) (fun _ hk => hk.2) (.slice Ao24 t797.length co24)) (fun _ h_ => h_.1))) : P := h
mutual
def laws_FnNoLoops.j0 : Nat → Int → Int → List Int → List Int → Int → List Int → Bool → Int → Int → Int → List (S105) → Int → Int → Int → List (S105) → Option (Bool)
  | 0, _, _, _, _, _, _, _, _, _, _, _, _, _, _, _ => none
  | k + 1, x4, x5, x6, x7, x9, x10, x48, x788000, x788001, x788002, x788003, x805000, x805001, x805002, x805003 => if x48 = true then (some false) else (laws_FnNoLoops.l0 k x4 x5 x6 x7 x9 x10 0 x788000 x788001 x788002 x788003 x805000 x805001 x805002 x805003)
def laws_FnNoLoops.l0 : Nat → Int → Int → List Int → List Int → Int → List Int → Int → Int → Int → Int → List (S105) → Int → Int → Int → List (S105) → Option (Bool)
  | 0, _, _, _, _, _, _, _, _, _, _, _, _, _, _, _ => none
  | k + 1, x4, x5, x6, x7, x9, x10, x11, x788000, x788001, x788002, x788003, x805000, x805001, x805002, x805003 => if x11 < (x7.length : Int) then (if 0 ≤ x11 then (if x11 < (x6.length : Int) then ((impl_HopAt.f k x788000 x788001 x788002 x788003 x11 x4 (wrap64 (x5 + (rd x6 x11)))).bind fun t809 => (if (rd x7 x11) = t809 then (laws_FnNoLoops.l0 k x4 x5 x6 x7 x9 x10 (wrap64 (x11 + 1)) x788000 x788001 x788002 x788003 x805000 x805001 x805002 x805003) else (some false))) else (none)) else (none)) else ((impl_HeldAt.f k x805000 x805001 x805002 x805003 x9 x10).bind fun t810 => (some (decide (t810 ≤ (wrap64 (x805000 * x805000))))))
end
def laws_FnNoLoops.f (k : Nat) (l0 : List Int) : Option (Bool) := (laws_big.f l0).bind fun t775 => (if t775 = true then (some true) else ((spec_DrawNextsAt.f k l0).bind fun bt776 => ((impl_NextsAt.f k bt776.1 bt776.2.1 bt776.2.2.1 bt776.2.2.2.1 bt776.2.2.2.2.1 bt776.2.2.2.2.2.1 bt776.2.2.2.2.2.2).bind fun t788 => ((spec_NextsAt.f k bt776.1 bt776.2.1 bt776.2.2.1 bt776.2.2.2.1 bt776.2.2.2.2.1 bt776.2.2.2.2.2.1 bt776.2.2.2.2.2.2).bind fun t791 => (if (t788.length : Int) = (t791.length : Int) then ((spec_DrawAnyLoopAt.f k l0).bind fun bt794 => ((impl_HasLoop.f k t788).bind fun t805 => (if t805 = true then (laws_FnNoLoops.j0 k bt776.2.2.2.2.1 bt776.2.2.2.2.2.1 bt776.2.2.2.2.2.2 t788 bt794.2.2.2.2.1 bt794.2.2.2.2.2 true bt776.1 bt776.2.1 bt776.2.2.1 bt776.2.2.2.1 bt794.1 bt794.2.1 bt794.2.2.1 bt794.2.2.2.1) else ((impl_AnyLoopAt.f k bt794.1 bt794.2.1 bt794.2.2.1 bt794.2.2.2.1 bt794.2.2.2.2.1 bt794.2.2.2.2.2).bind fun t806 => (laws_FnNoLoops.j0 k bt776.2.2.2.2.1 bt776.2.2.2.2.2.1 bt776.2.2.2.2.2.2 t788 bt794.2.2.2.2.1 bt794.2.2.2.2.2 t806 bt776.1 bt776.2.1 bt776.2.2.1 bt776.2.2.2.1 bt794.1 bt794.2.1 bt794.2.2.1 bt794.2.2.2.1))))) else (some false))))))
theorem laws_FnNoLoops.mono_l : ∀ k, (∀ y0 y1 y2 y3 y4 y5 y6 y7 y8 y9 y10 y11 y12 y13 y14, LeO (laws_FnNoLoops.j0 k y0 y1 y2 y3 y4 y5 y6 y7 y8 y9 y10 y11 y12 y13 y14) (laws_FnNoLoops.j0 (k + 1) y0 y1 y2 y3 y4 y5 y6 y7 y8 y9 y10 y11 y12 y13 y14)) ∧ (∀ y0 y1 y2 y3 y4 y5 y6 y7 y8 y9 y10 y11 y12 y13 y14, LeO (laws_FnNoLoops.l0 k y0 y1 y2 y3 y4 y5 y6 y7 y8 y9 y10 y11 y12 y13 y14) (laws_FnNoLoops.l0 (k + 1) y0 y1 y2 y3 y4 y5 y6 y7 y8 y9 y10 y11 y12 y13 y14))
  | 0 => ⟨fun _ _ _ _ _ _ _ _ _ _ _ _ _ _ _ r h => by simp [laws_FnNoLoops.j0] at h, fun _ _ _ _ _ _ _ _ _ _ _ _ _ _ _ r h => by simp [laws_FnNoLoops.l0] at h⟩
  | k + 1 => by
    obtain ⟨ih0, ih1⟩ := laws_FnNoLoops.mono_l k
    refine ⟨?_, ?_⟩
    · intro y0 y1 y2 y3 y4 y5 y6 y7 y8 y9 y10 y11 y12 y13 y14
      unfold laws_FnNoLoops.j0
      have m0 := @impl_AnyLoopAt.mono
      have m1 := @impl_HasLoop.mono
      have m2 := @impl_HeldAt.mono
      have m3 := @impl_HopAt.mono
      have m4 := @impl_NextsAt.mono
      have m5 := @spec_DrawAnyLoopAt.mono
      have m6 := @spec_DrawNextsAt.mono
      have m7 := @spec_NextsAt.mono
      exact mo
    · intro y0 y1 y2 y3 y4 y5 y6 y7 y8 y9 y10 y11 y12 y13 y14
      unfold laws_FnNoLoops.l0
      have m0 := @impl_AnyLoopAt.mono
      have m1 := @impl_HasLoop.mono
      have m2 := @impl_HeldAt.mono
      have m3 := @impl_HopAt.mono
      have m4 := @impl_NextsAt.mono
      have m5 := @spec_DrawAnyLoopAt.mono
      have m6 := @spec_DrawNextsAt.mono
      have m7 := @spec_NextsAt.mono
      exact mo
theorem laws_FnNoLoops.mono : ∀ a0 k, LeO (laws_FnNoLoops.f k a0) (laws_FnNoLoops.f (k + 1) a0) := by
  intro a0 k
  obtain ⟨ih0, ih1⟩ := laws_FnNoLoops.mono_l k
  unfold laws_FnNoLoops.f
  have m0 := @impl_AnyLoopAt.mono
  have m1 := @impl_HasLoop.mono
  have m2 := @impl_HeldAt.mono
  have m3 := @impl_HopAt.mono
  have m4 := @impl_NextsAt.mono
  have m5 := @spec_DrawAnyLoopAt.mono
  have m6 := @spec_DrawNextsAt.mono
  have m7 := @spec_NextsAt.mono
  exact mo
def laws_FnNoLoops.T13 : Bool × List (List Nat × List Nat) := (true, [([], []), ([], []), ([0, 1], [0, 1]), ([2], [2]), ([], []), ([], []), ([], []), ([], []), ([], []), ([], []), ([8, 9], [8, 9]), ([10], [10]), ([7, 11], [7, 11]), ([4, 5, 6, 12], [4, 5, 6, 12]), ([3, 13], [3, 13])])
def laws_FnNoLoops.B13 : List Nat := [0, 0, 3, 7, 0, 0, 0, 0, 0, 0, 768, 1792, 3968, 8176, 16383]
theorem laws_FnNoLoops.tab13 : rtab .any (opsOf Try.f4 13) = laws_FnNoLoops.T13 := by kernel_rfl
theorem laws_FnNoLoops.bits13 : waitsOk laws_FnNoLoops.T13.2 laws_FnNoLoops.B13 = true := by kernel_rfl
def laws_FnNoLoops.T15 : Bool × List (List Nat × List Nat) := (true, [([], []), ([], []), ([], []), ([0, 1, 2], [0, 1, 2]), ([], []), ([4], [4]), ([], []), ([6], [6]), ([5, 7], [5, 7]), ([3, 8], [3, 8]), ([9, 3, 0, 1, 2, 3, 4, 5, 6, 7, 8, 9], [9])])
def laws_FnNoLoops.B15 : List Nat := [0, 0, 0, 7, 0, 16, 0, 64, 240, 511, 1023]
theorem laws_FnNoLoops.tab15 : rtab .any (opsOf Try.f4 15) = laws_FnNoLoops.T15 := by kernel_rfl
theorem laws_FnNoLoops.bits15 : waitsOk laws_FnNoLoops.T15.2 laws_FnNoLoops.B15 = true := by kernel_rfl
theorem laws_FnNoLoops.calls (k : Nat) (A0 : Option Addr) (c0 : Nat) (l0 : List Int) (r : Bool) (w : World) (hr0 : Kd.C (Kd.int .u8) w A0 l0.length l0) (hc0 : l0.length ≤ c0) (h : laws_FnNoLoops.f k l0 = some r) :
    Calls Try.prog 4 #[.slice A0 l0.length c0] w fun e w' => e = .returned (.bool r) ∧ Below w.heap.size w w' := by
 have hu31 := Try.underlying31
 have HR0 := am hr0
 have HC0 := am hc0
 clear hr0 hc0
 have HB := am (Below.refl w.heap.size w)
 have H := h; unfold laws_FnNoLoops.f at H
 clear h
 obtain ⟨t775, A2, H⟩ := bnd H
 obtain rfl | rfl := tt t775
 ·replace H := ip H
  obtain rfl := Option.some.inj H
  go_enter Try.func4, Try.ntmps4
  go_wp2_with (first | ((with_reducible refine gc 12 rfl ?_); refine gL (some 13) Try.func12 #[.slice A0 l0.length c0] ?_; (with_reducible refine (laws_big.calls _ _ l0 true _ ?side1 ?side2 A2.out).mono ?_); (case side1 => repeat (first | exact HR0.out | (with_reducible refine Kd.C_alloc ?_ _) | (with_reducible refine Kd.C_drewN ?_ _) | (with_reducible refine Kd.C_drew ?_))); (case side2 => exact HC0.out); rintro e w' ⟨rfl, ⟨nd, rfl⟩⟩; refine ⟨_, rfl, ?_⟩))
  go_ret
  exact ⟨se, sb⟩
 ·replace H := im H
  obtain ⟨⟨t776, t777, t778, t779, t782, t783, t784⟩, A4, H⟩ := bnd H
  try dsimp only at H
  obtain ⟨t788, A5, H⟩ := bnd H
  obtain ⟨t791, A6, H⟩ := bnd H
  obtain ⟨c7, c7b0, c7b1, H⟩ | ⟨c7, c7b0, c7b1, H⟩ := ib_ H
  ·have c7b2 : (t788.length == t791.length) = true := by first | simpa using c7 | (simp at c7 ⊢; omega)
   clear c7
   obtain ⟨⟨t794, t795, t796, t797, t800, t801⟩, A8, H⟩ := bnd H
   try dsimp only at H
   have HC9 := am H
   clear H
   go_enter Try.func4, Try.ntmps4
   go_upto_region 8 with (first | ((with_reducible refine gc 12 rfl ?_); refine gL (some 13) Try.func12 #[.slice A0 l0.length c0] ?_; (with_reducible refine (laws_big.calls _ _ l0 false _ ?side1 ?side2 A2.out).mono ?_); (case side1 => repeat (first | exact HR0.out | (with_reducible refine Kd.C_alloc ?_ _) | (with_reducible refine Kd.C_drewN ?_ _) | (with_reducible refine Kd.C_drew ?_))); (case side2 => exact HC0.out); rintro e w' ⟨rfl, ⟨nd, rfl⟩⟩; refine ⟨_, rfl, ?_⟩) | ((with_reducible refine gc 22 rfl ?_); refine gL (some 16) Try.func22 #[.slice A0 l0.length c0] ?_; (with_reducible refine (spec_DrawNextsAt.calls k _ _ l0 t776 t777 t778 t779 t782 t783 t784 _ ?side1 ?side2 A4.out).mono ?_); (case side1 => repeat (first | exact HR0.out | (with_reducible refine Kd.C_alloc ?_ _) | (with_reducible refine Kd.C_drewN ?_ _) | (with_reducible refine Kd.C_drew ?_))); (case side2 => exact HC0.out); rintro e w10 ⟨v780, v785, rfl, ho0, ho1, hb⟩; refine ⟨_, rfl, ?_⟩; have HO781 := am (Kd.S_lower ho0 (below_size (sb))); have HO786 := am (Kd.R_lower ho1 (below_size (sb))); replace HB := bs hb; (try clear hb); (try clear hk); (try clear ho0); (try clear ho1)) | ((with_reducible refine gd 3 rfl ?_); refine bx 3 #[.int .i64 0, .int .i64 0, .int .i64 0, .slice none 0 0] 31 ?_; intro gb787 hg w11 hbox hb; replace HO781 := am (Kd.S_below (ss HO781) hb); replace HO786 := rb HO786 hb; have GW787 := bz w hg; have GE787 := bz w hg; replace HB := bs hb; have BK787 := am hbox; clear hb hbox hg; obtain ⟨hcz12_0, hcz12_1, hcz12_2, hcz12_3, hfz12_0, hfz12_1, hfz12_2, hfz12_3⟩ := cc4 BK787; obtain ⟨Ao13, co13, eo13⟩ := Kd.S_slice HO781.out; subst eo13; obtain ⟨Ao14, co14, eo14⟩ := Kd.R_slice HO786.out; subst eo14) | ((with_reducible refine gc 23 rfl ?_); refine gL (some 25) Try.func23 #[.agg #[.int .i64 t776, .int .i64 t777, .int .i64 t778, .slice Ao13 t779.length co13], .int .i64 t782, .int .i64 t783, .slice Ao14 t784.length co14] ?_; (with_reducible refine (impl_NextsAt.calls k t776 t777 t778 _ _ t779 t782 t783 _ _ t784 t788 _ ?side1 ?side2 ?side3 ?side4 A5.out).mono ?_); (case side1 => refine (Kd.S_reads' (e := 105) (base := w.heap.size) (ok := fun k_ => some k_ ≠ (.slice Ao14 t784.length co14 : Value).ownBlock) (n := t779.length) (c := co13) ?_).2.2; exact a25_1); (case side2 => exact (Kd.S_reads' HO781.out).2.1); (case side3 => refine (Kd.R_reads' (e := 3) (base := w.heap.size) (ok := fun k_ => True) (n := t784.length) (c := co14) ?_).2.2; exact a25_5); (case side4 => exact (Kd.R_reads' HO786.out).2.1); rintro e w15 ⟨v789, rfl, ho0, hb⟩; refine ⟨_, rfl, ?_⟩; replace HO781 := am (Kd.S_elder' a25_1 (Kd.R_base ho0) hb); have HO790 := am (Kd.R_lower (Kd.R_new' ho0 (Kd.R_lt a25_5)) (below_size (sbw))); replace HO786 := am (Kd.R_elder' a25_5 (Kd.R_base ho0) hb); replace BK787 := am (blk_below (g := gb787) (o := .cells #[.int .i64 t776, .int .i64 t777, .int .i64 t778, .slice Ao13 t779.length co13] 31 (0, 0)) (sp BK787) hb); replace HB := bsw hb; (try clear hb); (try clear hk); (try clear ho0); obtain ⟨Ao16, co16, eo16⟩ := Kd.R_slice HO790.out; subst eo16; obtain ⟨hcz17_0, hcz17_1, hcz17_2, hcz17_3, hfz17_0, hfz17_1, hfz17_2, hfz17_3⟩ := cc4 BK787) | ((with_reducible refine gc 24 rfl ?_); refine gL (some 32) Try.func24 #[.agg #[.int .i64 t776, .int .i64 t777, .int .i64 t778, .slice Ao13 t779.length co13], .int .i64 t782, .int .i64 t783, .slice Ao14 t784.length co14] ?_; (with_reducible refine (spec_NextsAt.calls k t776 t777 t778 _ _ t779 t782 t783 _ _ t784 t791 _ ?side1 ?side2 ?side3 ?side4 A6.out).mono ?_); (case side1 => repeat (first | exact (Kd.S_reads' HO781.out).2.2 | (with_reducible refine Kd.C_alloc ?_ _) | (with_reducible refine Kd.C_drewN ?_ _) | (with_reducible refine Kd.C_drew ?_))); (case side2 => exact (Kd.S_reads' HO781.out).2.1); (case side3 => exact cr HO786); (case side4 => exact (Kd.R_reads' HO786.out).2.1); rintro e w18 ⟨v792, rfl, ho0, hb⟩; refine ⟨_, rfl, ?_⟩; replace HO781 := am (Kd.S_elder' (ss HO781) (Kd.R_base ho0) hb); have HO793 := am (Kd.R_lower (Kd.R_new' (Kd.R_new' ho0 (Kd.R_lt (sr HO786))) (Kd.R_lt (sr HO790))) (below_size (sbw))); replace HO786 := am (Kd.R_elder' (sr HO786) (Kd.R_base ho0) hb); replace HO790 := am (Kd.R_elder' (sr HO790) (Kd.R_base ho0) hb); replace BK787 := bb BK787 hb; replace HB := bsw hb; (try clear hb); (try clear hk); (try clear ho0); obtain ⟨Ao19, co19, eo19⟩ := Kd.R_slice HO793.out; subst eo19) | ((with_reducible refine gc 25 rfl ?_); refine gL (some 37) Try.func25 #[.slice A0 l0.length c0] ?_; (with_reducible refine (spec_DrawAnyLoopAt.calls k _ _ l0 t794 t795 t796 t797 t800 t801 _ ?side1 ?side2 A8.out).mono ?_); (case side1 => exact cb HR0); (case side2 => exact HC0.out); rintro e w20 ⟨v798, v802, rfl, ho0, ho1, hb⟩; refine ⟨_, rfl, ?_⟩; have HO799 := am (Kd.S_lower (Kd.S_new' (Kd.S_new' (Kd.S_new' (Kd.S_new' ho0 (Kd.S_lt (ss HO781))) (Kd.R_lt (sr HO786))) (Kd.R_lt (sr HO790))) (Kd.R_lt (sr HO793))) (below_size (sbw))); replace HO781 := am (Kd.S_mono (Kd.S_told (Kd.S_told (Kd.S_old (ss HO781) hb) (Kd.S_base ho0)) (Kd.R_base ho1)) (fun _ h_ => h_.1)); have HO803 := am (Kd.R_lower (Kd.R_new' (Kd.R_new' (Kd.R_new' ho1 (Kd.R_lt (sr HO786))) (Kd.R_lt (sr HO790))) (Kd.R_lt (sr HO793))) (below_size (sbw))); replace HO786 := am (Kd.R_elder' (sr HO786) (Kd.R_base ho1) hb); replace HO790 := am (Kd.R_elder' (sr HO790) (Kd.R_base ho1) hb); replace HO793 := am (Kd.R_elder' (sr HO793) (Kd.R_base ho1) hb); replace BK787 := bb BK787 hb; replace HB := bsw hb; (try clear hb); (try clear hk); (try clear ho0); (try clear ho1)) | ((with_reducible refine gd 8 rfl ?_); refine bx 8 #[.int .i64 0, .int .i64 0, .int .i64 0, .slice none 0 0] 31 ?_; intro gb804 hg w21 hbox hb; replace HO781 := am (Kd.S_below (ss HO781) hb); replace HO786 := rb HO786 hb; replace HO790 := rb HO790 hb; replace HO793 := rb HO793 hb; replace HO799 := am (Kd.S_below (ss HO799) hb); replace HO803 := rb HO803 hb; have GW804 := bzw w hg; have GE804 := bzw w hg; replace HB := bsw hb; have BK804 := am hbox; have NB787_804 := nl BK787 hg; have NB804_787 := ng BK787 hg; replace BK787 := bb BK787 hb; clear hb hbox hg; have hnb22 := NB804_787.out; have hnc22 := NB787_804.out; obtain ⟨hcz23_0, hcz23_1, hcz23_2, hcz23_3, hfz23_0, hfz23_1, hfz23_2, hfz23_3⟩ := cc4 BK804; obtain ⟨Ao24, co24, eo24⟩ := Kd.S_slice HO799.out; subst eo24))
   (try simp only [Act.put, List.setIfInBounds_toArray, List.set_cons_zero, List.set_cons_succ])
   go_cut [48] (fun v48 wc => ∃ (kq : Nat) (x48_8 : Bool), v48 = .bool x48_8 ∧ Aside0 (laws_FnNoLoops.j0 kq t782 t783 t784 t788 t800 t801 x48_8 t776 t777 t778 t779 t794 t795 t796 t797 = some r) ∧ Aside0 (kq ≤ k) ∧ Aside0 (Kd.R (Kd.int .i64) 3 wc w.heap.size (fun k_ => some k_ ≠ ((.slice Ao16 t788.length co16) : Value).ownBlock ∧ some k_ ≠ (v802 : Value).ownBlock) (.slice Ao14 t784.length co14) t784) ∧ Aside0 (Kd.R (Kd.int .i64) 3 wc w.heap.size (fun k_ => some k_ ≠ ((.slice Ao14 t784.length co14) : Value).ownBlock ∧ some k_ ≠ (v802 : Value).ownBlock) (.slice Ao16 t788.length co16) t788) ∧ Aside0 (Kd.R (Kd.int .i64) 3 wc w.heap.size (fun k_ => some k_ ≠ ((.slice Ao14 t784.length co14) : Value).ownBlock ∧ some k_ ≠ ((.slice Ao16 t788.length co16) : Value).ownBlock) v802 t801) ∧ Aside0 (Kd.S k105 105 wc w.heap.size (fun k_ => some k_ ≠ ((.slice Ao14 t784.length co14) : Value).ownBlock ∧ some k_ ≠ ((.slice Ao16 t788.length co16) : Value).ownBlock ∧ some k_ ≠ (v802 : Value).ownBlock ∧ some k_ ≠ ((.slice Ao24 t797.length co24) : Value).ownBlock) (.slice Ao13 t779.length co13) t779) ∧ Aside0 (Kd.S k105 105 wc w.heap.size (fun k_ => some k_ ≠ ((.slice Ao14 t784.length co14) : Value).ownBlock ∧ some k_ ≠ ((.slice Ao16 t788.length co16) : Value).ownBlock ∧ some k_ ≠ (v802 : Value).ownBlock ∧ some k_ ≠ ((.slice Ao13 t779.length co13) : Value).ownBlock) (.slice Ao24 t797.length co24) t797) ∧ Aside0 (wc.heap[gb787]? = some (.cells #[.int .i64 t776, .int .i64 t777, .int .i64 t778, (.slice Ao13 t779.length co13)] 31 (0, 0))) ∧ Aside0 (wc.heap[gb804]? = some (.cells #[.int .i64 t794, .int .i64 t795, .int .i64 t796, (.slice Ao24 t797.length co24)] 31 (0, 0))) ∧ Aside0 (Below w.heap.size w wc))
   case first =>
    have H := HC9.out
    clear HC9
    obtain ⟨t805, A25, H⟩ := bnd H
    obtain rfl | rfl := tt t805
    ·replace H := ip H
     have H' := am H
     clear H
     go_wp2_with (first | ((with_reducible refine gc 15 rfl ?_); refine gL (some 42) Try.func15 #[.slice Ao16 t788.length co16] ?_; (with_reducible refine (impl_HasLoop.calls k _ _ t788 true _ ?side1 ?side2 A25.out).mono ?_); (case side1 => refine (Kd.R_reads' (e := 3) (base := w.heap.size) (ok := fun k_ => (((True ∧ some k_ ≠ (.slice Ao14 t784.length co14 : Value).ownBlock) ∧ some k_ ≠ (.slice Ao19 t791.length co19 : Value).ownBlock) ∧ some k_ ≠ (v802 : Value).ownBlock)) (n := t788.length) (c := co16) ?_).2.2; exact a25_0); (case side2 => exact (Kd.R_reads' HO790.out).2.1); rintro e w27 ⟨rfl, hb⟩; refine ⟨_, rfl, ?_⟩; replace HO781 := am (Kd.S_below a25_2 hb); replace HO786 := am (Kd.R_below a25_7 hb); replace HO790 := am (Kd.R_below a25_0 hb); replace HO793 := am (Kd.R_below a25_8 hb); replace HO799 := am (Kd.S_below a25_3 hb); replace HO803 := am (Kd.R_below a25_9 hb); replace BK787 := am (blk_below (g := gb787) (o := .cells #[.int .i64 t776, .int .i64 t777, .int .i64 t778, .slice Ao13 t779.length co13] 31 (0, 0)) (sp BK787) hb); replace BK804 := am (blk_below (g := gb804) (o := .cells #[.int .i64 t794, .int .i64 t795, .int .i64 t796, .slice Ao24 t797.length co24] 31 (0, 0)) (sp BK804) hb); replace HB := bsw hb; (try clear hb); (try clear hk)))
     go_meet
     case rel => exact ⟨_, (true), sc, H', ⟨by first | omega | exact Nat.le_refl _⟩, ⟨by exact rm HO786 (fun _ hk => ⟨hk.1.1.2, hk.2⟩)⟩, ⟨by exact rm HO790 (fun _ hk => ⟨hk.1.1.2, hk.2⟩)⟩, ⟨by exact rm HO803 (fun _ hk => ⟨hk.1.1.2, hk.1.2⟩)⟩, ⟨a25_11⟩, ⟨a25_10⟩, ⟨sk BK787⟩, ⟨sk BK804⟩, ⟨sbw⟩⟩
    ·replace H := im H
     obtain ⟨t806, A28, H⟩ := bnd H
     have H' := am H
     clear H
     go_wp2_with (first | ((with_reducible refine gc 15 rfl ?_); refine gL (some 42) Try.func15 #[.slice Ao16 t788.length co16] ?_; (with_reducible refine (impl_HasLoop.calls k _ _ t788 false _ ?side1 ?side2 A25.out).mono ?_); (case side1 => refine (Kd.R_reads' (e := 3) (base := w.heap.size) (ok := fun k_ => (((True ∧ some k_ ≠ (.slice Ao14 t784.length co14 : Value).ownBlock) ∧ some k_ ≠ (.slice Ao19 t791.length co19 : Value).ownBlock) ∧ some k_ ≠ (v802 : Value).ownBlock)) (n := t788.length) (c := co16) ?_).2.2; exact a25_0); (case side2 => exact (Kd.R_reads' HO790.out).2.1); rintro e w29 ⟨rfl, hb⟩; refine ⟨_, rfl, ?_⟩; replace HO781 := am (Kd.S_below a25_2 hb); replace HO786 := am (Kd.R_below a25_7 hb); replace HO790 := am (Kd.R_below a25_0 hb); replace HO793 := am (Kd.R_below a25_8 hb); replace HO799 := am (Kd.S_below a25_3 hb); replace HO803 := am (Kd.R_below a25_9 hb); replace BK787 := am (blk_below (g := gb787) (o := .cells #[.int .i64 t776, .int .i64 t777, .int .i64 t778, .slice Ao13 t779.length co13] 31 (0, 0)) (sp BK787) hb); replace BK804 := am (blk_below (g := gb804) (o := .cells #[.int .i64 t794, .int .i64 t795, .int .i64 t796, .slice Ao24 t797.length co24] 31 (0, 0)) (sp BK804) hb); replace HB := bsw hb; (try clear hb); (try clear hk); have hnb30 := NB804_787.out; have hnc30 := NB787_804.out; obtain ⟨hcz31_0, hcz31_1, hcz31_2, hcz31_3, hfz31_0, hfz31_1, hfz31_2, hfz31_3⟩ := cc4 BK804; obtain ⟨Ao32, co32, eo32⟩ := Kd.R_slice HO803.out; subst eo32) | (go_at_call 26; (with_reducible refine (impl_AnyLoopAt.calls k t794 t795 t796 _ _ t797 t800 _ _ t801 t806 _ ?side1 ?side2 ?side3 ?side4 A28.out).mono ?_); (case side1 => repeat (first | exact (Kd.S_reads' HO799.out).2.2 | (with_reducible refine Kd.C_alloc ?_ _) | (with_reducible refine Kd.C_drewN ?_ _) | (with_reducible refine Kd.C_drew ?_))); (case side2 => exact (Kd.S_reads' HO799.out).2.1); (case side3 => exact cr HO803); (case side4 => exact (Kd.R_reads' HO803.out).2.1); rintro e w33 ⟨rfl, hb⟩; replace HO781 := am (Kd.S_below (ss HO781) hb); replace HO786 := rb HO786 hb; replace HO790 := rb HO790 hb; replace HO793 := rb HO793 hb; replace HO799 := am (Kd.S_below (ss HO799) hb); replace HO803 := rb HO803 hb; replace BK787 := bb BK787 hb; replace BK804 := bb BK804 hb; replace HB := bsw hb; (try clear hb); (try clear hk)))
     go_meet
     case rel => exact ⟨_, (t806), sc, H', ⟨by first | omega | exact Nat.le_refl _⟩, ⟨by exact rm HO786 (fun _ hk => ⟨hk.1.1.2, hk.2⟩)⟩, ⟨by exact rm HO790 (fun _ hk => ⟨hk.1.1.2, hk.2⟩)⟩, ⟨by exact rm HO803 (fun _ hk => ⟨hk.1.1.2, hk.1.2⟩)⟩, ⟨a25_11⟩, ⟨a25_10⟩, ⟨sk BK787⟩, ⟨sk BK804⟩, ⟨sbw⟩⟩
   case rest =>
    clear HC9
    try clear c7
    try clear c7b0
    try clear c7b1
    try clear c7b2
    obtain ⟨kq, x48_8, rfl, HA, HJ8, HO_6, HO_7, HO_10, HO_788003, HO_805003, BK787, BK804, HB⟩ := hcut
    cases kq with
    | zero => exact absurd HA.out (by simp [laws_FnNoLoops.j0])
    | succ kj8 =>
     have H := HA.out
     clear HA
     simp only [laws_FnNoLoops.j0] at H
     obtain rfl | rfl := tt x48_8
     ·replace H := ip H
      obtain rfl := Option.some.inj H
      go_wp2
      go_ret
      exact ⟨se, sbw⟩
     ·replace H := im H
      have H' := am H
      clear H
      go_wp2
      go_loopg [11] kj8 (fun kq v11 w' => ∃ (x11_2 : Int), v11 = .int .i64 x11_2 ∧ Aside0 (laws_FnNoLoops.l0 kq t782 t783 t784 t788 t800 t801 x11_2 t776 t777 t778 t779 t794 t795 t796 t797 = some r) ∧ Aside0 (kq ≤ kj8) ∧ Aside0 (Kd.R (Kd.int .i64) 3 w' w.heap.size (fun k_ => some k_ ≠ ((.slice Ao16 t788.length co16) : Value).ownBlock ∧ some k_ ≠ (v802 : Value).ownBlock) (.slice Ao14 t784.length co14) t784) ∧ Aside0 (Kd.R (Kd.int .i64) 3 w' w.heap.size (fun k_ => some k_ ≠ ((.slice Ao14 t784.length co14) : Value).ownBlock ∧ some k_ ≠ (v802 : Value).ownBlock) (.slice Ao16 t788.length co16) t788) ∧ Aside0 (Kd.R (Kd.int .i64) 3 w' w.heap.size (fun k_ => some k_ ≠ ((.slice Ao14 t784.length co14) : Value).ownBlock ∧ some k_ ≠ ((.slice Ao16 t788.length co16) : Value).ownBlock) v802 t801) ∧ Aside0 (Kd.S k105 105 w' w.heap.size (fun k_ => some k_ ≠ ((.slice Ao14 t784.length co14) : Value).ownBlock ∧ some k_ ≠ ((.slice Ao16 t788.length co16) : Value).ownBlock ∧ some k_ ≠ (v802 : Value).ownBlock ∧ some k_ ≠ ((.slice Ao24 t797.length co24) : Value).ownBlock) (.slice Ao13 t779.length co13) t779) ∧ Aside0 (Kd.S k105 105 w' w.heap.size (fun k_ => some k_ ≠ ((.slice Ao14 t784.length co14) : Value).ownBlock ∧ some k_ ≠ ((.slice Ao16 t788.length co16) : Value).ownBlock ∧ some k_ ≠ (v802 : Value).ownBlock ∧ some k_ ≠ ((.slice Ao13 t779.length co13) : Value).ownBlock) (.slice Ao24 t797.length co24) t797) ∧ Aside0 (w'.heap[gb787]? = some (.cells #[.int .i64 t776, .int .i64 t777, .int .i64 t778, (.slice Ao13 t779.length co13)] 31 (0, 0))) ∧ Aside0 (w'.heap[gb804]? = some (.cells #[.int .i64 t794, .int .i64 t795, .int .i64 t796, (.slice Ao24 t797.length co24)] 31 (0, 0))) ∧ Aside0 (Below w.heap.size w w'))
      case atStart => exact ⟨(0), sc, H', kk0, ⟨sr HO_6⟩, ⟨sr HO_7⟩, ⟨sr HO_10⟩, ⟨ss HO_788003⟩, ⟨ss HO_805003⟩, ⟨sk BK787⟩, ⟨sk BK804⟩, ⟨sbw⟩⟩
      case round =>
       clear H'
       try clear c7
       try clear c7b0
       try clear c7b1
       try clear c7b2
       obtain ⟨x11_2, rfl, HA, HK2, HO_6, HO_7, HO_10, HO_788003, HO_805003, BK787, BK804, HB⟩ := hrel
       cases gk with
       | zero => exact absurd HA.out (by simp [laws_FnNoLoops.l0])
       | succ k2 =>
        have H := HA.out
        clear HA
        simp only [laws_FnNoLoops.l0] at H
        obtain ⟨-, c35b0, H⟩ | ⟨-, c35b0, H⟩ := ic_ H
        ·obtain ⟨c36b0, H⟩ := id_ H
         obtain ⟨c37b0, H⟩ := id_ H
         obtain ⟨t809, A38, H⟩ := bnd H
         obtain ⟨-, c39b0, c39b1, H⟩ | ⟨c39, c39b0, c39b1, H⟩ := ib_ H
         ·have H' := am H
          clear H
          try go_wp2
          replace HO_6 := am (Kd.R_drew HO_6.out)
          replace HO_7 := am (Kd.R_drew HO_7.out)
          replace HO_10 := am (Kd.R_drew HO_10.out)
          replace HO_788003 := am (Kd.S_drew HO_788003.out)
          replace HO_805003 := am (Kd.S_drew HO_805003.out)
          replace BK787 := am (blk_drew BK787.out)
          replace BK804 := am (blk_drew BK804.out)
          replace HB := am (below_drew1 HB.out)
          have p807 : 0 ≤ (x11_2 : Int) := sa
          have q807 : x11_2 < (t788.length : Int) := sa
          obtain ⟨ad807, e807, hx807_0⟩ := Kd.at_int (Kd.R_reads' HO_7.out).2.2 x11_2 p807 q807
          cases e807
          replace p807 := eq_true p807
          replace q807 := eq_true q807
          have p808 : 0 ≤ (x11_2 : Int) := sa
          have q808 : x11_2 < (t784.length : Int) := sa
          obtain ⟨ad808, e808, hx808_0⟩ := Kd.at_int (Kd.R_reads' HO_6.out).2.2 x11_2 p808 q808
          cases e808
          replace p808 := eq_true p808
          replace q808 := eq_true q808
          refine start_ (n := 15) (S := fun w' => w'.cell? ⟨gb787, 0, none⟩ = some (.int .i64 t776) ∧ w'.cell? ⟨gb787, 1, none⟩ = some (.int .i64 t777) ∧ w'.cell? ⟨gb787, 2, none⟩ = some (.int .i64 t778) ∧ w'.cell? ⟨gb787, 3, none⟩ = some (.slice Ao13 t779.length co13) ∧ w'.cell? (ad807.add (x11_2).toNat) = some (.int .i64 (rd t788 x11_2)) ∧ w'.cell? (ad808.add (x11_2).toNat) = some (.int .i64 (rd t784 x11_2))) (ds := []) #[false, false, false, false, false, false, false, false, false, false, false, false, false, false, false] (by kernel_rfl) rfl rfl ⟨bc0 BK787, bc1 BK787, bc2 BK787, bc3 BK787, hx807_0, hx808_0⟩ (fun hHeld => ?_); refine with_tabW laws_FnNoLoops.tab13 laws_FnNoLoops.bits13 (fun HT_ HW_ => ?_)
          generalize wr.drew = w40 at HO_6 HO_7 HO_10 HO_788003 HO_805003 BK787 BK804 HB hx807_0 hx808_0 hHeld ⊢
          refine put 0 55 (bt 15 1) HT_ ?_
          refine put 1 56 (bt 15 3) HT_ ?_
          refine put 2 57 (bt 15 7) HT_ ?_
          refine put 5 60 (bt 15 39) HT_ ?_
          refine put 6 61 (bt 15 103) HT_ ?_
          refine put 7 62 (bt 15 231) HT_ ?_
          refine put 8 63 (bt 15 487) HT_ ?_
          refine put 9 64 (bt 15 999) HT_ ?_
          refine put 10 65 (bt 15 2023) HT_ ?_
          refine tat6 3 58 (bt 15 2031) HT_ HW_ hHeld ?_
          refine tat6 4 59 (bt 15 2047) HT_ HW_ hHeld ?_
          refine tat6 11 66 (bt 15 4095) HT_ HW_ hHeld ?_
          refine put 12 67 (bt 15 8191) HT_ ?_
          refine on 13 68 (bt 15 16383) HT_ (fun K hK => ?_)
          refine goes_ Try.func27 (by kernel_rfl) rfl #[.agg #[.int .i64 t776, .int .i64 t777, .int .i64 t778, .slice Ao13 t779.length co13], .int .i64 x11_2, .int .i64 t782, .int .i64 (wrap64 (t783 + (rd t784 x11_2)))] (by rfl) rfl rfl sl ?_
          with_reducible refine (impl_HopAt.calls k2 t776 t777 t778 _ _ t779 x11_2 t782 (wrap64 (t783 + (rd t784 x11_2))) t809 _ ?side1 ?side2 A38.out).mono ?_
          (case side1 => repeat (first | exact (Kd.S_reads' HO_788003.out).2.2 | (with_reducible refine Kd.C_alloc ?_ _) | (with_reducible refine Kd.C_drewN ?_ _) | (with_reducible refine Kd.C_drew ?_)))
          (case side2 => exact (Kd.S_reads' HO_788003.out).2.1)
          rintro e w41 ⟨rfl, hb⟩
          have HS4_ := (hb.cell (World.block_lt_of_cell? _ _ (hHeld.2.2.2.2.1))).trans (hHeld.2.2.2.2.1)
          have HS5_ := (hb.cell (World.block_lt_of_cell? _ _ (hHeld.2.2.2.2.2))).trans (hHeld.2.2.2.2.2)
          refine ⟨_, rfl, ?_⟩
          replace HO_6 := rb HO_6 hb
          replace HO_7 := rb HO_7 hb
          replace HO_10 := rb HO_10 hb
          replace HO_788003 := am (Kd.S_below (ss HO_788003) hb)
          replace HO_805003 := am (Kd.S_below (ss HO_805003) hb)
          replace BK787 := bb BK787 hb
          replace BK804 := bb BK804 hb
          replace HB := bsw hb
          (try clear hb)
          (try clear hb2)
          (try clear hk)
          (try clear hi)
          refine hK.out _ _ ⟨bc0 BK787, bc1 BK787, bc2 BK787, bc3 BK787, HS4_, HS5_⟩ (fun hHeld => ?_)
          clear hK K
          refine nm 68 ?_
          refine put 14 69 (bt 15 32767) HT_ ?_
          refine done_ (done_of HT_.out (by kernel_rfl)) ?_
          try go_wp2
          go_roundg k2
          case measure => have := HJ8.out; have := HK2.out; omega
          case rel => exact ⟨(wrap64 (x11_2 + 1)), sc, H', ⟨by have := HJ8.out; have := HK2.out; omega⟩, ⟨sr HO_6⟩, ⟨sr HO_7⟩, ⟨sr HO_10⟩, ⟨ss HO_788003⟩, ⟨ss HO_805003⟩, ⟨sk BK787⟩, ⟨sk BK804⟩, ⟨sbw⟩⟩
         ·obtain rfl := Option.some.inj H
          try go_wp2
          replace HO_6 := am (Kd.R_drew HO_6.out)
          replace HO_7 := am (Kd.R_drew HO_7.out)
          replace HO_10 := am (Kd.R_drew HO_10.out)
          replace HO_788003 := am (Kd.S_drew HO_788003.out)
          replace HO_805003 := am (Kd.S_drew HO_805003.out)
          replace BK787 := am (blk_drew BK787.out)
          replace BK804 := am (blk_drew BK804.out)
          replace HB := am (below_drew1 HB.out)
          have p807 : 0 ≤ (x11_2 : Int) := sa
          have q807 : x11_2 < (t788.length : Int) := sa
          obtain ⟨ad807, e807, hx807_0⟩ := Kd.at_int (Kd.R_reads' HO_7.out).2.2 x11_2 p807 q807
          cases e807
          replace p807 := eq_true p807
          replace q807 := eq_true q807
          have p808 : 0 ≤ (x11_2 : Int) := sa
          have q808 : x11_2 < (t784.length : Int) := sa
          obtain ⟨ad808, e808, hx808_0⟩ := Kd.at_int (Kd.R_reads' HO_6.out).2.2 x11_2 p808 q808
          cases e808
          replace p808 := eq_true p808
          replace q808 := eq_true q808
          refine start_ (n := 15) (S := fun w' => w'.cell? ⟨gb787, 0, none⟩ = some (.int .i64 t776) ∧ w'.cell? ⟨gb787, 1, none⟩ = some (.int .i64 t777) ∧ w'.cell? ⟨gb787, 2, none⟩ = some (.int .i64 t778) ∧ w'.cell? ⟨gb787, 3, none⟩ = some (.slice Ao13 t779.length co13) ∧ w'.cell? (ad807.add (x11_2).toNat) = some (.int .i64 (rd t788 x11_2)) ∧ w'.cell? (ad808.add (x11_2).toNat) = some (.int .i64 (rd t784 x11_2))) (ds := []) #[false, false, false, false, false, false, false, false, false, false, false, false, false, false, false] (by kernel_rfl) rfl rfl ⟨bc0 BK787, bc1 BK787, bc2 BK787, bc3 BK787, hx807_0, hx808_0⟩ (fun hHeld => ?_); refine with_tabW laws_FnNoLoops.tab13 laws_FnNoLoops.bits13 (fun HT_ HW_ => ?_)
          generalize wr.drew = w42 at HO_6 HO_7 HO_10 HO_788003 HO_805003 BK787 BK804 HB hx807_0 hx808_0 hHeld ⊢
          refine put 0 55 (bt 15 1) HT_ ?_
          refine put 1 56 (bt 15 3) HT_ ?_
          refine put 2 57 (bt 15 7) HT_ ?_
          refine put 5 60 (bt 15 39) HT_ ?_
          refine put 6 61 (bt 15 103) HT_ ?_
          refine put 7 62 (bt 15 231) HT_ ?_
          refine put 8 63 (bt 15 487) HT_ ?_
          refine put 9 64 (bt 15 999) HT_ ?_
          refine put 10 65 (bt 15 2023) HT_ ?_
          refine tat6 3 58 (bt 15 2031) HT_ HW_ hHeld ?_
          refine tat6 4 59 (bt 15 2047) HT_ HW_ hHeld ?_
          refine tat6 11 66 (bt 15 4095) HT_ HW_ hHeld ?_
          refine put 12 67 (bt 15 8191) HT_ ?_
          refine on 13 68 (bt 15 16383) HT_ (fun K hK => ?_)
          refine goes_ Try.func27 (by kernel_rfl) rfl #[.agg #[.int .i64 t776, .int .i64 t777, .int .i64 t778, .slice Ao13 t779.length co13], .int .i64 x11_2, .int .i64 t782, .int .i64 (wrap64 (t783 + (rd t784 x11_2)))] (by rfl) rfl rfl sl ?_
          with_reducible refine (impl_HopAt.calls k2 t776 t777 t778 _ _ t779 x11_2 t782 (wrap64 (t783 + (rd t784 x11_2))) t809 _ ?side1 ?side2 A38.out).mono ?_
          (case side1 => repeat (first | exact (Kd.S_reads' HO_788003.out).2.2 | (with_reducible refine Kd.C_alloc ?_ _) | (with_reducible refine Kd.C_drewN ?_ _) | (with_reducible refine Kd.C_drew ?_)))
          (case side2 => exact (Kd.S_reads' HO_788003.out).2.1)
          rintro e w43 ⟨rfl, hb⟩
          have HS4_ := (hb.cell (World.block_lt_of_cell? _ _ (hHeld.2.2.2.2.1))).trans (hHeld.2.2.2.2.1)
          have HS5_ := (hb.cell (World.block_lt_of_cell? _ _ (hHeld.2.2.2.2.2))).trans (hHeld.2.2.2.2.2)
          refine ⟨_, rfl, ?_⟩
          replace HO_6 := rb HO_6 hb
          replace HO_7 := rb HO_7 hb
          replace HO_10 := rb HO_10 hb
          replace HO_788003 := am (Kd.S_below (ss HO_788003) hb)
          replace HO_805003 := am (Kd.S_below (ss HO_805003) hb)
          replace BK787 := bb BK787 hb
          replace BK804 := bb BK804 hb
          replace HB := bsw hb
          (try clear hb)
          (try clear hb2)
          (try clear hk)
          (try clear hi)
          refine hK.out _ _ ⟨bc0 BK787, bc1 BK787, bc2 BK787, bc3 BK787, HS4_, HS5_⟩ (fun hHeld => ?_)
          clear hK K
          refine nm 68 ?_
          refine put 14 69 (bt 15 32767) HT_ ?_
          refine done_ (done_of HT_.out (by kernel_rfl)) ?_
          try go_wp2
          go_ret
          exact ⟨se, sbw⟩
        ·obtain ⟨t810, A44, H⟩ := bnd H
         obtain rfl := Option.some.inj H
         try go_wp2
         replace HO_6 := am (Kd.R_drew HO_6.out)
         replace HO_7 := am (Kd.R_drew HO_7.out)
         replace HO_10 := am (Kd.R_drew HO_10.out)
         replace HO_788003 := am (Kd.S_drew HO_788003.out)
         replace HO_805003 := am (Kd.S_drew HO_805003.out)
         replace BK787 := am (blk_drew BK787.out)
         replace BK804 := am (blk_drew BK804.out)
         replace HB := am (below_drew1 HB.out)
         obtain ⟨Ao46, co46, eo46⟩ := Kd.R_slice HO_10.out
         (first | subst eo46 | (injection eo46 with f1_ f2_ f3_; have f4_ := f1_.symm; have f5_ := f3_.symm; clear f1_ f2_ f3_; subst f4_; subst f5_))
         refine start_ (n := 11) (S := fun w' => w'.cell? ⟨gb804, 0, none⟩ = some (.int .i64 t794) ∧ w'.cell? ⟨gb804, 1, none⟩ = some (.int .i64 t795) ∧ w'.cell? ⟨gb804, 2, none⟩ = some (.int .i64 t796) ∧ w'.cell? ⟨gb804, 3, none⟩ = some (.slice Ao24 t797.length co24)) (ds := []) #[false, false, false, false, false, false, false, false, false, false, false] (by kernel_rfl) rfl rfl ⟨bc0 BK804, bc1 BK804, bc2 BK804, bc3 BK804⟩ (fun hHeld => ?_); refine with_tabW laws_FnNoLoops.tab15 laws_FnNoLoops.bits15 (fun HT_ HW_ => ?_)
         generalize wr.drew = w45 at HO_6 HO_7 HO_10 HO_788003 HO_805003 BK787 BK804 HB hHeld ⊢
         refine put 1 71 (bt 11 2) HT_ ?_
         refine put 2 72 (bt 11 6) HT_ ?_
         refine put 4 74 (bt 11 22) HT_ ?_
         refine put 6 76 (bt 11 86) HT_ ?_
         refine tat4 0 70 (bt 11 87) HT_ HW_ hHeld ?_
         refine tat4 5 75 (bt 11 119) HT_ HW_ hHeld ?_
         refine tat4 7 77 (bt 11 247) HT_ HW_ hHeld ?_
         refine put 8 78 (bt 11 503) HT_ ?_
         refine on 3 73 (bt 11 511) HT_ (fun K hK => ?_)
         refine goes_ Try.func28 (by kernel_rfl) rfl #[.agg #[.int .i64 t794, .int .i64 t795, .int .i64 t796, .slice Ao24 t797.length co24], .int .i64 t800, .slice Ao46 t801.length co46] (by rfl) rfl rfl sl ?_
         with_reducible refine (impl_HeldAt.calls k2 t794 t795 t796 _ _ t797 t800 _ _ t801 t810 _ ?side1 ?side2 ?side3 ?side4 A44.out).mono ?_
         (case side1 => repeat (first | exact (Kd.S_reads' HO_805003.out).2.2 | (with_reducible refine Kd.C_alloc ?_ _) | (with_reducible refine Kd.C_drewN ?_ _) | (with_reducible refine Kd.C_drew ?_)))
         (case side2 => exact (Kd.S_reads' HO_805003.out).2.1)
         (case side3 => exact cr HO_10)
         (case side4 => exact (Kd.R_reads' HO_10.out).2.1)
         rintro e w47 ⟨rfl, hb⟩
         refine ⟨_, rfl, ?_⟩
         replace HO_6 := rb HO_6 hb
         replace HO_7 := rb HO_7 hb
         replace HO_10 := rb HO_10 hb
         replace HO_788003 := am (Kd.S_below (ss HO_788003) hb)
         replace HO_805003 := am (Kd.S_below (ss HO_805003) hb)
         replace BK787 := bb BK787 hb
         replace BK804 := bb BK804 hb
         replace HB := bsw hb
         (try clear hb)
         (try clear hb2)
         (try clear hk)
         (try clear hi)
         refine hK.out _ _ ⟨bc0 BK804, bc1 BK804, bc2 BK804, bc3 BK804⟩ (fun hHeld => ?_)
         clear hK K
         refine nm 73 ?_
         refine put 9 79 (bt 11 1023) HT_ ?_
         refine put 10 2 (bt 11 2047) HT_ ?_
         refine done_ (done_of HT_.out (by kernel_rfl)) ?_
         try go_wp2
         go_ret
         exact ⟨se, sbw⟩
  ·have c7b2 : (t788.length == t791.length) = false := by first | simpa using c7 | (simp at c7 ⊢; omega)
   obtain rfl := Option.some.inj H
   go_enter Try.func4, Try.ntmps4
   go_wp2_with (first | ((with_reducible refine gc 12 rfl ?_); refine gL (some 13) Try.func12 #[.slice A0 l0.length c0] ?_; (with_reducible refine (laws_big.calls _ _ l0 false _ ?side1 ?side2 A2.out).mono ?_); (case side1 => repeat (first | exact HR0.out | (with_reducible refine Kd.C_alloc ?_ _) | (with_reducible refine Kd.C_drewN ?_ _) | (with_reducible refine Kd.C_drew ?_))); (case side2 => exact HC0.out); rintro e w' ⟨rfl, ⟨nd, rfl⟩⟩; refine ⟨_, rfl, ?_⟩) | ((with_reducible refine gc 22 rfl ?_); refine gL (some 16) Try.func22 #[.slice A0 l0.length c0] ?_; (with_reducible refine (spec_DrawNextsAt.calls k _ _ l0 t776 t777 t778 t779 t782 t783 t784 _ ?side1 ?side2 A4.out).mono ?_); (case side1 => repeat (first | exact HR0.out | (with_reducible refine Kd.C_alloc ?_ _) | (with_reducible refine Kd.C_drewN ?_ _) | (with_reducible refine Kd.C_drew ?_))); (case side2 => exact HC0.out); rintro e w48 ⟨v780, v785, rfl, ho0, ho1, hb⟩; refine ⟨_, rfl, ?_⟩; have HO781 := am (Kd.S_lower ho0 (below_size (sb))); have HO786 := am (Kd.R_lower ho1 (below_size (sb))); replace HB := bs hb; (try clear hb); (try clear hk); (try clear ho0); (try clear ho1)) | ((with_reducible refine gd 3 rfl ?_); refine bx 3 #[.int .i64 0, .int .i64 0, .int .i64 0, .slice none 0 0] 31 ?_; intro gb787 hg w49 hbox hb; replace HO781 := am (Kd.S_below (ss HO781) hb); replace HO786 := rb HO786 hb; have GW787 := bz w hg; have GE787 := bz w hg; replace HB := bs hb; have BK787 := am hbox; clear hb hbox hg; obtain ⟨hcz50_0, hcz50_1, hcz50_2, hcz50_3, hfz50_0, hfz50_1, hfz50_2, hfz50_3⟩ := cc4 BK787; obtain ⟨Ao51, co51, eo51⟩ := Kd.S_slice HO781.out; subst eo51; obtain ⟨Ao52, co52, eo52⟩ := Kd.R_slice HO786.out; subst eo52) | ((with_reducible refine gc 23 rfl ?_); refine gL (some 25) Try.func23 #[.agg #[.int .i64 t776, .int .i64 t777, .int .i64 t778, .slice Ao51 t779.length co51], .int .i64 t782, .int .i64 t783, .slice Ao52 t784.length co52] ?_; (with_reducible refine (impl_NextsAt.calls k t776 t777 t778 _ _ t779 t782 t783 _ _ t784 t788 _ ?side1 ?side2 ?side3 ?side4 A5.out).mono ?_); (case side1 => refine (Kd.S_reads' (e := 105) (base := w.heap.size) (ok := fun k_ => some k_ ≠ (.slice Ao52 t784.length co52 : Value).ownBlock) (n := t779.length) (c := co51) ?_).2.2; exact a25_4); (case side2 => exact (Kd.S_reads' HO781.out).2.1); (case side3 => refine (Kd.R_reads' (e := 3) (base := w.heap.size) (ok := fun k_ => True) (n := t784.length) (c := co52) ?_).2.2; exact a25_6); (case side4 => exact (Kd.R_reads' HO786.out).2.1); rintro e w53 ⟨v789, rfl, ho0, hb⟩; refine ⟨_, rfl, ?_⟩; replace HO781 := am (Kd.S_elder' a25_4 (Kd.R_base ho0) hb); have HO790 := am (Kd.R_lower (Kd.R_new' ho0 (Kd.R_lt a25_6)) (below_size (sbw))); replace HO786 := am (Kd.R_elder' a25_6 (Kd.R_base ho0) hb); replace BK787 := am (blk_below (g := gb787) (o := .cells #[.int .i64 t776, .int .i64 t777, .int .i64 t778, .slice Ao51 t779.length co51] 31 (0, 0)) (sp BK787) hb); replace HB := bsw hb; (try clear hb); (try clear hk); (try clear ho0); obtain ⟨Ao54, co54, eo54⟩ := Kd.R_slice HO790.out; subst eo54; obtain ⟨hcz55_0, hcz55_1, hcz55_2, hcz55_3, hfz55_0, hfz55_1, hfz55_2, hfz55_3⟩ := cc4 BK787) | ((with_reducible refine gc 24 rfl ?_); refine gL (some 32) Try.func24 #[.agg #[.int .i64 t776, .int .i64 t777, .int .i64 t778, .slice Ao51 t779.length co51], .int .i64 t782, .int .i64 t783, .slice Ao52 t784.length co52] ?_; (with_reducible refine (spec_NextsAt.calls k t776 t777 t778 _ _ t779 t782 t783 _ _ t784 t791 _ ?side1 ?side2 ?side3 ?side4 A6.out).mono ?_); (case side1 => repeat (first | exact (Kd.S_reads' HO781.out).2.2 | (with_reducible refine Kd.C_alloc ?_ _) | (with_reducible refine Kd.C_drewN ?_ _) | (with_reducible refine Kd.C_drew ?_))); (case side2 => exact (Kd.S_reads' HO781.out).2.1); (case side3 => exact cr HO786); (case side4 => exact (Kd.R_reads' HO786.out).2.1); rintro e w56 ⟨v792, rfl, ho0, hb⟩; refine ⟨_, rfl, ?_⟩; replace HO781 := am (Kd.S_elder' (ss HO781) (Kd.R_base ho0) hb); have HO793 := am (Kd.R_lower (Kd.R_new' (Kd.R_new' ho0 (Kd.R_lt (sr HO786))) (Kd.R_lt (sr HO790))) (below_size (sbw))); replace HO786 := am (Kd.R_elder' (sr HO786) (Kd.R_base ho0) hb); replace HO790 := am (Kd.R_elder' (sr HO790) (Kd.R_base ho0) hb); replace BK787 := bb BK787 hb; replace HB := bsw hb; (try clear hb); (try clear hk); (try clear ho0); obtain ⟨Ao57, co57, eo57⟩ := Kd.R_slice HO793.out; subst eo57))
   go_ret
   exact ⟨se, sbw⟩

/-- THE ONE PURE STATEMENT of laws_FnNoLoops: yours. -/
def laws_FnNoLoops.Pure : Prop := ∀ (l0 : List Int), l0.length ≤ maxLen → l0.length * 1 ≤ 140737488351232 → (∀ x ∈ l0, (Lit.int .u8 x).wf = true) → ∃ k, laws_FnNoLoops.f k l0 = some true
theorem laws_FnNoLoops.walk (P : laws_FnNoLoops.Pure) (a0 : Option Addr) (len0 cap0 : Nat) (z0 : List Int) (w : World) (w0 : (a0 = none ∧ len0 = 0 ∧ cap0 = 0 ∧ z0 = []) ∨ ∃ x, a0 = some x ∧ len0 ≤ cap0 ∧ cap0 ≤ maxLen ∧ z0.length = cap0 ∧ (∀ i, i < z0.length → w.cell? (x.add i) = some (.int .u8 (z0.getD i 0))) ∧ ∀ n ∈ z0, (Lit.int .u8 n).wf = true) (y0 : len0 * 1 ≤ 140737488351232) :
    Calls Try.prog 4 #[.slice a0 len0 cap0] w fun e w' => e = .returned (.bool true) ∧ Below w.heap.size w w' := by
 obtain ⟨l0, rfl, hr0, hm0, hw0, hc0⟩ := ReadsInt.ofRowC w0
 obtain ⟨k, h⟩ := P l0 hm0 y0 hw0
 refine (laws_FnNoLoops.calls k _ _ l0 true w (Kd.C_of_reads (d := (0 : Int)) (h1 := fun _ => rfl) hr0) hc0 h).mono ?_
 rintro e w' ⟨rfl, hd⟩
 exact ⟨rfl, hd⟩

end Go.Proofs.Ytiihaabhjphaeaa.QFnNoLoops
