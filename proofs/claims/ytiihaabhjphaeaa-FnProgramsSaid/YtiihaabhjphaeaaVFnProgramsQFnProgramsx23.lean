/- Printed by a program of the session. Conditions: none. (squeezed). -/
import Derived.Test.YtiihaabhjphaeaaVFnProgramsQFnProgramsx6
import Derived.Test.YtiihaabhjphaeaaVFnProgramsQFnProgramsx20
import Derived.Test.YtiihaabhjphaeaaVFnProgramsQFnProgramsx21
import Derived.Test.YtiihaabhjphaeaaVFnProgramsQFnProgramsx22
namespace Go.Proofs.Ytiihaabhjphaeaa.QFnPrograms
set_option maxHeartbeats 8000000
set_option maxRecDepth 100000
open Go.RowKit Go.Proofs.YtiihaabhjphaeaaW.PrintWords Go.Proofs.YtiihaabhjphaeaaW.PrintLast Go.Proofs.YtiihaabhjphaeaaW.PrintMore Go.Proofs.Ytiihaabhjphaeaa.Open Go.Proofs.Ytiihaabhjphaeaa.Sq
attribute [local go_sem] max2_int min2_int max_two min_two max_three min_three max_four min_four   -- for this text's walks alone
attribute [local go_sem] isSome_set
set_option linter.unusedVariables false
set_option linter.unusedSimpArgs false

mutual
def laws_FnPrograms.l0 : Nat → List (S137) → Int → Int → Int → Int → Int → Int → Int → List (S105) → Option (Bool)
  | 0, _, _, _, _, _, _, _, _, _ => none
  | k + 1, x3, x4, x5, x7, x13, x739000, x739001, x739002, x739003 => if x13 < x7 then (laws_FnPrograms.j1 k x3 x4 x5 x7 x13 (decide (x13 ≤ 30)) x739000 x739001 x739002 x739003) else (laws_FnPrograms.j1 k x3 x4 x5 x7 x13 false x739000 x739001 x739002 x739003)
def laws_FnPrograms.j1 : Nat → List (S137) → Int → Int → Int → Int → Bool → Int → Int → Int → List (S105) → Option (Bool)
  | 0, _, _, _, _, _, _, _, _, _, _ => none
  | k + 1, x3, x4, x5, x7, x13, x68, x739000, x739001, x739002, x739003 => if x68 = true then ((impl_PieceAt.f x739000 x739001 x739002 x739003 x13).bind fun t747 => (laws_FnPrograms.l1 k x3 x4 x5 x7 x13 t747 0 x739000 x739001 x739002 x739003)) else (laws_FnPrograms.l3 k x4 x5 0 x739000 x739001 x739002 x739003)
def laws_FnPrograms.l1 : Nat → List (S137) → Int → Int → Int → Int → Int → Int → Int → Int → Int → List (S105) → Option (Bool)
  | 0, _, _, _, _, _, _, _, _, _, _, _ => none
  | k + 1, x3, x4, x5, x7, x13, x14, x15, x739000, x739001, x739002, x739003 => if x15 < x4 then (laws_FnPrograms.l2 k x3 x4 x5 x7 x13 x14 x15 (wrap64 (x15 + 1)) x739000 x739001 x739002 x739003) else (laws_FnPrograms.l0 k x3 x4 x5 x7 (wrap64 (x13 + 1)) x739000 x739001 x739002 x739003)
def laws_FnPrograms.l2 : Nat → List (S137) → Int → Int → Int → Int → Int → Int → Int → Int → Int → Int → List (S105) → Option (Bool)
  | 0, _, _, _, _, _, _, _, _, _, _, _, _ => none
  | k + 1, x3, x4, x5, x7, x13, x14, x15, x16, x739000, x739001, x739002, x739003 => if x16 < x4 then ((impl_HasLink.f x739000 x739001 x739002 x739003 x14 x15 x16).bind fun t748 => ((impl_CanSpeak.f k x3 x15 x16 x13).bind fun t749 => (if (t748 != t749) = true then (some false) else ((impl_HasLink.f x739000 x739001 x739002 x739003 x14 x15 x16).bind fun t750 => ((impl_HasLink.f x739000 x739001 x739002 x739003 x14 x16 x15).bind fun t751 => (if (t750 != t751) = true then (some false) else (laws_FnPrograms.l2 k x3 x4 x5 x7 x13 x14 x15 (wrap64 (x16 + 1)) x739000 x739001 x739002 x739003))))))) else (laws_FnPrograms.l1 k x3 x4 x5 x7 x13 x14 (wrap64 (x15 + 1)) x739000 x739001 x739002 x739003)
def laws_FnPrograms.l3 : Nat → Int → Int → Int → Int → Int → Int → List (S105) → Option (Bool)
  | 0, _, _, _, _, _, _, _ => none
  | k + 1, x4, x5, x17, x739000, x739001, x739002, x739003 => if x17 < (x739003.length : Int) then (laws_FnPrograms.l4 k x4 x5 x17 0 x739000 x739001 x739002 x739003) else ((impl_IsProgram.f k x739000 x739001 x739002 x739003).bind fun t752 => (if t752 = true then ((impl_ProgramSize.f k x739000 x739001 x739002 x739003).bind fun t753 => (some (decide (t753 ≤ (wrap64 ((wrap64 ((x739003.length : Int) * x4)) * x4)))))) else (some false)))
def laws_FnPrograms.l4 : Nat → Int → Int → Int → Int → Int → Int → Int → List (S105) → Option (Bool)
  | 0, _, _, _, _, _, _, _, _ => none
  | k + 1, x4, x5, x17, x18, x739000, x739001, x739002, x739003 => if x18 < x4 then ((impl_TableIn.f x739000 x739001 x739002 x739003 x17 x18).bind fun bt754 => (if bt754.2.2.2 = true then ((impl_IsTable.f k bt754.1 bt754.2.1 bt754.2.2.1 x4 x5).bind fun t763 => (if t763 = true then (if bt754.1 = x18 then (laws_FnPrograms.l4 k x4 x5 x17 (wrap64 (x18 + 1)) x739000 x739001 x739002 x739003) else (some false)) else (some false))) else (some false))) else (laws_FnPrograms.l3 k x4 x5 (wrap64 (x17 + 1)) x739000 x739001 x739002 x739003)
end
def laws_FnPrograms.f (k : Nat) (l0 : List Int) : Option (Bool) := (laws_big.f l0).bind fun t722 => (if t722 = true then (some true) else ((spec_DrawBuildProgram.f k l0).bind fun bt723 => ((impl_BuildProgram.f k bt723.1 bt723.2.1 bt723.2.2.1 bt723.2.2.2.1 bt723.2.2.2.2.1 bt723.2.2.2.2.2).bind fun bt731 => ((spec_BuildProgram.f k bt723.1 bt723.2.1 bt723.2.2.1 bt723.2.2.2.1 bt723.2.2.2.2.1 bt723.2.2.2.2.2).bind fun bt739 => (if (bt731.2.2.2.2 != bt739.2.2.2.2) = true then (some false) else (if bt731.2.2.2.2 = true then (laws_FnPrograms.l0 k bt723.1 bt723.2.1 bt723.2.2.1 bt723.2.2.2.2.1 bt723.2.2.2.1 bt731.1 bt731.2.1 bt731.2.2.1 bt731.2.2.2.1) else (some ((bt731.2.2.2.1.length : Int) == 0))))))))
theorem laws_FnPrograms.mono_l : ∀ k, (∀ y0 y1 y2 y3 y4 y5 y6 y7 y8, LeO (laws_FnPrograms.l0 k y0 y1 y2 y3 y4 y5 y6 y7 y8) (laws_FnPrograms.l0 (k + 1) y0 y1 y2 y3 y4 y5 y6 y7 y8)) ∧ (∀ y0 y1 y2 y3 y4 y5 y6 y7 y8 y9, LeO (laws_FnPrograms.j1 k y0 y1 y2 y3 y4 y5 y6 y7 y8 y9) (laws_FnPrograms.j1 (k + 1) y0 y1 y2 y3 y4 y5 y6 y7 y8 y9)) ∧ (∀ y0 y1 y2 y3 y4 y5 y6 y7 y8 y9 y10, LeO (laws_FnPrograms.l1 k y0 y1 y2 y3 y4 y5 y6 y7 y8 y9 y10) (laws_FnPrograms.l1 (k + 1) y0 y1 y2 y3 y4 y5 y6 y7 y8 y9 y10)) ∧ (∀ y0 y1 y2 y3 y4 y5 y6 y7 y8 y9 y10 y11, LeO (laws_FnPrograms.l2 k y0 y1 y2 y3 y4 y5 y6 y7 y8 y9 y10 y11) (laws_FnPrograms.l2 (k + 1) y0 y1 y2 y3 y4 y5 y6 y7 y8 y9 y10 y11)) ∧ (∀ y0 y1 y2 y3 y4 y5 y6, LeO (laws_FnPrograms.l3 k y0 y1 y2 y3 y4 y5 y6) (laws_FnPrograms.l3 (k + 1) y0 y1 y2 y3 y4 y5 y6)) ∧ (∀ y0 y1 y2 y3 y4 y5 y6 y7, LeO (laws_FnPrograms.l4 k y0 y1 y2 y3 y4 y5 y6 y7) (laws_FnPrograms.l4 (k + 1) y0 y1 y2 y3 y4 y5 y6 y7))
  | 0 => ⟨fun _ _ _ _ _ _ _ _ _ r h => by simp [laws_FnPrograms.l0] at h, fun _ _ _ _ _ _ _ _ _ _ r h => by simp [laws_FnPrograms.j1] at h, fun _ _ _ _ _ _ _ _ _ _ _ r h => by simp [laws_FnPrograms.l1] at h, fun _ _ _ _ _ _ _ _ _ _ _ _ r h => by simp [laws_FnPrograms.l2] at h, fun _ _ _ _ _ _ _ r h => by simp [laws_FnPrograms.l3] at h, fun _ _ _ _ _ _ _ _ r h => by simp [laws_FnPrograms.l4] at h⟩
  | k + 1 => by
    obtain ⟨ih0, ih1, ih2, ih3, ih4, ih5⟩ := laws_FnPrograms.mono_l k
    refine ⟨?_, ?_, ?_, ?_, ?_, ?_⟩
    · intro y0 y1 y2 y3 y4 y5 y6 y7 y8
      unfold laws_FnPrograms.l0
      have m0 := @impl_BuildProgram.mono
      have m1 := @impl_CanSpeak.mono
      have m2 := @impl_IsProgram.mono
      have m3 := @impl_IsTable.mono
      have m4 := @impl_ProgramSize.mono
      have m5 := @spec_BuildProgram.mono
      have m6 := @spec_DrawBuildProgram.mono
      exact mo
    · intro y0 y1 y2 y3 y4 y5 y6 y7 y8 y9
      unfold laws_FnPrograms.j1
      have m0 := @impl_BuildProgram.mono
      have m1 := @impl_CanSpeak.mono
      have m2 := @impl_IsProgram.mono
      have m3 := @impl_IsTable.mono
      have m4 := @impl_ProgramSize.mono
      have m5 := @spec_BuildProgram.mono
      have m6 := @spec_DrawBuildProgram.mono
      exact mo
    · intro y0 y1 y2 y3 y4 y5 y6 y7 y8 y9 y10
      unfold laws_FnPrograms.l1
      have m0 := @impl_BuildProgram.mono
      have m1 := @impl_CanSpeak.mono
      have m2 := @impl_IsProgram.mono
      have m3 := @impl_IsTable.mono
      have m4 := @impl_ProgramSize.mono
      have m5 := @spec_BuildProgram.mono
      have m6 := @spec_DrawBuildProgram.mono
      exact mo
    · intro y0 y1 y2 y3 y4 y5 y6 y7 y8 y9 y10 y11
      unfold laws_FnPrograms.l2
      have m0 := @impl_BuildProgram.mono
      have m1 := @impl_CanSpeak.mono
      have m2 := @impl_IsProgram.mono
      have m3 := @impl_IsTable.mono
      have m4 := @impl_ProgramSize.mono
      have m5 := @spec_BuildProgram.mono
      have m6 := @spec_DrawBuildProgram.mono
      exact mo
    · intro y0 y1 y2 y3 y4 y5 y6
      unfold laws_FnPrograms.l3
      have m0 := @impl_BuildProgram.mono
      have m1 := @impl_CanSpeak.mono
      have m2 := @impl_IsProgram.mono
      have m3 := @impl_IsTable.mono
      have m4 := @impl_ProgramSize.mono
      have m5 := @spec_BuildProgram.mono
      have m6 := @spec_DrawBuildProgram.mono
      exact mo
    · intro y0 y1 y2 y3 y4 y5 y6 y7
      unfold laws_FnPrograms.l4
      have m0 := @impl_BuildProgram.mono
      have m1 := @impl_CanSpeak.mono
      have m2 := @impl_IsProgram.mono
      have m3 := @impl_IsTable.mono
      have m4 := @impl_ProgramSize.mono
      have m5 := @spec_BuildProgram.mono
      have m6 := @spec_DrawBuildProgram.mono
      exact mo
theorem laws_FnPrograms.mono : ∀ a0 k, LeO (laws_FnPrograms.f k a0) (laws_FnPrograms.f (k + 1) a0) := by
  intro a0 k
  obtain ⟨ih0, ih1, ih2, ih3, ih4, ih5⟩ := laws_FnPrograms.mono_l k
  unfold laws_FnPrograms.f
  have m0 := @impl_BuildProgram.mono
  have m1 := @impl_CanSpeak.mono
  have m2 := @impl_IsProgram.mono
  have m3 := @impl_IsTable.mono
  have m4 := @impl_ProgramSize.mono
  have m5 := @spec_BuildProgram.mono
  have m6 := @spec_DrawBuildProgram.mono
  exact mo
def laws_FnPrograms.T20 : Bool × List (List Nat × List Nat) := (true, [([], []), ([], []), ([], []), ([], []), ([0, 1, 2, 3], [0, 1, 2, 3]), ([], []), ([], []), ([], []), ([], []), ([5, 6, 7, 8, 4], [5, 6, 7, 8]), ([4, 9], [4, 9]), ([10, 9], [10]), ([11], [11]), ([11], [11]), ([11], [11]), ([11], [11]), ([12, 13, 14, 15, 11, 11], [11, 12, 13, 14, 15]), ([11], [11]), ([11], [11]), ([11], [11]), ([11], [11]), ([17, 18, 19, 20, 16, 11], [11, 17, 18, 19, 20]), ([16, 21, 11], [11, 16, 21]), ([11, 22], [11, 22])])
def laws_FnPrograms.B20 : List Nat := [0, 0, 0, 0, 15, 0, 0, 0, 0, 511, 1023, 2047, 4095, 4095, 4095, 4095, 65535, 4095, 4095, 4095, 4095, 2097151, 4194303, 8388607]
theorem laws_FnPrograms.tab20 : rtab .any (opsOf Try.f7 20) = laws_FnPrograms.T20 := by kernel_rfl
theorem laws_FnPrograms.bits20 : waitsOk laws_FnPrograms.T20.2 laws_FnPrograms.B20 = true := by kernel_rfl
def laws_FnPrograms.T31 : Bool × List (List Nat × List Nat) := (true, [([], []), ([0], [0]), ([1, 1], [1]), ([2], [2]), ([3, 2, 2], [2, 3]), ([2], [2]), ([5, 2], [2, 5]), ([6, 2], [2, 6]), ([2], [2]), ([7, 8, 2], [2, 7, 8]), ([2], [2]), ([9, 10, 2], [2, 9, 10]), ([4, 11, 2], [2, 4, 11]), ([2, 12], [2, 12]), ([13, 4, 0, 1, 2, 3, 4, 5, 6, 7, 8, 9, 10, 11, 12, 13], [13])])
def laws_FnPrograms.B31 : List Nat := [0, 1, 3, 7, 15, 7, 39, 103, 7, 487, 7, 2023, 4095, 8191, 16383]
theorem laws_FnPrograms.tab31 : rtab .any (opsOf Try.f7 31) = laws_FnPrograms.T31 := by kernel_rfl
theorem laws_FnPrograms.bits31 : waitsOk laws_FnPrograms.T31.2 laws_FnPrograms.B31 = true := by kernel_rfl
theorem laws_FnPrograms.calls (k : Nat) (A0 : Option Addr) (c0 : Nat) (l0 : List Int) (r : Bool) (w : World) (hr0 : Kd.C (Kd.int .u8) w A0 l0.length l0) (hc0 : l0.length ≤ c0) (h : laws_FnPrograms.f k l0 = some r) :
    Calls Try.prog 7 #[.slice A0 l0.length c0] w fun e w' => e = .returned (.bool r) ∧ Below w.heap.size w w' := by
 have hu31 := Try.underlying31
 have hu55 := Try.underlying55
 have HR0 := am hr0
 have HC0 := am hc0
 clear hr0 hc0
 have HB := am (Below.refl w.heap.size w)
 have H := h; unfold laws_FnPrograms.f at H
 clear h
 obtain ⟨t722, A2, H⟩ := bnd H
 obtain rfl | rfl := tt t722
 ·replace H := ip H
  obtain rfl := Option.some.inj H
  go_enter Try.func7, Try.ntmps7
  go_wp2_with (first | ((with_reducible refine gc 12 rfl ?_); refine gL (some 22) Try.func12 #[.slice A0 l0.length c0] ?_; (with_reducible refine (laws_big.calls _ _ l0 true _ ?side1 ?side2 A2.out).mono ?_); (case side1 => repeat (first | exact HR0.out | (with_reducible refine Kd.C_alloc ?_ _) | (with_reducible refine Kd.C_drewN ?_ _) | (with_reducible refine Kd.C_drew ?_))); (case side2 => exact HC0.out); rintro e w' ⟨rfl, ⟨nd, rfl⟩⟩; refine ⟨_, rfl, ?_⟩))
  go_ret
  exact ⟨se, sb⟩
 ·replace H := im H
  obtain ⟨⟨t723, t724, t725, t726, t727, t728⟩, A4, H⟩ := bnd H
  dsimp only at H
  obtain ⟨⟨t731, t732, t733, t734, t737⟩, A5, H⟩ := bnd H
  dsimp only at H
  obtain ⟨⟨t739, t740, t741, t742, t745⟩, A6, H⟩ := bnd H
  dsimp only at H
  obtain ⟨c7, H⟩ | ⟨c7, H⟩ := ie_ H
  ·have c7b0 : (t737 != t745) = true := c7
   (try (have c7b1 : decide (t737 = t745) = false := by simpa using c7))
   (try (have c7b2 : (t737 == t745) = false := by simpa using c7))
   (try (have c7b3 : ¬ (t737 = t745) := by simpa using c7))
   clear c7
   obtain rfl := Option.some.inj H
   go_enter Try.func7, Try.ntmps7
   go_wp2_with (first | ((with_reducible refine gc 12 rfl ?_); refine gL (some 22) Try.func12 #[.slice A0 l0.length c0] ?_; (with_reducible refine (laws_big.calls _ _ l0 false _ ?side1 ?side2 A2.out).mono ?_); (case side1 => repeat (first | exact HR0.out | (with_reducible refine Kd.C_alloc ?_ _) | (with_reducible refine Kd.C_drewN ?_ _) | (with_reducible refine Kd.C_drew ?_))); (case side2 => exact HC0.out); rintro e w' ⟨rfl, ⟨nd, rfl⟩⟩; refine ⟨_, rfl, ?_⟩) | ((with_reducible refine gc 44 rfl ?_); refine gL (some 25) Try.func44 #[.slice A0 l0.length c0] ?_; (with_reducible refine (spec_DrawBuildProgram.calls k _ _ l0 t723 t724 t725 t726 t727 t728 _ ?side1 ?side2 A4.out).mono ?_); (case side1 => repeat (first | exact HR0.out | (with_reducible refine Kd.C_alloc ?_ _) | (with_reducible refine Kd.C_drewN ?_ _) | (with_reducible refine Kd.C_drew ?_))); (case side2 => exact HC0.out); rintro e w8 ⟨v729, rfl, ho0, hb⟩; refine ⟨_, rfl, ?_⟩; have HO730 := am (Kd.R_lower ho0 (below_size (sb))); replace HB := bs hb; (try clear hb); (try clear hk); (try clear ho0); obtain ⟨Ao9, co9, eo9⟩ := Kd.R_slice HO730.out; subst eo9) | ((with_reducible refine gc 45 rfl ?_); refine gL (some 39) Try.func45 #[.slice Ao9 t723.length co9, .int .i64 t724, .int .i64 t725, .int .i64 t726, .int .i64 t727, .int .i64 t728] ?_; (with_reducible refine (impl_BuildProgram.calls k _ _ t723 t724 t725 t726 t727 t728 t731 t732 t733 t734 t737 _ ?side1 ?side2 A5.out).mono ?_); (case side1 => exact cr HO730); (case side2 => exact (Kd.R_reads' HO730.out).2.1); rintro e w10 ⟨v735, rfl, ho0, hb⟩; refine ⟨_, rfl, ?_⟩; replace HO730 := rb HO730 hb; have HO736 := am (Kd.S_lower ho0 (below_size (sb))); replace HB := bs hb; (try clear hb); (try clear hk); (try clear ho0)) | ((with_reducible refine gd 9 rfl ?_); (try (refine gate_guard (by rfl) ?_; dsimp only)); refine bx 9 #[.int .i64 0, .int .i64 0, .int .i64 0, .slice none 0 0] 31 ?_; intro gb738 hg w11 hbox hb; replace HO730 := rb HO730 hb; replace HO736 := am (Kd.S_below (ss HO736) hb); have GW738 := bz w hg; have GE738 := bz w hg; replace HB := bs hb; have BK738 := am hbox; clear hb hbox hg; obtain ⟨hcz12_0, hcz12_1, hcz12_2, hcz12_3, hfz12_0, hfz12_1, hfz12_2, hfz12_3⟩ := cc4 BK738; obtain ⟨Ao13, co13, eo13⟩ := Kd.S_slice HO736.out; subst eo13) | ((with_reducible refine gc 46 rfl ?_); refine gL (some 49) Try.func46 #[.slice Ao9 t723.length co9, .int .i64 t724, .int .i64 t725, .int .i64 t726, .int .i64 t727, .int .i64 t728] ?_; (with_reducible refine (spec_BuildProgram.calls k _ _ t723 t724 t725 t726 t727 t728 t739 t740 t741 t742 t745 _ ?side1 ?side2 A6.out).mono ?_); (case side1 => refine (Kd.R_reads' (e := 137) (base := w.heap.size) (ok := fun k_ => True) (n := t723.length) (c := co9) ?_).2.2; exact (by (with_reducible repeat (first | apply Kd.R_alloc | apply Kd.R_drewN | apply Kd.R_drew)); exact (Kd.R_mono (Kd.R_far (p := ⟨gb738, 3, none⟩) (h3 HO730 BK738) (fun _ hk => hk.2) (.slice Ao13 t734.length co13)) (fun _ h_ => h_.1)))); (case side2 => exact (Kd.R_reads' HO730.out).2.1); rintro e w14 ⟨v743, rfl, ho0, hb⟩; refine ⟨_, rfl, ?_⟩; replace HO730 := am (Kd.R_below (by (with_reducible repeat (first | apply Kd.R_alloc | apply Kd.R_drewN | apply Kd.R_drew)); exact (Kd.R_mono (Kd.R_far (p := ⟨gb738, 3, none⟩) (h3 HO730 BK738) (fun _ hk => hk.2) (.slice Ao13 t734.length co13)) (fun _ h_ => h_.1))) hb); have HO744 := am (Kd.S_lower (Kd.S_new' ho0 (Kd.S_lt (by (with_reducible repeat (first | apply Kd.S_alloc | apply Kd.S_drewN | apply Kd.S_drew)); exact (Kd.S_mono (Kd.S_far (p := ⟨gb738, 3, none⟩) (Kd.S_far (p := ⟨gb738, 2, none⟩) (Kd.S_far (p := ⟨gb738, 1, none⟩) (Kd.S_far (p := ⟨gb738, 0, none⟩) (Kd.S_types HO736.out BK738.out (by decide)) (fun _ hk => hk.2) (.int .i64 t731)) (fun _ hk => hk.2) (.int .i64 t732)) (fun _ hk => hk.2) (.int .i64 t733)) (fun _ hk => hk.2) (.slice Ao13 t734.length co13)) (fun _ h_ => h_.1))))) (below_size (sbw))); replace HO736 := am (Kd.S_elder' (by (with_reducible repeat (first | apply Kd.S_alloc | apply Kd.S_drewN | apply Kd.S_drew)); exact (Kd.S_mono (Kd.S_far (p := ⟨gb738, 3, none⟩) (Kd.S_far (p := ⟨gb738, 2, none⟩) (Kd.S_far (p := ⟨gb738, 1, none⟩) (Kd.S_far (p := ⟨gb738, 0, none⟩) (Kd.S_types HO736.out BK738.out (by decide)) (fun _ hk => hk.2) (.int .i64 t731)) (fun _ hk => hk.2) (.int .i64 t732)) (fun _ hk => hk.2) (.int .i64 t733)) (fun _ hk => hk.2) (.slice Ao13 t734.length co13)) (fun _ h_ => h_.1))) (Kd.S_base ho0) hb); replace BK738 := am (blk_below (g := gb738) (o := .cells #[.int .i64 t731, .int .i64 t732, .int .i64 t733, .slice Ao13 t734.length co13] 31 (0, 0)) (sp BK738) hb); replace HB := bsw hb; (try clear hb); (try clear hk); (try clear ho0)) | ((with_reducible refine gd 11 rfl ?_); (try (refine gate_guard (by rfl) ?_; dsimp only)); refine bx 11 #[.int .i64 0, .int .i64 0, .int .i64 0, .slice none 0 0] 31 ?_; intro gb746 hg w15 hbox hb; replace HO730 := rb HO730 hb; replace HO736 := am (Kd.S_below (ss HO736) hb); replace HO744 := am (Kd.S_below (ss HO744) hb); have GW746 := bzw w hg; have GE746 := bzw w hg; replace HB := bsw hb; have BK746 := am hbox; have NB738_746 := nl BK738 hg; have NB746_738 := ng BK738 hg; replace BK738 := bb BK738 hb; clear hb hbox hg; have hnb16 := NB746_738.out; have hnc16 := NB738_746.out; obtain ⟨hcz17_0, hcz17_1, hcz17_2, hcz17_3, hfz17_0, hfz17_1, hfz17_2, hfz17_3⟩ := cc4 BK746; obtain ⟨Ao18, co18, eo18⟩ := Kd.S_slice HO744.out; subst eo18))
   go_ret
   exact ⟨se, sbw⟩
  ·have c7b0 : (t737 != t745) = false := by simpa using c7
   (try (have c7b1 : decide (t737 = t745) = true := by simpa using c7))
   (try (have c7b2 : (t737 == t745) = true := by simpa using c7))
   clear c7
   obtain rfl | rfl := tt t737
   ·replace H := ip H
    have H' := am H
    clear H
    go_enter Try.func7, Try.ntmps7
    go_wp2_with (first | ((with_reducible refine gc 12 rfl ?_); refine gL (some 22) Try.func12 #[.slice A0 l0.length c0] ?_; (with_reducible refine (laws_big.calls _ _ l0 false _ ?side1 ?side2 A2.out).mono ?_); (case side1 => repeat (first | exact HR0.out | (with_reducible refine Kd.C_alloc ?_ _) | (with_reducible refine Kd.C_drewN ?_ _) | (with_reducible refine Kd.C_drew ?_))); (case side2 => exact HC0.out); rintro e w' ⟨rfl, ⟨nd, rfl⟩⟩; refine ⟨_, rfl, ?_⟩) | ((with_reducible refine gc 44 rfl ?_); refine gL (some 25) Try.func44 #[.slice A0 l0.length c0] ?_; (with_reducible refine (spec_DrawBuildProgram.calls k _ _ l0 t723 t724 t725 t726 t727 t728 _ ?side1 ?side2 A4.out).mono ?_); (case side1 => repeat (first | exact HR0.out | (with_reducible refine Kd.C_alloc ?_ _) | (with_reducible refine Kd.C_drewN ?_ _) | (with_reducible refine Kd.C_drew ?_))); (case side2 => exact HC0.out); rintro e w20 ⟨v729, rfl, ho0, hb⟩; refine ⟨_, rfl, ?_⟩; have HO730 := am (Kd.R_lower ho0 (below_size (sb))); replace HB := bs hb; (try clear hb); (try clear hk); (try clear ho0); obtain ⟨Ao21, co21, eo21⟩ := Kd.R_slice HO730.out; subst eo21) | ((with_reducible refine gc 45 rfl ?_); refine gL (some 39) Try.func45 #[.slice Ao21 t723.length co21, .int .i64 t724, .int .i64 t725, .int .i64 t726, .int .i64 t727, .int .i64 t728] ?_; (with_reducible refine (impl_BuildProgram.calls k _ _ t723 t724 t725 t726 t727 t728 t731 t732 t733 t734 true _ ?side1 ?side2 A5.out).mono ?_); (case side1 => exact cr HO730); (case side2 => exact (Kd.R_reads' HO730.out).2.1); rintro e w22 ⟨v735, rfl, ho0, hb⟩; refine ⟨_, rfl, ?_⟩; replace HO730 := rb HO730 hb; have HO736 := am (Kd.S_lower ho0 (below_size (sb))); replace HB := bs hb; (try clear hb); (try clear hk); (try clear ho0)) | ((with_reducible refine gd 9 rfl ?_); (try (refine gate_guard (by rfl) ?_; dsimp only)); refine bx 9 #[.int .i64 0, .int .i64 0, .int .i64 0, .slice none 0 0] 31 ?_; intro gb738 hg w23 hbox hb; replace HO730 := rb HO730 hb; replace HO736 := am (Kd.S_below (ss HO736) hb); have GW738 := bz w hg; have GE738 := bz w hg; replace HB := bs hb; have BK738 := am hbox; clear hb hbox hg; obtain ⟨hcz24_0, hcz24_1, hcz24_2, hcz24_3, hfz24_0, hfz24_1, hfz24_2, hfz24_3⟩ := cc4 BK738; obtain ⟨Ao25, co25, eo25⟩ := Kd.S_slice HO736.out; subst eo25) | ((with_reducible refine gc 46 rfl ?_); refine gL (some 49) Try.func46 #[.slice Ao21 t723.length co21, .int .i64 t724, .int .i64 t725, .int .i64 t726, .int .i64 t727, .int .i64 t728] ?_; (with_reducible refine (spec_BuildProgram.calls k _ _ t723 t724 t725 t726 t727 t728 t739 t740 t741 t742 t745 _ ?side1 ?side2 A6.out).mono ?_); (case side1 => refine (Kd.R_reads' (e := 137) (base := w.heap.size) (ok := fun k_ => True) (n := t723.length) (c := co21) ?_).2.2; exact (by (with_reducible repeat (first | apply Kd.R_alloc | apply Kd.R_drewN | apply Kd.R_drew)); exact (Kd.R_mono (Kd.R_far (p := ⟨gb738, 3, none⟩) (h3 HO730 BK738) (fun _ hk => hk.2) (.slice Ao25 t734.length co25)) (fun _ h_ => h_.1)))); (case side2 => exact (Kd.R_reads' HO730.out).2.1); rintro e w26 ⟨v743, rfl, ho0, hb⟩; refine ⟨_, rfl, ?_⟩; replace HO730 := am (Kd.R_below (by (with_reducible repeat (first | apply Kd.R_alloc | apply Kd.R_drewN | apply Kd.R_drew)); exact (Kd.R_mono (Kd.R_far (p := ⟨gb738, 3, none⟩) (h3 HO730 BK738) (fun _ hk => hk.2) (.slice Ao25 t734.length co25)) (fun _ h_ => h_.1))) hb); have HO744 := am (Kd.S_lower (Kd.S_new' ho0 (Kd.S_lt (by (with_reducible repeat (first | apply Kd.S_alloc | apply Kd.S_drewN | apply Kd.S_drew)); exact (Kd.S_mono (Kd.S_far (p := ⟨gb738, 3, none⟩) (Kd.S_far (p := ⟨gb738, 2, none⟩) (Kd.S_far (p := ⟨gb738, 1, none⟩) (Kd.S_far (p := ⟨gb738, 0, none⟩) (Kd.S_types HO736.out BK738.out (by decide)) (fun _ hk => hk.2) (.int .i64 t731)) (fun _ hk => hk.2) (.int .i64 t732)) (fun _ hk => hk.2) (.int .i64 t733)) (fun _ hk => hk.2) (.slice Ao25 t734.length co25)) (fun _ h_ => h_.1))))) (below_size (sbw))); replace HO736 := am (Kd.S_elder' (by (with_reducible repeat (first | apply Kd.S_alloc | apply Kd.S_drewN | apply Kd.S_drew)); exact (Kd.S_mono (Kd.S_far (p := ⟨gb738, 3, none⟩) (Kd.S_far (p := ⟨gb738, 2, none⟩) (Kd.S_far (p := ⟨gb738, 1, none⟩) (Kd.S_far (p := ⟨gb738, 0, none⟩) (Kd.S_types HO736.out BK738.out (by decide)) (fun _ hk => hk.2) (.int .i64 t731)) (fun _ hk => hk.2) (.int .i64 t732)) (fun _ hk => hk.2) (.int .i64 t733)) (fun _ hk => hk.2) (.slice Ao25 t734.length co25)) (fun _ h_ => h_.1))) (Kd.S_base ho0) hb); replace BK738 := am (blk_below (g := gb738) (o := .cells #[.int .i64 t731, .int .i64 t732, .int .i64 t733, .slice Ao25 t734.length co25] 31 (0, 0)) (sp BK738) hb); replace HB := bsw hb; (try clear hb); (try clear hk); (try clear ho0)) | ((with_reducible refine gd 11 rfl ?_); (try (refine gate_guard (by rfl) ?_; dsimp only)); refine bx 11 #[.int .i64 0, .int .i64 0, .int .i64 0, .slice none 0 0] 31 ?_; intro gb746 hg w27 hbox hb; replace HO730 := rb HO730 hb; replace HO736 := am (Kd.S_below (ss HO736) hb); replace HO744 := am (Kd.S_below (ss HO744) hb); have GW746 := bzw w hg; have GE746 := bzw w hg; replace HB := bsw hb; have BK746 := am hbox; have NB738_746 := nl BK738 hg; have NB746_738 := ng BK738 hg; replace BK738 := bb BK738 hb; clear hb hbox hg; have hnb28 := NB746_738.out; have hnc28 := NB738_746.out; obtain ⟨hcz29_0, hcz29_1, hcz29_2, hcz29_3, hfz29_0, hfz29_1, hfz29_2, hfz29_3⟩ := cc4 BK746; obtain ⟨Ao30, co30, eo30⟩ := Kd.S_slice HO744.out; subst eo30))
    go_loopg [13] k (fun kq v13 w' => ∃ (x13_1 : Int), v13 = .int .i64 x13_1 ∧ Aside0 (laws_FnPrograms.l0 kq t723 t724 t725 t727 x13_1 t731 t732 t733 t734 = some r) ∧ Aside0 (kq ≤ k) ∧ Aside0 (Kd.R k137 137 w' w.heap.size (fun _ => True) (.slice Ao21 t723.length co21) t723) ∧ Aside0 (Kd.S k105 105 w' w.heap.size (fun k_ => some k_ ≠ ((.slice Ao30 t742.length co30) : Value).ownBlock) (.slice Ao25 t734.length co25) t734) ∧ Aside0 (Kd.S k105 105 w' w.heap.size (fun k_ => some k_ ≠ ((.slice Ao25 t734.length co25) : Value).ownBlock) (.slice Ao30 t742.length co30) t742) ∧ Aside0 (w'.heap[gb738]? = some (.cells #[.int .i64 t731, .int .i64 t732, .int .i64 t733, (.slice Ao25 t734.length co25)] 31 (0, 0))) ∧ Aside0 (w'.heap[gb746]? = some (.cells #[.int .i64 t739, .int .i64 t740, .int .i64 t741, (.slice Ao30 t742.length co30)] 31 (0, 0))) ∧ Aside0 (Below w.heap.size w w'))
    case atStart => exact ⟨(t726), sc, H', kk0, ⟨by (with_reducible repeat (first | apply Kd.R_alloc | apply Kd.R_drewN | apply Kd.R_drew)); exact Kd.R_mono (Kd.R_far (p := ⟨gb746, 3, none⟩) (h3 HO730 BK746) (fun _ hk => hk.2) (.slice Ao30 t742.length co30)) (fun _ hk => trivial)⟩, ⟨by (with_reducible repeat (first | apply Kd.S_alloc | apply Kd.S_drewN | apply Kd.S_drew)); exact Kd.S_mono (Kd.S_far (p := ⟨gb746, 3, none⟩) (Kd.S_far (p := ⟨gb746, 2, none⟩) (Kd.S_far (p := ⟨gb746, 1, none⟩) (Kd.S_far (p := ⟨gb746, 0, none⟩) (Kd.S_types HO736.out BK746.out (by decide)) (fun _ hk => hk.2) (.int .i64 t739)) (fun _ hk => hk.2) (.int .i64 t740)) (fun _ hk => hk.2) (.int .i64 t741)) (fun _ hk => hk.2) (.slice Ao30 t742.length co30)) (fun _ hk => hk.1.2)⟩, ⟨by (with_reducible repeat (first | apply Kd.S_alloc | apply Kd.S_drewN | apply Kd.S_drew)); exact Kd.S_mono (Kd.S_far (p := ⟨gb746, 3, none⟩) (Kd.S_far (p := ⟨gb746, 2, none⟩) (Kd.S_far (p := ⟨gb746, 1, none⟩) (Kd.S_far (p := ⟨gb746, 0, none⟩) (Kd.S_types HO744.out BK746.out (by decide)) (fun _ hk => hk.2) (.int .i64 t739)) (fun _ hk => hk.2) (.int .i64 t740)) (fun _ hk => hk.2) (.int .i64 t741)) (fun _ hk => hk.2) (.slice Ao30 t742.length co30)) (fun _ hk => hk.1.2)⟩, ⟨sp BK738⟩, ⟨sp BK746⟩, ⟨sbw⟩⟩
    case round =>
     clear H'
     try clear c7
     try clear c7b0
     try clear c7b1
     try clear c7b2
     obtain ⟨x13_1, rfl, HA, HK1, HO_3, HO_739003, HO_747003, BK738, BK746, HB⟩ := hrel
     cases gk with
     | zero => exact absurd HA.out (by simp [laws_FnPrograms.l0])
     | succ k1 =>
      have H := HA.out
      clear HA
      simp only [laws_FnPrograms.l0] at H
      have HC31 := am H
      clear H
      go_upto_region 11 with (fail)
      go_cut [68] (fun v68 wc => ∃ (kq : Nat) (x68_30 : Bool), v68 = .bool x68_30 ∧ Aside0 (laws_FnPrograms.j1 kq t723 t724 t725 t727 x13_1 x68_30 t731 t732 t733 t734 = some r) ∧ Aside0 (kq ≤ k1) ∧ Aside0 (Kd.R k137 137 wc w.heap.size (fun _ => True) (.slice Ao21 t723.length co21) t723) ∧ Aside0 (Kd.S k105 105 wc w.heap.size (fun k_ => some k_ ≠ ((.slice Ao30 t742.length co30) : Value).ownBlock) (.slice Ao25 t734.length co25) t734) ∧ Aside0 (Kd.S k105 105 wc w.heap.size (fun k_ => some k_ ≠ ((.slice Ao25 t734.length co25) : Value).ownBlock) (.slice Ao30 t742.length co30) t742) ∧ Aside0 (wc.heap[gb738]? = some (.cells #[.int .i64 t731, .int .i64 t732, .int .i64 t733, (.slice Ao25 t734.length co25)] 31 (0, 0))) ∧ Aside0 (wc.heap[gb746]? = some (.cells #[.int .i64 t739, .int .i64 t740, .int .i64 t741, (.slice Ao30 t742.length co30)] 31 (0, 0))) ∧ Aside0 (Below w.heap.size w wc))
      case first =>
       have H := HC31.out
       clear HC31
       obtain ⟨c32, H⟩ | ⟨c32, H⟩ := ie_ H
       ·have c32b0 := decide_eq_true c32
        clear c32
        (first | rw [c32b0] | (simp only [i64_w, i32_w]; rw [c32b0]) | rw [c32b1] | skip)
        have H' := am H
        clear H
        go_wp2
        go_meet
        case rel => exact ⟨_, (decide (x13_1 ≤ 30)), sc, H', ⟨by have := HK1.out; first | omega | exact Nat.le_refl _⟩, ⟨sr HO_3⟩, ⟨ss HO_739003⟩, ⟨ss HO_747003⟩, ⟨sk BK738⟩, ⟨sk BK746⟩, ⟨sbw⟩⟩
       ·have c32b0 := decide_eq_false c32
        clear c32
        (first | rw [c32b0] | (simp only [i64_w, i32_w]; rw [c32b0]) | rw [c32b1] | skip)
        have H' := am H
        clear H
        go_wp2
        go_meet
        case rel => exact ⟨_, (false), sc, H', ⟨by have := HK1.out; first | omega | exact Nat.le_refl _⟩, ⟨sr HO_3⟩, ⟨ss HO_739003⟩, ⟨ss HO_747003⟩, ⟨sk BK738⟩, ⟨sk BK746⟩, ⟨sbw⟩⟩
      case rest =>
       clear HC31
       try clear c7
       try clear c7b0
       try clear c7b1
       try clear c7b2
       try clear c32
       try clear c32b0
       obtain ⟨kq, x68_30, rfl, HA, HJ30, HO_3, HO_739003, HO_747003, BK738, BK746, HB⟩ := hcut
       cases kq with
       | zero => exact absurd HA.out (by simp [laws_FnPrograms.j1])
       | succ kj30 =>
        have H := HA.out
        clear HA
        simp only [laws_FnPrograms.j1] at H
        obtain rfl | rfl := tt x68_30
        ·replace H := ip H
         obtain ⟨t747, A34, H⟩ := bnd H
         have H' := am H
         clear H
         have hnb35 := NB738_746.out
         have hnc35 := NB746_738.out
         obtain ⟨hcz36_0, hcz36_1, hcz36_2, hcz36_3, hfz36_0, hfz36_1, hfz36_2, hfz36_3⟩ := cc4 BK738
         go_wp2_with (first | ((with_reducible refine gc 42 rfl ?_); refine gL (some 73) Try.func42 #[.agg #[.int .i64 t731, .int .i64 t732, .int .i64 t733, .slice Ao25 t734.length co25], .int .i64 x13_1] ?_; (with_reducible refine (impl_PieceAt.calls t731 t732 t733 _ _ t734 x13_1 t747 _ ?side1 ?side2 A34.out).mono ?_); (case side1 => repeat (first | exact (Kd.S_reads' HO_739003.out).2.2 | (with_reducible refine Kd.C_alloc ?_ _) | (with_reducible refine Kd.C_drewN ?_ _) | (with_reducible refine Kd.C_drew ?_))); (case side2 => exact (Kd.S_reads' HO_739003.out).2.1); rintro e w37 ⟨rfl, hb⟩; refine ⟨_, rfl, ?_⟩; replace HO_3 := rb HO_3 hb; replace HO_739003 := am (Kd.S_below (ss HO_739003) hb); replace HO_747003 := am (Kd.S_below (ss HO_747003) hb); replace BK738 := bb BK738 hb; replace BK746 := bb BK746 hb; replace HB := bsw hb; (try clear hb)))
         go_loopg [15] kj30 (fun kq v15 w' => ∃ (x15_3 : Int), v15 = .int .i64 x15_3 ∧ Aside0 (laws_FnPrograms.l1 kq t723 t724 t725 t727 x13_1 t747 x15_3 t731 t732 t733 t734 = some r) ∧ Aside0 (kq ≤ kj30) ∧ Aside0 (Kd.R k137 137 w' w.heap.size (fun _ => True) (.slice Ao21 t723.length co21) t723) ∧ Aside0 (Kd.S k105 105 w' w.heap.size (fun k_ => some k_ ≠ ((.slice Ao30 t742.length co30) : Value).ownBlock) (.slice Ao25 t734.length co25) t734) ∧ Aside0 (Kd.S k105 105 w' w.heap.size (fun k_ => some k_ ≠ ((.slice Ao25 t734.length co25) : Value).ownBlock) (.slice Ao30 t742.length co30) t742) ∧ Aside0 (w'.heap[gb738]? = some (.cells #[.int .i64 t731, .int .i64 t732, .int .i64 t733, (.slice Ao25 t734.length co25)] 31 (0, 0))) ∧ Aside0 (w'.heap[gb746]? = some (.cells #[.int .i64 t739, .int .i64 t740, .int .i64 t741, (.slice Ao30 t742.length co30)] 31 (0, 0))) ∧ Aside0 (Below w.heap.size w w'))
         case atStart => exact ⟨(0), sc, H', kk0, ⟨sr HO_3⟩, ⟨ss HO_739003⟩, ⟨ss HO_747003⟩, ⟨sk BK738⟩, ⟨sk BK746⟩, ⟨sbw⟩⟩
         case round =>
          clear H'
          try clear c7
          try clear c7b0
          try clear c7b1
          try clear c7b2
          try clear c32
          try clear c32b0
          try clear hcz36_0
          try clear hcz36_1
          try clear hcz36_2
          try clear hcz36_3
          try clear hfz36_0
          try clear hfz36_1
          try clear hfz36_2
          try clear hfz36_3
          obtain ⟨x15_3, rfl, HA, HK3, HO_3, HO_739003, HO_747003, BK738, BK746, HB⟩ := hrel
          cases gk with
          | zero => exact absurd HA.out (by simp [laws_FnPrograms.l1])
          | succ k3 =>
           have H := HA.out
           clear HA
           simp only [laws_FnPrograms.l1] at H
           obtain ⟨c38, H⟩ | ⟨c38, H⟩ := ie_ H
           ·have c38b0 := decide_eq_true c38
            clear c38
            have H' := am H
            clear H
            go_wp2
            go_loopg [16] k3 (fun kq v16 w' => ∃ (x16_4 : Int), v16 = .int .i64 x16_4 ∧ Aside0 (laws_FnPrograms.l2 kq t723 t724 t725 t727 x13_1 t747 x15_3 x16_4 t731 t732 t733 t734 = some r) ∧ Aside0 (kq ≤ k3) ∧ Aside0 (Kd.R k137 137 w' w.heap.size (fun _ => True) (.slice Ao21 t723.length co21) t723) ∧ Aside0 (Kd.S k105 105 w' w.heap.size (fun k_ => some k_ ≠ ((.slice Ao30 t742.length co30) : Value).ownBlock) (.slice Ao25 t734.length co25) t734) ∧ Aside0 (Kd.S k105 105 w' w.heap.size (fun k_ => some k_ ≠ ((.slice Ao25 t734.length co25) : Value).ownBlock) (.slice Ao30 t742.length co30) t742) ∧ Aside0 (w'.heap[gb738]? = some (.cells #[.int .i64 t731, .int .i64 t732, .int .i64 t733, (.slice Ao25 t734.length co25)] 31 (0, 0))) ∧ Aside0 (w'.heap[gb746]? = some (.cells #[.int .i64 t739, .int .i64 t740, .int .i64 t741, (.slice Ao30 t742.length co30)] 31 (0, 0))) ∧ Aside0 (Below w.heap.size w w'))
            case atStart => exact ⟨(wrap64 (x15_3 + 1)), sc, H', kk0, ⟨sr HO_3⟩, ⟨ss HO_739003⟩, ⟨ss HO_747003⟩, ⟨sk BK738⟩, ⟨sk BK746⟩, ⟨sbw⟩⟩
            case round =>
             clear H'
             try clear c7
             try clear c7b0
             try clear c7b1
             try clear c7b2
             try clear c32
             try clear c32b0
             try clear c38
             try clear c38b0
             try clear hcz36_0
             try clear hcz36_1
             try clear hcz36_2
             try clear hcz36_3
             try clear hfz36_0
             try clear hfz36_1
             try clear hfz36_2
             try clear hfz36_3
             obtain ⟨x16_4, rfl, HA, HK4, HO_3, HO_739003, HO_747003, BK738, BK746, HB⟩ := hrel
             cases gk with
             | zero => exact absurd HA.out (by simp [laws_FnPrograms.l2])
             | succ k4 =>
              have H := HA.out
              clear HA
              simp only [laws_FnPrograms.l2] at H
              obtain ⟨c39, H⟩ | ⟨c39, H⟩ := ie_ H
              ·have c39b0 := decide_eq_true c39
               clear c39
               obtain ⟨t748, A40, H⟩ := bnd H
               obtain ⟨t749, A41, H⟩ := bnd H
               obtain ⟨c42, H⟩ | ⟨c42, H⟩ := ie_ H
               ·have c42b0 : (t748 != t749) = true := c42
                (try (have c42b1 : decide (t748 = t749) = false := by simpa using c42))
                (try (have c42b2 : (t748 == t749) = false := by simpa using c42))
                (try (have c42b3 : ¬ (t748 = t749) := by simpa using c42))
                clear c42
                obtain rfl := Option.some.inj H
                try go_wp2
                replace HO_3 := am (Kd.R_drew HO_3.out)
                replace HO_739003 := am (Kd.S_drew HO_739003.out)
                replace HO_747003 := am (Kd.S_drew HO_747003.out)
                replace BK738 := am (blk_drew BK738.out)
                replace BK746 := am (blk_drew BK746.out)
                replace HB := am (below_drew1 HB.out)
                refine start_ (n := 24) (S := fun w' => w'.cell? ⟨gb738, 0, none⟩ = some (.int .i64 t731) ∧ w'.cell? ⟨gb738, 1, none⟩ = some (.int .i64 t732) ∧ w'.cell? ⟨gb738, 2, none⟩ = some (.int .i64 t733) ∧ w'.cell? ⟨gb738, 3, none⟩ = some (.slice Ao25 t734.length co25)) (ds := []) #[false, false, false, false, false, false, false, false, false, false, false, false, false, false, false, false, false, false, false, false, false, false, false, false] (by kernel_rfl) rfl rfl ⟨bc0 BK738, bc1 BK738, bc2 BK738, bc3 BK738⟩ (fun hHeld => ?_); refine with_tabW laws_FnPrograms.tab20 laws_FnPrograms.bits20 (fun HT_ HW_ => ?_)
                generalize wr.drew = w43 at HO_3 HO_739003 HO_747003 BK738 BK746 HB hHeld ⊢
                refine put 1 87 (bt 24 2) HT_ ?_
                refine put 2 88 (bt 24 6) HT_ ?_
                refine put 3 89 (bt 24 14) HT_ ?_
                refine put 5 91 (bt 24 46) HT_ ?_
                refine put 6 92 (bt 24 110) HT_ ?_
                refine put 7 93 (bt 24 238) HT_ ?_
                refine put 8 94 (bt 24 494) HT_ ?_
                refine tat4 0 86 (bt 24 495) HT_ HW_ hHeld ?_
                refine one_ (i := 4) (N := some 90) (bt 24 511) rfl rfl (one_of HT_.out (by kernel_rfl)) (by decide) (fun K hK => ?_)
                refine goes_ Try.func47 (by kernel_rfl) rfl #[.agg #[.int .i64 t731, .int .i64 t732, .int .i64 t733, .slice Ao25 t734.length co25], .int .i64 t747, .int .i64 x15_3, .int .i64 x16_4] (by rfl) rfl rfl sl ?_
                with_reducible refine (impl_HasLink.calls t731 t732 t733 _ _ t734 t747 x15_3 x16_4 t748 _ ?side1 ?side2 A40.out).mono ?_
                (case side1 => repeat (first | exact (Kd.S_reads' HO_739003.out).2.2 | (with_reducible refine Kd.C_alloc ?_ _) | (with_reducible refine Kd.C_drewN ?_ _) | (with_reducible refine Kd.C_drew ?_)))
                (case side2 => exact (Kd.S_reads' HO_739003.out).2.1)
                rintro e w44 ⟨rfl, hb⟩
                refine ⟨_, rfl, ?_⟩
                replace HO_3 := rb HO_3 hb
                replace HO_739003 := am (Kd.S_below (ss HO_739003) hb)
                replace HO_747003 := am (Kd.S_below (ss HO_747003) hb)
                replace BK738 := bb BK738 hb
                replace BK746 := bb BK746 hb
                replace HB := bsw hb
                (try clear hb)
                (try clear hb2)
                (try clear hk)
                (try clear hi)
                refine hK.out _ _ ⟨bc0 BK738, bc1 BK738, bc2 BK738, bc3 BK738⟩ (fun hHeld => ?_)
                clear hK K
                refine nm 90 ?_
                refine one_ (i := 9) (N := some 95) (bt 24 1023) rfl rfl (one_of HT_.out (by kernel_rfl)) (by decide) (fun K hK => ?_)
                refine goes_ Try.func48 (by kernel_rfl) rfl #[.slice Ao21 t723.length co21, .int .i64 x15_3, .int .i64 x16_4, .int .i64 x13_1] (by rfl) rfl rfl sl ?_
                with_reducible refine (impl_CanSpeak.calls k4 _ _ t723 x15_3 x16_4 x13_1 t749 _ ?side1 ?side2 A41.out).mono ?_
                (case side1 => exact cr HO_3)
                (case side2 => exact (Kd.R_reads' HO_3.out).2.1)
                rintro e w45 ⟨rfl, hb⟩
                refine ⟨_, rfl, ?_⟩
                replace HO_3 := rb HO_3 hb
                replace HO_739003 := am (Kd.S_below (ss HO_739003) hb)
                replace HO_747003 := am (Kd.S_below (ss HO_747003) hb)
                replace BK738 := bb BK738 hb
                replace BK746 := bb BK746 hb
                replace HB := bsw hb
                (try clear hb)
                (try clear hb2)
                (try clear hk)
                (try clear hi)
                refine hK.out _ _ ⟨bc0 BK738, bc1 BK738, bc2 BK738, bc3 BK738⟩ (fun hHeld => ?_)
                clear hK K
                refine nm 95 ?_
                refine put 10 96 (bt 24 2047) HT_ ?_
                refine put 11 97 (bt 24 4095) HT_ ?_
                refine pn 12 98 (bt 24 8191) HT_ ?_
                refine pn 13 99 (bt 24 16383) HT_ ?_
                refine pn 14 100 (bt 24 32767) HT_ ?_
                refine pn 15 101 (bt 24 65535) HT_ ?_
                refine pn 16 102 (bt 24 131071) HT_ ?_
                refine pn 17 103 (bt 24 262143) HT_ ?_
                refine pn 18 104 (bt 24 524287) HT_ ?_
                refine pn 19 105 (bt 24 1048575) HT_ ?_
                refine pn 20 106 (bt 24 2097151) HT_ ?_
                refine pn 21 107 (bt 24 4194303) HT_ ?_
                refine pn 22 108 (bt 24 8388607) HT_ ?_
                refine put 23 109 (bt 24 16777215) HT_ ?_
                refine done_ (done_of HT_.out (by kernel_rfl)) ?_
                try go_wp2
                go_ret
                exact ⟨se, sbw⟩
               ·have c42b0 : (t748 != t749) = false := by simpa using c42
                (try (have c42b1 : decide (t748 = t749) = true := by simpa using c42))
                (try (have c42b2 : (t748 == t749) = true := by simpa using c42))
                clear c42
                obtain ⟨t750, A46, H⟩ := bnd H
                obtain ⟨t751, A47, H⟩ := bnd H
                obtain ⟨c48, H⟩ | ⟨c48, H⟩ := ie_ H
                ·have c48b0 : (t750 != t751) = true := c48
                 (try (have c48b1 : decide (t750 = t751) = false := by simpa using c48))
                 (try (have c48b2 : (t750 == t751) = false := by simpa using c48))
                 (try (have c48b3 : ¬ (t750 = t751) := by simpa using c48))
                 clear c48
                 obtain rfl := Option.some.inj H
                 try go_wp2
                 replace HO_3 := am (Kd.R_drew HO_3.out)
                 replace HO_739003 := am (Kd.S_drew HO_739003.out)
                 replace HO_747003 := am (Kd.S_drew HO_747003.out)
                 replace BK738 := am (blk_drew BK738.out)
                 replace BK746 := am (blk_drew BK746.out)
                 replace HB := am (below_drew1 HB.out)
                 refine start_ (n := 24) (S := fun w' => w'.cell? ⟨gb738, 0, none⟩ = some (.int .i64 t731) ∧ w'.cell? ⟨gb738, 1, none⟩ = some (.int .i64 t732) ∧ w'.cell? ⟨gb738, 2, none⟩ = some (.int .i64 t733) ∧ w'.cell? ⟨gb738, 3, none⟩ = some (.slice Ao25 t734.length co25)) (ds := []) #[false, false, false, false, false, false, false, false, false, false, false, false, false, false, false, false, false, false, false, false, false, false, false, false] (by kernel_rfl) rfl rfl ⟨bc0 BK738, bc1 BK738, bc2 BK738, bc3 BK738⟩ (fun hHeld => ?_); refine with_tabW laws_FnPrograms.tab20 laws_FnPrograms.bits20 (fun HT_ HW_ => ?_)
                 generalize wr.drew = w49 at HO_3 HO_739003 HO_747003 BK738 BK746 HB hHeld ⊢
                 refine put 1 87 (bt 24 2) HT_ ?_
                 refine put 2 88 (bt 24 6) HT_ ?_
                 refine put 3 89 (bt 24 14) HT_ ?_
                 refine put 5 91 (bt 24 46) HT_ ?_
                 refine put 6 92 (bt 24 110) HT_ ?_
                 refine put 7 93 (bt 24 238) HT_ ?_
                 refine put 8 94 (bt 24 494) HT_ ?_
                 refine tat4 0 86 (bt 24 495) HT_ HW_ hHeld ?_
                 refine one_ (i := 4) (N := some 90) (bt 24 511) rfl rfl (one_of HT_.out (by kernel_rfl)) (by decide) (fun K hK => ?_)
                 refine goes_ Try.func47 (by kernel_rfl) rfl #[.agg #[.int .i64 t731, .int .i64 t732, .int .i64 t733, .slice Ao25 t734.length co25], .int .i64 t747, .int .i64 x15_3, .int .i64 x16_4] (by rfl) rfl rfl sl ?_
                 with_reducible refine (impl_HasLink.calls t731 t732 t733 _ _ t734 t747 x15_3 x16_4 t748 _ ?side1 ?side2 A40.out).mono ?_
                 (case side1 => repeat (first | exact (Kd.S_reads' HO_739003.out).2.2 | (with_reducible refine Kd.C_alloc ?_ _) | (with_reducible refine Kd.C_drewN ?_ _) | (with_reducible refine Kd.C_drew ?_)))
                 (case side2 => exact (Kd.S_reads' HO_739003.out).2.1)
                 rintro e w50 ⟨rfl, hb⟩
                 refine ⟨_, rfl, ?_⟩
                 replace HO_3 := rb HO_3 hb
                 replace HO_739003 := am (Kd.S_below (ss HO_739003) hb)
                 replace HO_747003 := am (Kd.S_below (ss HO_747003) hb)
                 replace BK738 := bb BK738 hb
                 replace BK746 := bb BK746 hb
                 replace HB := bsw hb
                 (try clear hb)
                 (try clear hb2)
                 (try clear hk)
                 (try clear hi)
                 refine hK.out _ _ ⟨bc0 BK738, bc1 BK738, bc2 BK738, bc3 BK738⟩ (fun hHeld => ?_)
                 clear hK K
                 refine nm 90 ?_
                 refine one_ (i := 9) (N := some 95) (bt 24 1023) rfl rfl (one_of HT_.out (by kernel_rfl)) (by decide) (fun K hK => ?_)
                 refine goes_ Try.func48 (by kernel_rfl) rfl #[.slice Ao21 t723.length co21, .int .i64 x15_3, .int .i64 x16_4, .int .i64 x13_1] (by rfl) rfl rfl sl ?_
                 with_reducible refine (impl_CanSpeak.calls k4 _ _ t723 x15_3 x16_4 x13_1 t749 _ ?side1 ?side2 A41.out).mono ?_
                 (case side1 => exact cr HO_3)
                 (case side2 => exact (Kd.R_reads' HO_3.out).2.1)
                 rintro e w51 ⟨rfl, hb⟩
                 refine ⟨_, rfl, ?_⟩
                 replace HO_3 := rb HO_3 hb
                 replace HO_739003 := am (Kd.S_below (ss HO_739003) hb)
                 replace HO_747003 := am (Kd.S_below (ss HO_747003) hb)
                 replace BK738 := bb BK738 hb
                 replace BK746 := bb BK746 hb
                 replace HB := bsw hb
                 (try clear hb)
                 (try clear hb2)
                 (try clear hk)
                 (try clear hi)
                 refine hK.out _ _ ⟨bc0 BK738, bc1 BK738, bc2 BK738, bc3 BK738⟩ (fun hHeld => ?_)
                 clear hK K
                 refine nm 95 ?_
                 refine put 10 96 (bt 24 2047) HT_ ?_
                 refine put 11 97 (bt 24 4095) HT_ ?_
                 refine put 13 99 (bt 24 12287) HT_ ?_
                 refine put 14 100 (bt 24 28671) HT_ ?_
                 refine put 15 101 (bt 24 61439) HT_ ?_
                 refine put 18 104 (bt 24 323583) HT_ ?_
                 refine put 19 105 (bt 24 847871) HT_ ?_
                 refine put 20 106 (bt 24 1896447) HT_ ?_
                 refine tat4 12 98 (bt 24 1900543) HT_ HW_ hHeld ?_
                 refine tat4 17 103 (bt 24 2031615) HT_ HW_ hHeld ?_
                 refine one_ (i := 16) (N := some 102) (bt 24 2097151) rfl rfl (one_of HT_.out (by kernel_rfl)) (by decide) (fun K hK => ?_)
                 refine goes_ Try.func47 (by kernel_rfl) rfl #[.agg #[.int .i64 t731, .int .i64 t732, .int .i64 t733, .slice Ao25 t734.length co25], .int .i64 t747, .int .i64 x15_3, .int .i64 x16_4] (by rfl) rfl rfl sl ?_
                 with_reducible refine (impl_HasLink.calls t731 t732 t733 _ _ t734 t747 x15_3 x16_4 t750 _ ?side1 ?side2 A46.out).mono ?_
                 (case side1 => repeat (first | exact (Kd.S_reads' HO_739003.out).2.2 | (with_reducible refine Kd.C_alloc ?_ _) | (with_reducible refine Kd.C_drewN ?_ _) | (with_reducible refine Kd.C_drew ?_)))
                 (case side2 => exact (Kd.S_reads' HO_739003.out).2.1)
                 rintro e w52 ⟨rfl, hb⟩
                 refine ⟨_, rfl, ?_⟩
                 replace HO_3 := rb HO_3 hb
                 replace HO_739003 := am (Kd.S_below (ss HO_739003) hb)
                 replace HO_747003 := am (Kd.S_below (ss HO_747003) hb)
                 replace BK738 := bb BK738 hb
                 replace BK746 := bb BK746 hb
                 replace HB := bsw hb
                 (try clear hb)
                 (try clear hb2)
                 (try clear hk)
                 (try clear hi)
                 refine hK.out _ _ ⟨bc0 BK738, bc1 BK738, bc2 BK738, bc3 BK738⟩ (fun hHeld => ?_)
                 clear hK K
                 refine nm 102 ?_
                 refine one_ (i := 21) (N := some 107) (bt 24 4194303) rfl rfl (one_of HT_.out (by kernel_rfl)) (by decide) (fun K hK => ?_)
                 refine goes_ Try.func47 (by kernel_rfl) rfl #[.agg #[.int .i64 t731, .int .i64 t732, .int .i64 t733, .slice Ao25 t734.length co25], .int .i64 t747, .int .i64 x16_4, .int .i64 x15_3] (by rfl) rfl rfl sl ?_
                 with_reducible refine (impl_HasLink.calls t731 t732 t733 _ _ t734 t747 x16_4 x15_3 t751 _ ?side1 ?side2 A47.out).mono ?_
                 (case side1 => repeat (first | exact (Kd.S_reads' HO_739003.out).2.2 | (with_reducible refine Kd.C_alloc ?_ _) | (with_reducible refine Kd.C_drewN ?_ _) | (with_reducible refine Kd.C_drew ?_)))
                 (case side2 => exact (Kd.S_reads' HO_739003.out).2.1)
                 rintro e w53 ⟨rfl, hb⟩
                 refine ⟨_, rfl, ?_⟩
                 replace HO_3 := rb HO_3 hb
                 replace HO_739003 := am (Kd.S_below (ss HO_739003) hb)
                 replace HO_747003 := am (Kd.S_below (ss HO_747003) hb)
                 replace BK738 := bb BK738 hb
                 replace BK746 := bb BK746 hb
                 replace HB := bsw hb
                 (try clear hb)
                 (try clear hb2)
                 (try clear hk)
                 (try clear hi)
                 refine hK.out _ _ ⟨bc0 BK738, bc1 BK738, bc2 BK738, bc3 BK738⟩ (fun hHeld => ?_)
                 clear hK K
                 refine nm 107 ?_
                 refine put 22 108 (bt 24 8388607) HT_ ?_
                 refine put 23 109 (bt 24 16777215) HT_ ?_
                 refine done_ (done_of HT_.out (by kernel_rfl)) ?_
                 try go_wp2
                 go_ret
                 exact ⟨se, sbw⟩
                ·have c48b0 : (t750 != t751) = false := by simpa using c48
                 (try (have c48b1 : decide (t750 = t751) = true := by simpa using c48))
                 (try (have c48b2 : (t750 == t751) = true := by simpa using c48))
                 clear c48
                 have H' := am H
                 clear H
                 try go_wp2
                 replace HO_3 := am (Kd.R_drew HO_3.out)
                 replace HO_739003 := am (Kd.S_drew HO_739003.out)
                 replace HO_747003 := am (Kd.S_drew HO_747003.out)
                 replace BK738 := am (blk_drew BK738.out)
                 replace BK746 := am (blk_drew BK746.out)
                 replace HB := am (below_drew1 HB.out)
                 refine start_ (n := 24) (S := fun w' => w'.cell? ⟨gb738, 0, none⟩ = some (.int .i64 t731) ∧ w'.cell? ⟨gb738, 1, none⟩ = some (.int .i64 t732) ∧ w'.cell? ⟨gb738, 2, none⟩ = some (.int .i64 t733) ∧ w'.cell? ⟨gb738, 3, none⟩ = some (.slice Ao25 t734.length co25)) (ds := []) #[false, false, false, false, false, false, false, false, false, false, false, false, false, false, false, false, false, false, false, false, false, false, false, false] (by kernel_rfl) rfl rfl ⟨bc0 BK738, bc1 BK738, bc2 BK738, bc3 BK738⟩ (fun hHeld => ?_); refine with_tabW laws_FnPrograms.tab20 laws_FnPrograms.bits20 (fun HT_ HW_ => ?_)
                 generalize wr.drew = w54 at HO_3 HO_739003 HO_747003 BK738 BK746 HB hHeld ⊢
                 refine put 1 87 (bt 24 2) HT_ ?_
                 refine put 2 88 (bt 24 6) HT_ ?_
                 refine put 3 89 (bt 24 14) HT_ ?_
                 refine put 5 91 (bt 24 46) HT_ ?_
                 refine put 6 92 (bt 24 110) HT_ ?_
                 refine put 7 93 (bt 24 238) HT_ ?_
                 refine put 8 94 (bt 24 494) HT_ ?_
                 refine tat4 0 86 (bt 24 495) HT_ HW_ hHeld ?_
                 refine one_ (i := 4) (N := some 90) (bt 24 511) rfl rfl (one_of HT_.out (by kernel_rfl)) (by decide) (fun K hK => ?_)
                 refine goes_ Try.func47 (by kernel_rfl) rfl #[.agg #[.int .i64 t731, .int .i64 t732, .int .i64 t733, .slice Ao25 t734.length co25], .int .i64 t747, .int .i64 x15_3, .int .i64 x16_4] (by rfl) rfl rfl sl ?_
                 with_reducible refine (impl_HasLink.calls t731 t732 t733 _ _ t734 t747 x15_3 x16_4 t748 _ ?side1 ?side2 A40.out).mono ?_
                 (case side1 => repeat (first | exact (Kd.S_reads' HO_739003.out).2.2 | (with_reducible refine Kd.C_alloc ?_ _) | (with_reducible refine Kd.C_drewN ?_ _) | (with_reducible refine Kd.C_drew ?_)))
                 (case side2 => exact (Kd.S_reads' HO_739003.out).2.1)
                 rintro e w55 ⟨rfl, hb⟩
                 refine ⟨_, rfl, ?_⟩
                 replace HO_3 := rb HO_3 hb
                 replace HO_739003 := am (Kd.S_below (ss HO_739003) hb)
                 replace HO_747003 := am (Kd.S_below (ss HO_747003) hb)
                 replace BK738 := bb BK738 hb
                 replace BK746 := bb BK746 hb
                 replace HB := bsw hb
                 (try clear hb)
                 (try clear hb2)
                 (try clear hk)
                 (try clear hi)
                 refine hK.out _ _ ⟨bc0 BK738, bc1 BK738, bc2 BK738, bc3 BK738⟩ (fun hHeld => ?_)
                 clear hK K
                 refine nm 90 ?_
                 refine one_ (i := 9) (N := some 95) (bt 24 1023) rfl rfl (one_of HT_.out (by kernel_rfl)) (by decide) (fun K hK => ?_)
                 refine goes_ Try.func48 (by kernel_rfl) rfl #[.slice Ao21 t723.length co21, .int .i64 x15_3, .int .i64 x16_4, .int .i64 x13_1] (by rfl) rfl rfl sl ?_
                 with_reducible refine (impl_CanSpeak.calls k4 _ _ t723 x15_3 x16_4 x13_1 t749 _ ?side1 ?side2 A41.out).mono ?_
                 (case side1 => exact cr HO_3)
                 (case side2 => exact (Kd.R_reads' HO_3.out).2.1)
                 rintro e w56 ⟨rfl, hb⟩
                 refine ⟨_, rfl, ?_⟩
                 replace HO_3 := rb HO_3 hb
                 replace HO_739003 := am (Kd.S_below (ss HO_739003) hb)
                 replace HO_747003 := am (Kd.S_below (ss HO_747003) hb)
                 replace BK738 := bb BK738 hb
                 replace BK746 := bb BK746 hb
                 replace HB := bsw hb
                 (try clear hb)
                 (try clear hb2)
                 (try clear hk)
                 (try clear hi)
                 refine hK.out _ _ ⟨bc0 BK738, bc1 BK738, bc2 BK738, bc3 BK738⟩ (fun hHeld => ?_)
                 clear hK K
                 refine nm 95 ?_
                 refine put 10 96 (bt 24 2047) HT_ ?_
                 refine put 11 97 (bt 24 4095) HT_ ?_
                 refine put 13 99 (bt 24 12287) HT_ ?_
                 refine put 14 100 (bt 24 28671) HT_ ?_
                 refine put 15 101 (bt 24 61439) HT_ ?_
                 refine put 18 104 (bt 24 323583) HT_ ?_
                 refine put 19 105 (bt 24 847871) HT_ ?_
                 refine put 20 106 (bt 24 1896447) HT_ ?_
                 refine tat4 12 98 (bt 24 1900543) HT_ HW_ hHeld ?_
                 refine tat4 17 103 (bt 24 2031615) HT_ HW_ hHeld ?_
                 refine one_ (i := 16) (N := some 102) (bt 24 2097151) rfl rfl (one_of HT_.out (by kernel_rfl)) (by decide) (fun K hK => ?_)
                 refine goes_ Try.func47 (by kernel_rfl) rfl #[.agg #[.int .i64 t731, .int .i64 t732, .int .i64 t733, .slice Ao25 t734.length co25], .int .i64 t747, .int .i64 x15_3, .int .i64 x16_4] (by rfl) rfl rfl sl ?_
                 with_reducible refine (impl_HasLink.calls t731 t732 t733 _ _ t734 t747 x15_3 x16_4 t750 _ ?side1 ?side2 A46.out).mono ?_
                 (case side1 => repeat (first | exact (Kd.S_reads' HO_739003.out).2.2 | (with_reducible refine Kd.C_alloc ?_ _) | (with_reducible refine Kd.C_drewN ?_ _) | (with_reducible refine Kd.C_drew ?_)))
                 (case side2 => exact (Kd.S_reads' HO_739003.out).2.1)
                 rintro e w57 ⟨rfl, hb⟩
                 refine ⟨_, rfl, ?_⟩
                 replace HO_3 := rb HO_3 hb
                 replace HO_739003 := am (Kd.S_below (ss HO_739003) hb)
                 replace HO_747003 := am (Kd.S_below (ss HO_747003) hb)
                 replace BK738 := bb BK738 hb
                 replace BK746 := bb BK746 hb
                 replace HB := bsw hb
                 (try clear hb)
                 (try clear hb2)
                 (try clear hk)
                 (try clear hi)
                 refine hK.out _ _ ⟨bc0 BK738, bc1 BK738, bc2 BK738, bc3 BK738⟩ (fun hHeld => ?_)
                 clear hK K
                 refine nm 102 ?_
                 refine one_ (i := 21) (N := some 107) (bt 24 4194303) rfl rfl (one_of HT_.out (by kernel_rfl)) (by decide) (fun K hK => ?_)
                 refine goes_ Try.func47 (by kernel_rfl) rfl #[.agg #[.int .i64 t731, .int .i64 t732, .int .i64 t733, .slice Ao25 t734.length co25], .int .i64 t747, .int .i64 x16_4, .int .i64 x15_3] (by rfl) rfl rfl sl ?_
                 with_reducible refine (impl_HasLink.calls t731 t732 t733 _ _ t734 t747 x16_4 x15_3 t751 _ ?side1 ?side2 A47.out).mono ?_
                 (case side1 => repeat (first | exact (Kd.S_reads' HO_739003.out).2.2 | (with_reducible refine Kd.C_alloc ?_ _) | (with_reducible refine Kd.C_drewN ?_ _) | (with_reducible refine Kd.C_drew ?_)))
                 (case side2 => exact (Kd.S_reads' HO_739003.out).2.1)
                 rintro e w58 ⟨rfl, hb⟩
                 refine ⟨_, rfl, ?_⟩
                 replace HO_3 := rb HO_3 hb
                 replace HO_739003 := am (Kd.S_below (ss HO_739003) hb)
                 replace HO_747003 := am (Kd.S_below (ss HO_747003) hb)
                 replace BK738 := bb BK738 hb
                 replace BK746 := bb BK746 hb
                 replace HB := bsw hb
                 (try clear hb)
                 (try clear hb2)
                 (try clear hk)
                 (try clear hi)
                 refine hK.out _ _ ⟨bc0 BK738, bc1 BK738, bc2 BK738, bc3 BK738⟩ (fun hHeld => ?_)
                 clear hK K
                 refine nm 107 ?_
                 refine put 22 108 (bt 24 8388607) HT_ ?_
                 refine put 23 109 (bt 24 16777215) HT_ ?_
                 refine done_ (done_of HT_.out (by kernel_rfl)) ?_
                 try go_wp2
                 go_roundg k4
                 case measure => have := HK1.out; have := HJ30.out; have := HK3.out; have := HK4.out; omega
                 case rel => exact ⟨(wrap64 (x16_4 + 1)), sc, H', ⟨by have := HK1.out; have := HJ30.out; have := HK3.out; have := HK4.out; omega⟩, ⟨sr HO_3⟩, ⟨ss HO_739003⟩, ⟨ss HO_747003⟩, ⟨sk BK738⟩, ⟨sk BK746⟩, ⟨sbw⟩⟩
              ·have c39b0 := decide_eq_false c39
               clear c39
               have H' := am H
               clear H
               go_wp2
               go_roundg k4
               case measure => have := HK1.out; have := HJ30.out; have := HK3.out; have := HK4.out; omega
               case rel => exact ⟨(wrap64 (x15_3 + 1)), sc, H', ⟨by have := HK1.out; have := HJ30.out; have := HK3.out; have := HK4.out; omega⟩, ⟨sr HO_3⟩, ⟨ss HO_739003⟩, ⟨ss HO_747003⟩, ⟨sk BK738⟩, ⟨sk BK746⟩, ⟨sbw⟩⟩
           ·have c38b0 := decide_eq_false c38
            clear c38
            have H' := am H
            clear H
            go_wp2
            go_roundg k3
            case measure => have := HK1.out; have := HJ30.out; have := HK3.out; omega
            case rel => exact ⟨(wrap64 (x13_1 + 1)), sc, H', ⟨by have := HK1.out; have := HJ30.out; have := HK3.out; omega⟩, ⟨sr HO_3⟩, ⟨ss HO_739003⟩, ⟨ss HO_747003⟩, ⟨sk BK738⟩, ⟨sk BK746⟩, ⟨sbw⟩⟩
        ·replace H := im H
         have H' := am H
         clear H
         go_wp2
         go_loopg [17] kj30 (fun kq v17 w' => ∃ (x17_3 : Int), v17 = .int .i64 x17_3 ∧ Aside0 (laws_FnPrograms.l3 kq t724 t725 x17_3 t731 t732 t733 t734 = some r) ∧ Aside0 (kq ≤ kj30) ∧ Aside0 (Kd.S k105 105 w' w.heap.size (fun k_ => some k_ ≠ ((.slice Ao30 t742.length co30) : Value).ownBlock) (.slice Ao25 t734.length co25) t734) ∧ Aside0 (Kd.S k105 105 w' w.heap.size (fun k_ => some k_ ≠ ((.slice Ao25 t734.length co25) : Value).ownBlock) (.slice Ao30 t742.length co30) t742) ∧ Aside0 (w'.heap[gb738]? = some (.cells #[.int .i64 t731, .int .i64 t732, .int .i64 t733, (.slice Ao25 t734.length co25)] 31 (0, 0))) ∧ Aside0 (w'.heap[gb746]? = some (.cells #[.int .i64 t739, .int .i64 t740, .int .i64 t741, (.slice Ao30 t742.length co30)] 31 (0, 0))) ∧ Aside0 (Below w.heap.size w w'))
         case atStart => exact ⟨(0), sc, H', kk0, ⟨ss HO_739003⟩, ⟨ss HO_747003⟩, ⟨sk BK738⟩, ⟨sk BK746⟩, ⟨sbw⟩⟩
         case round =>
          clear H'
          try clear c38
          try clear c38b0
          try clear c39
          try clear c39b0
          try clear c48
          try clear c48b0
          try clear c48b1
          try clear c48b2
          obtain ⟨x17_3, rfl, HA, HK3, HO_739003, HO_747003, BK738, BK746, HB⟩ := hrel
          cases gk with
          | zero => exact absurd HA.out (by simp [laws_FnPrograms.l3])
          | succ k3 =>
           have H := HA.out
           clear HA
           simp only [laws_FnPrograms.l3] at H
           obtain ⟨c59, H⟩ | ⟨c59, H⟩ := ie_ H
           ·have c59b0 := decide_eq_true c59
            clear c59
            have H' := am H
            clear H
            have hnb60 := NB738_746.out
            have hnc60 := NB746_738.out
            obtain ⟨hcz61_0, hcz61_1, hcz61_2, hcz61_3, hfz61_0, hfz61_1, hfz61_2, hfz61_3⟩ := cc4 BK738
            go_wp2
            go_loopg [18] k3 (fun kq v18 w' => ∃ (x18_4 : Int), v18 = .int .i64 x18_4 ∧ Aside0 (laws_FnPrograms.l4 kq t724 t725 x17_3 x18_4 t731 t732 t733 t734 = some r) ∧ Aside0 (kq ≤ k3) ∧ Aside0 (Kd.S k105 105 w' w.heap.size (fun k_ => some k_ ≠ ((.slice Ao30 t742.length co30) : Value).ownBlock) (.slice Ao25 t734.length co25) t734) ∧ Aside0 (Kd.S k105 105 w' w.heap.size (fun k_ => some k_ ≠ ((.slice Ao25 t734.length co25) : Value).ownBlock) (.slice Ao30 t742.length co30) t742) ∧ Aside0 (w'.heap[gb738]? = some (.cells #[.int .i64 t731, .int .i64 t732, .int .i64 t733, (.slice Ao25 t734.length co25)] 31 (0, 0))) ∧ Aside0 (w'.heap[gb746]? = some (.cells #[.int .i64 t739, .int .i64 t740, .int .i64 t741, (.slice Ao30 t742.length co30)] 31 (0, 0))) ∧ Aside0 (Below w.heap.size w w'))
            case atStart => exact ⟨(0), sc, H', kk0, ⟨ss HO_739003⟩, ⟨ss HO_747003⟩, ⟨sk BK738⟩, ⟨sk BK746⟩, ⟨sbw⟩⟩
            case round =>
             clear H'
             try clear c38
             try clear c38b0
             try clear c39
             try clear c39b0
             try clear c48
             try clear c48b0
             try clear c48b1
             try clear c48b2
             try clear c59
             try clear c59b0
             try clear hcz61_0
             try clear hcz61_1
             try clear hcz61_2
             try clear hcz61_3
             try clear hfz61_0
             try clear hfz61_1
             try clear hfz61_2
             try clear hfz61_3
             obtain ⟨x18_4, rfl, HA, HK4, HO_739003, HO_747003, BK738, BK746, HB⟩ := hrel
             cases gk with
             | zero => exact absurd HA.out (by simp [laws_FnPrograms.l4])
             | succ k4 =>
              have H := HA.out
              clear HA
              simp only [laws_FnPrograms.l4] at H
              obtain ⟨c62, H⟩ | ⟨c62, H⟩ := ie_ H
              ·have c62b0 := decide_eq_true c62
               clear c62
               obtain ⟨⟨t754, t755, t758, t761⟩, A63, H⟩ := bnd H
               dsimp only at H
               obtain rfl | rfl := tt t761
               ·replace H := ip H
                obtain ⟨t763, A65, H⟩ := bnd H
                obtain rfl | rfl := tt t763
                ·replace H := ip H
                 obtain ⟨c67, H⟩ | ⟨c67, H⟩ := ie_ H
                 ·have c67b0 : (t754 == x18_4) = true := beq_iff_eq.mpr c67
                  have c67b1 : (t754 != x18_4) = false := bne_eq_false_iff_eq.mpr c67
                  clear c67
                  have H' := am H
                  clear H
                  have hnb68 := NB738_746.out
                  have hnc68 := NB746_738.out
                  obtain ⟨hcz69_0, hcz69_1, hcz69_2, hcz69_3, hfz69_0, hfz69_1, hfz69_2, hfz69_3⟩ := cc4 BK738
                  go_wp2_with (first | ((with_reducible refine gc 41 rfl ?_); refine gL (some 126) Try.func41 #[.agg #[.int .i64 t731, .int .i64 t732, .int .i64 t733, .slice Ao25 t734.length co25], .int .i64 x17_3, .int .i64 x18_4] ?_; (with_reducible refine (impl_TableIn.calls t731 t732 t733 _ _ t734 x17_3 x18_4 t754 t755 t758 true _ ?side1 ?side2 A63.out).mono ?_); (case side1 => repeat (first | exact (Kd.S_reads' HO_739003.out).2.2 | (with_reducible refine Kd.C_alloc ?_ _) | (with_reducible refine Kd.C_drewN ?_ _) | (with_reducible refine Kd.C_drew ?_))); (case side2 => exact (Kd.S_reads' HO_739003.out).2.1); rintro e w70 ⟨v756, v759, rfl, ho0, ho1, hb⟩; refine ⟨_, rfl, ?_⟩; replace HO_739003 := am (Kd.S_mono (Kd.S_told (Kd.S_told (Kd.S_old (ss HO_739003) hb) (Kd.R_base ho0)) (Kd.R_base ho1)) (fun _ h_ => h_.1)); replace HO_747003 := am (Kd.S_mono (Kd.S_told (Kd.S_told (Kd.S_old (ss HO_747003) hb) (Kd.R_base ho0)) (Kd.R_base ho1)) (fun _ h_ => h_.1)); have HO757 := am (Kd.R_lower ho0 (below_size (sbw))); have HO760 := am (Kd.R_lower ho1 (below_size (sbw))); replace BK738 := bb BK738 hb; replace BK746 := bb BK746 hb; replace HB := bsw hb; (try clear hb); (try clear hk); (try clear ho0); (try clear ho1)) | ((with_reducible refine gd 19 rfl ?_); (try (refine gate_guard (by rfl) ?_; dsimp only)); refine bx 19 #[.int .i64 0, .slice none 0 0, .slice none 0 0] 55 ?_; intro gb762 hg w71 hbox hb; replace HO_739003 := am (Kd.S_below (Kd.S_elderB (ss HO_739003) gb762 (Nat.le_of_eq hg.symm)) hb); replace HO_747003 := am (Kd.S_below (Kd.S_elderB (ss HO_747003) gb762 (Nat.le_of_eq hg.symm)) hb); replace HO757 := rb HO757 hb; replace HO760 := rb HO760 hb; have GW762 := bzw w hg; have GE762 := bzw w hg; replace HB := bsw hb; have BK762 := am hbox; have NB738_762 := nl BK738 hg; have NB762_738 := ng BK738 hg; replace BK738 := bb BK738 hb; have NB746_762 := nl BK746 hg; have NB762_746 := ng BK746 hg; replace BK746 := bb BK746 hb; clear hb hbox hg; have hnb72 := NB762_738.out; have hnc72 := NB738_762.out; have hnb73 := NB762_746.out; have hnc73 := NB746_762.out; obtain ⟨hcz74_0, hcz74_1, hcz74_2, hfz74_0, hfz74_1, hfz74_2⟩ := cc3 BK762; obtain ⟨Ao75, co75, eo75⟩ := Kd.R_slice HO757.out; subst eo75; obtain ⟨Ao76, co76, eo76⟩ := Kd.R_slice HO760.out; subst eo76) | (go_at_call 49; (with_reducible refine (impl_IsTable.calls k4 t754 _ _ t755 _ _ t758 t724 t725 true _ ?side1 ?side2 ?side3 ?side4 A65.out).mono ?_); (case side1 => refine (Kd.R_reads' (e := 3) (base := w.heap.size) (ok := fun k_ => some k_ ≠ (.slice Ao76 t758.length co76 : Value).ownBlock) (n := t755.length) (c := co75) ?_).2.2; exact (s3 HO757 BK762)); (case side2 => exact (Kd.R_reads' HO757.out).2.1); (case side3 => refine (Kd.R_reads' (e := 3) (base := w.heap.size) (ok := fun k_ => some k_ ≠ (.slice Ao75 t755.length co75 : Value).ownBlock) (n := t758.length) (c := co76) ?_).2.2; exact (s3 HO760 BK762)); (case side4 => exact (Kd.R_reads' HO760.out).2.1); rintro e w77 ⟨rfl, hb⟩; replace HO_739003 := am (Kd.S_below (by (with_reducible repeat (first | apply Kd.S_alloc | apply Kd.S_drewN | apply Kd.S_drew)); exact (Kd.S_mono (Kd.S_far (p := ⟨gb762, 2, none⟩) (Kd.S_far (p := ⟨gb762, 1, none⟩) (Kd.S_far (p := ⟨gb762, 0, none⟩) (Kd.S_mono HO_739003.out (fun k_ hk => (⟨hk, hk.2⟩ : _ ∧ k_ ≠ gb762))) (fun _ hk => hk.2) (.int .i64 t754)) (fun _ hk => hk.2) (.slice Ao75 t755.length co75)) (fun _ hk => hk.2) (.slice Ao76 t758.length co76)) (fun _ h_ => h_.1))) hb); replace HO_747003 := am (Kd.S_below (by (with_reducible repeat (first | apply Kd.S_alloc | apply Kd.S_drewN | apply Kd.S_drew)); exact (Kd.S_mono (Kd.S_far (p := ⟨gb762, 2, none⟩) (Kd.S_far (p := ⟨gb762, 1, none⟩) (Kd.S_far (p := ⟨gb762, 0, none⟩) (Kd.S_mono HO_747003.out (fun k_ hk => (⟨hk, hk.2⟩ : _ ∧ k_ ≠ gb762))) (fun _ hk => hk.2) (.int .i64 t754)) (fun _ hk => hk.2) (.slice Ao75 t755.length co75)) (fun _ hk => hk.2) (.slice Ao76 t758.length co76)) (fun _ h_ => h_.1))) hb); replace HO757 := am (Kd.R_below (s3 HO757 BK762) hb); replace HO760 := am (Kd.R_below (s3 HO760 BK762) hb); replace BK738 := am (blk_below (g := gb738) (o := .cells #[.int .i64 t731, .int .i64 t732, .int .i64 t733, .slice Ao25 t734.length co25] 31 (0, 0)) (sp BK738) hb); replace BK746 := am (blk_below (g := gb746) (o := .cells #[.int .i64 t739, .int .i64 t740, .int .i64 t741, .slice Ao30 t742.length co30] 31 (0, 0)) (sp BK746) hb); replace BK762 := am (blk_below (g := gb762) (o := .cells #[.int .i64 t754, .slice Ao75 t755.length co75, .slice Ao76 t758.length co76] 55 (0, 0)) (sp BK762) hb); replace HB := bsw hb; (try clear hb); (try clear hk); obtain ⟨hcz78_0, hcz78_1, hcz78_2, hfz78_0, hfz78_1, hfz78_2⟩ := cc3 BK762))
                  go_roundg k4
                  case measure => have := HK1.out; have := HJ30.out; have := HK3.out; have := HK4.out; omega
                  case rel => exact ⟨(wrap64 (x18_4 + 1)), sc, H', ⟨by have := HK1.out; have := HJ30.out; have := HK3.out; have := HK4.out; omega⟩, ⟨by (with_reducible repeat (first | apply Kd.S_alloc | apply Kd.S_drewN | apply Kd.S_drew)); exact Kd.S_mono HO_739003.out (fun _ hk => hk.1.1.1)⟩, ⟨by (with_reducible repeat (first | apply Kd.S_alloc | apply Kd.S_drewN | apply Kd.S_drew)); exact Kd.S_mono HO_747003.out (fun _ hk => hk.1.1.1)⟩, ⟨sk BK738⟩, ⟨sk BK746⟩, ⟨sbw⟩⟩
                 ·have c67b0 : (t754 == x18_4) = false := beq_eq_false_iff_ne.mpr c67
                  have c67b1 : (t754 != x18_4) = true := bne_iff_ne.mpr c67
                  obtain rfl := Option.some.inj H
                  have hnb79 := NB738_746.out
                  have hnc79 := NB746_738.out
                  obtain ⟨hcz80_0, hcz80_1, hcz80_2, hcz80_3, hfz80_0, hfz80_1, hfz80_2, hfz80_3⟩ := cc4 BK738
                  go_wp2_with (first | ((with_reducible refine gc 41 rfl ?_); refine gL (some 126) Try.func41 #[.agg #[.int .i64 t731, .int .i64 t732, .int .i64 t733, .slice Ao25 t734.length co25], .int .i64 x17_3, .int .i64 x18_4] ?_; (with_reducible refine (impl_TableIn.calls t731 t732 t733 _ _ t734 x17_3 x18_4 t754 t755 t758 true _ ?side1 ?side2 A63.out).mono ?_); (case side1 => repeat (first | exact (Kd.S_reads' HO_739003.out).2.2 | (with_reducible refine Kd.C_alloc ?_ _) | (with_reducible refine Kd.C_drewN ?_ _) | (with_reducible refine Kd.C_drew ?_))); (case side2 => exact (Kd.S_reads' HO_739003.out).2.1); rintro e w81 ⟨v756, v759, rfl, ho0, ho1, hb⟩; refine ⟨_, rfl, ?_⟩; replace HO_739003 := am (Kd.S_mono (Kd.S_told (Kd.S_told (Kd.S_old (ss HO_739003) hb) (Kd.R_base ho0)) (Kd.R_base ho1)) (fun _ h_ => h_.1)); replace HO_747003 := am (Kd.S_mono (Kd.S_told (Kd.S_told (Kd.S_old (ss HO_747003) hb) (Kd.R_base ho0)) (Kd.R_base ho1)) (fun _ h_ => h_.1)); have HO757 := am (Kd.R_lower ho0 (below_size (sbw))); have HO760 := am (Kd.R_lower ho1 (below_size (sbw))); replace BK738 := bb BK738 hb; replace BK746 := bb BK746 hb; replace HB := bsw hb; (try clear hb); (try clear hk); (try clear ho0); (try clear ho1)) | ((with_reducible refine gd 19 rfl ?_); (try (refine gate_guard (by rfl) ?_; dsimp only)); refine bx 19 #[.int .i64 0, .slice none 0 0, .slice none 0 0] 55 ?_; intro gb762 hg w82 hbox hb; replace HO_739003 := am (Kd.S_below (Kd.S_elderB (ss HO_739003) gb762 (Nat.le_of_eq hg.symm)) hb); replace HO_747003 := am (Kd.S_below (Kd.S_elderB (ss HO_747003) gb762 (Nat.le_of_eq hg.symm)) hb); replace HO757 := rb HO757 hb; replace HO760 := rb HO760 hb; have GW762 := bzw w hg; have GE762 := bzw w hg; replace HB := bsw hb; have BK762 := am hbox; have NB738_762 := nl BK738 hg; have NB762_738 := ng BK738 hg; replace BK738 := bb BK738 hb; have NB746_762 := nl BK746 hg; have NB762_746 := ng BK746 hg; replace BK746 := bb BK746 hb; clear hb hbox hg; have hnb83 := NB762_738.out; have hnc83 := NB738_762.out; have hnb84 := NB762_746.out; have hnc84 := NB746_762.out; obtain ⟨hcz85_0, hcz85_1, hcz85_2, hfz85_0, hfz85_1, hfz85_2⟩ := cc3 BK762; obtain ⟨Ao86, co86, eo86⟩ := Kd.R_slice HO757.out; subst eo86; obtain ⟨Ao87, co87, eo87⟩ := Kd.R_slice HO760.out; subst eo87) | (go_at_call 49; (with_reducible refine (impl_IsTable.calls k4 t754 _ _ t755 _ _ t758 t724 t725 true _ ?side1 ?side2 ?side3 ?side4 A65.out).mono ?_); (case side1 => refine (Kd.R_reads' (e := 3) (base := w.heap.size) (ok := fun k_ => some k_ ≠ (.slice Ao87 t758.length co87 : Value).ownBlock) (n := t755.length) (c := co86) ?_).2.2; exact (s3 HO757 BK762)); (case side2 => exact (Kd.R_reads' HO757.out).2.1); (case side3 => refine (Kd.R_reads' (e := 3) (base := w.heap.size) (ok := fun k_ => some k_ ≠ (.slice Ao86 t755.length co86 : Value).ownBlock) (n := t758.length) (c := co87) ?_).2.2; exact (s3 HO760 BK762)); (case side4 => exact (Kd.R_reads' HO760.out).2.1); rintro e w88 ⟨rfl, hb⟩; replace HO_739003 := am (Kd.S_below (by (with_reducible repeat (first | apply Kd.S_alloc | apply Kd.S_drewN | apply Kd.S_drew)); exact (Kd.S_mono (Kd.S_far (p := ⟨gb762, 2, none⟩) (Kd.S_far (p := ⟨gb762, 1, none⟩) (Kd.S_far (p := ⟨gb762, 0, none⟩) (Kd.S_mono HO_739003.out (fun k_ hk => (⟨hk, hk.2⟩ : _ ∧ k_ ≠ gb762))) (fun _ hk => hk.2) (.int .i64 t754)) (fun _ hk => hk.2) (.slice Ao86 t755.length co86)) (fun _ hk => hk.2) (.slice Ao87 t758.length co87)) (fun _ h_ => h_.1))) hb); replace HO_747003 := am (Kd.S_below (by (with_reducible repeat (first | apply Kd.S_alloc | apply Kd.S_drewN | apply Kd.S_drew)); exact (Kd.S_mono (Kd.S_far (p := ⟨gb762, 2, none⟩) (Kd.S_far (p := ⟨gb762, 1, none⟩) (Kd.S_far (p := ⟨gb762, 0, none⟩) (Kd.S_mono HO_747003.out (fun k_ hk => (⟨hk, hk.2⟩ : _ ∧ k_ ≠ gb762))) (fun _ hk => hk.2) (.int .i64 t754)) (fun _ hk => hk.2) (.slice Ao86 t755.length co86)) (fun _ hk => hk.2) (.slice Ao87 t758.length co87)) (fun _ h_ => h_.1))) hb); replace HO757 := am (Kd.R_below (s3 HO757 BK762) hb); replace HO760 := am (Kd.R_below (s3 HO760 BK762) hb); replace BK738 := am (blk_below (g := gb738) (o := .cells #[.int .i64 t731, .int .i64 t732, .int .i64 t733, .slice Ao25 t734.length co25] 31 (0, 0)) (sp BK738) hb); replace BK746 := am (blk_below (g := gb746) (o := .cells #[.int .i64 t739, .int .i64 t740, .int .i64 t741, .slice Ao30 t742.length co30] 31 (0, 0)) (sp BK746) hb); replace BK762 := am (blk_below (g := gb762) (o := .cells #[.int .i64 t754, .slice Ao86 t755.length co86, .slice Ao87 t758.length co87] 55 (0, 0)) (sp BK762) hb); replace HB := bsw hb; (try clear hb); (try clear hk); obtain ⟨hcz89_0, hcz89_1, hcz89_2, hfz89_0, hfz89_1, hfz89_2⟩ := cc3 BK762))
                  go_ret
                  exact ⟨se, sbw⟩
                ·replace H := im H
                 obtain rfl := Option.some.inj H
                 have hnb90 := NB738_746.out
                 have hnc90 := NB746_738.out
                 obtain ⟨hcz91_0, hcz91_1, hcz91_2, hcz91_3, hfz91_0, hfz91_1, hfz91_2, hfz91_3⟩ := cc4 BK738
                 go_wp2_with (first | ((with_reducible refine gc 41 rfl ?_); refine gL (some 126) Try.func41 #[.agg #[.int .i64 t731, .int .i64 t732, .int .i64 t733, .slice Ao25 t734.length co25], .int .i64 x17_3, .int .i64 x18_4] ?_; (with_reducible refine (impl_TableIn.calls t731 t732 t733 _ _ t734 x17_3 x18_4 t754 t755 t758 true _ ?side1 ?side2 A63.out).mono ?_); (case side1 => repeat (first | exact (Kd.S_reads' HO_739003.out).2.2 | (with_reducible refine Kd.C_alloc ?_ _) | (with_reducible refine Kd.C_drewN ?_ _) | (with_reducible refine Kd.C_drew ?_))); (case side2 => exact (Kd.S_reads' HO_739003.out).2.1); rintro e w92 ⟨v756, v759, rfl, ho0, ho1, hb⟩; refine ⟨_, rfl, ?_⟩; replace HO_739003 := am (Kd.S_mono (Kd.S_told (Kd.S_told (Kd.S_old (ss HO_739003) hb) (Kd.R_base ho0)) (Kd.R_base ho1)) (fun _ h_ => h_.1)); replace HO_747003 := am (Kd.S_mono (Kd.S_told (Kd.S_told (Kd.S_old (ss HO_747003) hb) (Kd.R_base ho0)) (Kd.R_base ho1)) (fun _ h_ => h_.1)); have HO757 := am (Kd.R_lower ho0 (below_size (sbw))); have HO760 := am (Kd.R_lower ho1 (below_size (sbw))); replace BK738 := bb BK738 hb; replace BK746 := bb BK746 hb; replace HB := bsw hb; (try clear hb); (try clear hk); (try clear ho0); (try clear ho1)) | ((with_reducible refine gd 19 rfl ?_); (try (refine gate_guard (by rfl) ?_; dsimp only)); refine bx 19 #[.int .i64 0, .slice none 0 0, .slice none 0 0] 55 ?_; intro gb762 hg w93 hbox hb; replace HO_739003 := am (Kd.S_below (Kd.S_elderB (ss HO_739003) gb762 (Nat.le_of_eq hg.symm)) hb); replace HO_747003 := am (Kd.S_below (Kd.S_elderB (ss HO_747003) gb762 (Nat.le_of_eq hg.symm)) hb); replace HO757 := rb HO757 hb; replace HO760 := rb HO760 hb; have GW762 := bzw w hg; have GE762 := bzw w hg; replace HB := bsw hb; have BK762 := am hbox; have NB738_762 := nl BK738 hg; have NB762_738 := ng BK738 hg; replace BK738 := bb BK738 hb; have NB746_762 := nl BK746 hg; have NB762_746 := ng BK746 hg; replace BK746 := bb BK746 hb; clear hb hbox hg; have hnb94 := NB762_738.out; have hnc94 := NB738_762.out; have hnb95 := NB762_746.out; have hnc95 := NB746_762.out; obtain ⟨hcz96_0, hcz96_1, hcz96_2, hfz96_0, hfz96_1, hfz96_2⟩ := cc3 BK762; obtain ⟨Ao97, co97, eo97⟩ := Kd.R_slice HO757.out; subst eo97; obtain ⟨Ao98, co98, eo98⟩ := Kd.R_slice HO760.out; subst eo98) | (go_at_call 49; (with_reducible refine (impl_IsTable.calls k4 t754 _ _ t755 _ _ t758 t724 t725 false _ ?side1 ?side2 ?side3 ?side4 A65.out).mono ?_); (case side1 => refine (Kd.R_reads' (e := 3) (base := w.heap.size) (ok := fun k_ => some k_ ≠ (.slice Ao98 t758.length co98 : Value).ownBlock) (n := t755.length) (c := co97) ?_).2.2; exact (s3 HO757 BK762)); (case side2 => exact (Kd.R_reads' HO757.out).2.1); (case side3 => refine (Kd.R_reads' (e := 3) (base := w.heap.size) (ok := fun k_ => some k_ ≠ (.slice Ao97 t755.length co97 : Value).ownBlock) (n := t758.length) (c := co98) ?_).2.2; exact (s3 HO760 BK762)); (case side4 => exact (Kd.R_reads' HO760.out).2.1); rintro e w99 ⟨rfl, hb⟩; replace HO_739003 := am (Kd.S_below (by (with_reducible repeat (first | apply Kd.S_alloc | apply Kd.S_drewN | apply Kd.S_drew)); exact (Kd.S_mono (Kd.S_far (p := ⟨gb762, 2, none⟩) (Kd.S_far (p := ⟨gb762, 1, none⟩) (Kd.S_far (p := ⟨gb762, 0, none⟩) (Kd.S_mono HO_739003.out (fun k_ hk => (⟨hk, hk.2⟩ : _ ∧ k_ ≠ gb762))) (fun _ hk => hk.2) (.int .i64 t754)) (fun _ hk => hk.2) (.slice Ao97 t755.length co97)) (fun _ hk => hk.2) (.slice Ao98 t758.length co98)) (fun _ h_ => h_.1))) hb); replace HO_747003 := am (Kd.S_below (by (with_reducible repeat (first | apply Kd.S_alloc | apply Kd.S_drewN | apply Kd.S_drew)); exact (Kd.S_mono (Kd.S_far (p := ⟨gb762, 2, none⟩) (Kd.S_far (p := ⟨gb762, 1, none⟩) (Kd.S_far (p := ⟨gb762, 0, none⟩) (Kd.S_mono HO_747003.out (fun k_ hk => (⟨hk, hk.2⟩ : _ ∧ k_ ≠ gb762))) (fun _ hk => hk.2) (.int .i64 t754)) (fun _ hk => hk.2) (.slice Ao97 t755.length co97)) (fun _ hk => hk.2) (.slice Ao98 t758.length co98)) (fun _ h_ => h_.1))) hb); replace HO757 := am (Kd.R_below (s3 HO757 BK762) hb); replace HO760 := am (Kd.R_below (s3 HO760 BK762) hb); replace BK738 := am (blk_below (g := gb738) (o := .cells #[.int .i64 t731, .int .i64 t732, .int .i64 t733, .slice Ao25 t734.length co25] 31 (0, 0)) (sp BK738) hb); replace BK746 := am (blk_below (g := gb746) (o := .cells #[.int .i64 t739, .int .i64 t740, .int .i64 t741, .slice Ao30 t742.length co30] 31 (0, 0)) (sp BK746) hb); replace BK762 := am (blk_below (g := gb762) (o := .cells #[.int .i64 t754, .slice Ao97 t755.length co97, .slice Ao98 t758.length co98] 55 (0, 0)) (sp BK762) hb); replace HB := bsw hb; (try clear hb); (try clear hk)))
                 go_ret
                 exact ⟨se, sbw⟩
               ·replace H := im H
                obtain rfl := Option.some.inj H
                have hnb100 := NB738_746.out
                have hnc100 := NB746_738.out
                obtain ⟨hcz101_0, hcz101_1, hcz101_2, hcz101_3, hfz101_0, hfz101_1, hfz101_2, hfz101_3⟩ := cc4 BK738
                go_wp2_with (first | ((with_reducible refine gc 41 rfl ?_); refine gL (some 126) Try.func41 #[.agg #[.int .i64 t731, .int .i64 t732, .int .i64 t733, .slice Ao25 t734.length co25], .int .i64 x17_3, .int .i64 x18_4] ?_; (with_reducible refine (impl_TableIn.calls t731 t732 t733 _ _ t734 x17_3 x18_4 t754 t755 t758 false _ ?side1 ?side2 A63.out).mono ?_); (case side1 => repeat (first | exact (Kd.S_reads' HO_739003.out).2.2 | (with_reducible refine Kd.C_alloc ?_ _) | (with_reducible refine Kd.C_drewN ?_ _) | (with_reducible refine Kd.C_drew ?_))); (case side2 => exact (Kd.S_reads' HO_739003.out).2.1); rintro e w102 ⟨v756, v759, rfl, ho0, ho1, hb⟩; refine ⟨_, rfl, ?_⟩; replace HO_739003 := am (Kd.S_mono (Kd.S_told (Kd.S_told (Kd.S_old (ss HO_739003) hb) (Kd.R_base ho0)) (Kd.R_base ho1)) (fun _ h_ => h_.1)); replace HO_747003 := am (Kd.S_mono (Kd.S_told (Kd.S_told (Kd.S_old (ss HO_747003) hb) (Kd.R_base ho0)) (Kd.R_base ho1)) (fun _ h_ => h_.1)); have HO757 := am (Kd.R_lower ho0 (below_size (sbw))); have HO760 := am (Kd.R_lower ho1 (below_size (sbw))); replace BK738 := bb BK738 hb; replace BK746 := bb BK746 hb; replace HB := bsw hb; (try clear hb); (try clear ho0); (try clear ho1)) | ((with_reducible refine gd 19 rfl ?_); (try (refine gate_guard (by rfl) ?_; dsimp only)); refine bx 19 #[.int .i64 0, .slice none 0 0, .slice none 0 0] 55 ?_; intro gb762 hg w103 hbox hb; replace HO_739003 := am (Kd.S_below (Kd.S_elderB (ss HO_739003) gb762 (Nat.le_of_eq hg.symm)) hb); replace HO_747003 := am (Kd.S_below (Kd.S_elderB (ss HO_747003) gb762 (Nat.le_of_eq hg.symm)) hb); replace HO757 := rb HO757 hb; replace HO760 := rb HO760 hb; have GW762 := bzw w hg; have GE762 := bzw w hg; replace HB := bsw hb; have BK762 := am hbox; have NB738_762 := nl BK738 hg; have NB762_738 := ng BK738 hg; replace BK738 := bb BK738 hb; have NB746_762 := nl BK746 hg; have NB762_746 := ng BK746 hg; replace BK746 := bb BK746 hb; clear hb hbox hg; have hnb104 := NB762_738.out; have hnc104 := NB738_762.out; have hnb105 := NB762_746.out; have hnc105 := NB746_762.out; obtain ⟨hcz106_0, hcz106_1, hcz106_2, hfz106_0, hfz106_1, hfz106_2⟩ := cc3 BK762; obtain ⟨Ao107, co107, eo107⟩ := Kd.R_slice HO757.out; subst eo107; obtain ⟨Ao108, co108, eo108⟩ := Kd.R_slice HO760.out; subst eo108))
                go_ret
                exact ⟨se, sbw⟩
              ·have c62b0 := decide_eq_false c62
               clear c62
               have H' := am H
               clear H
               go_wp2
               go_roundg k4
               case measure => have := HK1.out; have := HJ30.out; have := HK3.out; have := HK4.out; omega
               case rel => exact ⟨(wrap64 (x17_3 + 1)), sc, H', ⟨by have := HK1.out; have := HJ30.out; have := HK3.out; have := HK4.out; omega⟩, ⟨ss HO_739003⟩, ⟨ss HO_747003⟩, ⟨sk BK738⟩, ⟨sk BK746⟩, ⟨sbw⟩⟩
           ·have c59b0 := decide_eq_false c59
            clear c59
            obtain ⟨t752, A109, H⟩ := bnd H
            obtain rfl | rfl := tt t752
            ·replace H := ip H
             obtain ⟨t753, A111, H⟩ := bnd H
             obtain rfl := Option.some.inj H
             have hnb112 := NB738_746.out
             have hnc112 := NB746_738.out
             obtain ⟨hcz113_0, hcz113_1, hcz113_2, hcz113_3, hfz113_0, hfz113_1, hfz113_2, hfz113_3⟩ := cc4 BK738
             try go_wp2
             replace HO_739003 := am (Kd.S_drew HO_739003.out)
             replace HO_747003 := am (Kd.S_drew HO_747003.out)
             replace BK738 := am (blk_drew BK738.out)
             replace BK746 := am (blk_drew BK746.out)
             replace HB := am (below_drew1 HB.out)
             refine start_ (n := 15) (S := fun w' => w'.cell? ⟨gb738, 0, none⟩ = some (.int .i64 t731) ∧ w'.cell? ⟨gb738, 1, none⟩ = some (.int .i64 t732) ∧ w'.cell? ⟨gb738, 2, none⟩ = some (.int .i64 t733) ∧ w'.cell? ⟨gb738, 3, none⟩ = some (.slice Ao25 t734.length co25)) (ds := []) #[false, false, false, false, false, false, false, false, false, false, false, false, false, false, false] (by kernel_rfl) rfl rfl ⟨bc0 BK738, bc1 BK738, bc2 BK738, bc3 BK738⟩ (fun hHeld => ?_); refine with_tabW laws_FnPrograms.tab31 laws_FnPrograms.bits31 (fun HT_ HW_ => ?_)
             generalize wr.drew = w114 at HO_739003 HO_747003 BK738 BK746 HB hHeld ⊢
             refine tat4 0 144 (bt 15 1) HT_ HW_ hHeld ?_
             refine one_ (i := 1) (N := some 145) (bt 15 3) rfl rfl (one_of HT_.out (by kernel_rfl)) (by decide) (fun K hK => ?_)
             refine goes_ Try.func36 (by kernel_rfl) rfl #[.agg #[.int .i64 t731, .int .i64 t732, .int .i64 t733, .slice Ao25 t734.length co25]] (by rfl) rfl rfl sl ?_
             with_reducible refine (impl_IsProgram.calls k3 t731 t732 t733 _ _ t734 true _ ?side1 ?side2 A109.out).mono ?_
             (case side1 => repeat (first | exact (Kd.S_reads' HO_739003.out).2.2 | (with_reducible refine Kd.C_alloc ?_ _) | (with_reducible refine Kd.C_drewN ?_ _) | (with_reducible refine Kd.C_drew ?_)))
             (case side2 => exact (Kd.S_reads' HO_739003.out).2.1)
             rintro e w115 ⟨rfl, hb⟩
             refine ⟨_, rfl, ?_⟩
             replace HO_739003 := am (Kd.S_below (ss HO_739003) hb)
             replace HO_747003 := am (Kd.S_below (ss HO_747003) hb)
             replace BK738 := bb BK738 hb
             replace BK746 := bb BK746 hb
             replace HB := bsw hb
             (try clear hb)
             (try clear hb2)
             (try clear hk)
             (try clear hi)
             refine hK.out _ _ ⟨bc0 BK738, bc1 BK738, bc2 BK738, bc3 BK738⟩ (fun hHeld => ?_)
             clear hK K
             refine nm 145 ?_
             refine put 2 146 (bt 15 7) HT_ ?_
             refine put 5 149 (bt 15 39) HT_ ?_
             refine put 8 152 (bt 15 295) HT_ ?_
             refine put 10 154 (bt 15 1319) HT_ ?_
             refine tat4 3 147 (bt 15 1327) HT_ HW_ hHeld ?_
             refine tat4 6 150 (bt 15 1391) HT_ HW_ hHeld ?_
             refine put 7 151 (bt 15 1519) HT_ ?_
             refine put 9 153 (bt 15 2031) HT_ ?_
             refine put 11 155 (bt 15 4079) HT_ ?_
             refine one_ (i := 4) (N := some 148) (bt 15 4095) rfl rfl (one_of HT_.out (by kernel_rfl)) (by decide) (fun K hK => ?_)
             refine goes_ Try.func50 (by kernel_rfl) rfl #[.agg #[.int .i64 t731, .int .i64 t732, .int .i64 t733, .slice Ao25 t734.length co25]] (by rfl) rfl rfl sl ?_
             with_reducible refine (impl_ProgramSize.calls k3 t731 t732 t733 _ _ t734 t753 _ ?side1 ?side2 A111.out).mono ?_
             (case side1 => repeat (first | exact (Kd.S_reads' HO_739003.out).2.2 | (with_reducible refine Kd.C_alloc ?_ _) | (with_reducible refine Kd.C_drewN ?_ _) | (with_reducible refine Kd.C_drew ?_)))
             (case side2 => exact (Kd.S_reads' HO_739003.out).2.1)
             rintro e w116 ⟨rfl, hb⟩
             refine ⟨_, rfl, ?_⟩
             replace HO_739003 := am (Kd.S_below (ss HO_739003) hb)
             replace HO_747003 := am (Kd.S_below (ss HO_747003) hb)
             replace BK738 := bb BK738 hb
             replace BK746 := bb BK746 hb
             replace HB := bsw hb
             (try clear hb)
             (try clear hb2)
             (try clear hk)
             (try clear hi)
             refine hK.out _ _ ⟨bc0 BK738, bc1 BK738, bc2 BK738, bc3 BK738⟩ (fun hHeld => ?_)
             clear hK K
             refine nm 148 ?_
             refine put 12 156 (bt 15 8191) HT_ ?_
             refine put 13 157 (bt 15 16383) HT_ ?_
             refine put 14 2 (bt 15 32767) HT_ ?_
             refine done_ (done_of HT_.out (by kernel_rfl)) ?_
             try go_wp2
             go_ret
             exact ⟨se, sbw⟩
            ·replace H := im H
             obtain rfl := Option.some.inj H
             have hnb117 := NB738_746.out
             have hnc117 := NB746_738.out
             obtain ⟨hcz118_0, hcz118_1, hcz118_2, hcz118_3, hfz118_0, hfz118_1, hfz118_2, hfz118_3⟩ := cc4 BK738
             try go_wp2
             replace HO_739003 := am (Kd.S_drew HO_739003.out)
             replace HO_747003 := am (Kd.S_drew HO_747003.out)
             replace BK738 := am (blk_drew BK738.out)
             replace BK746 := am (blk_drew BK746.out)
             replace HB := am (below_drew1 HB.out)
             refine start_ (n := 15) (S := fun w' => w'.cell? ⟨gb738, 0, none⟩ = some (.int .i64 t731) ∧ w'.cell? ⟨gb738, 1, none⟩ = some (.int .i64 t732) ∧ w'.cell? ⟨gb738, 2, none⟩ = some (.int .i64 t733) ∧ w'.cell? ⟨gb738, 3, none⟩ = some (.slice Ao25 t734.length co25)) (ds := []) #[false, false, false, false, false, false, false, false, false, false, false, false, false, false, false] (by kernel_rfl) rfl rfl ⟨bc0 BK738, bc1 BK738, bc2 BK738, bc3 BK738⟩ (fun hHeld => ?_); refine with_tabW laws_FnPrograms.tab31 laws_FnPrograms.bits31 (fun HT_ HW_ => ?_)
             generalize wr.drew = w119 at HO_739003 HO_747003 BK738 BK746 HB hHeld ⊢
             refine tat4 0 144 (bt 15 1) HT_ HW_ hHeld ?_
             refine one_ (i := 1) (N := some 145) (bt 15 3) rfl rfl (one_of HT_.out (by kernel_rfl)) (by decide) (fun K hK => ?_)
             refine goes_ Try.func36 (by kernel_rfl) rfl #[.agg #[.int .i64 t731, .int .i64 t732, .int .i64 t733, .slice Ao25 t734.length co25]] (by rfl) rfl rfl sl ?_
             with_reducible refine (impl_IsProgram.calls k3 t731 t732 t733 _ _ t734 false _ ?side1 ?side2 A109.out).mono ?_
             (case side1 => repeat (first | exact (Kd.S_reads' HO_739003.out).2.2 | (with_reducible refine Kd.C_alloc ?_ _) | (with_reducible refine Kd.C_drewN ?_ _) | (with_reducible refine Kd.C_drew ?_)))
             (case side2 => exact (Kd.S_reads' HO_739003.out).2.1)
             rintro e w120 ⟨rfl, hb⟩
             refine ⟨_, rfl, ?_⟩
             replace HO_739003 := am (Kd.S_below (ss HO_739003) hb)
             replace HO_747003 := am (Kd.S_below (ss HO_747003) hb)
             replace BK738 := bb BK738 hb
             replace BK746 := bb BK746 hb
             replace HB := bsw hb
             (try clear hb)
             (try clear hb2)
             (try clear hk)
             (try clear hi)
             refine hK.out _ _ ⟨bc0 BK738, bc1 BK738, bc2 BK738, bc3 BK738⟩ (fun hHeld => ?_)
             clear hK K
             refine nm 145 ?_
             refine put 2 146 (bt 15 7) HT_ ?_
             refine pn 3 147 (bt 15 15) HT_ ?_
             refine pn 4 148 (bt 15 31) HT_ ?_
             refine pn 5 149 (bt 15 63) HT_ ?_
             refine pn 6 150 (bt 15 127) HT_ ?_
             refine pn 7 151 (bt 15 255) HT_ ?_
             refine pn 8 152 (bt 15 511) HT_ ?_
             refine pn 9 153 (bt 15 1023) HT_ ?_
             refine pn 10 154 (bt 15 2047) HT_ ?_
             refine pn 11 155 (bt 15 4095) HT_ ?_
             refine pn 12 156 (bt 15 8191) HT_ ?_
             refine put 13 157 (bt 15 16383) HT_ ?_
             refine put 14 2 (bt 15 32767) HT_ ?_
             refine done_ (done_of HT_.out (by kernel_rfl)) ?_
             try go_wp2
             go_ret
             exact ⟨se, sbw⟩
   ·replace H := im H
    obtain rfl := Option.some.inj H
    go_enter Try.func7, Try.ntmps7
    go_wp2_with (first | ((with_reducible refine gc 12 rfl ?_); refine gL (some 22) Try.func12 #[.slice A0 l0.length c0] ?_; (with_reducible refine (laws_big.calls _ _ l0 false _ ?side1 ?side2 A2.out).mono ?_); (case side1 => repeat (first | exact HR0.out | (with_reducible refine Kd.C_alloc ?_ _) | (with_reducible refine Kd.C_drewN ?_ _) | (with_reducible refine Kd.C_drew ?_))); (case side2 => exact HC0.out); rintro e w' ⟨rfl, ⟨nd, rfl⟩⟩; refine ⟨_, rfl, ?_⟩) | ((with_reducible refine gc 44 rfl ?_); refine gL (some 25) Try.func44 #[.slice A0 l0.length c0] ?_; (with_reducible refine (spec_DrawBuildProgram.calls k _ _ l0 t723 t724 t725 t726 t727 t728 _ ?side1 ?side2 A4.out).mono ?_); (case side1 => repeat (first | exact HR0.out | (with_reducible refine Kd.C_alloc ?_ _) | (with_reducible refine Kd.C_drewN ?_ _) | (with_reducible refine Kd.C_drew ?_))); (case side2 => exact HC0.out); rintro e w121 ⟨v729, rfl, ho0, hb⟩; refine ⟨_, rfl, ?_⟩; have HO730 := am (Kd.R_lower ho0 (below_size (sb))); replace HB := bs hb; (try clear hb); (try clear hk); (try clear ho0); obtain ⟨Ao122, co122, eo122⟩ := Kd.R_slice HO730.out; subst eo122) | ((with_reducible refine gc 45 rfl ?_); refine gL (some 39) Try.func45 #[.slice Ao122 t723.length co122, .int .i64 t724, .int .i64 t725, .int .i64 t726, .int .i64 t727, .int .i64 t728] ?_; (with_reducible refine (impl_BuildProgram.calls k _ _ t723 t724 t725 t726 t727 t728 t731 t732 t733 t734 false _ ?side1 ?side2 A5.out).mono ?_); (case side1 => exact cr HO730); (case side2 => exact (Kd.R_reads' HO730.out).2.1); rintro e w123 ⟨v735, rfl, ho0, hb⟩; refine ⟨_, rfl, ?_⟩; replace HO730 := rb HO730 hb; have HO736 := am (Kd.S_lower ho0 (below_size (sb))); replace HB := bs hb; (try clear hb); (try clear hk); (try clear ho0)) | ((with_reducible refine gd 9 rfl ?_); (try (refine gate_guard (by rfl) ?_; dsimp only)); refine bx 9 #[.int .i64 0, .int .i64 0, .int .i64 0, .slice none 0 0] 31 ?_; intro gb738 hg w124 hbox hb; replace HO730 := rb HO730 hb; replace HO736 := am (Kd.S_below (ss HO736) hb); have GW738 := bz w hg; have GE738 := bz w hg; replace HB := bs hb; have BK738 := am hbox; clear hb hbox hg; obtain ⟨hcz125_0, hcz125_1, hcz125_2, hcz125_3, hfz125_0, hfz125_1, hfz125_2, hfz125_3⟩ := cc4 BK738; obtain ⟨Ao126, co126, eo126⟩ := Kd.S_slice HO736.out; subst eo126) | ((with_reducible refine gc 46 rfl ?_); refine gL (some 49) Try.func46 #[.slice Ao122 t723.length co122, .int .i64 t724, .int .i64 t725, .int .i64 t726, .int .i64 t727, .int .i64 t728] ?_; (with_reducible refine (spec_BuildProgram.calls k _ _ t723 t724 t725 t726 t727 t728 t739 t740 t741 t742 t745 _ ?side1 ?side2 A6.out).mono ?_); (case side1 => refine (Kd.R_reads' (e := 137) (base := w.heap.size) (ok := fun k_ => True) (n := t723.length) (c := co122) ?_).2.2; exact (by (with_reducible repeat (first | apply Kd.R_alloc | apply Kd.R_drewN | apply Kd.R_drew)); exact (Kd.R_mono (Kd.R_far (p := ⟨gb738, 3, none⟩) (h3 HO730 BK738) (fun _ hk => hk.2) (.slice Ao126 t734.length co126)) (fun _ h_ => h_.1)))); (case side2 => exact (Kd.R_reads' HO730.out).2.1); rintro e w127 ⟨v743, rfl, ho0, hb⟩; refine ⟨_, rfl, ?_⟩; replace HO730 := am (Kd.R_below (by (with_reducible repeat (first | apply Kd.R_alloc | apply Kd.R_drewN | apply Kd.R_drew)); exact (Kd.R_mono (Kd.R_far (p := ⟨gb738, 3, none⟩) (h3 HO730 BK738) (fun _ hk => hk.2) (.slice Ao126 t734.length co126)) (fun _ h_ => h_.1))) hb); have HO744 := am (Kd.S_lower (Kd.S_new' ho0 (Kd.S_lt (by (with_reducible repeat (first | apply Kd.S_alloc | apply Kd.S_drewN | apply Kd.S_drew)); exact (Kd.S_mono (Kd.S_far (p := ⟨gb738, 3, none⟩) (Kd.S_far (p := ⟨gb738, 2, none⟩) (Kd.S_far (p := ⟨gb738, 1, none⟩) (Kd.S_far (p := ⟨gb738, 0, none⟩) (Kd.S_types HO736.out BK738.out (by decide)) (fun _ hk => hk.2) (.int .i64 t731)) (fun _ hk => hk.2) (.int .i64 t732)) (fun _ hk => hk.2) (.int .i64 t733)) (fun _ hk => hk.2) (.slice Ao126 t734.length co126)) (fun _ h_ => h_.1))))) (below_size (sbw))); replace HO736 := am (Kd.S_elder' (by (with_reducible repeat (first | apply Kd.S_alloc | apply Kd.S_drewN | apply Kd.S_drew)); exact (Kd.S_mono (Kd.S_far (p := ⟨gb738, 3, none⟩) (Kd.S_far (p := ⟨gb738, 2, none⟩) (Kd.S_far (p := ⟨gb738, 1, none⟩) (Kd.S_far (p := ⟨gb738, 0, none⟩) (Kd.S_types HO736.out BK738.out (by decide)) (fun _ hk => hk.2) (.int .i64 t731)) (fun _ hk => hk.2) (.int .i64 t732)) (fun _ hk => hk.2) (.int .i64 t733)) (fun _ hk => hk.2) (.slice Ao126 t734.length co126)) (fun _ h_ => h_.1))) (Kd.S_base ho0) hb); replace BK738 := am (blk_below (g := gb738) (o := .cells #[.int .i64 t731, .int .i64 t732, .int .i64 t733, .slice Ao126 t734.length co126] 31 (0, 0)) (sp BK738) hb); replace HB := bsw hb; (try clear hb); (try clear hk); (try clear ho0)) | ((with_reducible refine gd 11 rfl ?_); (try (refine gate_guard (by rfl) ?_; dsimp only)); refine bx 11 #[.int .i64 0, .int .i64 0, .int .i64 0, .slice none 0 0] 31 ?_; intro gb746 hg w128 hbox hb; replace HO730 := rb HO730 hb; replace HO736 := am (Kd.S_below (ss HO736) hb); replace HO744 := am (Kd.S_below (ss HO744) hb); have GW746 := bzw w hg; have GE746 := bzw w hg; replace HB := bsw hb; have BK746 := am hbox; have NB738_746 := nl BK738 hg; have NB746_738 := ng BK738 hg; replace BK738 := bb BK738 hb; clear hb hbox hg; have hnb129 := NB746_738.out; have hnc129 := NB738_746.out; obtain ⟨hcz130_0, hcz130_1, hcz130_2, hcz130_3, hfz130_0, hfz130_1, hfz130_2, hfz130_3⟩ := cc4 BK746; obtain ⟨Ao131, co131, eo131⟩ := Kd.S_slice HO744.out; subst eo131; obtain ⟨hcz132_0, hcz132_1, hcz132_2, hcz132_3, hfz132_0, hfz132_1, hfz132_2, hfz132_3⟩ := cc4 BK738))
    go_ret
    exact ⟨se, sbw⟩

/-- THE ONE PURE STATEMENT of laws_FnPrograms: yours. -/
def laws_FnPrograms.Pure : Prop := ∀ (l0 : List Int), l0.length ≤ maxLen → l0.length * 1 ≤ 140737488351232 → (∀ x ∈ l0, (Lit.int .u8 x).wf = true) → ∃ k, laws_FnPrograms.f k l0 = some true
theorem laws_FnPrograms.walk (P : laws_FnPrograms.Pure) (a0 : Option Addr) (len0 cap0 : Nat) (z0 : List Int) (w : World) (w0 : (a0 = none ∧ len0 = 0 ∧ cap0 = 0 ∧ z0 = []) ∨ ∃ x, a0 = some x ∧ len0 ≤ cap0 ∧ cap0 ≤ maxLen ∧ z0.length = cap0 ∧ (∀ i, i < z0.length → w.cell? (x.add i) = some (.int .u8 (z0.getD i 0))) ∧ ∀ n ∈ z0, (Lit.int .u8 n).wf = true) (y0 : len0 * 1 ≤ 140737488351232) :
    Calls Try.prog 7 #[.slice a0 len0 cap0] w fun e w' => e = .returned (.bool true) ∧ Below w.heap.size w w' := by
 obtain ⟨l0, rfl, hr0, hm0, hw0, hc0⟩ := ReadsInt.ofRowC w0
 obtain ⟨k, h⟩ := P l0 hm0 y0 hw0
 refine (laws_FnPrograms.calls k _ _ l0 true w (Kd.C_of_reads (d := (0 : Int)) (h1 := fun _ => rfl) hr0) hc0 h).mono ?_
 rintro e w' ⟨rfl, hd⟩
 exact ⟨rfl, hd⟩

end Go.Proofs.Ytiihaabhjphaeaa.QFnPrograms
