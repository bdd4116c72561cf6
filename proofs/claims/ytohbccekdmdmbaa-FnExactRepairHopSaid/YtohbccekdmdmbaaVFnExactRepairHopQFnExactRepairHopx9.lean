/- Printed by a program of the session. Conditions: none. (squeezed). -/
import Derived.Test.YtohbccekdmdmbaaVFnExactRepairHopQFnExactRepairHopx3
import Derived.Test.YtohbccekdmdmbaaVFnExactRepairHopQFnExactRepairHopx6
import Derived.Test.YtohbccekdmdmbaaVFnExactRepairHopQFnExactRepairHopx8
namespace Go.Proofs.Ytohbccekdmdmbaa.QFnExactRepairHop
set_option maxHeartbeats 8000000
set_option maxRecDepth 100000
open Go.RowKit Go.Proofs.YtohbccekdmdmbaaW.PrintWords Go.Proofs.YtohbccekdmdmbaaW.PrintLast Go.Proofs.YtohbccekdmdmbaaW.PrintMore Go.Proofs.Ytohbccekdmdmbaa.Open Go.Proofs.Ytohbccekdmdmbaa.Sq
attribute [local go_sem] max2_int min2_int max_two min_two max_three min_three max_four min_four   -- for this text's walks alone
attribute [local go_sem] isSome_set
set_option linter.unusedVariables false
set_option linter.unusedSimpArgs false

theorem a9_1 {P : Prop} (h : P := by (with_reducible repeat (first | apply Kd.R_alloc | apply Kd.R_drewN | apply Kd.R_drew)); exact Kd.R_mono (h3 HO393 BK395) (fun _ hk => hk.1)) : P := h
theorem a9_0 {P : Prop} (h : P := by (with_reducible repeat (first | apply Kd.R_alloc | apply Kd.R_drewN | apply Kd.R_drew)); exact Kd.R_mono (h3 HO390 BK395) (fun _ hk => hk.1)) : P := h
def spec_HopAt.f (k : Nat) (a0_0 : Int) (a0_1 : Int) (a0_2 : Int) (l0_3 : List (S75)) (a1 : Int) (a2 : Int) (a3 : Int) : Option (Int) := (spec_l1In.f a0_2 0 5).bind fun t373 => (if t373 = true then ((spec_l1In.f a3 0 1000).bind fun t374 => (if t374 = true then ((spec_IsSafeMix.f k a0_0 a0_1 a0_2 l0_3 a2 (wrap64 (a3 - (wrap64 (2 * a0_2)))) (wrap64 (a3 + (wrap64 (2 * a0_2))))).bind fun t375 => (if t375 = true then ((spec_l19Next.f k a0_0 a0_1 a0_2 l0_3 a1 a2 a3).bind fun t376 => (some t376)) else (some (-1)))) else (some (-1)))) else (some (-1)))
theorem spec_HopAt.mono : ∀ a0 a1 a2 a3 a4 a5 a6 k, LeO (spec_HopAt.f k a0 a1 a2 a3 a4 a5 a6) (spec_HopAt.f (k + 1) a0 a1 a2 a3 a4 a5 a6) := by
  intro a0 a1 a2 a3 a4 a5 a6 k
  unfold spec_HopAt.f
  have m0 := @spec_IsSafeMix.mono
  have m1 := @spec_l19Next.mono
  exact mo
theorem e9_0 {P : Prop} (h : P := by
 obtain rfl := Option.some.inj H
 go_enter Try.func38, Try.ntmps38
 go_wp2_with (first | ((with_reducible refine gd 4 rfl ?_); refine bx 4 #[.int .i64 a0_0, .int .i64 a0_1, .int .i64 a0_2, .slice A0_3 l0_3.length c0_3] 49 ?_; intro gb372 hg w12 hbox hb; have GW372 := bz w hg; have GE372 := bz w hg; replace HB := bs hb; have BK372 := am hbox; clear hb hbox hg; obtain ⟨hcz13_0, hcz13_1, hcz13_2, hcz13_3, hfz13_0, hfz13_1, hfz13_2, hfz13_3⟩ := cc4 BK372) | (have _ := A7; (with_reducible refine gc 30 rfl ?_); refine gL (some 11) Try.func30 #[.int .i64 a0_2, .int .i64 0, .int .i64 5] ?_; (with_reducible refine (spec_l1In.calls a0_2 0 5 true _ A5.out).mono ?_); rintro e w' ⟨rfl, ⟨nd, rfl⟩⟩; refine ⟨_, rfl, ?_⟩) | (have _ := A9; go_at_call 30; (with_reducible refine (spec_l1In.calls a3 0 1000 true _ A7.out).mono ?_); rintro e w' ⟨rfl, ⟨nd, rfl⟩⟩) | (have _ := A11; go_at_call 55; (try simp only [i64_w, i32_w]); (with_reducible refine (spec_IsSafeMix.calls k a0_0 a0_1 a0_2 _ _ l0_3 a2 (wrap64 (a3 - (wrap64 (2 * a0_2)))) (wrap64 (a3 + (wrap64 (2 * a0_2)))) true _ ?side1 ?side2 A9.out).mono ?_); (case side1 => exact cbw HR0_3); (case side2 => exact HC0_3.out); rintro e w14 ⟨rfl, hb⟩; replace BK372 := bb BK372 hb; replace HB := bsw hb; (try clear hb); obtain ⟨hcz15_0, hcz15_1, hcz15_2, hcz15_3, hfz15_0, hfz15_1, hfz15_2, hfz15_3⟩ := cc4 BK372) | (have _ := A11; (with_reducible refine gc 56 rfl ?_); refine gL (some 38) Try.func56 #[.agg #[.int .i64 a0_0, .int .i64 a0_1, .int .i64 a0_2, .slice A0_3 l0_3.length c0_3], .int .i64 a1, .int .i64 a2, .int .i64 a3] ?_; (with_reducible refine (spec_l19Next.calls k a0_0 a0_1 a0_2 _ _ l0_3 a1 a2 a3 t376 _ ?side1 ?side2 A11.out).mono ?_); (case side1 => exact cb HR0_3); (case side2 => exact HC0_3.out); rintro e w16 ⟨rfl, hb⟩; refine ⟨_, rfl, ?_⟩; replace BK372 := bb BK372 hb; replace HB := bsw hb; (try clear hb)) | (have _ := A9; go_at_call 55; (try simp only [i64_w, i32_w]); (with_reducible refine (spec_IsSafeMix.calls k a0_0 a0_1 a0_2 _ _ l0_3 a2 (wrap64 (a3 - (wrap64 (2 * a0_2)))) (wrap64 (a3 + (wrap64 (2 * a0_2)))) false _ ?side1 ?side2 A9.out).mono ?_); (case side1 => exact cbw HR0_3); (case side2 => exact HC0_3.out); rintro e w19 ⟨rfl, hb⟩; replace BK372 := bb BK372 hb; replace HB := bsw hb; (try clear hb)) | (have _ := A7; go_at_call 30; (with_reducible refine (spec_l1In.calls a3 0 1000 false _ A7.out).mono ?_); rintro e w' ⟨rfl, ⟨nd, rfl⟩⟩) | ((with_reducible refine gc 30 rfl ?_); refine gL (some 11) Try.func30 #[.int .i64 a0_2, .int .i64 0, .int .i64 5] ?_; (with_reducible refine (spec_l1In.calls a0_2 0 5 false _ A5.out).mono ?_); rintro e w' ⟨rfl, ⟨nd, rfl⟩⟩; refine ⟨_, rfl, ?_⟩))
 first
 | have _ := A7
   go_ret
   exact ⟨se, sbw⟩
 | go_ret
   exact ⟨se, sbw⟩
   ) : P := h
theorem spec_HopAt.calls (k : Nat) (a0_0 : Int) (a0_1 : Int) (a0_2 : Int) (A0_3 : Option Addr) (c0_3 : Nat) (l0_3 : List (S75)) (a1 : Int) (a2 : Int) (a3 : Int) (r : Int) (w : World) (hr0_3 : Kd.C k75 w A0_3 l0_3.length l0_3) (hc0_3 : l0_3.length ≤ c0_3) (h : spec_HopAt.f k a0_0 a0_1 a0_2 l0_3 a1 a2 a3 = some r) :
    Calls Try.prog 38 #[.agg #[.int .i64 a0_0, .int .i64 a0_1, .int .i64 a0_2, .slice A0_3 l0_3.length c0_3], .int .i64 a1, .int .i64 a2, .int .i64 a3] w fun e w' => e = .returned (.int .i64 r) ∧ Below w.heap.size w w' := by
 have hu49 := Try.underlying49
 have HR0_3 := am hr0_3
 have HC0_3 := am hc0_3
 clear hr0_3 hc0_3
 have HB := am (Below.refl w.heap.size w)
 have H := h; unfold spec_HopAt.f at H
 clear h
 obtain ⟨t373, A5, H⟩ := bnd H
 obtain rfl | rfl := tt t373
 ·replace H := ip H
  obtain ⟨t374, A7, H⟩ := bnd H
  obtain rfl | rfl := tt t374
  ·replace H := ip H
   obtain ⟨t375, A9, H⟩ := bnd H
   obtain rfl | rfl := tt t375
   ·replace H := ip H
    obtain ⟨t376, A11, H⟩ := bnd H
    exact e9_0
   ·replace H := im H
    exact e9_0
  ·replace H := im H
   exact e9_0
 ·replace H := im H
  exact e9_0
def spec_IsCalm.f (k : Nat) (a0_0 : Int) (a0_1 : Int) (a0_2 : Int) (l0_3 : List (S75)) (a1 : Int) : Option (Bool) := (spec_l1In.f a0_2 0 5).bind fun t378 => (if t378 = true then ((spec_l1In.f a1 0 1000).bind fun t379 => (if t379 = true then ((spec_PiecesIn.f k a0_0 a0_1 a0_2 l0_3 (wrap64 (a1 - (wrap64 (2 * a0_2)))) (wrap64 (a1 + (wrap64 (2 * a0_2))))).bind fun t380 => (some ((t380.length : Int) == 1))) else (some false))) else (some false))
theorem spec_IsCalm.mono : ∀ a0 a1 a2 a3 a4 k, LeO (spec_IsCalm.f k a0 a1 a2 a3 a4) (spec_IsCalm.f (k + 1) a0 a1 a2 a3 a4) := by
  intro a0 a1 a2 a3 a4 k
  unfold spec_IsCalm.f
  have m0 := @spec_PiecesIn.mono
  exact mo
theorem e9_1 {P : Prop} (h : P := by
 obtain rfl := Option.some.inj H
 go_enter Try.func42, Try.ntmps42
 go_wp2_with (first | ((with_reducible refine gd 2 rfl ?_); (try (refine gate_guard (by rfl) ?_; dsimp only)); refine bx 2 #[.int .i64 a0_0, .int .i64 a0_1, .int .i64 a0_2, .slice A0_3 l0_3.length c0_3] 49 ?_; intro gb377 hg w8 hbox hb; have GW377 := bz w hg; have GE377 := bz w hg; replace HB := bs hb; have BK377 := am hbox; clear hb hbox hg; obtain ⟨hcz9_0, hcz9_1, hcz9_2, hcz9_3, hfz9_0, hfz9_1, hfz9_2, hfz9_3⟩ := cc4 BK377) | (have _ := A5; (with_reducible refine gc 30 rfl ?_); refine gL (some 7) Try.func30 #[.int .i64 a0_2, .int .i64 0, .int .i64 5] ?_; (with_reducible refine (spec_l1In.calls a0_2 0 5 true _ A3.out).mono ?_); rintro e w' ⟨rfl, ⟨nd, rfl⟩⟩; refine ⟨_, rfl, ?_⟩) | (have _ := A7; go_at_call 30; (with_reducible refine (spec_l1In.calls a1 0 1000 true _ A5.out).mono ?_); rintro e w' ⟨rfl, ⟨nd, rfl⟩⟩) | (have _ := A7; go_at_call 59; (try simp only [i64_w, i32_w]); (with_reducible refine (spec_PiecesIn.calls k a0_0 a0_1 a0_2 _ _ l0_3 (wrap64 (a1 - (wrap64 (2 * a0_2)))) (wrap64 (a1 + (wrap64 (2 * a0_2)))) t380 _ ?side1 ?side2 A7.out).mono ?_); (case side1 => exact cbw HR0_3); (case side2 => exact HC0_3.out); rintro e w10 ⟨v381, rfl, ho0, hb⟩; have HO382 := am (Kd.R_lower ho0 (below_size (sbw))); replace BK377 := bb BK377 hb; replace HB := bsw hb; (try clear hb); (try clear ho0); obtain ⟨Ao11, co11, eo11⟩ := Kd.R_slice HO382.out; subst eo11) | (have _ := A5; go_at_call 30; (with_reducible refine (spec_l1In.calls a1 0 1000 false _ A5.out).mono ?_); rintro e w' ⟨rfl, ⟨nd, rfl⟩⟩) | ((with_reducible refine gc 30 rfl ?_); refine gL (some 7) Try.func30 #[.int .i64 a0_2, .int .i64 0, .int .i64 5] ?_; (with_reducible refine (spec_l1In.calls a0_2 0 5 false _ A3.out).mono ?_); rintro e w' ⟨rfl, ⟨nd, rfl⟩⟩; refine ⟨_, rfl, ?_⟩))
 first
 | have _ := A5
   go_ret
   exact ⟨se, sbw⟩
 | go_ret
   exact ⟨se, sbw⟩
   ) : P := h
theorem spec_IsCalm.calls (k : Nat) (a0_0 : Int) (a0_1 : Int) (a0_2 : Int) (A0_3 : Option Addr) (c0_3 : Nat) (l0_3 : List (S75)) (a1 : Int) (r : Bool) (w : World) (hr0_3 : Kd.C k75 w A0_3 l0_3.length l0_3) (hc0_3 : l0_3.length ≤ c0_3) (h : spec_IsCalm.f k a0_0 a0_1 a0_2 l0_3 a1 = some r) :
    Calls Try.prog 42 #[.agg #[.int .i64 a0_0, .int .i64 a0_1, .int .i64 a0_2, .slice A0_3 l0_3.length c0_3], .int .i64 a1] w fun e w' => e = .returned (.bool r) ∧ Below w.heap.size w w' := by
 have hu49 := Try.underlying49
 have HR0_3 := am hr0_3
 have HC0_3 := am hc0_3
 clear hr0_3 hc0_3
 have HB := am (Below.refl w.heap.size w)
 have H := h; unfold spec_IsCalm.f at H
 clear h
 obtain ⟨t378, A3, H⟩ := bnd H
 obtain rfl | rfl := tt t378
 ·replace H := ip H
  obtain ⟨t379, A5, H⟩ := bnd H
  obtain rfl | rfl := tt t379
  ·replace H := ip H
   obtain ⟨t380, A7, H⟩ := bnd H
   exact e9_1
  ·replace H := im H
   exact e9_1
 ·replace H := im H
  exact e9_1
mutual
def spec_RepairHop.j0 : Nat → Int → List Int → Int → Bool → Int → Int → Int → List (S75) → Int → List Int → List Int → Option (Int)
  | 0, _, _, _, _, _, _, _, _, _, _, _ => none
  | k + 1, x1, x4, x12, x48, x384000, x384001, x384002, x384003, x396000, x396001, x396002 => if x48 = true then (some (-1)) else (if 0 ≤ x12 then (if x12 < (x384003.length : Int) then ((spec_AltsOf.f k x396000 x396001 x396002 ((rd_T75 x384003 x12).f1) x384001 x1).bind fun t398 => (spec_RepairHop.l0 k x4 t398 0)) else (none)) else (none))
def spec_RepairHop.l0 : Nat → List Int → List Int → Int → Option (Int)
  | 0, _, _, _ => none
  | k + 1, x4, x15, x16 => if x16 < (x15.length : Int) then (if 0 ≤ x16 then ((spec_l15Has.f k x4 (rd x15 x16)).bind fun t402 => (if t402 = true then (spec_RepairHop.l0 k x4 x15 (wrap64 (x16 + 1))) else (some (rd x15 x16)))) else (none)) else (some (-1))
end
def spec_RepairHop.f (k : Nat) (a0_0 : Int) (a0_1 : Int) (a0_2 : Int) (l0_3 : List (S75)) (a1 : Int) (a2 : Int) (a3 : Int) (l4 : List Int) : Option (Int) := (spec_HopAt.f k a0_0 a0_1 a0_2 l0_3 a1 a2 a3).bind fun t384 => ((spec_l15Has.f k l4 t384).bind fun t385 => (if t385 = true then ((spec_PieceAt.f k a0_0 a0_1 a0_2 l0_3 a3).bind fun t386 => ((spec_TableIn.f a0_0 a0_1 a0_2 l0_3 t386 a2).bind fun bt387 => (if t384 < 0 then (spec_RepairHop.j0 k a1 l4 t386 true a0_0 a0_1 a0_2 l0_3 bt387.1 bt387.2.1 bt387.2.2.1) else (if bt387.2.2.2 = true then ((spec_IsCalm.f k a0_0 a0_1 a0_2 l0_3 a3).bind fun t396 => (spec_RepairHop.j0 k a1 l4 t386 (!t396) a0_0 a0_1 a0_2 l0_3 bt387.1 bt387.2.1 bt387.2.2.1)) else (spec_RepairHop.j0 k a1 l4 t386 true a0_0 a0_1 a0_2 l0_3 bt387.1 bt387.2.1 bt387.2.2.1))))) else (some t384)))
theorem spec_RepairHop.mono_l : ∀ k, (∀ y0 y1 y2 y3 y4 y5 y6 y7 y8 y9 y10, LeO (spec_RepairHop.j0 k y0 y1 y2 y3 y4 y5 y6 y7 y8 y9 y10) (spec_RepairHop.j0 (k + 1) y0 y1 y2 y3 y4 y5 y6 y7 y8 y9 y10)) ∧ (∀ y0 y1 y2, LeO (spec_RepairHop.l0 k y0 y1 y2) (spec_RepairHop.l0 (k + 1) y0 y1 y2))
  | 0 => ⟨fun _ _ _ _ _ _ _ _ _ _ _ r h => by simp [spec_RepairHop.j0] at h, fun _ _ _ r h => by simp [spec_RepairHop.l0] at h⟩
  | k + 1 => by
    obtain ⟨ih0, ih1⟩ := spec_RepairHop.mono_l k
    refine ⟨?_, ?_⟩
    · intro y0 y1 y2 y3 y4 y5 y6 y7 y8 y9 y10
      unfold spec_RepairHop.j0
      have m0 := @spec_AltsOf.mono
      have m1 := @spec_HopAt.mono
      have m2 := @spec_IsCalm.mono
      have m3 := @spec_PieceAt.mono
      have m4 := @spec_l15Has.mono
      exact mo
    · intro y0 y1 y2
      unfold spec_RepairHop.l0
      have m0 := @spec_AltsOf.mono
      have m1 := @spec_HopAt.mono
      have m2 := @spec_IsCalm.mono
      have m3 := @spec_PieceAt.mono
      have m4 := @spec_l15Has.mono
      exact mo
theorem spec_RepairHop.mono : ∀ a0 a1 a2 a3 a4 a5 a6 a7 k, LeO (spec_RepairHop.f k a0 a1 a2 a3 a4 a5 a6 a7) (spec_RepairHop.f (k + 1) a0 a1 a2 a3 a4 a5 a6 a7) := by
  intro a0 a1 a2 a3 a4 a5 a6 a7 k
  obtain ⟨ih0, ih1⟩ := spec_RepairHop.mono_l k
  unfold spec_RepairHop.f
  have m0 := @spec_AltsOf.mono
  have m1 := @spec_HopAt.mono
  have m2 := @spec_IsCalm.mono
  have m3 := @spec_PieceAt.mono
  have m4 := @spec_l15Has.mono
  exact mo
def spec_RepairHop.T8 : Bool × List (List Nat × List Nat) := (true, [([], []), ([], []), ([1], [1]), ([], []), ([2, 3], [2, 3]), ([4], [4]), ([5], [5]), ([], []), ([7], [7]), ([], []), ([0, 6, 8, 9], [0, 6, 8, 9]), ([10, 10, 0, 1, 2, 3, 4, 5, 6, 7, 8, 9, 10], [10])])
def spec_RepairHop.B8 : List Nat := [0, 0, 2, 0, 14, 30, 62, 0, 128, 0, 1023, 2047]
theorem spec_RepairHop.tab8 : rtab .any (opsOf Try.f22 8) = spec_RepairHop.T8 := by kernel_rfl
theorem spec_RepairHop.bits8 : waitsOk spec_RepairHop.T8.2 spec_RepairHop.B8 = true := by kernel_rfl
theorem spec_RepairHop.calls (k : Nat) (a0_0 : Int) (a0_1 : Int) (a0_2 : Int) (A0_3 : Option Addr) (c0_3 : Nat) (l0_3 : List (S75)) (a1 : Int) (a2 : Int) (a3 : Int) (A4 : Option Addr) (c4 : Nat) (l4 : List Int) (r : Int) (w : World) (hr0_3 : Kd.C k75 w A0_3 l0_3.length l0_3) (hc0_3 : l0_3.length ≤ c0_3) (hr4 : Kd.C (Kd.int .i64) w A4 l4.length l4) (hc4 : l4.length ≤ c4) (h : spec_RepairHop.f k a0_0 a0_1 a0_2 l0_3 a1 a2 a3 l4 = some r) :
    Calls Try.prog 22 #[.agg #[.int .i64 a0_0, .int .i64 a0_1, .int .i64 a0_2, .slice A0_3 l0_3.length c0_3], .int .i64 a1, .int .i64 a2, .int .i64 a3, .slice A4 l4.length c4] w fun e w' => e = .returned (.int .i64 r) ∧ Below w.heap.size w w' := by
 have hu49 := Try.underlying49
 have hu29 := Try.underlying29
 have HR0_3 := am hr0_3
 have HC0_3 := am hc0_3
 clear hr0_3 hc0_3
 have HR4 := am hr4
 have HC4 := am hc4
 clear hr4 hc4
 have HB := am (Below.refl w.heap.size w)
 have H := h; unfold spec_RepairHop.f at H
 clear h
 obtain ⟨t384, A6, H⟩ := bnd H
 obtain ⟨t385, A7, H⟩ := bnd H
 obtain rfl | rfl := tt t385
 ·replace H := ip H
  obtain ⟨t386, A9, H⟩ := bnd H
  obtain ⟨⟨t387, t388, t391, t394⟩, A10, H⟩ := bnd H
  try dsimp only at H
  have HC11 := am H
  clear H
  go_enter Try.func22, Try.ntmps22
  go_upto_region 6 with (first | ((with_reducible refine gd 5 rfl ?_); refine bx 5 #[.int .i64 a0_0, .int .i64 a0_1, .int .i64 a0_2, .slice A0_3 l0_3.length c0_3] 49 ?_; intro gb383 hg w12 hbox hb; have GW383 := bz w hg; have GE383 := bz w hg; replace HB := bs hb; have BK383 := am hbox; clear hb hbox hg; obtain ⟨hcz13_0, hcz13_1, hcz13_2, hcz13_3, hfz13_0, hfz13_1, hfz13_2, hfz13_3⟩ := cc4 BK383) | ((with_reducible refine gc 38 rfl ?_); refine gL (some 21) Try.func38 #[.agg #[.int .i64 a0_0, .int .i64 a0_1, .int .i64 a0_2, .slice A0_3 l0_3.length c0_3], .int .i64 a1, .int .i64 a2, .int .i64 a3] ?_; (with_reducible refine (spec_HopAt.calls k a0_0 a0_1 a0_2 _ _ l0_3 a1 a2 a3 t384 _ ?side1 ?side2 A6.out).mono ?_); (case side1 => exact cb HR0_3); (case side2 => exact HC0_3.out); rintro e w14 ⟨rfl, hb⟩; refine ⟨_, rfl, ?_⟩; replace BK383 := bb BK383 hb; replace HB := bsw hb; (try clear hb)) | ((with_reducible refine gc 39 rfl ?_); refine gL (some 24) Try.func39 #[.slice A4 l4.length c4, .int .i64 t384] ?_; (with_reducible refine (spec_l15Has.calls k _ _ l4 t384 true _ ?side1 ?side2 A7.out).mono ?_); (case side1 => exact cb HR4); (case side2 => exact HC4.out); rintro e w' ⟨rfl, ⟨nd, rfl⟩⟩; refine ⟨_, rfl, ?_⟩; obtain ⟨hcz15_0, hcz15_1, hcz15_2, hcz15_3, hfz15_0, hfz15_1, hfz15_2, hfz15_3⟩ := cc4 BK383) | ((with_reducible refine gc 40 rfl ?_); refine gL (some 29) Try.func40 #[.agg #[.int .i64 a0_0, .int .i64 a0_1, .int .i64 a0_2, .slice A0_3 l0_3.length c0_3], .int .i64 a3] ?_; (with_reducible refine (spec_PieceAt.calls k a0_0 a0_1 a0_2 _ _ l0_3 a3 t386 _ ?side1 ?side2 A9.out).mono ?_); (case side1 => exact cb HR0_3); (case side2 => exact HC0_3.out); rintro e w16 ⟨rfl, hb⟩; refine ⟨_, rfl, ?_⟩; replace BK383 := bb BK383 hb; replace HB := bsw hb; (try clear hb); obtain ⟨hcz17_0, hcz17_1, hcz17_2, hcz17_3, hfz17_0, hfz17_1, hfz17_2, hfz17_3⟩ := cc4 BK383) | ((with_reducible refine gc 41 rfl ?_); refine gL (some 34) Try.func41 #[.agg #[.int .i64 a0_0, .int .i64 a0_1, .int .i64 a0_2, .slice A0_3 l0_3.length c0_3], .int .i64 t386, .int .i64 a2] ?_; (with_reducible refine (spec_TableIn.calls a0_0 a0_1 a0_2 _ _ l0_3 t386 a2 t387 t388 t391 t394 _ ?side1 ?side2 A10.out).mono ?_); (case side1 => exact cb HR0_3); (case side2 => exact HC0_3.out); rintro e w18 ⟨v389, v392, rfl, ho0, ho1, hb⟩; refine ⟨_, rfl, ?_⟩; have HO390 := am (Kd.R_lower ho0 (below_size (sbw))); have HO393 := am (Kd.R_lower ho1 (below_size (sbw))); replace BK383 := bb BK383 hb; replace HB := bsw hb; (try clear hb); (try clear ho0); (try clear ho1)) | ((with_reducible refine gd 13 rfl ?_); refine bx 13 #[.int .i64 0, .slice none 0 0, .slice none 0 0] 29 ?_; intro gb395 hg w19 hbox hb; replace HO390 := rb HO390 hb; replace HO393 := rb HO393 hb; have GW395 := bzw w hg; have GE395 := bzw w hg; replace HB := bsw hb; have BK395 := am hbox; have NB383_395 := nl BK383 hg; have NB395_383 := ng BK383 hg; replace BK383 := bb BK383 hb; clear hb hbox hg; have hnb20 := NB395_383.out; have hnc20 := NB383_395.out; obtain ⟨hcz21_0, hcz21_1, hcz21_2, hfz21_0, hfz21_1, hfz21_2⟩ := cc3 BK395; obtain ⟨Ao22, co22, eo22⟩ := Kd.R_slice HO390.out; subst eo22; obtain ⟨Ao23, co23, eo23⟩ := Kd.R_slice HO393.out; subst eo23))
  (try simp only [Act.put, List.setIfInBounds_toArray, List.set_cons_zero, List.set_cons_succ])
  go_cut [48] (fun v48 wc => ∃ (kq : Nat) (x48_10 : Bool), v48 = .bool x48_10 ∧ Aside0 (spec_RepairHop.j0 kq a1 l4 t386 x48_10 a0_0 a0_1 a0_2 l0_3 t387 t388 t391 = some r) ∧ Aside0 (kq ≤ k) ∧ Aside0 (Kd.R (Kd.int .i64) 3 wc w.heap.size (fun k_ => some k_ ≠ ((.slice Ao23 t391.length co23) : Value).ownBlock) (.slice Ao22 t388.length co22) t388) ∧ Aside0 (Kd.R (Kd.int .i64) 3 wc w.heap.size (fun k_ => some k_ ≠ ((.slice Ao22 t388.length co22) : Value).ownBlock) (.slice Ao23 t391.length co23) t391) ∧ Aside0 (wc.heap[gb383]? = some (.cells #[.int .i64 a0_0, .int .i64 a0_1, .int .i64 a0_2, (.slice A0_3 l0_3.length c0_3)] 49 (0, 0))) ∧ Aside0 (wc.heap[gb395]? = some (.cells #[.int .i64 t387, (.slice Ao22 t388.length co22), (.slice Ao23 t391.length co23)] 29 (0, 0))) ∧ Aside0 (Below w.heap.size w wc))
  case first =>
   have H := HC11.out
   clear HC11
   obtain ⟨-, c24b0, H⟩ | ⟨-, c24b0, H⟩ := ic_ H
   ·(first | rw [c24b0] | (simp only [i64_w, i32_w]; rw [c24b0]) | rw [c24b1] | skip)
    have H' := am H
    clear H
    go_wp2
    go_meet
    case rel => exact ⟨_, (true), sc, H', ⟨by first | omega | exact Nat.le_refl _⟩, ⟨a9_0⟩, ⟨a9_1⟩, ⟨sp BK383⟩, ⟨sp BK395⟩, ⟨sbw⟩⟩
   ·(first | rw [c24b0] | (simp only [i64_w, i32_w]; rw [c24b0]) | rw [c24b1] | skip)
    obtain rfl | rfl := tt t394
    ·replace H := ip H
     obtain ⟨t396, A26, H⟩ := bnd H
     have H' := am H
     clear H
     have hnb27 := NB383_395.out
     have hnc27 := NB395_383.out
     obtain ⟨hcz28_0, hcz28_1, hcz28_2, hcz28_3, hfz28_0, hfz28_1, hfz28_2, hfz28_3⟩ := cc4 BK383
     go_wp2_with (first | (go_at_call 42; (with_reducible refine (spec_IsCalm.calls k a0_0 a0_1 a0_2 _ _ l0_3 a3 t396 _ ?side1 ?side2 A26.out).mono ?_); (case side1 => exact Kd.C_below HR0_3.out (sbw)); (case side2 => exact HC0_3.out); rintro e w29 ⟨rfl, hb⟩; replace HO390 := am (Kd.R_below (s3 HO390 BK395) hb); replace HO393 := am (Kd.R_below (s3 HO393 BK395) hb); replace BK383 := am (blk_below (g := gb383) (o := .cells #[.int .i64 a0_0, .int .i64 a0_1, .int .i64 a0_2, .slice A0_3 l0_3.length c0_3] 49 (0, 0)) (sp BK383) hb); replace BK395 := am (blk_below (g := gb395) (o := .cells #[.int .i64 t387, .slice Ao22 t388.length co22, .slice Ao23 t391.length co23] 29 (0, 0)) (sp BK395) hb); replace HB := bsw hb; (try clear hb)))
     go_meet
     case rel => exact ⟨_, (!t396), sc, H', ⟨by first | omega | exact Nat.le_refl _⟩, ⟨sr HO390⟩, ⟨sr HO393⟩, ⟨sk BK383⟩, ⟨sk BK395⟩, ⟨sbw⟩⟩
    ·replace H := im H
     have H' := am H
     clear H
     go_wp2
     go_meet
     case rel => exact ⟨_, (true), sc, H', ⟨by first | omega | exact Nat.le_refl _⟩, ⟨a9_0⟩, ⟨a9_1⟩, ⟨sp BK383⟩, ⟨sp BK395⟩, ⟨sbw⟩⟩
  case rest =>
   clear HC11
   try clear c4
   obtain ⟨kq, x48_10, rfl, HA, HJ10, HO_396001, HO_396002, BK383, BK395, HB⟩ := hcut
   cases kq with
   | zero => exact absurd HA.out (by simp [spec_RepairHop.j0])
   | succ kj10 =>
    have H := HA.out
    clear HA
    simp only [spec_RepairHop.j0] at H
    obtain rfl | rfl := tt x48_10
    ·replace H := ip H
     obtain rfl := Option.some.inj H
     go_wp2
     go_ret
     exact ⟨se, sbw⟩
    ·replace H := im H
     obtain ⟨c31b0, H⟩ := id_ H
     obtain ⟨c32b0, H⟩ := id_ H
     obtain ⟨t398, A33, H⟩ := bnd H
     have H' := am H
     clear H
     try go_wp2
     replace HO_396001 := am (Kd.R_drew HO_396001.out)
     replace HO_396002 := am (Kd.R_drew HO_396002.out)
     replace BK383 := am (blk_drew BK383.out)
     replace BK395 := am (blk_drew BK395.out)
     replace HB := am (below_drew1 HB.out)
     obtain ⟨p397, q397, ad397, A397_2, c397_2, A397_3, c397_3, e397, hw397_0, hw397_1, hw397_2, hw397_3, hx397_0, hx397_1, hx397_2, hx397_3, HC397_2, HR397_2, HC397_3, HR397_3⟩ := aT_T75 HR0_3 HB t386
     cases e397
     refine start_ (n := 12) (S := fun w' => w'.cell? ⟨gb395, 0, none⟩ = some (.int .i64 t387) ∧ w'.cell? ⟨gb395, 1, none⟩ = some (.slice Ao22 t388.length co22) ∧ w'.cell? ⟨gb395, 2, none⟩ = some (.slice Ao23 t391.length co23) ∧ w'.cell? ⟨gb383, 0, none⟩ = some (.int .i64 a0_0) ∧ w'.cell? ⟨gb383, 1, none⟩ = some (.int .i64 a0_1) ∧ w'.cell? ⟨gb383, 2, none⟩ = some (.int .i64 a0_2) ∧ w'.cell? ⟨gb383, 3, none⟩ = some (.slice (some ad397) l0_3.length c0_3) ∧ w'.cell? (ad397.add ((t386).toNat * 4)) = some (.int .i64 ((rd_T75 l0_3 t386).f0.f0)) ∧ w'.cell? ⟨(ad397.add ((t386).toNat * 4)).block, (ad397.add ((t386).toNat * 4)).off + 1, none⟩ = some (.int .i64 ((rd_T75 l0_3 t386).f0.f1)) ∧ w'.cell? ⟨(ad397.add ((t386).toNat * 4)).block, (ad397.add ((t386).toNat * 4)).off + 2, none⟩ = some (.slice A397_2 ((rd_T75 l0_3 t386).f1).length c397_2) ∧ w'.cell? ⟨(ad397.add ((t386).toNat * 4)).block, (ad397.add ((t386).toNat * 4)).off + 3, none⟩ = some (.slice A397_3 ((rd_T75 l0_3 t386).f2).length c397_3)) (ds := []) #[false, false, false, false, false, false, false, false, false, false, false, false] (by kernel_rfl) rfl rfl ⟨bc0 BK395, bc1 BK395, bc2 BK395, bc0 BK383, bc1 BK383, bc2 BK383, bc3 BK383, (hb_ HB hw397_0), (hb_ HB hw397_1), (hb_ HB hw397_2), (hb_ HB hw397_3)⟩ (fun hHeld => ?_); refine with_tabW spec_RepairHop.tab8 spec_RepairHop.bits8 (fun HT_ HW_ => ?_)
     generalize wc.drew = w34 at HO_396001 HO_396002 BK383 BK395 HB HR397_2 HR397_3 hx397_0 hx397_1 hx397_2 hx397_3 hHeld ⊢
     refine put 1 50 (bt 12 2) HT_ ?_
     refine put 3 52 (bt 12 10) HT_ ?_
     refine put 7 56 (bt 12 138) HT_ ?_
     refine put 9 58 (bt 12 650) HT_ ?_
     refine tat11 0 49 (bt 12 651) HT_ HW_ hHeld ?_
     refine tat11 2 51 (bt 12 655) HT_ HW_ hHeld ?_
     refine put 4 53 (bt 12 671) HT_ ?_
     refine put 5 54 (bt 12 703) HT_ ?_
     refine tat11 6 55 (bt 12 767) HT_ HW_ hHeld ?_
     refine tat11 8 57 (bt 12 1023) HT_ HW_ hHeld ?_
     refine on 10 59 (bt 12 2047) HT_ (fun K hK => ?_)
     refine goes_ Try.func14 (by kernel_rfl) rfl #[.agg #[.int .i64 t387, .slice Ao22 t388.length co22, .slice Ao23 t391.length co23], .slice A397_2 ((rd_T75 l0_3 t386).f1).length c397_2, .int .i64 a0_1, .int .i64 a1] (by rfl) rfl rfl sl ?_
     with_reducible refine (spec_AltsOf.calls kj10 t387 _ _ t388 _ _ t391 _ _ ((rd_T75 l0_3 t386).f1) a0_1 a1 t398 _ ?side1 ?side2 ?side3 ?side4 ?side5 ?side6 A33.out).mono ?_
     (case side1 => exact cr HO_396001)
     (case side2 => exact (Kd.R_reads' HO_396001.out).2.1)
     (case side3 => exact cr HO_396002)
     (case side4 => exact (Kd.R_reads' HO_396002.out).2.1)
     (case side5 => exact cb HR397_2)
     (case side6 => exact HC397_2.out)
     rintro e w35 ⟨v399, rfl, ho0, hb⟩
     refine ⟨_, rfl, ?_⟩
     have HO400 := am (Kd.R_lower (Kd.R_new' (Kd.R_new' ho0 (Kd.R_lt (sr HO_396001))) (Kd.R_lt (sr HO_396002))) (below_size (sbw)))
     replace HO_396001 := am (Kd.R_elder' (sr HO_396001) (Kd.R_base ho0) hb)
     replace HO_396002 := am (Kd.R_elder' (sr HO_396002) (Kd.R_base ho0) hb)
     replace BK383 := bb BK383 hb
     replace BK395 := bb BK395 hb
     replace HB := bsw hb
     (try clear hb)
     (try clear hb2)
     (try clear hk)
     (try clear hi)
     (try clear ho0)
     refine hK.out _ _ ⟨bc0 BK395, bc1 BK395, bc2 BK395, bc0 BK383, bc1 BK383, bc2 BK383, bc3 BK383, (hb_ HB hw397_0), (hb_ HB hw397_1), (hb_ HB hw397_2), (hb_ HB hw397_3)⟩ (fun hHeld => ?_)
     clear hK K
     refine nm 59 ?_
     refine put 11 15 (bt 12 4095) HT_ ?_
     refine done_ (done_of HT_.out (by kernel_rfl)) ?_
     try go_wp2
     go_loopg [16] kj10 (fun kq v16 w' => ∃ (x16_2 : Int), v16 = .int .i64 x16_2 ∧ Aside0 (spec_RepairHop.l0 kq l4 t398 x16_2 = some r) ∧ Aside0 (kq ≤ kj10) ∧ Aside0 (Kd.R (Kd.int .i64) 3 w' w.heap.size (fun k_ => some k_ ≠ ((.slice Ao22 t388.length co22) : Value).ownBlock ∧ some k_ ≠ ((.slice Ao23 t391.length co23) : Value).ownBlock) v399 t398) ∧ Aside0 (Kd.R (Kd.int .i64) 3 w' w.heap.size (fun k_ => some k_ ≠ (v399 : Value).ownBlock ∧ some k_ ≠ ((.slice Ao23 t391.length co23) : Value).ownBlock) (.slice Ao22 t388.length co22) t388) ∧ Aside0 (Kd.R (Kd.int .i64) 3 w' w.heap.size (fun k_ => some k_ ≠ (v399 : Value).ownBlock ∧ some k_ ≠ ((.slice Ao22 t388.length co22) : Value).ownBlock) (.slice Ao23 t391.length co23) t391) ∧ Aside0 (w'.heap[gb383]? = some (.cells #[.int .i64 a0_0, .int .i64 a0_1, .int .i64 a0_2, (.slice (some ad397) l0_3.length c0_3)] 49 (0, 0))) ∧ Aside0 (w'.heap[gb395]? = some (.cells #[.int .i64 t387, (.slice Ao22 t388.length co22), (.slice Ao23 t391.length co23)] 29 (0, 0))) ∧ Aside0 (Below w.heap.size w w'))
     case atStart => exact ⟨(0), sc, H', kk0, ⟨by exact rm HO400 (fun _ hk => ⟨hk.1.2, hk.2⟩)⟩, ⟨by exact rm HO_396001 (fun _ hk => ⟨hk.2, hk.1⟩)⟩, ⟨by exact rm HO_396002 (fun _ hk => ⟨hk.2, hk.1⟩)⟩, ⟨sk BK383⟩, ⟨sk BK395⟩, ⟨sbw⟩⟩
     case round =>
      clear H'
      try clear c4
      try clear c31b0
      try clear c32b0
      try clear hx397_0
      try clear hx397_1
      try clear hx397_2
      try clear hx397_3
      try clear p397
      try clear q397
      obtain ⟨x16_2, rfl, HA, HK2, HO_15, HO_396001, HO_396002, BK383, BK395, HB⟩ := hrel
      cases gk with
      | zero => exact absurd HA.out (by simp [spec_RepairHop.l0])
      | succ k2 =>
       have H := HA.out
       clear HA
       simp only [spec_RepairHop.l0] at H
       obtain ⟨-, c36b0, H⟩ | ⟨-, c36b0, H⟩ := ic_ H
       ·obtain ⟨c37b0, H⟩ := id_ H
        obtain ⟨t402, A38, H⟩ := bnd H
        obtain rfl | rfl := tt t402
        ·replace H := ip H
         have H' := am H
         clear H
         obtain ⟨Ao40, co40, eo40⟩ := Kd.R_slice HO_15.out
         subst eo40
         have p401 : 0 ≤ (x16_2 : Int) := sa
         have q401 : x16_2 < (t398.length : Int) := sa
         obtain ⟨ad401, e401, hx401_0⟩ := Kd.at_int (Kd.R_reads' HO_15.out).2.2 x16_2 p401 q401
         cases e401
         replace p401 := eq_true p401
         replace q401 := eq_true q401
         go_wp2_with (first | ((with_reducible refine gc 39 rfl ?_); refine gL (some 71) Try.func39 #[.slice A4 l4.length c4, .int .i64 (rd t398 x16_2)] ?_; (with_reducible refine (spec_l15Has.calls k2 _ _ l4 (rd t398 x16_2) true _ ?side1 ?side2 A38.out).mono ?_); (case side1 => exact cb HR4); (case side2 => exact HC4.out); rintro e w' ⟨rfl, ⟨nd, rfl⟩⟩; refine ⟨_, rfl, ?_⟩))
         go_roundg k2
         case measure => have := HJ10.out; have := HK2.out; omega
         case rel => exact ⟨(wrap64 (x16_2 + 1)), sc, H', ⟨by have := HJ10.out; have := HK2.out; omega⟩, ⟨sr HO_15⟩, ⟨sr HO_396001⟩, ⟨sr HO_396002⟩, ⟨sk BK383⟩, ⟨sk BK395⟩, ⟨sbw⟩⟩
        ·replace H := im H
         obtain rfl := Option.some.inj H
         obtain ⟨Ao41, co41, eo41⟩ := Kd.R_slice HO_15.out
         subst eo41
         have p401 : 0 ≤ (x16_2 : Int) := sa
         have q401 : x16_2 < (t398.length : Int) := sa
         obtain ⟨ad401, e401, hx401_0⟩ := Kd.at_int (Kd.R_reads' HO_15.out).2.2 x16_2 p401 q401
         cases e401
         replace p401 := eq_true p401
         replace q401 := eq_true q401
         go_wp2_with (first | ((with_reducible refine gc 39 rfl ?_); refine gL (some 71) Try.func39 #[.slice A4 l4.length c4, .int .i64 (rd t398 x16_2)] ?_; (with_reducible refine (spec_l15Has.calls k2 _ _ l4 (rd t398 x16_2) false _ ?side1 ?side2 A38.out).mono ?_); (case side1 => exact cb HR4); (case side2 => exact HC4.out); rintro e w' ⟨rfl, ⟨nd, rfl⟩⟩; refine ⟨_, rfl, ?_⟩; have p403 : 0 ≤ (x16_2 : Int) := sa; have q403 : x16_2 < (t398.length : Int) := sa; obtain ⟨ad403, e403, hx403_0⟩ := Kd.at_int (Kd.R_reads' HO_15.out).2.2 x16_2 p403 q403; obtain rfl : ad401 = ad403 := (by injection e403); replace p403 := eq_true p403; replace q403 := eq_true q403))
         go_ret
         exact ⟨se, sbw⟩
       ·obtain rfl := Option.some.inj H
        obtain ⟨Ao42, co42, eo42⟩ := Kd.R_slice HO_15.out
        subst eo42
        go_wp2
        go_ret
        exact ⟨se, sbw⟩
 ·replace H := im H
  obtain rfl := Option.some.inj H
  go_enter Try.func22, Try.ntmps22
  go_wp2_with (first | ((with_reducible refine gd 5 rfl ?_); refine bx 5 #[.int .i64 a0_0, .int .i64 a0_1, .int .i64 a0_2, .slice A0_3 l0_3.length c0_3] 49 ?_; intro gb383 hg w43 hbox hb; have GW383 := bz w hg; have GE383 := bz w hg; replace HB := bs hb; have BK383 := am hbox; clear hb hbox hg; obtain ⟨hcz44_0, hcz44_1, hcz44_2, hcz44_3, hfz44_0, hfz44_1, hfz44_2, hfz44_3⟩ := cc4 BK383) | ((with_reducible refine gc 38 rfl ?_); refine gL (some 21) Try.func38 #[.agg #[.int .i64 a0_0, .int .i64 a0_1, .int .i64 a0_2, .slice A0_3 l0_3.length c0_3], .int .i64 a1, .int .i64 a2, .int .i64 a3] ?_; (with_reducible refine (spec_HopAt.calls k a0_0 a0_1 a0_2 _ _ l0_3 a1 a2 a3 t384 _ ?side1 ?side2 A6.out).mono ?_); (case side1 => exact cb HR0_3); (case side2 => exact HC0_3.out); rintro e w45 ⟨rfl, hb⟩; refine ⟨_, rfl, ?_⟩; replace BK383 := bb BK383 hb; replace HB := bsw hb; (try clear hb)) | ((with_reducible refine gc 39 rfl ?_); refine gL (some 24) Try.func39 #[.slice A4 l4.length c4, .int .i64 t384] ?_; (with_reducible refine (spec_l15Has.calls k _ _ l4 t384 false _ ?side1 ?side2 A7.out).mono ?_); (case side1 => exact cb HR4); (case side2 => exact HC4.out); rintro e w' ⟨rfl, ⟨nd, rfl⟩⟩; refine ⟨_, rfl, ?_⟩))
  go_ret
  exact ⟨se, sbw⟩

def laws_toLink.f (a0_0 : Int) (a0_1 : Int) : Option (Int × Int) := some (a0_0, a0_1)
theorem laws_toLink.calls (a0_0 : Int) (a0_1 : Int) (r1 : Int) (r2 : Int) (w : World) (h : laws_toLink.f a0_0 a0_1 = some (r1, r2)) :
    Calls Try.prog 28 #[.agg #[.int .i64 a0_0, .int .i64 a0_1]] w fun e w' => e = .returned (.agg #[.int .i64 r1, .int .i64 r2]) ∧ Below w.heap.size w w' := by
 have hu57 := Try.underlying57
 have hu55 := Try.underlying55
 have HB := am (Below.refl w.heap.size w)
 have H := h; unfold laws_toLink.f at H
 clear h
 simp only [Option.some.injEq, Prod.mk.injEq] at H
 obtain ⟨rfl, rfl⟩ := H
 go_enter Try.func28, Try.ntmps28
 go_wp2_with (first | ((with_reducible refine gd 1 rfl ?_); refine bx 1 #[.int .i64 a0_0, .int .i64 a0_1] 57 ?_; intro gb404 hg w2 hbox hb; have GW404 := bz w hg; have GE404 := bz w hg; replace HB := bs hb; have BK404 := am hbox; clear hb hbox hg) | ((with_reducible refine gd 2 rfl ?_); refine bx 2 #[.int .i64 0, .int .i64 0] 55 ?_; intro gb405 hg w3 hbox hb; have GW405 := bzw w hg; have GE405 := bzw w hg; replace HB := bsw hb; have BK405 := am hbox; have NB404_405 := nl BK404 hg; have NB405_404 := ng BK404 hg; replace BK404 := bb BK404 hb; clear hb hbox hg) | ((with_reducible refine gd 3 rfl ?_); refine bx 3 #[.int .i64 0, .int .i64 0] 55 ?_; intro gb406 hg w4 hbox hb; have GW406 := bzw w hg; have GE406 := bzw w hg; replace HB := bsw hb; have BK406 := am hbox; have NB404_406 := nl BK404 hg; have NB406_404 := ng BK404 hg; replace BK404 := bb BK404 hb; have NB405_406 := nl BK405 hg; have NB406_405 := ng BK405 hg; replace BK405 := bb BK405 hb; clear hb hbox hg; have hnb5 := NB404_405.out; have hnc5 := NB405_404.out; have hnb6 := NB404_406.out; have hnc6 := NB406_404.out; obtain ⟨hcz7_0, hcz7_1, hfz7_0, hfz7_1⟩ := cc2 BK404; have hnb8 := NB406_405.out; have hnc8 := NB405_406.out; obtain ⟨hcz9_0, hcz9_1, hfz9_0, hfz9_1⟩ := cc2 BK406; obtain ⟨hcz10_0, hcz10_1, hfz10_0, hfz10_1⟩ := cc2 BK405))
 refine bodyPost_ret (results_cell_row rfl _ _ gb405 55 #[.int .i64 a0_0, .int .i64 a0_1] (0, 0) _ rfl (sp BK405) Try.underlying55 rfl (by kernel_rfl)) rfl ?_
 exact ⟨se, sbw⟩

end Go.Proofs.Ytohbccekdmdmbaa.QFnExactRepairHop
