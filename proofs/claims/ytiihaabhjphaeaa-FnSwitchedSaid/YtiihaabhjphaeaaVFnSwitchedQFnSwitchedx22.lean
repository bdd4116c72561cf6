/- Printed by a program of the session. Conditions: none. (squeezed). -/
import Derived.Test.YtiihaabhjphaeaaVFnSwitchedQFnSwitchedx21
namespace Go.Proofs.Ytiihaabhjphaeaa.QFnSwitched
set_option maxHeartbeats 8000000
set_option maxRecDepth 100000
open Go.RowKit Go.Proofs.YtiihaabhjphaeaaW.PrintWords Go.Proofs.YtiihaabhjphaeaaW.PrintLast Go.Proofs.YtiihaabhjphaeaaW.PrintMore Go.Proofs.Ytiihaabhjphaeaa.Open Go.Proofs.Ytiihaabhjphaeaa.Sq
attribute [local go_sem] max2_int min2_int max_two min_two max_three min_three max_four min_four   -- for this text's walks alone
attribute [local go_sem] isSome_set
set_option linter.unusedVariables false
set_option linter.unusedSimpArgs false

mutual
def spec_IsProgram.j0 : Nat → Bool → Int → Int → Int → List (S105) → Option (Bool)
  | 0, _, _, _, _, _ => none
  | k + 1, x18, x698000, x698001, x698002, x698003 => if x18 = true then (some false) else (spec_IsProgram.l0 k 0 x698000 x698001 x698002 x698003)
def spec_IsProgram.l0 : Nat → Int → Int → Int → Int → List (S105) → Option (Bool)
  | 0, _, _, _, _, _ => none
  | k + 1, x3, x698000, x698001, x698002, x698003 => if x3 < (x698003.length : Int) then (if 0 ≤ x3 then ((spec_l17Piece.f k x698000 x698001 x698002 x698003 ((rd_T105 x698003 x3).f0.f0) ((rd_T105 x698003 x3).f0.f1) ((rd_T105 x698003 x3).f1) ((rd_T105 x698003 x3).f2)).bind fun t701 => (if t701 = true then (if x3 > 0 then (if 0 ≤ (wrap64 (x3 - 1)) then (if (wrap64 (x3 - 1)) < (x698003.length : Int) then (if ((rd_T105 x698003 (wrap64 (x3 - 1))).f0.f1) = ((rd_T105 x698003 x3).f0.f0) then (spec_IsProgram.l0 k (wrap64 (x3 + 1)) x698000 x698001 x698002 x698003) else (some false)) else (none)) else (none)) else (spec_IsProgram.l0 k (wrap64 (x3 + 1)) x698000 x698001 x698002 x698003)) else (some false))) else (none)) else (some true)
end
def spec_IsProgram.f (k : Nat) (a0_0 : Int) (a0_1 : Int) (a0_2 : Int) (l0_3 : List (S105)) : Option (Bool) := (spec_l17Frame.f a0_0 a0_1 a0_2).bind fun t698 => (if t698 = true then ((spec_l1In.f (l0_3.length : Int) 1 40).bind fun t699 => (spec_IsProgram.j0 k (!t699) a0_0 a0_1 a0_2 l0_3)) else (spec_IsProgram.j0 k true a0_0 a0_1 a0_2 l0_3))
theorem spec_IsProgram.mono_l : ∀ k, (∀ y0 y1 y2 y3 y4, LeO (spec_IsProgram.j0 k y0 y1 y2 y3 y4) (spec_IsProgram.j0 (k + 1) y0 y1 y2 y3 y4)) ∧ (∀ y0 y1 y2 y3 y4, LeO (spec_IsProgram.l0 k y0 y1 y2 y3 y4) (spec_IsProgram.l0 (k + 1) y0 y1 y2 y3 y4))
  | 0 => ⟨fun _ _ _ _ _ r h => by simp [spec_IsProgram.j0] at h, fun _ _ _ _ _ r h => by simp [spec_IsProgram.l0] at h⟩
  | k + 1 => by
    obtain ⟨ih0, ih1⟩ := spec_IsProgram.mono_l k
    refine ⟨?_, ?_⟩
    · intro y0 y1 y2 y3 y4
      unfold spec_IsProgram.j0
      have m0 := @spec_l17Piece.mono
      exact mo
    · intro y0 y1 y2 y3 y4
      unfold spec_IsProgram.l0
      have m0 := @spec_l17Piece.mono
      exact mo
theorem spec_IsProgram.mono : ∀ a0 a1 a2 a3 k, LeO (spec_IsProgram.f k a0 a1 a2 a3) (spec_IsProgram.f (k + 1) a0 a1 a2 a3) := by
  intro a0 a1 a2 a3 k
  obtain ⟨ih0, ih1⟩ := spec_IsProgram.mono_l k
  unfold spec_IsProgram.f
  have m0 := @spec_l17Piece.mono
  exact mo
def spec_IsProgram.T6 : Bool × List (List Nat × List Nat) := (true, [([], []), ([], []), ([1], [1]), ([], []), ([2, 3], [2, 3]), ([4], [4]), ([0, 5], [0, 5]), ([6], [6]), ([7, 6], [7]), ([8], [8]), ([9, 8], [8, 9]), ([10, 8, 8], [8, 10]), ([11], [11]), ([12, 11], [11, 12]), ([11], [11]), ([14, 11], [11, 14]), ([13, 15, 11], [11, 13, 15]), ([16, 11], [11, 16]), ([17, 11], [11, 17]), ([18, 11], [11, 18]), ([11], [11]), ([20, 11], [11, 20]), ([11], [11]), ([21, 22, 11], [11, 21, 22]), ([23, 11], [11, 23]), ([24, 11], [11, 24]), ([25, 11], [11, 25]), ([19, 26, 11], [11, 19, 26]), ([11, 27, 8], [8, 11, 27]), ([8, 28], [8, 28])])
def spec_IsProgram.B6 : List Nat := [0, 0, 2, 0, 14, 30, 63, 127, 255, 511, 1023, 2047, 4095, 8191, 4095, 20479, 65535, 131071, 262143, 524287, 4095, 1052671, 4095, 7344127, 15732735, 32509951, 66064383, 134217727, 268435455, 536870911]
theorem spec_IsProgram.tab6 : rtab .any (opsOf Try.f40 6) = spec_IsProgram.T6 := by kernel_rfl
theorem spec_IsProgram.bits6 : waitsOk spec_IsProgram.T6.2 spec_IsProgram.B6 = true := by kernel_rfl
theorem spec_IsProgram.calls (k : Nat) (a0_0 : Int) (a0_1 : Int) (a0_2 : Int) (A0_3 : Option Addr) (c0_3 : Nat) (l0_3 : List (S105)) (r : Bool) (w : World) (hr0_3 : Kd.C k105 w A0_3 l0_3.length l0_3) (hc0_3 : l0_3.length ≤ c0_3) (h : spec_IsProgram.f k a0_0 a0_1 a0_2 l0_3 = some r) :
    Calls Try.prog 40 #[.agg #[.int .i64 a0_0, .int .i64 a0_1, .int .i64 a0_2, .slice A0_3 l0_3.length c0_3]] w fun e w' => e = .returned (.bool r) ∧ Below w.heap.size w w' := by
 have hu31 := Try.underlying31
 have hu105 := Try.underlying105
 have HR0_3 := am hr0_3
 have HC0_3 := am hc0_3
 clear hr0_3 hc0_3
 have HB := am (Below.refl w.heap.size w)
 have H := h; unfold spec_IsProgram.f at H
 clear h
 have HC2 := am H
 clear H
 go_enter Try.func40, Try.ntmps40
 go_upto_region 1 with (first | ((with_reducible refine gd 1 rfl ?_); (try (refine gate_guard (by rfl) ?_; dsimp only)); refine bx 1 #[.int .i64 a0_0, .int .i64 a0_1, .int .i64 a0_2, .slice A0_3 l0_3.length c0_3] 31 ?_; intro gb697 hg w3 hbox hb; have GW697 := bz w hg; have GE697 := bz w hg; replace HB := bs hb; have BK697 := am hbox; clear hb hbox hg))
 (try simp only [Act.put, List.setIfInBounds_toArray, List.set_cons_zero, List.set_cons_succ])
 go_cut [18] (fun v18 wc => ∃ (kq : Nat) (x18_1 : Bool), v18 = .bool x18_1 ∧ Aside0 (spec_IsProgram.j0 kq x18_1 a0_0 a0_1 a0_2 l0_3 = some r) ∧ Aside0 (kq ≤ k) ∧ Aside0 (wc.heap[gb697]? = some (.cells #[.int .i64 a0_0, .int .i64 a0_1, .int .i64 a0_2, (.slice A0_3 l0_3.length c0_3)] 31 (0, 0))) ∧ Aside0 (Below w.heap.size w wc))
 case first =>
  have H := HC2.out
  clear HC2
  obtain ⟨t698, A4, H⟩ := bnd H
  obtain rfl | rfl := tt t698
  ·replace H := ip H
   obtain ⟨t699, A6, H⟩ := bnd H
   have H' := am H
   clear H
   obtain ⟨hcz7_0, hcz7_1, hcz7_2, hcz7_3, hfz7_0, hfz7_1, hfz7_2, hfz7_3⟩ := cc4 BK697
   go_wp2_with (first | ((with_reducible refine gc 101 rfl ?_); refine gL (some 10) Try.func101 #[.int .i64 a0_0, .int .i64 a0_1, .int .i64 a0_2] ?_; (with_reducible refine (spec_l17Frame.calls a0_0 a0_1 a0_2 true _ A4.out).mono ?_); rintro e w' ⟨rfl, ⟨nd, rfl⟩⟩; refine ⟨_, rfl, ?_⟩) | (go_at_call 85; (with_reducible refine (spec_l1In.calls (l0_3.length : Int) 1 40 t699 _ A6.out).mono ?_); rintro e w' ⟨rfl, ⟨nd, rfl⟩⟩))
   go_meet
   case rel => exact ⟨_, (!t699), sc, H', ⟨by first | omega | exact Nat.le_refl _⟩, ⟨sk BK697⟩, ⟨sbw⟩⟩
  ·replace H := im H
   have H' := am H
   clear H
   obtain ⟨hcz8_0, hcz8_1, hcz8_2, hcz8_3, hfz8_0, hfz8_1, hfz8_2, hfz8_3⟩ := cc4 BK697
   go_wp2_with (first | ((with_reducible refine gc 101 rfl ?_); refine gL (some 10) Try.func101 #[.int .i64 a0_0, .int .i64 a0_1, .int .i64 a0_2] ?_; (with_reducible refine (spec_l17Frame.calls a0_0 a0_1 a0_2 false _ A4.out).mono ?_); rintro e w' ⟨rfl, ⟨nd, rfl⟩⟩; refine ⟨_, rfl, ?_⟩))
   go_meet
   case rel => exact ⟨_, (true), sc, H', ⟨by first | omega | exact Nat.le_refl _⟩, ⟨sk BK697⟩, ⟨sbw⟩⟩
 case rest =>
  clear HC2
  obtain ⟨kq, x18_1, rfl, HA, HJ1, BK697, HB⟩ := hcut
  cases kq with
  | zero => exact absurd HA.out (by simp [spec_IsProgram.j0])
  | succ kj1 =>
   have H := HA.out
   clear HA
   simp only [spec_IsProgram.j0] at H
   obtain rfl | rfl := tt x18_1
   ·replace H := ip H
    obtain rfl := Option.some.inj H
    go_wp2
    go_ret
    exact ⟨se, sbw⟩
   ·replace H := im H
    have H' := am H
    clear H
    go_wp2
    go_loopg [3] kj1 (fun kq v3 w' => ∃ (x3_2 : Int), v3 = .int .i64 x3_2 ∧ Aside0 (spec_IsProgram.l0 kq x3_2 a0_0 a0_1 a0_2 l0_3 = some r) ∧ Aside0 (kq ≤ kj1) ∧ Aside0 (w'.heap[gb697]? = some (.cells #[.int .i64 a0_0, .int .i64 a0_1, .int .i64 a0_2, (.slice A0_3 l0_3.length c0_3)] 31 (0, 0))) ∧ Aside0 (Below w.heap.size w w'))
    case atStart => exact ⟨(0), sc, H', kk0, ⟨sk BK697⟩, ⟨sbw⟩⟩
    case round =>
     clear H'
     obtain ⟨x3_2, rfl, HA, HK2, BK697, HB⟩ := hrel
     cases gk with
     | zero => exact absurd HA.out (by simp [spec_IsProgram.l0])
     | succ k2 =>
      have H := HA.out
      clear HA
      simp only [spec_IsProgram.l0] at H
      obtain ⟨-, c10b0, H⟩ | ⟨-, c10b0, H⟩ := ic_ H
      ·obtain ⟨c11b0, H⟩ := id_ H
       obtain ⟨t701, A12, H⟩ := bnd H
       obtain rfl | rfl := tt t701
       ·replace H := ip H
        obtain ⟨-, c14b0, H⟩ | ⟨-, c14b0, H⟩ := ic_ H
        ·obtain ⟨ji15, hji15⟩ : ∃ j_ : Int, (wrap64 (x3_2 - 1)) = j_ := ⟨_, rfl⟩
         replace H : (if 0 ≤ (ji15) then (if (ji15) < (l0_3.length : Int) then (if ((rd_T105 l0_3 (ji15)).f0.f1) = ((rd_T105 l0_3 x3_2).f0.f0) then (spec_IsProgram.l0 k2 (wrap64 (x3_2 + 1)) a0_0 a0_1 a0_2 l0_3) else (some false)) else (none)) else (none)) = some r := by first | (rw [hji15] at H; exact H) | (simp only [hji15] at H ⊢; exact H)
         (try rw [hji15] at A12)
         have hji15w : (IntKind.i64.wrap (x3_2 - 1)) = ji15 := (i64_w _).trans hji15
         obtain ⟨c16b0, H⟩ := id_ H
         obtain ⟨c17b0, H⟩ := id_ H
         obtain ⟨-, c18b0, c18b1, H⟩ | ⟨c18, c18b0, c18b1, H⟩ := ib_ H
         ·have H' := am H
          clear H
          obtain ⟨hcz19_0, hcz19_1, hcz19_2, hcz19_3, hfz19_0, hfz19_1, hfz19_2, hfz19_3⟩ := cc4 BK697
          try go_wp2
          replace BK697 := am (blk_drew BK697.out)
          replace HB := am (below_drew1 HB.out)
          obtain ⟨p700, q700, ad700, A700_2, c700_2, A700_3, c700_3, e700, hw700_0, hw700_1, hw700_2, hw700_3, hx700_0, hx700_1, hx700_2, hx700_3, HC700_2, HR700_2, HC700_3, HR700_3⟩ := aT_T105 HR0_3 HB x3_2
          cases e700
          obtain ⟨p702, q702, ad702, A702_2, c702_2, A702_3, c702_3, e702, hw702_0, hw702_1, hw702_2, hw702_3, hx702_0, hx702_1, hx702_2, hx702_3, HC702_2, HR702_2, HC702_3, HR702_3⟩ := aT_T105 HR0_3 HB (ji15)
          obtain rfl : ad700 = ad702 := (by injection e702)
          obtain ⟨p703, q703, ad703, A703_2, c703_2, A703_3, c703_3, e703, hw703_0, hw703_1, hw703_2, hw703_3, hx703_0, hx703_1, hx703_2, hx703_3, HC703_2, HR703_2, HC703_3, HR703_3⟩ := aT_T105 HR0_3 HB x3_2
          obtain rfl : ad700 = ad703 := (by injection e703)
          refine start_ (n := 30) (S := fun w' => w'.cell? ⟨gb697, 0, none⟩ = some (.int .i64 a0_0) ∧ w'.cell? ⟨gb697, 1, none⟩ = some (.int .i64 a0_1) ∧ w'.cell? ⟨gb697, 2, none⟩ = some (.int .i64 a0_2) ∧ w'.cell? ⟨gb697, 3, none⟩ = some (.slice (some ad700) l0_3.length c0_3) ∧ w'.cell? (ad700.add ((x3_2).toNat * 4)) = some (.int .i64 ((rd_T105 l0_3 x3_2).f0.f0)) ∧ w'.cell? ⟨(ad700.add ((x3_2).toNat * 4)).block, (ad700.add ((x3_2).toNat * 4)).off + 1, none⟩ = some (.int .i64 ((rd_T105 l0_3 x3_2).f0.f1)) ∧ w'.cell? ⟨(ad700.add ((x3_2).toNat * 4)).block, (ad700.add ((x3_2).toNat * 4)).off + 2, none⟩ = some (.slice A700_2 ((rd_T105 l0_3 x3_2).f1).length c700_2) ∧ w'.cell? ⟨(ad700.add ((x3_2).toNat * 4)).block, (ad700.add ((x3_2).toNat * 4)).off + 3, none⟩ = some (.slice A700_3 ((rd_T105 l0_3 x3_2).f2).length c700_3) ∧ w'.cell? (ad700.add (((ji15)).toNat * 4)) = some (.int .i64 ((rd_T105 l0_3 (ji15)).f0.f0)) ∧ w'.cell? ⟨(ad700.add (((ji15)).toNat * 4)).block, (ad700.add (((ji15)).toNat * 4)).off + 1, none⟩ = some (.int .i64 ((rd_T105 l0_3 (ji15)).f0.f1)) ∧ w'.cell? ⟨(ad700.add (((ji15)).toNat * 4)).block, (ad700.add (((ji15)).toNat * 4)).off + 2, none⟩ = some (.slice A702_2 ((rd_T105 l0_3 (ji15)).f1).length c702_2) ∧ w'.cell? ⟨(ad700.add (((ji15)).toNat * 4)).block, (ad700.add (((ji15)).toNat * 4)).off + 3, none⟩ = some (.slice A702_3 ((rd_T105 l0_3 (ji15)).f2).length c702_3) ∧ w'.cell? (ad700.add ((x3_2).toNat * 4)) = some (.int .i64 ((rd_T105 l0_3 x3_2).f0.f0)) ∧ w'.cell? ⟨(ad700.add ((x3_2).toNat * 4)).block, (ad700.add ((x3_2).toNat * 4)).off + 1, none⟩ = some (.int .i64 ((rd_T105 l0_3 x3_2).f0.f1)) ∧ w'.cell? ⟨(ad700.add ((x3_2).toNat * 4)).block, (ad700.add ((x3_2).toNat * 4)).off + 2, none⟩ = some (.slice A703_2 ((rd_T105 l0_3 x3_2).f1).length c703_2) ∧ w'.cell? ⟨(ad700.add ((x3_2).toNat * 4)).block, (ad700.add ((x3_2).toNat * 4)).off + 3, none⟩ = some (.slice A703_3 ((rd_T105 l0_3 x3_2).f2).length c703_3)) (ds := []) #[false, false, false, false, false, false, false, false, false, false, false, false, false, false, false, false, false, false, false, false, false, false, false, false, false, false, false, false, false, false] (by kernel_rfl) rfl rfl ⟨bc0 BK697, bc1 BK697, bc2 BK697, bc3 BK697, (hb_ HB hw700_0), (hb_ HB hw700_1), (hb_ HB hw700_2), (hb_ HB hw700_3), (hb_ HB hw702_0), (hb_ HB hw702_1), (hb_ HB hw702_2), (hb_ HB hw702_3), (hb_ HB hw703_0), (hb_ HB hw703_1), (hb_ HB hw703_2), (hb_ HB hw703_3)⟩ (fun hHeld => ?_); refine with_tabW spec_IsProgram.tab6 spec_IsProgram.bits6 (fun HT_ HW_ => ?_)
          generalize wr.drew = w20 at BK697 HB HR700_2 HR700_3 HR702_2 HR702_3 HR703_2 HR703_3 hx700_0 hx700_1 hx700_2 hx700_3 hx702_0 hx702_1 hx702_2 hx702_3 hx703_0 hx703_1 hx703_2 hx703_3 hHeld ⊢
          refine put 1 27 (bt 30 2) HT_ ?_
          refine put 3 29 (bt 30 10) HT_ ?_
          refine take_ (i := 0) (N := some 26) (v := ?_) (a' := ?_) (bt 30 11) rfl rfl (take_ofW HT_.out HW_.out (by kernel_rfl)) (fun _ _ _ h => h) (Or.inl ⟨by rfl, ?_⟩) hHeld ?_ ?_
          rotate_left
          ·rintro w' ⟨s0, s1, s2, s3, s4, s5, s6, s7, s8, s9, s10, s11, s12, s13, s14, s15⟩
           go_simp
           with_reducible rfl
          rotate_left
          ·exact ap
          refine take_ (i := 2) (N := some 28) (v := ?_) (a' := ?_) (bt 30 15) rfl rfl (take_ofW HT_.out HW_.out (by kernel_rfl)) (fun _ _ _ h => h) (Or.inl ⟨by rfl, ?_⟩) hHeld ?_ ?_
          rotate_left
          ·rintro w' ⟨s0, s1, s2, s3, s4, s5, s6, s7, s8, s9, s10, s11, s12, s13, s14, s15⟩
           go_simp
           with_reducible rfl
          rotate_left
          ·exact ap
          refine put 4 30 (bt 30 31) HT_ ?_
          refine take_ (i := 5) (N := some 31) (v := ?_) (a' := ?_) (bt 30 63) rfl rfl (take_ofW HT_.out HW_.out (by kernel_rfl)) (fun _ _ _ h => h) (Or.inl ⟨by rfl, ?_⟩) hHeld ?_ ?_
          rotate_left
          ·rintro w' ⟨s0, s1, s2, s3, s4, s5, s6, s7, s8, s9, s10, s11, s12, s13, s14, s15⟩
           go_simp
           with_reducible rfl
          rotate_left
          ·exact ap
          refine on 6 32 (bt 30 127) HT_ (fun K hK => ?_)
          refine goes_ Try.func102 (by kernel_rfl) rfl #[.agg #[.int .i64 a0_0, .int .i64 a0_1, .int .i64 a0_2, .slice (some ad700) l0_3.length c0_3], .agg #[.int .i64 ((rd_T105 l0_3 x3_2).f0.f0), .int .i64 ((rd_T105 l0_3 x3_2).f0.f1), .slice A700_2 ((rd_T105 l0_3 x3_2).f1).length c700_2, .slice A700_3 ((rd_T105 l0_3 x3_2).f2).length c700_3]] (by rfl) rfl rfl sl ?_
          with_reducible refine (spec_l17Piece.calls k2 a0_0 a0_1 a0_2 _ _ l0_3 ((rd_T105 l0_3 x3_2).f0.f0) ((rd_T105 l0_3 x3_2).f0.f1) _ _ ((rd_T105 l0_3 x3_2).f1) _ _ ((rd_T105 l0_3 x3_2).f2) true _ ?side1 ?side2 ?side3 ?side4 ?side5 ?side6 A12.out).mono ?_
          (case side1 => exact cb HR0_3)
          (case side2 => exact HC0_3.out)
          (case side3 => exact cb HR700_2)
          (case side4 => exact HC700_2.out)
          (case side5 => exact cb HR700_3)
          (case side6 => exact HC700_3.out)
          rintro e w21 ⟨rfl, hb⟩
          refine ⟨_, rfl, ?_⟩
          replace BK697 := bb BK697 hb
          replace HB := bsw hb
          (try clear hb)
          (try clear hb2)
          (try clear hk)
          (try clear hi)
          refine hK.out _ _ ⟨bc0 BK697, bc1 BK697, bc2 BK697, bc3 BK697, (hb_ HB hw700_0), (hb_ HB hw700_1), (hb_ HB hw700_2), (hb_ HB hw700_3), (hb_ HB hw702_0), (hb_ HB hw702_1), (hb_ HB hw702_2), (hb_ HB hw702_3), (hb_ HB hw703_0), (hb_ HB hw703_1), (hb_ HB hw703_2), (hb_ HB hw703_3)⟩ (fun hHeld => ?_)
          clear hK K
          refine nm 32 ?_
          refine put 7 33 (bt 30 255) HT_ ?_
          refine put 8 34 (bt 30 511) HT_ ?_
          refine put 9 35 (bt 30 1023) HT_ ?_
          refine put 10 36 (bt 30 2047) HT_ ?_
          refine put 11 37 (bt 30 4095) HT_ ?_
          refine put 12 38 (bt 30 8191) HT_ ?_
          refine put 14 40 (bt 30 24575) HT_ ?_
          refine put 15 41 (bt 30 57343) HT_ ?_
          refine put 20 46 (bt 30 1105919) HT_ ?_
          refine put 22 48 (bt 30 5300223) HT_ ?_
          refine take_ (i := 13) (N := some 39) (v := ?_) (a' := ?_) (bt 30 5308415) rfl rfl (take_ofW HT_.out HW_.out (by kernel_rfl)) (fun _ _ _ h => h) (Or.inl ⟨by rfl, ?_⟩) hHeld ?_ ?_
          rotate_left
          ·rintro w' ⟨s0, s1, s2, s3, s4, s5, s6, s7, s8, s9, s10, s11, s12, s13, s14, s15⟩
           go_simp
           with_reducible rfl
          rotate_left
          ·exact ap
          refine put 16 42 (bt 30 5373951) HT_ ?_
          refine put 17 43 (bt 30 5505023) HT_ ?_
          refine put 18 44 (bt 30 5767167) HT_ ?_
          refine take_ (i := 19) (N := some 45) (v := ?_) (a' := ?_) (bt 30 6291455) rfl rfl (take_ofW HT_.out HW_.out (by kernel_rfl)) (fun _ _ _ h => h) (Or.inl ⟨by rfl, ?_⟩) hHeld ?_ ?_
          rotate_left
          ·rintro w' ⟨s0, s1, s2, s3, s4, s5, s6, s7, s8, s9, s10, s11, s12, s13, s14, s15⟩
           go_simp
           with_reducible rfl
          rotate_left
          ·exact ap
          refine take_ (i := 21) (N := some 47) (v := ?_) (a' := ?_) (bt 30 8388607) rfl rfl (take_ofW HT_.out HW_.out (by kernel_rfl)) (fun _ _ _ h => h) (Or.inl ⟨by rfl, ?_⟩) hHeld ?_ ?_
          rotate_left
          ·rintro w' ⟨s0, s1, s2, s3, s4, s5, s6, s7, s8, s9, s10, s11, s12, s13, s14, s15⟩
           go_simp
           with_reducible rfl
          rotate_left
          ·exact ap
          refine put 23 49 (bt 30 16777215) HT_ ?_
          refine put 24 50 (bt 30 33554431) HT_ ?_
          refine put 25 51 (bt 30 67108863) HT_ ?_
          refine take_ (i := 26) (N := some 52) (v := ?_) (a' := ?_) (bt 30 134217727) rfl rfl (take_ofW HT_.out HW_.out (by kernel_rfl)) (fun _ _ _ h => h) (Or.inl ⟨by rfl, ?_⟩) hHeld ?_ ?_
          rotate_left
          ·rintro w' ⟨s0, s1, s2, s3, s4, s5, s6, s7, s8, s9, s10, s11, s12, s13, s14, s15⟩
           go_simp
           with_reducible rfl
          rotate_left
          ·exact ap
          refine put 27 53 (bt 30 268435455) HT_ ?_
          refine put 28 54 (bt 30 536870911) HT_ ?_
          refine put 29 55 (bt 30 1073741823) HT_ ?_
          refine done_ (done_of HT_.out (by kernel_rfl)) ?_
          try go_wp2
          go_roundg k2
          case measure => have := HJ1.out; have := HK2.out; omega
          case rel => exact ⟨(wrap64 (x3_2 + 1)), sc, H', ⟨by have := HJ1.out; have := HK2.out; omega⟩, ⟨sk BK697⟩, ⟨sbw⟩⟩
         ·obtain rfl := Option.some.inj H
          obtain ⟨hcz22_0, hcz22_1, hcz22_2, hcz22_3, hfz22_0, hfz22_1, hfz22_2, hfz22_3⟩ := cc4 BK697
          try go_wp2
          replace BK697 := am (blk_drew BK697.out)
          replace HB := am (below_drew1 HB.out)
          obtain ⟨p700, q700, ad700, A700_2, c700_2, A700_3, c700_3, e700, hw700_0, hw700_1, hw700_2, hw700_3, hx700_0, hx700_1, hx700_2, hx700_3, HC700_2, HR700_2, HC700_3, HR700_3⟩ := aT_T105 HR0_3 HB x3_2
          cases e700
          obtain ⟨p702, q702, ad702, A702_2, c702_2, A702_3, c702_3, e702, hw702_0, hw702_1, hw702_2, hw702_3, hx702_0, hx702_1, hx702_2, hx702_3, HC702_2, HR702_2, HC702_3, HR702_3⟩ := aT_T105 HR0_3 HB (ji15)
          obtain rfl : ad700 = ad702 := (by injection e702)
          obtain ⟨p703, q703, ad703, A703_2, c703_2, A703_3, c703_3, e703, hw703_0, hw703_1, hw703_2, hw703_3, hx703_0, hx703_1, hx703_2, hx703_3, HC703_2, HR703_2, HC703_3, HR703_3⟩ := aT_T105 HR0_3 HB x3_2
          obtain rfl : ad700 = ad703 := (by injection e703)
          refine start_ (n := 30) (S := fun w' => w'.cell? ⟨gb697, 0, none⟩ = some (.int .i64 a0_0) ∧ w'.cell? ⟨gb697, 1, none⟩ = some (.int .i64 a0_1) ∧ w'.cell? ⟨gb697, 2, none⟩ = some (.int .i64 a0_2) ∧ w'.cell? ⟨gb697, 3, none⟩ = some (.slice (some ad700) l0_3.length c0_3) ∧ w'.cell? (ad700.add ((x3_2).toNat * 4)) = some (.int .i64 ((rd_T105 l0_3 x3_2).f0.f0)) ∧ w'.cell? ⟨(ad700.add ((x3_2).toNat * 4)).block, (ad700.add ((x3_2).toNat * 4)).off + 1, none⟩ = some (.int .i64 ((rd_T105 l0_3 x3_2).f0.f1)) ∧ w'.cell? ⟨(ad700.add ((x3_2).toNat * 4)).block, (ad700.add ((x3_2).toNat * 4)).off + 2, none⟩ = some (.slice A700_2 ((rd_T105 l0_3 x3_2).f1).length c700_2) ∧ w'.cell? ⟨(ad700.add ((x3_2).toNat * 4)).block, (ad700.add ((x3_2).toNat * 4)).off + 3, none⟩ = some (.slice A700_3 ((rd_T105 l0_3 x3_2).f2).length c700_3) ∧ w'.cell? (ad700.add (((ji15)).toNat * 4)) = some (.int .i64 ((rd_T105 l0_3 (ji15)).f0.f0)) ∧ w'.cell? ⟨(ad700.add (((ji15)).toNat * 4)).block, (ad700.add (((ji15)).toNat * 4)).off + 1, none⟩ = some (.int .i64 ((rd_T105 l0_3 (ji15)).f0.f1)) ∧ w'.cell? ⟨(ad700.add (((ji15)).toNat * 4)).block, (ad700.add (((ji15)).toNat * 4)).off + 2, none⟩ = some (.slice A702_2 ((rd_T105 l0_3 (ji15)).f1).length c702_2) ∧ w'.cell? ⟨(ad700.add (((ji15)).toNat * 4)).block, (ad700.add (((ji15)).toNat * 4)).off + 3, none⟩ = some (.slice A702_3 ((rd_T105 l0_3 (ji15)).f2).length c702_3) ∧ w'.cell? (ad700.add ((x3_2).toNat * 4)) = some (.int .i64 ((rd_T105 l0_3 x3_2).f0.f0)) ∧ w'.cell? ⟨(ad700.add ((x3_2).toNat * 4)).block, (ad700.add ((x3_2).toNat * 4)).off + 1, none⟩ = some (.int .i64 ((rd_T105 l0_3 x3_2).f0.f1)) ∧ w'.cell? ⟨(ad700.add ((x3_2).toNat * 4)).block, (ad700.add ((x3_2).toNat * 4)).off + 2, none⟩ = some (.slice A703_2 ((rd_T105 l0_3 x3_2).f1).length c703_2) ∧ w'.cell? ⟨(ad700.add ((x3_2).toNat * 4)).block, (ad700.add ((x3_2).toNat * 4)).off + 3, none⟩ = some (.slice A703_3 ((rd_T105 l0_3 x3_2).f2).length c703_3)) (ds := []) #[false, false, false, false, false, false, false, false, false, false, false, false, false, false, false, false, false, false, false, false, false, false, false, false, false, false, false, false, false, false] (by kernel_rfl) rfl rfl ⟨bc0 BK697, bc1 BK697, bc2 BK697, bc3 BK697, (hb_ HB hw700_0), (hb_ HB hw700_1), (hb_ HB hw700_2), (hb_ HB hw700_3), (hb_ HB hw702_0), (hb_ HB hw702_1), (hb_ HB hw702_2), (hb_ HB hw702_3), (hb_ HB hw703_0), (hb_ HB hw703_1), (hb_ HB hw703_2), (hb_ HB hw703_3)⟩ (fun hHeld => ?_); refine with_tabW spec_IsProgram.tab6 spec_IsProgram.bits6 (fun HT_ HW_ => ?_)
          generalize wr.drew = w23 at BK697 HB HR700_2 HR700_3 HR702_2 HR702_3 HR703_2 HR703_3 hx700_0 hx700_1 hx700_2 hx700_3 hx702_0 hx702_1 hx702_2 hx702_3 hx703_0 hx703_1 hx703_2 hx703_3 hHeld ⊢
          refine put 1 27 (bt 30 2) HT_ ?_
          refine put 3 29 (bt 30 10) HT_ ?_
          refine take_ (i := 0) (N := some 26) (v := ?_) (a' := ?_) (bt 30 11) rfl rfl (take_ofW HT_.out HW_.out (by kernel_rfl)) (fun _ _ _ h => h) (Or.inl ⟨by rfl, ?_⟩) hHeld ?_ ?_
          rotate_left
          ·rintro w' ⟨s0, s1, s2, s3, s4, s5, s6, s7, s8, s9, s10, s11, s12, s13, s14, s15⟩
           go_simp
           with_reducible rfl
          rotate_left
          ·exact ap
          refine take_ (i := 2) (N := some 28) (v := ?_) (a' := ?_) (bt 30 15) rfl rfl (take_ofW HT_.out HW_.out (by kernel_rfl)) (fun _ _ _ h => h) (Or.inl ⟨by rfl, ?_⟩) hHeld ?_ ?_
          rotate_left
          ·rintro w' ⟨s0, s1, s2, s3, s4, s5, s6, s7, s8, s9, s10, s11, s12, s13, s14, s15⟩
           go_simp
           with_reducible rfl
          rotate_left
          ·exact ap
          refine put 4 30 (bt 30 31) HT_ ?_
          refine take_ (i := 5) (N := some 31) (v := ?_) (a' := ?_) (bt 30 63) rfl rfl (take_ofW HT_.out HW_.out (by kernel_rfl)) (fun _ _ _ h => h) (Or.inl ⟨by rfl, ?_⟩) hHeld ?_ ?_
          rotate_left
          ·rintro w' ⟨s0, s1, s2, s3, s4, s5, s6, s7, s8, s9, s10, s11, s12, s13, s14, s15⟩
           go_simp
           with_reducible rfl
          rotate_left
          ·exact ap
          refine on 6 32 (bt 30 127) HT_ (fun K hK => ?_)
          refine goes_ Try.func102 (by kernel_rfl) rfl #[.agg #[.int .i64 a0_0, .int .i64 a0_1, .int .i64 a0_2, .slice (some ad700) l0_3.length c0_3], .agg #[.int .i64 ((rd_T105 l0_3 x3_2).f0.f0), .int .i64 ((rd_T105 l0_3 x3_2).f0.f1), .slice A700_2 ((rd_T105 l0_3 x3_2).f1).length c700_2, .slice A700_3 ((rd_T105 l0_3 x3_2).f2).length c700_3]] (by rfl) rfl rfl sl ?_
          with_reducible refine (spec_l17Piece.calls k2 a0_0 a0_1 a0_2 _ _ l0_3 ((rd_T105 l0_3 x3_2).f0.f0) ((rd_T105 l0_3 x3_2).f0.f1) _ _ ((rd_T105 l0_3 x3_2).f1) _ _ ((rd_T105 l0_3 x3_2).f2) true _ ?side1 ?side2 ?side3 ?side4 ?side5 ?side6 A12.out).mono ?_
          (case side1 => exact cb HR0_3)
          (case side2 => exact HC0_3.out)
          (case side3 => exact cb HR700_2)
          (case side4 => exact HC700_2.out)
          (case side5 => exact cb HR700_3)
          (case side6 => exact HC700_3.out)
          rintro e w24 ⟨rfl, hb⟩
          refine ⟨_, rfl, ?_⟩
          replace BK697 := bb BK697 hb
          replace HB := bsw hb
          (try clear hb)
          (try clear hb2)
          (try clear hk)
          (try clear hi)
          refine hK.out _ _ ⟨bc0 BK697, bc1 BK697, bc2 BK697, bc3 BK697, (hb_ HB hw700_0), (hb_ HB hw700_1), (hb_ HB hw700_2), (hb_ HB hw700_3), (hb_ HB hw702_0), (hb_ HB hw702_1), (hb_ HB hw702_2), (hb_ HB hw702_3), (hb_ HB hw703_0), (hb_ HB hw703_1), (hb_ HB hw703_2), (hb_ HB hw703_3)⟩ (fun hHeld => ?_)
          clear hK K
          refine nm 32 ?_
          refine put 7 33 (bt 30 255) HT_ ?_
          refine put 8 34 (bt 30 511) HT_ ?_
          refine put 9 35 (bt 30 1023) HT_ ?_
          refine put 10 36 (bt 30 2047) HT_ ?_
          refine put 11 37 (bt 30 4095) HT_ ?_
          refine put 12 38 (bt 30 8191) HT_ ?_
          refine put 14 40 (bt 30 24575) HT_ ?_
          refine put 15 41 (bt 30 57343) HT_ ?_
          refine put 20 46 (bt 30 1105919) HT_ ?_
          refine put 22 48 (bt 30 5300223) HT_ ?_
          refine take_ (i := 13) (N := some 39) (v := ?_) (a' := ?_) (bt 30 5308415) rfl rfl (take_ofW HT_.out HW_.out (by kernel_rfl)) (fun _ _ _ h => h) (Or.inl ⟨by rfl, ?_⟩) hHeld ?_ ?_
          rotate_left
          ·rintro w' ⟨s0, s1, s2, s3, s4, s5, s6, s7, s8, s9, s10, s11, s12, s13, s14, s15⟩
           go_simp
           with_reducible rfl
          rotate_left
          ·exact ap
          refine put 16 42 (bt 30 5373951) HT_ ?_
          refine put 17 43 (bt 30 5505023) HT_ ?_
          refine put 18 44 (bt 30 5767167) HT_ ?_
          refine take_ (i := 19) (N := some 45) (v := ?_) (a' := ?_) (bt 30 6291455) rfl rfl (take_ofW HT_.out HW_.out (by kernel_rfl)) (fun _ _ _ h => h) (Or.inl ⟨by rfl, ?_⟩) hHeld ?_ ?_
          rotate_left
          ·rintro w' ⟨s0, s1, s2, s3, s4, s5, s6, s7, s8, s9, s10, s11, s12, s13, s14, s15⟩
           go_simp
           with_reducible rfl
          rotate_left
          ·exact ap
          refine take_ (i := 21) (N := some 47) (v := ?_) (a' := ?_) (bt 30 8388607) rfl rfl (take_ofW HT_.out HW_.out (by kernel_rfl)) (fun _ _ _ h => h) (Or.inl ⟨by rfl, ?_⟩) hHeld ?_ ?_
          rotate_left
          ·rintro w' ⟨s0, s1, s2, s3, s4, s5, s6, s7, s8, s9, s10, s11, s12, s13, s14, s15⟩
           go_simp
           with_reducible rfl
          rotate_left
          ·exact ap
          refine put 23 49 (bt 30 16777215) HT_ ?_
          refine put 24 50 (bt 30 33554431) HT_ ?_
          refine put 25 51 (bt 30 67108863) HT_ ?_
          refine take_ (i := 26) (N := some 52) (v := ?_) (a' := ?_) (bt 30 134217727) rfl rfl (take_ofW HT_.out HW_.out (by kernel_rfl)) (fun _ _ _ h => h) (Or.inl ⟨by rfl, ?_⟩) hHeld ?_ ?_
          rotate_left
          ·rintro w' ⟨s0, s1, s2, s3, s4, s5, s6, s7, s8, s9, s10, s11, s12, s13, s14, s15⟩
           go_simp
           with_reducible rfl
          rotate_left
          ·exact ap
          refine put 27 53 (bt 30 268435455) HT_ ?_
          refine put 28 54 (bt 30 536870911) HT_ ?_
          refine put 29 55 (bt 30 1073741823) HT_ ?_
          refine done_ (done_of HT_.out (by kernel_rfl)) ?_
          try go_wp2
          go_ret
          exact ⟨by first | rfl | (simp [errW_none, errW_some] <;> rfl) | (simp only [← hji15]; first | rfl | (simp [errW_none, errW_some] <;> rfl)) | (simp [*, errW_none, errW_some] <;> rfl), sbw⟩
        ·have H' := am H
         clear H
         obtain ⟨hcz25_0, hcz25_1, hcz25_2, hcz25_3, hfz25_0, hfz25_1, hfz25_2, hfz25_3⟩ := cc4 BK697
         try go_wp2
         replace BK697 := am (blk_drew BK697.out)
         replace HB := am (below_drew1 HB.out)
         obtain ⟨p700, q700, ad700, A700_2, c700_2, A700_3, c700_3, e700, hw700_0, hw700_1, hw700_2, hw700_3, hx700_0, hx700_1, hx700_2, hx700_3, HC700_2, HR700_2, HC700_3, HR700_3⟩ := aT_T105 HR0_3 HB x3_2
         cases e700
         refine start_ (n := 30) (S := fun w' => w'.cell? ⟨gb697, 0, none⟩ = some (.int .i64 a0_0) ∧ w'.cell? ⟨gb697, 1, none⟩ = some (.int .i64 a0_1) ∧ w'.cell? ⟨gb697, 2, none⟩ = some (.int .i64 a0_2) ∧ w'.cell? ⟨gb697, 3, none⟩ = some (.slice (some ad700) l0_3.length c0_3) ∧ w'.cell? (ad700.add ((x3_2).toNat * 4)) = some (.int .i64 ((rd_T105 l0_3 x3_2).f0.f0)) ∧ w'.cell? ⟨(ad700.add ((x3_2).toNat * 4)).block, (ad700.add ((x3_2).toNat * 4)).off + 1, none⟩ = some (.int .i64 ((rd_T105 l0_3 x3_2).f0.f1)) ∧ w'.cell? ⟨(ad700.add ((x3_2).toNat * 4)).block, (ad700.add ((x3_2).toNat * 4)).off + 2, none⟩ = some (.slice A700_2 ((rd_T105 l0_3 x3_2).f1).length c700_2) ∧ w'.cell? ⟨(ad700.add ((x3_2).toNat * 4)).block, (ad700.add ((x3_2).toNat * 4)).off + 3, none⟩ = some (.slice A700_3 ((rd_T105 l0_3 x3_2).f2).length c700_3)) (ds := []) #[false, false, false, false, false, false, false, false, false, false, false, false, false, false, false, false, false, false, false, false, false, false, false, false, false, false, false, false, false, false] (by kernel_rfl) rfl rfl ⟨bc0 BK697, bc1 BK697, bc2 BK697, bc3 BK697, (hb_ HB hw700_0), (hb_ HB hw700_1), (hb_ HB hw700_2), (hb_ HB hw700_3)⟩ (fun hHeld => ?_); refine with_tabW spec_IsProgram.tab6 spec_IsProgram.bits6 (fun HT_ HW_ => ?_)
         generalize wr.drew = w26 at BK697 HB HR700_2 HR700_3 hx700_0 hx700_1 hx700_2 hx700_3 hHeld ⊢
         refine put 1 27 (bt 30 2) HT_ ?_
         refine put 3 29 (bt 30 10) HT_ ?_
         refine tat8 0 26 (bt 30 11) HT_ HW_ hHeld ?_
         refine tat8 2 28 (bt 30 15) HT_ HW_ hHeld ?_
         refine put 4 30 (bt 30 31) HT_ ?_
         refine tat8 5 31 (bt 30 63) HT_ HW_ hHeld ?_
         refine on 6 32 (bt 30 127) HT_ (fun K hK => ?_)
         refine goes_ Try.func102 (by kernel_rfl) rfl #[.agg #[.int .i64 a0_0, .int .i64 a0_1, .int .i64 a0_2, .slice (some ad700) l0_3.length c0_3], .agg #[.int .i64 ((rd_T105 l0_3 x3_2).f0.f0), .int .i64 ((rd_T105 l0_3 x3_2).f0.f1), .slice A700_2 ((rd_T105 l0_3 x3_2).f1).length c700_2, .slice A700_3 ((rd_T105 l0_3 x3_2).f2).length c700_3]] (by rfl) rfl rfl sl ?_
         with_reducible refine (spec_l17Piece.calls k2 a0_0 a0_1 a0_2 _ _ l0_3 ((rd_T105 l0_3 x3_2).f0.f0) ((rd_T105 l0_3 x3_2).f0.f1) _ _ ((rd_T105 l0_3 x3_2).f1) _ _ ((rd_T105 l0_3 x3_2).f2) true _ ?side1 ?side2 ?side3 ?side4 ?side5 ?side6 A12.out).mono ?_
         (case side1 => exact cb HR0_3)
         (case side2 => exact HC0_3.out)
         (case side3 => exact cb HR700_2)
         (case side4 => exact HC700_2.out)
         (case side5 => exact cb HR700_3)
         (case side6 => exact HC700_3.out)
         rintro e w27 ⟨rfl, hb⟩
         refine ⟨_, rfl, ?_⟩
         replace BK697 := bb BK697 hb
         replace HB := bsw hb
         (try clear hb)
         (try clear hb2)
         (try clear hk)
         (try clear hi)
         refine hK.out _ _ ⟨bc0 BK697, bc1 BK697, bc2 BK697, bc3 BK697, (hb_ HB hw700_0), (hb_ HB hw700_1), (hb_ HB hw700_2), (hb_ HB hw700_3)⟩ (fun hHeld => ?_)
         clear hK K
         refine nm 32 ?_
         refine put 7 33 (bt 30 255) HT_ ?_
         refine put 8 34 (bt 30 511) HT_ ?_
         refine put 9 35 (bt 30 1023) HT_ ?_
         refine put 10 36 (bt 30 2047) HT_ ?_
         refine put 11 37 (bt 30 4095) HT_ ?_
         refine pn 12 38 (bt 30 8191) HT_ ?_
         refine pn 13 39 (bt 30 16383) HT_ ?_
         refine pn 14 40 (bt 30 32767) HT_ ?_
         refine pn 15 41 (bt 30 65535) HT_ ?_
         refine pn 16 42 (bt 30 131071) HT_ ?_
         refine pn 17 43 (bt 30 262143) HT_ ?_
         refine pn 18 44 (bt 30 524287) HT_ ?_
         refine pn 19 45 (bt 30 1048575) HT_ ?_
         refine pn 20 46 (bt 30 2097151) HT_ ?_
         refine pn 21 47 (bt 30 4194303) HT_ ?_
         refine pn 22 48 (bt 30 8388607) HT_ ?_
         refine pn 23 49 (bt 30 16777215) HT_ ?_
         refine pn 24 50 (bt 30 33554431) HT_ ?_
         refine pn 25 51 (bt 30 67108863) HT_ ?_
         refine pn 26 52 (bt 30 134217727) HT_ ?_
         refine pn 27 53 (bt 30 268435455) HT_ ?_
         refine put 28 54 (bt 30 536870911) HT_ ?_
         refine put 29 55 (bt 30 1073741823) HT_ ?_
         refine done_ (done_of HT_.out (by kernel_rfl)) ?_
         try go_wp2
         go_roundg k2
         case measure => have := HJ1.out; have := HK2.out; omega
         case rel => exact ⟨(wrap64 (x3_2 + 1)), sc, H', ⟨by have := HJ1.out; have := HK2.out; omega⟩, ⟨sk BK697⟩, ⟨sbw⟩⟩
       ·replace H := im H
        obtain rfl := Option.some.inj H
        obtain ⟨hcz28_0, hcz28_1, hcz28_2, hcz28_3, hfz28_0, hfz28_1, hfz28_2, hfz28_3⟩ := cc4 BK697
        try go_wp2
        replace BK697 := am (blk_drew BK697.out)
        replace HB := am (below_drew1 HB.out)
        obtain ⟨p700, q700, ad700, A700_2, c700_2, A700_3, c700_3, e700, hw700_0, hw700_1, hw700_2, hw700_3, hx700_0, hx700_1, hx700_2, hx700_3, HC700_2, HR700_2, HC700_3, HR700_3⟩ := aT_T105 HR0_3 HB x3_2
        cases e700
        refine start_ (n := 30) (S := fun w' => w'.cell? ⟨gb697, 0, none⟩ = some (.int .i64 a0_0) ∧ w'.cell? ⟨gb697, 1, none⟩ = some (.int .i64 a0_1) ∧ w'.cell? ⟨gb697, 2, none⟩ = some (.int .i64 a0_2) ∧ w'.cell? ⟨gb697, 3, none⟩ = some (.slice (some ad700) l0_3.length c0_3) ∧ w'.cell? (ad700.add ((x3_2).toNat * 4)) = some (.int .i64 ((rd_T105 l0_3 x3_2).f0.f0)) ∧ w'.cell? ⟨(ad700.add ((x3_2).toNat * 4)).block, (ad700.add ((x3_2).toNat * 4)).off + 1, none⟩ = some (.int .i64 ((rd_T105 l0_3 x3_2).f0.f1)) ∧ w'.cell? ⟨(ad700.add ((x3_2).toNat * 4)).block, (ad700.add ((x3_2).toNat * 4)).off + 2, none⟩ = some (.slice A700_2 ((rd_T105 l0_3 x3_2).f1).length c700_2) ∧ w'.cell? ⟨(ad700.add ((x3_2).toNat * 4)).block, (ad700.add ((x3_2).toNat * 4)).off + 3, none⟩ = some (.slice A700_3 ((rd_T105 l0_3 x3_2).f2).length c700_3)) (ds := []) #[false, false, false, false, false, false, false, false, false, false, false, false, false, false, false, false, false, false, false, false, false, false, false, false, false, false, false, false, false, false] (by kernel_rfl) rfl rfl ⟨bc0 BK697, bc1 BK697, bc2 BK697, bc3 BK697, (hb_ HB hw700_0), (hb_ HB hw700_1), (hb_ HB hw700_2), (hb_ HB hw700_3)⟩ (fun hHeld => ?_); refine with_tabW spec_IsProgram.tab6 spec_IsProgram.bits6 (fun HT_ HW_ => ?_)
        generalize wr.drew = w29 at BK697 HB HR700_2 HR700_3 hx700_0 hx700_1 hx700_2 hx700_3 hHeld ⊢
        refine put 1 27 (bt 30 2) HT_ ?_
        refine put 3 29 (bt 30 10) HT_ ?_
        refine tat8 0 26 (bt 30 11) HT_ HW_ hHeld ?_
        refine tat8 2 28 (bt 30 15) HT_ HW_ hHeld ?_
        refine put 4 30 (bt 30 31) HT_ ?_
        refine tat8 5 31 (bt 30 63) HT_ HW_ hHeld ?_
        refine on 6 32 (bt 30 127) HT_ (fun K hK => ?_)
        refine goes_ Try.func102 (by kernel_rfl) rfl #[.agg #[.int .i64 a0_0, .int .i64 a0_1, .int .i64 a0_2, .slice (some ad700) l0_3.length c0_3], .agg #[.int .i64 ((rd_T105 l0_3 x3_2).f0.f0), .int .i64 ((rd_T105 l0_3 x3_2).f0.f1), .slice A700_2 ((rd_T105 l0_3 x3_2).f1).length c700_2, .slice A700_3 ((rd_T105 l0_3 x3_2).f2).length c700_3]] (by rfl) rfl rfl sl ?_
        with_reducible refine (spec_l17Piece.calls k2 a0_0 a0_1 a0_2 _ _ l0_3 ((rd_T105 l0_3 x3_2).f0.f0) ((rd_T105 l0_3 x3_2).f0.f1) _ _ ((rd_T105 l0_3 x3_2).f1) _ _ ((rd_T105 l0_3 x3_2).f2) false _ ?side1 ?side2 ?side3 ?side4 ?side5 ?side6 A12.out).mono ?_
        (case side1 => exact cb HR0_3)
        (case side2 => exact HC0_3.out)
        (case side3 => exact cb HR700_2)
        (case side4 => exact HC700_2.out)
        (case side5 => exact cb HR700_3)
        (case side6 => exact HC700_3.out)
        rintro e w30 ⟨rfl, hb⟩
        refine ⟨_, rfl, ?_⟩
        replace BK697 := bb BK697 hb
        replace HB := bsw hb
        (try clear hb)
        (try clear hb2)
        (try clear hk)
        (try clear hi)
        refine hK.out _ _ ⟨bc0 BK697, bc1 BK697, bc2 BK697, bc3 BK697, (hb_ HB hw700_0), (hb_ HB hw700_1), (hb_ HB hw700_2), (hb_ HB hw700_3)⟩ (fun hHeld => ?_)
        clear hK K
        refine nm 32 ?_
        refine put 7 33 (bt 30 255) HT_ ?_
        refine put 8 34 (bt 30 511) HT_ ?_
        refine pn 9 35 (bt 30 1023) HT_ ?_
        refine pn 10 36 (bt 30 2047) HT_ ?_
        refine pn 11 37 (bt 30 4095) HT_ ?_
        refine pn 12 38 (bt 30 8191) HT_ ?_
        refine pn 13 39 (bt 30 16383) HT_ ?_
        refine pn 14 40 (bt 30 32767) HT_ ?_
        refine pn 15 41 (bt 30 65535) HT_ ?_
        refine pn 16 42 (bt 30 131071) HT_ ?_
        refine pn 17 43 (bt 30 262143) HT_ ?_
        refine pn 18 44 (bt 30 524287) HT_ ?_
        refine pn 19 45 (bt 30 1048575) HT_ ?_
        refine pn 20 46 (bt 30 2097151) HT_ ?_
        refine pn 21 47 (bt 30 4194303) HT_ ?_
        refine pn 22 48 (bt 30 8388607) HT_ ?_
        refine pn 23 49 (bt 30 16777215) HT_ ?_
        refine pn 24 50 (bt 30 33554431) HT_ ?_
        refine pn 25 51 (bt 30 67108863) HT_ ?_
        refine pn 26 52 (bt 30 134217727) HT_ ?_
        refine pn 27 53 (bt 30 268435455) HT_ ?_
        refine pn 28 54 (bt 30 536870911) HT_ ?_
        refine put 29 55 (bt 30 1073741823) HT_ ?_
        refine done_ (done_of HT_.out (by kernel_rfl)) ?_
        try go_wp2
        go_ret
        exact ⟨se, sbw⟩
      ·obtain rfl := Option.some.inj H
       obtain ⟨hcz31_0, hcz31_1, hcz31_2, hcz31_3, hfz31_0, hfz31_1, hfz31_2, hfz31_3⟩ := cc4 BK697
       go_wp2
       go_ret
       exact ⟨se, sbw⟩

end Go.Proofs.Ytiihaabhjphaeaa.QFnSwitched
