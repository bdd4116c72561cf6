/- What the Go functions of the law FnExactIsProgram come to, as Lean functions, and that they do: by a program of the session, out of the kit's printer. Conditions: none. (squeezed). -/
import Derived.Test.YtiihaabhjphaeaaVFnExactIsProgramSq
import Derived.Test.YtiihaabhjphaeaaVFnExactIsProgramQFnExactIsProgramx0
import Derived.Test.YtiihaabhjphaeaaVFnExactIsProgramQFnExactIsProgramx6
import Derived.Test.YtiihaabhjphaeaaVFnExactIsProgramQFnExactIsProgramx10
namespace Go.Proofs.Ytiihaabhjphaeaa.QFnExactIsProgram
open Go.RowKit Go.Proofs.YtiihaabhjphaeaaW.PrintWords Go.Proofs.YtiihaabhjphaeaaW.PrintLast Go.Proofs.YtiihaabhjphaeaaW.PrintMore Go.Proofs.Ytiihaabhjphaeaa.Open Go.Proofs.Ytiihaabhjphaeaa.Sq
attribute [local go_sem] max2_int min2_int max_two min_two max_three min_three max_four min_four   -- for this text's walks alone
attribute [local go_sem] isSome_set
set_option linter.unusedVariables false
set_option linter.unusedSimpArgs false

/-! ### spec_IsProgram: function 40 -/
mutual
def spec_IsProgram.j0 : Nat → Bool → Int → Int → Int → List (S105) → Option (Bool)
  | 0, _, _, _, _, _ => none
  | k + 1, x18, x375000, x375001, x375002, x375003 => if x18 = true then (some false) else (spec_IsProgram.l0 k 0 x375000 x375001 x375002 x375003)
def spec_IsProgram.l0 : Nat → Int → Int → Int → Int → List (S105) → Option (Bool)
  | 0, _, _, _, _, _ => none
  | k + 1, x3, x375000, x375001, x375002, x375003 => if x3 < (x375003.length : Int) then (if 0 ≤ x3 then ((spec_l17Piece.f k x375000 x375001 x375002 x375003 ((rd_T105 x375003 x3).f0.f0) ((rd_T105 x375003 x3).f0.f1) ((rd_T105 x375003 x3).f1) ((rd_T105 x375003 x3).f2)).bind fun t378 => (if t378 = true then (if x3 > 0 then (if 0 ≤ (wrap64 (x3 - 1)) then (if (wrap64 (x3 - 1)) < (x375003.length : Int) then (if ((rd_T105 x375003 (wrap64 (x3 - 1))).f0.f1) = ((rd_T105 x375003 x3).f0.f0) then (spec_IsProgram.l0 k (wrap64 (x3 + 1)) x375000 x375001 x375002 x375003) else (some false)) else (none)) else (none)) else (spec_IsProgram.l0 k (wrap64 (x3 + 1)) x375000 x375001 x375002 x375003)) else (some false))) else (none)) else (some true)
end
def spec_IsProgram.f (k : Nat) (a0_0 : Int) (a0_1 : Int) (a0_2 : Int) (l0_3 : List (S105)) : Option (Bool) := (spec_l17Frame.f a0_0 a0_1 a0_2).bind fun t375 => (if t375 = true then ((spec_l1In.f (l0_3.length : Int) 1 40).bind fun t376 => (spec_IsProgram.j0 k (!t376) a0_0 a0_1 a0_2 l0_3)) else (spec_IsProgram.j0 k true a0_0 a0_1 a0_2 l0_3))
theorem spec_IsProgram.mono_l : ∀ k, (∀ y0 y1 y2 y3 y4, LeO (spec_IsProgram.j0 k y0 y1 y2 y3 y4) (spec_IsProgram.j0 (k + 1) y0 y1 y2 y3 y4)) ∧ (∀ y0 y1 y2 y3 y4, LeO (spec_IsProgram.l0 k y0 y1 y2 y3 y4) (spec_IsProgram.l0 (k + 1) y0 y1 y2 y3 y4))
  | 0 => ⟨fun _ _ _ _ _ r h => by simp [spec_IsProgram.j0] at h, fun _ _ _ _ _ r h => by simp [spec_IsProgram.l0] at h⟩
  | k + 1 => by
    obtain ⟨ih0, ih1⟩ := spec_IsProgram.mono_l k
    refine ⟨?_, ?_⟩
    · intro y0 y1 y2 y3 y4
      unfold spec_IsProgram.j0
      have m0 := @spec_l17Piece.mono
      exact mo
    · intro y0 y1 y2 y3 y4
      unfold spec_IsProgram.l0
      have m0 := @spec_l17Piece.mono
      exact mo
theorem spec_IsProgram.mono : ∀ a0 a1 a2 a3 k, LeO (spec_IsProgram.f k a0 a1 a2 a3) (spec_IsProgram.f (k + 1) a0 a1 a2 a3) := by
  intro a0 a1 a2 a3 k
  obtain ⟨ih0, ih1⟩ := spec_IsProgram.mono_l k
  unfold spec_IsProgram.f
  have m0 := @spec_l17Piece.mono
  exact mo
def spec_IsProgram.T6 : Bool × List (List Nat × List Nat) := (true, [([], []), ([], []), ([1], [1]), ([], []), ([2, 3], [2, 3]), ([4], [4]), ([0, 5], [0, 5]), ([6], [6]), ([7, 6], [7]), ([8], [8]), ([9, 8], [8, 9]), ([10, 8, 8], [8, 10]), ([11], [11]), ([12, 11], [11, 12]), ([11], [11]), ([14, 11], [11, 14]), ([13, 15, 11], [11, 13, 15]), ([16, 11], [11, 16]), ([17, 11], [11, 17]), ([18, 11], [11, 18]), ([11], [11]), ([20, 11], [11, 20]), ([11], [11]), ([21, 22, 11], [11, 21, 22]), ([23, 11], [11, 23]), ([24, 11], [11, 24]), ([25, 11], [11, 25]), ([19, 26, 11], [11, 19, 26]), ([11, 27, 8], [8, 11, 27]), ([8, 28], [8, 28])])
def spec_IsProgram.B6 : List Nat := [0, 0, 2, 0, 14, 30, 63, 127, 255, 511, 1023, 2047, 4095, 8191, 4095, 20479, 65535, 131071, 262143, 524287, 4095, 1052671, 4095, 7344127, 15732735, 32509951, 66064383, 134217727, 268435455, 536870911]
theorem spec_IsProgram.tab6 : rtab .any (opsOf Try.f40 6) = spec_IsProgram.T6 := by kernel_rfl
theorem spec_IsProgram.bits6 : waitsOk spec_IsProgram.T6.2 spec_IsProgram.B6 = true := by kernel_rfl
set_option maxHeartbeats 8000000 in
set_option maxRecDepth 100000 in
theorem spec_IsProgram.calls (k : Nat) (a0_0 : Int) (a0_1 : Int) (a0_2 : Int) (A0_3 : Option Addr) (c0_3 : Nat) (l0_3 : List (S105)) (r : Bool) (w : World) (hr0_3 : Kd.C k105 w A0_3 l0_3.length l0_3) (hc0_3 : l0_3.length ≤ c0_3) (h : spec_IsProgram.f k a0_0 a0_1 a0_2 l0_3 = some r) :
    Calls Try.prog 40 #[.agg #[.int .i64 a0_0, .int .i64 a0_1, .int .i64 a0_2, .slice A0_3 l0_3.length c0_3]] w fun e w' => e = .returned (.bool r) ∧ Below w.heap.size w w' := by
 have hu31 := Try.underlying31
 have hu105 := Try.underlying105
 have HR0_3 := Aside0.mk hr0_3
 have HC0_3 := Aside0.mk hc0_3
 clear hr0_3 hc0_3
 have HB := Aside0.mk (Below.refl w.heap.size w)
 have H : ((spec_l17Frame.f a0_0 a0_1 a0_2).bind fun t375 => (if t375 = true then ((spec_l1In.f (l0_3.length : Int) 1 40).bind fun t376 => (spec_IsProgram.j0 k (!t376) a0_0 a0_1 a0_2 l0_3)) else (spec_IsProgram.j0 k true a0_0 a0_1 a0_2 l0_3))) = some r := h
 clear h
 have HC2 := Aside0.mk H
 clear H
 go_enter Try.func40, Try.ntmps40
 go_upto_region 1 with (first | ((with_reducible refine gate_dst (N := 1) rfl ?_); (try (refine gate_guard (by rfl) ?_; dsimp only)); refine bx 1 #[.int .i64 a0_0, .int .i64 a0_1, .int .i64 a0_2, .slice A0_3 l0_3.length c0_3] 31 ?_; intro gb374 hg w3 hbox hb; have GW374 := bz w hg; have GE374 := bz w hg; replace HB := bs hb; have BK374 := Aside0.mk hbox; clear hb hbox hg))
 (try simp only [Act.put, List.setIfInBounds_toArray, List.set_cons_zero, List.set_cons_succ])
 go_cut [18] (fun v18 wc => ∃ (kq : Nat) (x18_1 : Bool), v18 = .bool x18_1 ∧ Aside0 (spec_IsProgram.j0 kq x18_1 a0_0 a0_1 a0_2 l0_3 = some r) ∧ Aside0 (kq ≤ k) ∧ Aside0 (wc.heap[gb374]? = some (.cells #[.int .i64 a0_0, .int .i64 a0_1, .int .i64 a0_2, (.slice A0_3 l0_3.length c0_3)] 31 (0, 0))) ∧ Aside0 (Below w.heap.size w wc))
 case first =>
  have H := HC2.out
  clear HC2
  obtain ⟨t375, A4, H⟩ := bnd H
  obtain rfl | rfl := tt t375
  ·replace H := ip H
   obtain ⟨t376, A6, H⟩ := bnd H
   have H' := Aside0.mk H
   clear H
   obtain ⟨hcz7_0, hcz7_1, hcz7_2, hcz7_3, hfz7_0, hfz7_1, hfz7_2, hfz7_3⟩ := cc4 BK374
   go_wp2_with (first | ((with_reducible refine gate_callee (f := 101) rfl ?_); refine gL (some 10) Try.func101 #[.int .i64 a0_0, .int .i64 a0_1, .int .i64 a0_2] ?_; (with_reducible refine (spec_l17Frame.calls a0_0 a0_1 a0_2 true _ A4.out).mono ?_); rintro e w' ⟨rfl, ⟨nd, rfl⟩⟩; refine ⟨_, rfl, ?_⟩) | (go_at_call 85; (with_reducible refine (spec_l1In.calls (l0_3.length : Int) 1 40 t376 _ A6.out).mono ?_); rintro e w' ⟨rfl, ⟨nd, rfl⟩⟩))
   go_meet
   case rel => exact ⟨_, (!t376), sc, H', ⟨by first | omega | exact Nat.le_refl _⟩, ⟨sk BK374⟩, ⟨sbw⟩⟩
  ·replace H := im H
   have H' := Aside0.mk H
   clear H
   obtain ⟨hcz8_0, hcz8_1, hcz8_2, hcz8_3, hfz8_0, hfz8_1, hfz8_2, hfz8_3⟩ := cc4 BK374
   go_wp2_with (first | ((with_reducible refine gate_callee (f := 101) rfl ?_); refine gL (some 10) Try.func101 #[.int .i64 a0_0, .int .i64 a0_1, .int .i64 a0_2] ?_; (with_reducible refine (spec_l17Frame.calls a0_0 a0_1 a0_2 false _ A4.out).mono ?_); rintro e w' ⟨rfl, ⟨nd, rfl⟩⟩; refine ⟨_, rfl, ?_⟩))
   go_meet
   case rel => exact ⟨_, (true), sc, H', ⟨by first | omega | exact Nat.le_refl _⟩, ⟨sk BK374⟩, ⟨sbw⟩⟩
 case rest =>
  clear HC2
  try clear hcz7_0
  try clear hcz7_1
  try clear hcz7_2
  try clear hcz7_3
  try clear hcz8_0
  try clear hcz8_1
  try clear hcz8_2
  try clear hcz8_3
  try clear hfz7_0
  try clear hfz7_1
  try clear hfz7_2
  try clear hfz7_3
  try clear hfz8_0
  try clear hfz8_1
  try clear hfz8_2
  try clear hfz8_3
  obtain ⟨kq, x18_1, rfl, HA, HJ1, BK374, HB⟩ := hcut
  cases kq with
  | zero => exact absurd HA.out (by simp [spec_IsProgram.j0])
  | succ kj1 =>
   have H := HA.out
   clear HA
   simp only [spec_IsProgram.j0] at H
   obtain rfl | rfl := tt x18_1
   ·replace H := ip H
    obtain rfl := Option.some.inj H
    go_wp2
    go_ret
    exact ⟨se, sbw⟩
   ·replace H := im H
    have H' := Aside0.mk H
    clear H
    go_wp2
    go_loopg [3] kj1 (fun kq v3 w' => ∃ (x3_2 : Int), v3 = .int .i64 x3_2 ∧ Aside0 (spec_IsProgram.l0 kq x3_2 a0_0 a0_1 a0_2 l0_3 = some r) ∧ Aside0 (kq ≤ kj1) ∧ Aside0 (w'.heap[gb374]? = some (.cells #[.int .i64 a0_0, .int .i64 a0_1, .int .i64 a0_2, (.slice A0_3 l0_3.length c0_3)] 31 (0, 0))) ∧ Aside0 (Below w.heap.size w w'))
    case atStart => exact ⟨(0), sc, H', kk0, ⟨sk BK374⟩, ⟨sbw⟩⟩
    case round =>
     clear H'
     try clear hcz7_0
     try clear hcz7_1
     try clear hcz7_2
     try clear hcz7_3
     try clear hcz8_0
     try clear hcz8_1
     try clear hcz8_2
     try clear hcz8_3
     try clear hfz7_0
     try clear hfz7_1
     try clear hfz7_2
     try clear hfz7_3
     try clear hfz8_0
     try clear hfz8_1
     try clear hfz8_2
     try clear hfz8_3
     obtain ⟨x3_2, rfl, HA, HK2, BK374, HB⟩ := hrel
     cases gk with
     | zero => exact absurd HA.out (by simp [spec_IsProgram.l0])
     | succ k2 =>
      have H := HA.out
      clear HA
      simp only [spec_IsProgram.l0] at H
      obtain ⟨c10, H⟩ | ⟨c10, H⟩ := ie_ H
      ·have c10b0 := decide_eq_true c10
       clear c10
       obtain ⟨c11b0, H⟩ := id_ H
       obtain ⟨t378, A12, H⟩ := bnd H
       obtain rfl | rfl := tt t378
       ·replace H := ip H
        obtain ⟨c14, H⟩ | ⟨c14, H⟩ := ie_ H
        ·have c14b0 := decide_eq_true c14
         clear c14
         obtain ⟨ji15, hji15⟩ : ∃ j_ : Int, (wrap64 (x3_2 - 1)) = j_ := ⟨_, rfl⟩
         replace H : (if 0 ≤ (ji15) then (if (ji15) < (l0_3.length : Int) then (if ((rd_T105 l0_3 (ji15)).f0.f1) = ((rd_T105 l0_3 x3_2).f0.f0) then (spec_IsProgram.l0 k2 (wrap64 (x3_2 + 1)) a0_0 a0_1 a0_2 l0_3) else (some false)) else (none)) else (none)) = some r := by first | (rw [hji15] at H; exact H) | (simp only [hji15] at H ⊢; exact H)
         (try rw [hji15] at A12)
         have hji15w : (IntKind.i64.wrap (x3_2 - 1)) = ji15 := (i64_w _).trans hji15
         obtain ⟨c16b0, H⟩ := id_ H
         obtain ⟨c17b0, H⟩ := id_ H
         obtain ⟨c18, H⟩ | ⟨c18, H⟩ := ie_ H
         ·have c18b0 : (((rd_T105 l0_3 (ji15)).f0.f1) == ((rd_T105 l0_3 x3_2).f0.f0)) = true := beq_iff_eq.mpr c18
          have c18b1 : (((rd_T105 l0_3 (ji15)).f0.f1) != ((rd_T105 l0_3 x3_2).f0.f0)) = false := bne_eq_false_iff_eq.mpr c18
          clear c18
          have H' := Aside0.mk H
          clear H
          obtain ⟨hcz19_0, hcz19_1, hcz19_2, hcz19_3, hfz19_0, hfz19_1, hfz19_2, hfz19_3⟩ := cc4 BK374
          try go_wp2
          replace BK374 := Aside0.mk (blk_drew BK374.out)
          replace HB := Aside0.mk (below_drew1 HB.out)
          obtain ⟨p377, q377, ad377, A377_2, c377_2, A377_3, c377_3, e377, hw377_0, hw377_1, hw377_2, hw377_3, hx377_0, hx377_1, hx377_2, hx377_3, HC377_2, HR377_2, HC377_3, HR377_3⟩ := aT_T105 HR0_3 HB x3_2
          cases e377
          obtain ⟨p379, q379, ad379, A379_2, c379_2, A379_3, c379_3, e379, hw379_0, hw379_1, hw379_2, hw379_3, hx379_0, hx379_1, hx379_2, hx379_3, HC379_2, HR379_2, HC379_3, HR379_3⟩ := aT_T105 HR0_3 HB (ji15)
          obtain rfl : ad377 = ad379 := (by injection e379)
          obtain ⟨p380, q380, ad380, A380_2, c380_2, A380_3, c380_3, e380, hw380_0, hw380_1, hw380_2, hw380_3, hx380_0, hx380_1, hx380_2, hx380_3, HC380_2, HR380_2, HC380_3, HR380_3⟩ := aT_T105 HR0_3 HB x3_2
          obtain rfl : ad377 = ad380 := (by injection e380)
          refine start_ (n := 30) (S := fun w' => w'.cell? ⟨gb374, 0, none⟩ = some (.int .i64 a0_0) ∧ w'.cell? ⟨gb374, 1, none⟩ = some (.int .i64 a0_1) ∧ w'.cell? ⟨gb374, 2, none⟩ = some (.int .i64 a0_2) ∧ w'.cell? ⟨gb374, 3, none⟩ = some (.slice (some ad377) l0_3.length c0_3) ∧ w'.cell? (ad377.add ((x3_2).toNat * 4)) = some (.int .i64 ((rd_T105 l0_3 x3_2).f0.f0)) ∧ w'.cell? ⟨(ad377.add ((x3_2).toNat * 4)).block, (ad377.add ((x3_2).toNat * 4)).off + 1, none⟩ = some (.int .i64 ((rd_T105 l0_3 x3_2).f0.f1)) ∧ w'.cell? ⟨(ad377.add ((x3_2).toNat * 4)).block, (ad377.add ((x3_2).toNat * 4)).off + 2, none⟩ = some (.slice A377_2 ((rd_T105 l0_3 x3_2).f1).length c377_2) ∧ w'.cell? ⟨(ad377.add ((x3_2).toNat * 4)).block, (ad377.add ((x3_2).toNat * 4)).off + 3, none⟩ = some (.slice A377_3 ((rd_T105 l0_3 x3_2).f2).length c377_3) ∧ w'.cell? (ad377.add (((ji15)).toNat * 4)) = some (.int .i64 ((rd_T105 l0_3 (ji15)).f0.f0)) ∧ w'.cell? ⟨(ad377.add (((ji15)).toNat * 4)).block, (ad377.add (((ji15)).toNat * 4)).off + 1, none⟩ = some (.int .i64 ((rd_T105 l0_3 (ji15)).f0.f1)) ∧ w'.cell? ⟨(ad377.add (((ji15)).toNat * 4)).block, (ad377.add (((ji15)).toNat * 4)).off + 2, none⟩ = some (.slice A379_2 ((rd_T105 l0_3 (ji15)).f1).length c379_2) ∧ w'.cell? ⟨(ad377.add (((ji15)).toNat * 4)).block, (ad377.add (((ji15)).toNat * 4)).off + 3, none⟩ = some (.slice A379_3 ((rd_T105 l0_3 (ji15)).f2).length c379_3) ∧ w'.cell? (ad377.add ((x3_2).toNat * 4)) = some (.int .i64 ((rd_T105 l0_3 x3_2).f0.f0)) ∧ w'.cell? ⟨(ad377.add ((x3_2).toNat * 4)).block, (ad377.add ((x3_2).toNat * 4)).off + 1, none⟩ = some (.int .i64 ((rd_T105 l0_3 x3_2).f0.f1)) ∧ w'.cell? ⟨(ad377.add ((x3_2).toNat * 4)).block, (ad377.add ((x3_2).toNat * 4)).off + 2, none⟩ = some (.slice A380_2 ((rd_T105 l0_3 x3_2).f1).length c380_2) ∧ w'.cell? ⟨(ad377.add ((x3_2).toNat * 4)).block, (ad377.add ((x3_2).toNat * 4)).off + 3, none⟩ = some (.slice A380_3 ((rd_T105 l0_3 x3_2).f2).length c380_3)) (ds := []) #[false, false, false, false, false, false, false, false, false, false, false, false, false, false, false, false, false, false, false, false, false, false, false, false, false, false, false, false, false, false] (by kernel_rfl) rfl rfl ⟨bc0 BK374, bc1 BK374, bc2 BK374, bc3 BK374, (hb_ HB hw377_0), (hb_ HB hw377_1), (hb_ HB hw377_2), (hb_ HB hw377_3), (hb_ HB hw379_0), (hb_ HB hw379_1), (hb_ HB hw379_2), (hb_ HB hw379_3), (hb_ HB hw380_0), (hb_ HB hw380_1), (hb_ HB hw380_2), (hb_ HB hw380_3)⟩ (fun hHeld => ?_); refine with_tabW spec_IsProgram.tab6 spec_IsProgram.bits6 (fun HT_ HW_ => ?_)
          generalize wr.drew = w20 at BK374 HB HR377_2 HR377_3 HR379_2 HR379_3 HR380_2 HR380_3 hx377_0 hx377_1 hx377_2 hx377_3 hx379_0 hx379_1 hx379_2 hx379_3 hx380_0 hx380_1 hx380_2 hx380_3 hHeld ⊢
          refine put 1 27 #[false, true, false, false, false, false, false, false, false, false, false, false, false, false, false, false, false, false, false, false, false, false, false, false, false, false, false, false, false, false] HT_ ?_
          refine put 3 29 #[false, true, false, true, false, false, false, false, false, false, false, false, false, false, false, false, false, false, false, false, false, false, false, false, false, false, false, false, false, false] HT_ ?_
          refine take_ (i := 0) (N := some 26) (v := ?_) (a' := ?_) #[true, true, false, true, false, false, false, false, false, false, false, false, false, false, false, false, false, false, false, false, false, false, false, false, false, false, false, false, false, false] rfl rfl (take_ofW HT_.out HW_.out (by kernel_rfl)) (fun _ _ _ h => h) (Or.inl ⟨by rfl, ?_⟩) hHeld ?_ ?_
          rotate_left
          ·rintro w' ⟨s0, s1, s2, s3, s4, s5, s6, s7, s8, s9, s10, s11, s12, s13, s14, s15⟩
           go_simp
           with_reducible rfl
          rotate_left
          ·simp only [Act.put, List.setIfInBounds_toArray, List.set_cons_zero, List.set_cons_succ, i64_w, i32_w]
           rfl
          refine take_ (i := 2) (N := some 28) (v := ?_) (a' := ?_) #[true, true, true, true, false, false, false, false, false, false, false, false, false, false, false, false, false, false, false, false, false, false, false, false, false, false, false, false, false, false] rfl rfl (take_ofW HT_.out HW_.out (by kernel_rfl)) (fun _ _ _ h => h) (Or.inl ⟨by rfl, ?_⟩) hHeld ?_ ?_
          rotate_left
          ·rintro w' ⟨s0, s1, s2, s3, s4, s5, s6, s7, s8, s9, s10, s11, s12, s13, s14, s15⟩
           go_simp
           with_reducible rfl
          rotate_left
          ·simp only [Act.put, List.setIfInBounds_toArray, List.set_cons_zero, List.set_cons_succ, i64_w, i32_w]
           rfl
          refine put 4 30 #[true, true, true, true, true, false, false, false, false, false, false, false, false, false, false, false, false, false, false, false, false, false, false, false, false, false, false, false, false, false] HT_ ?_
          refine take_ (i := 5) (N := some 31) (v := ?_) (a' := ?_) #[true, true, true, true, true, true, false, false, false, false, false, false, false, false, false, false, false, false, false, false, false, false, false, false, false, false, false, false, false, false] rfl rfl (take_ofW HT_.out HW_.out (by kernel_rfl)) (fun _ _ _ h => h) (Or.inl ⟨by rfl, ?_⟩) hHeld ?_ ?_
          rotate_left
          ·rintro w' ⟨s0, s1, s2, s3, s4, s5, s6, s7, s8, s9, s10, s11, s12, s13, s14, s15⟩
           go_simp
           with_reducible rfl
          rotate_left
          ·simp only [Act.put, List.setIfInBounds_toArray, List.set_cons_zero, List.set_cons_succ, i64_w, i32_w]
           rfl
          refine one_ (i := 6) (N := some 32) #[true, true, true, true, true, true, true, false, false, false, false, false, false, false, false, false, false, false, false, false, false, false, false, false, false, false, false, false, false, false] rfl rfl (one_of HT_.out (by kernel_rfl)) (by decide) (fun K hK => ?_)
          refine goes_ Try.func102 (by kernel_rfl) rfl #[.agg #[.int .i64 a0_0, .int .i64 a0_1, .int .i64 a0_2, .slice (some ad377) l0_3.length c0_3], .agg #[.int .i64 ((rd_T105 l0_3 x3_2).f0.f0), .int .i64 ((rd_T105 l0_3 x3_2).f0.f1), .slice A377_2 ((rd_T105 l0_3 x3_2).f1).length c377_2, .slice A377_3 ((rd_T105 l0_3 x3_2).f2).length c377_3]] (by rfl) rfl rfl sl ?_
          with_reducible refine (spec_l17Piece.calls k2 a0_0 a0_1 a0_2 _ _ l0_3 ((rd_T105 l0_3 x3_2).f0.f0) ((rd_T105 l0_3 x3_2).f0.f1) _ _ ((rd_T105 l0_3 x3_2).f1) _ _ ((rd_T105 l0_3 x3_2).f2) true _ ?side1 ?side2 ?side3 ?side4 ?side5 ?side6 A12.out).mono ?_
          (case side1 => exact cb HR0_3)
          (case side2 => exact HC0_3.out)
          (case side3 => exact cb HR377_2)
          (case side4 => exact HC377_2.out)
          (case side5 => exact cb HR377_3)
          (case side6 => exact HC377_3.out)
          rintro e w21 ⟨rfl, hb⟩
          refine ⟨_, rfl, ?_⟩
          replace BK374 := bb BK374 hb
          replace HB := bsw hb
          (try clear hb)
          (try clear hb2)
          (try clear hk)
          (try clear hi)
          refine hK.out _ _ ⟨bc0 BK374, bc1 BK374, bc2 BK374, bc3 BK374, (hb_ HB hw377_0), (hb_ HB hw377_1), (hb_ HB hw377_2), (hb_ HB hw377_3), (hb_ HB hw379_0), (hb_ HB hw379_1), (hb_ HB hw379_2), (hb_ HB hw379_3), (hb_ HB hw380_0), (hb_ HB hw380_1), (hb_ HB hw380_2), (hb_ HB hw380_3)⟩ (fun hHeld => ?_)
          clear hK K
          refine norm_ (a' := ?_) ?_ ?_
          rotate_left
          ·show Act.put _ (some 32) _ = _
           simp only [Act.put, List.setIfInBounds_toArray, List.set_cons_zero, List.set_cons_succ, i64_w, i32_w]
           rfl
          refine put 7 33 #[true, true, true, true, true, true, true, true, false, false, false, false, false, false, false, false, false, false, false, false, false, false, false, false, false, false, false, false, false, false] HT_ ?_
          refine put 8 34 #[true, true, true, true, true, true, true, true, true, false, false, false, false, false, false, false, false, false, false, false, false, false, false, false, false, false, false, false, false, false] HT_ ?_
          refine put 9 35 #[true, true, true, true, true, true, true, true, true, true, false, false, false, false, false, false, false, false, false, false, false, false, false, false, false, false, false, false, false, false] HT_ ?_
          refine put 10 36 #[true, true, true, true, true, true, true, true, true, true, true, false, false, false, false, false, false, false, false, false, false, false, false, false, false, false, false, false, false, false] HT_ ?_
          refine put 11 37 #[true, true, true, true, true, true, true, true, true, true, true, true, false, false, false, false, false, false, false, false, false, false, false, false, false, false, false, false, false, false] HT_ ?_
          refine put 12 38 #[true, true, true, true, true, true, true, true, true, true, true, true, true, false, false, false, false, false, false, false, false, false, false, false, false, false, false, false, false, false] HT_ ?_
          refine put 14 40 #[true, true, true, true, true, true, true, true, true, true, true, true, true, false, true, false, false, false, false, false, false, false, false, false, false, false, false, false, false, false] HT_ ?_
          refine put 15 41 #[true, true, true, true, true, true, true, true, true, true, true, true, true, false, true, true, false, false, false, false, false, false, false, false, false, false, false, false, false, false] HT_ ?_
          refine put 20 46 #[true, true, true, true, true, true, true, true, true, true, true, true, true, false, true, true, false, false, false, false, true, false, false, false, false, false, false, false, false, false] HT_ ?_
          refine put 22 48 #[true, true, true, true, true, true, true, true, true, true, true, true, true, false, true, true, false, false, false, false, true, false, true, false, false, false, false, false, false, false] HT_ ?_
          refine take_ (i := 13) (N := some 39) (v := ?_) (a' := ?_) #[true, true, true, true, true, true, true, true, true, true, true, true, true, true, true, true, false, false, false, false, true, false, true, false, false, false, false, false, false, false] rfl rfl (take_ofW HT_.out HW_.out (by kernel_rfl)) (fun _ _ _ h => h) (Or.inl ⟨by rfl, ?_⟩) hHeld ?_ ?_
          rotate_left
          ·rintro w' ⟨s0, s1, s2, s3, s4, s5, s6, s7, s8, s9, s10, s11, s12, s13, s14, s15⟩
           go_simp
           with_reducible rfl
          rotate_left
          ·simp only [Act.put, List.setIfInBounds_toArray, List.set_cons_zero, List.set_cons_succ, i64_w, i32_w]
           rfl
          refine put 16 42 #[true, true, true, true, true, true, true, true, true, true, true, true, true, true, true, true, true, false, false, false, true, false, true, false, false, false, false, false, false, false] HT_ ?_
          refine put 17 43 #[true, true, true, true, true, true, true, true, true, true, true, true, true, true, true, true, true, true, false, false, true, false, true, false, false, false, false, false, false, false] HT_ ?_
          refine put 18 44 #[true, true, true, true, true, true, true, true, true, true, true, true, true, true, true, true, true, true, true, false, true, false, true, false, false, false, false, false, false, false] HT_ ?_
          refine take_ (i := 19) (N := some 45) (v := ?_) (a' := ?_) #[true, true, true, true, true, true, true, true, true, true, true, true, true, true, true, true, true, true, true, true, true, false, true, false, false, false, false, false, false, false] rfl rfl (take_ofW HT_.out HW_.out (by kernel_rfl)) (fun _ _ _ h => h) (Or.inl ⟨by rfl, ?_⟩) hHeld ?_ ?_
          rotate_left
          ·rintro w' ⟨s0, s1, s2, s3, s4, s5, s6, s7, s8, s9, s10, s11, s12, s13, s14, s15⟩
           go_simp
           with_reducible rfl
          rotate_left
          ·simp only [Act.put, List.setIfInBounds_toArray, List.set_cons_zero, List.set_cons_succ, i64_w, i32_w]
           rfl
          refine take_ (i := 21) (N := some 47) (v := ?_) (a' := ?_) #[true, true, true, true, true, true, true, true, true, true, true, true, true, true, true, true, true, true, true, true, true, true, true, false, false, false, false, false, false, false] rfl rfl (take_ofW HT_.out HW_.out (by kernel_rfl)) (fun _ _ _ h => h) (Or.inl ⟨by rfl, ?_⟩) hHeld ?_ ?_
          rotate_left
          ·rintro w' ⟨s0, s1, s2, s3, s4, s5, s6, s7, s8, s9, s10, s11, s12, s13, s14, s15⟩
           go_simp
           with_reducible rfl
          rotate_left
          ·simp only [Act.put, List.setIfInBounds_toArray, List.set_cons_zero, List.set_cons_succ, i64_w, i32_w]
           rfl
          refine put 23 49 #[true, true, true, true, true, true, true, true, true, true, true, true, true, true, true, true, true, true, true, true, true, true, true, true, false, false, false, false, false, false] HT_ ?_
          refine put 24 50 #[true, true, true, true, true, true, true, true, true, true, true, true, true, true, true, true, true, true, true, true, true, true, true, true, true, false, false, false, false, false] HT_ ?_
          refine put 25 51 #[true, true, true, true, true, true, true, true, true, true, true, true, true, true, true, true, true, true, true, true, true, true, true, true, true, true, false, false, false, false] HT_ ?_
          refine take_ (i := 26) (N := some 52) (v := ?_) (a' := ?_) #[true, true, true, true, true, true, true, true, true, true, true, true, true, true, true, true, true, true, true, true, true, true, true, true, true, true, true, false, false, false] rfl rfl (take_ofW HT_.out HW_.out (by kernel_rfl)) (fun _ _ _ h => h) (Or.inl ⟨by rfl, ?_⟩) hHeld ?_ ?_
          rotate_left
          ·rintro w' ⟨s0, s1, s2, s3, s4, s5, s6, s7, s8, s9, s10, s11, s12, s13, s14, s15⟩
           go_simp
           with_reducible rfl
          rotate_left
          ·simp only [Act.put, List.setIfInBounds_toArray, List.set_cons_zero, List.set_cons_succ, i64_w, i32_w]
           rfl
          refine put 27 53 #[true, true, true, true, true, true, true, true, true, true, true, true, true, true, true, true, true, true, true, true, true, true, true, true, true, true, true, true, false, false] HT_ ?_
          refine put 28 54 #[true, true, true, true, true, true, true, true, true, true, true, true, true, true, true, true, true, true, true, true, true, true, true, true, true, true, true, true, true, false] HT_ ?_
          refine put 29 55 #[true, true, true, true, true, true, true, true, true, true, true, true, true, true, true, true, true, true, true, true, true, true, true, true, true, true, true, true, true, true] HT_ ?_
          refine done_ (done_of HT_.out (by kernel_rfl)) ?_
          try go_wp2
          go_roundg k2
          case measure => have := HJ1.out; have := HK2.out; omega
          case rel => exact ⟨(wrap64 (x3_2 + 1)), sc, H', ⟨by have := HJ1.out; have := HK2.out; omega⟩, ⟨sk BK374⟩, ⟨sbw⟩⟩
         ·have c18b0 : (((rd_T105 l0_3 (ji15)).f0.f1) == ((rd_T105 l0_3 x3_2).f0.f0)) = false := beq_eq_false_iff_ne.mpr c18
          have c18b1 : (((rd_T105 l0_3 (ji15)).f0.f1) != ((rd_T105 l0_3 x3_2).f0.f0)) = true := bne_iff_ne.mpr c18
          obtain rfl := Option.some.inj H
          obtain ⟨hcz22_0, hcz22_1, hcz22_2, hcz22_3, hfz22_0, hfz22_1, hfz22_2, hfz22_3⟩ := cc4 BK374
          try go_wp2
          replace BK374 := Aside0.mk (blk_drew BK374.out)
          replace HB := Aside0.mk (below_drew1 HB.out)
          obtain ⟨p377, q377, ad377, A377_2, c377_2, A377_3, c377_3, e377, hw377_0, hw377_1, hw377_2, hw377_3, hx377_0, hx377_1, hx377_2, hx377_3, HC377_2, HR377_2, HC377_3, HR377_3⟩ := aT_T105 HR0_3 HB x3_2
          cases e377
          obtain ⟨p379, q379, ad379, A379_2, c379_2, A379_3, c379_3, e379, hw379_0, hw379_1, hw379_2, hw379_3, hx379_0, hx379_1, hx379_2, hx379_3, HC379_2, HR379_2, HC379_3, HR379_3⟩ := aT_T105 HR0_3 HB (ji15)
          obtain rfl : ad377 = ad379 := (by injection e379)
          obtain ⟨p380, q380, ad380, A380_2, c380_2, A380_3, c380_3, e380, hw380_0, hw380_1, hw380_2, hw380_3, hx380_0, hx380_1, hx380_2, hx380_3, HC380_2, HR380_2, HC380_3, HR380_3⟩ := aT_T105 HR0_3 HB x3_2
          obtain rfl : ad377 = ad380 := (by injection e380)
          refine start_ (n := 30) (S := fun w' => w'.cell? ⟨gb374, 0, none⟩ = some (.int .i64 a0_0) ∧ w'.cell? ⟨gb374, 1, none⟩ = some (.int .i64 a0_1) ∧ w'.cell? ⟨gb374, 2, none⟩ = some (.int .i64 a0_2) ∧ w'.cell? ⟨gb374, 3, none⟩ = some (.slice (some ad377) l0_3.length c0_3) ∧ w'.cell? (ad377.add ((x3_2).toNat * 4)) = some (.int .i64 ((rd_T105 l0_3 x3_2).f0.f0)) ∧ w'.cell? ⟨(ad377.add ((x3_2).toNat * 4)).block, (ad377.add ((x3_2).toNat * 4)).off + 1, none⟩ = some (.int .i64 ((rd_T105 l0_3 x3_2).f0.f1)) ∧ w'.cell? ⟨(ad377.add ((x3_2).toNat * 4)).block, (ad377.add ((x3_2).toNat * 4)).off + 2, none⟩ = some (.slice A377_2 ((rd_T105 l0_3 x3_2).f1).length c377_2) ∧ w'.cell? ⟨(ad377.add ((x3_2).toNat * 4)).block, (ad377.add ((x3_2).toNat * 4)).off + 3, none⟩ = some (.slice A377_3 ((rd_T105 l0_3 x3_2).f2).length c377_3) ∧ w'.cell? (ad377.add (((ji15)).toNat * 4)) = some (.int .i64 ((rd_T105 l0_3 (ji15)).f0.f0)) ∧ w'.cell? ⟨(ad377.add (((ji15)).toNat * 4)).block, (ad377.add (((ji15)).toNat * 4)).off + 1, none⟩ = some (.int .i64 ((rd_T105 l0_3 (ji15)).f0.f1)) ∧ w'.cell? ⟨(ad377.add (((ji15)).toNat * 4)).block, (ad377.add (((ji15)).toNat * 4)).off + 2, none⟩ = some (.slice A379_2 ((rd_T105 l0_3 (ji15)).f1).length c379_2) ∧ w'.cell? ⟨(ad377.add (((ji15)).toNat * 4)).block, (ad377.add (((ji15)).toNat * 4)).off + 3, none⟩ = some (.slice A379_3 ((rd_T105 l0_3 (ji15)).f2).length c379_3) ∧ w'.cell? (ad377.add ((x3_2).toNat * 4)) = some (.int .i64 ((rd_T105 l0_3 x3_2).f0.f0)) ∧ w'.cell? ⟨(ad377.add ((x3_2).toNat * 4)).block, (ad377.add ((x3_2).toNat * 4)).off + 1, none⟩ = some (.int .i64 ((rd_T105 l0_3 x3_2).f0.f1)) ∧ w'.cell? ⟨(ad377.add ((x3_2).toNat * 4)).block, (ad377.add ((x3_2).toNat * 4)).off + 2, none⟩ = some (.slice A380_2 ((rd_T105 l0_3 x3_2).f1).length c380_2) ∧ w'.cell? ⟨(ad377.add ((x3_2).toNat * 4)).block, (ad377.add ((x3_2).toNat * 4)).off + 3, none⟩ = some (.slice A380_3 ((rd_T105 l0_3 x3_2).f2).length c380_3)) (ds := []) #[false, false, false, false, false, false, false, false, false, false, false, false, false, false, false, false, false, false, false, false, false, false, false, false, false, false, false, false, false, false] (by kernel_rfl) rfl rfl ⟨bc0 BK374, bc1 BK374, bc2 BK374, bc3 BK374, (hb_ HB hw377_0), (hb_ HB hw377_1), (hb_ HB hw377_2), (hb_ HB hw377_3), (hb_ HB hw379_0), (hb_ HB hw379_1), (hb_ HB hw379_2), (hb_ HB hw379_3), (hb_ HB hw380_0), (hb_ HB hw380_1), (hb_ HB hw380_2), (hb_ HB hw380_3)⟩ (fun hHeld => ?_); refine with_tabW spec_IsProgram.tab6 spec_IsProgram.bits6 (fun HT_ HW_ => ?_)
          generalize wr.drew = w23 at BK374 HB HR377_2 HR377_3 HR379_2 HR379_3 HR380_2 HR380_3 hx377_0 hx377_1 hx377_2 hx377_3 hx379_0 hx379_1 hx379_2 hx379_3 hx380_0 hx380_1 hx380_2 hx380_3 hHeld ⊢
          refine put 1 27 #[false, true, false, false, false, false, false, false, false, false, false, false, false, false, false, false, false, false, false, false, false, false, false, false, false, false, false, false, false, false] HT_ ?_
          refine put 3 29 #[false, true, false, true, false, false, false, false, false, false, false, false, false, false, false, false, false, false, false, false, false, false, false, false, false, false, false, false, false, false] HT_ ?_
          refine take_ (i := 0) (N := some 26) (v := ?_) (a' := ?_) #[true, true, false, true, false, false, false, false, false, false, false, false, false, false, false, false, false, false, false, false, false, false, false, false, false, false, false, false, false, false] rfl rfl (take_ofW HT_.out HW_.out (by kernel_rfl)) (fun _ _ _ h => h) (Or.inl ⟨by rfl, ?_⟩) hHeld ?_ ?_
          rotate_left
          ·rintro w' ⟨s0, s1, s2, s3, s4, s5, s6, s7, s8, s9, s10, s11, s12, s13, s14, s15⟩
           go_simp
           with_reducible rfl
          rotate_left
          ·simp only [Act.put, List.setIfInBounds_toArray, List.set_cons_zero, List.set_cons_succ, i64_w, i32_w]
           rfl
          refine take_ (i := 2) (N := some 28) (v := ?_) (a' := ?_) #[true, true, true, true, false, false, false, false, false, false, false, false, false, false, false, false, false, false, false, false, false, false, false, false, false, false, false, false, false, false] rfl rfl (take_ofW HT_.out HW_.out (by kernel_rfl)) (fun _ _ _ h => h) (Or.inl ⟨by rfl, ?_⟩) hHeld ?_ ?_
          rotate_left
          ·rintro w' ⟨s0, s1, s2, s3, s4, s5, s6, s7, s8, s9, s10, s11, s12, s13, s14, s15⟩
           go_simp
           with_reducible rfl
          rotate_left
          ·simp only [Act.put, List.setIfInBounds_toArray, List.set_cons_zero, List.set_cons_succ, i64_w, i32_w]
           rfl
          refine put 4 30 #[true, true, true, true, true, false, false, false, false, false, false, false, false, false, false, false, false, false, false, false, false, false, false, false, false, false, false, false, false, false] HT_ ?_
          refine take_ (i := 5) (N := some 31) (v := ?_) (a' := ?_) #[true, true, true, true, true, true, false, false, false, false, false, false, false, false, false, false, false, false, false, false, false, false, false, false, false, false, false, false, false, false] rfl rfl (take_ofW HT_.out HW_.out (by kernel_rfl)) (fun _ _ _ h => h) (Or.inl ⟨by rfl, ?_⟩) hHeld ?_ ?_
          rotate_left
          ·rintro w' ⟨s0, s1, s2, s3, s4, s5, s6, s7, s8, s9, s10, s11, s12, s13, s14, s15⟩
           go_simp
           with_reducible rfl
          rotate_left
          ·simp only [Act.put, List.setIfInBounds_toArray, List.set_cons_zero, List.set_cons_succ, i64_w, i32_w]
           rfl
          refine one_ (i := 6) (N := some 32) #[true, true, true, true, true, true, true, false, false, false, false, false, false, false, false, false, false, false, false, false, false, false, false, false, false, false, false, false, false, false] rfl rfl (one_of HT_.out (by kernel_rfl)) (by decide) (fun K hK => ?_)
          refine goes_ Try.func102 (by kernel_rfl) rfl #[.agg #[.int .i64 a0_0, .int .i64 a0_1, .int .i64 a0_2, .slice (some ad377) l0_3.length c0_3], .agg #[.int .i64 ((rd_T105 l0_3 x3_2).f0.f0), .int .i64 ((rd_T105 l0_3 x3_2).f0.f1), .slice A377_2 ((rd_T105 l0_3 x3_2).f1).length c377_2, .slice A377_3 ((rd_T105 l0_3 x3_2).f2).length c377_3]] (by rfl) rfl rfl sl ?_
          with_reducible refine (spec_l17Piece.calls k2 a0_0 a0_1 a0_2 _ _ l0_3 ((rd_T105 l0_3 x3_2).f0.f0) ((rd_T105 l0_3 x3_2).f0.f1) _ _ ((rd_T105 l0_3 x3_2).f1) _ _ ((rd_T105 l0_3 x3_2).f2) true _ ?side1 ?side2 ?side3 ?side4 ?side5 ?side6 A12.out).mono ?_
          (case side1 => exact cb HR0_3)
          (case side2 => exact HC0_3.out)
          (case side3 => exact cb HR377_2)
          (case side4 => exact HC377_2.out)
          (case side5 => exact cb HR377_3)
          (case side6 => exact HC377_3.out)
          rintro e w24 ⟨rfl, hb⟩
          refine ⟨_, rfl, ?_⟩
          replace BK374 := bb BK374 hb
          replace HB := bsw hb
          (try clear hb)
          (try clear hb2)
          (try clear hk)
          (try clear hi)
          refine hK.out _ _ ⟨bc0 BK374, bc1 BK374, bc2 BK374, bc3 BK374, (hb_ HB hw377_0), (hb_ HB hw377_1), (hb_ HB hw377_2), (hb_ HB hw377_3), (hb_ HB hw379_0), (hb_ HB hw379_1), (hb_ HB hw379_2), (hb_ HB hw379_3), (hb_ HB hw380_0), (hb_ HB hw380_1), (hb_ HB hw380_2), (hb_ HB hw380_3)⟩ (fun hHeld => ?_)
          clear hK K
          refine norm_ (a' := ?_) ?_ ?_
          rotate_left
          ·show Act.put _ (some 32) _ = _
           simp only [Act.put, List.setIfInBounds_toArray, List.set_cons_zero, List.set_cons_succ, i64_w, i32_w]
           rfl
          refine put 7 33 #[true, true, true, true, true, true, true, true, false, false, false, false, false, false, false, false, false, false, false, false, false, false, false, false, false, false, false, false, false, false] HT_ ?_
          refine put 8 34 #[true, true, true, true, true, true, true, true, true, false, false, false, false, false, false, false, false, false, false, false, false, false, false, false, false, false, false, false, false, false] HT_ ?_
          refine put 9 35 #[true, true, true, true, true, true, true, true, true, true, false, false, false, false, false, false, false, false, false, false, false, false, false, false, false, false, false, false, false, false] HT_ ?_
          refine put 10 36 #[true, true, true, true, true, true, true, true, true, true, true, false, false, false, false, false, false, false, false, false, false, false, false, false, false, false, false, false, false, false] HT_ ?_
          refine put 11 37 #[true, true, true, true, true, true, true, true, true, true, true, true, false, false, false, false, false, false, false, false, false, false, false, false, false, false, false, false, false, false] HT_ ?_
          refine put 12 38 #[true, true, true, true, true, true, true, true, true, true, true, true, true, false, false, false, false, false, false, false, false, false, false, false, false, false, false, false, false, false] HT_ ?_
          refine put 14 40 #[true, true, true, true, true, true, true, true, true, true, true, true, true, false, true, false, false, false, false, false, false, false, false, false, false, false, false, false, false, false] HT_ ?_
          refine put 15 41 #[true, true, true, true, true, true, true, true, true, true, true, true, true, false, true, true, false, false, false, false, false, false, false, false, false, false, false, false, false, false] HT_ ?_
          refine put 20 46 #[true, true, true, true, true, true, true, true, true, true, true, true, true, false, true, true, false, false, false, false, true, false, false, false, false, false, false, false, false, false] HT_ ?_
          refine put 22 48 #[true, true, true, true, true, true, true, true, true, true, true, true, true, false, true, true, false, false, false, false, true, false, true, false, false, false, false, false, false, false] HT_ ?_
          refine take_ (i := 13) (N := some 39) (v := ?_) (a' := ?_) #[true, true, true, true, true, true, true, true, true, true, true, true, true, true, true, true, false, false, false, false, true, false, true, false, false, false, false, false, false, false] rfl rfl (take_ofW HT_.out HW_.out (by kernel_rfl)) (fun _ _ _ h => h) (Or.inl ⟨by rfl, ?_⟩) hHeld ?_ ?_
          rotate_left
          ·rintro w' ⟨s0, s1, s2, s3, s4, s5, s6, s7, s8, s9, s10, s11, s12, s13, s14, s15⟩
           go_simp
           with_reducible rfl
          rotate_left
          ·simp only [Act.put, List.setIfInBounds_toArray, List.set_cons_zero, List.set_cons_succ, i64_w, i32_w]
           rfl
          refine put 16 42 #[true, true, true, true, true, true, true, true, true, true, true, true, true, true, true, true, true, false, false, false, true, false, true, false, false, false, false, false, false, false] HT_ ?_
          refine put 17 43 #[true, true, true, true, true, true, true, true, true, true, true, true, true, true, true, true, true, true, false, false, true, false, true, false, false, false, false, false, false, false] HT_ ?_
          refine put 18 44 #[true, true, true, true, true, true, true, true, true, true, true, true, true, true, true, true, true, true, true, false, true, false, true, false, false, false, false, false, false, false] HT_ ?_
          refine take_ (i := 19) (N := some 45) (v := ?_) (a' := ?_) #[true, true, true, true, true, true, true, true, true, true, true, true, true, true, true, true, true, true, true, true, true, false, true, false, false, false, false, false, false, false] rfl rfl (take_ofW HT_.out HW_.out (by kernel_rfl)) (fun _ _ _ h => h) (Or.inl ⟨by rfl, ?_⟩) hHeld ?_ ?_
          rotate_left
          ·rintro w' ⟨s0, s1, s2, s3, s4, s5, s6, s7, s8, s9, s10, s11, s12, s13, s14, s15⟩
           go_simp
           with_reducible rfl
          rotate_left
          ·simp only [Act.put, List.setIfInBounds_toArray, List.set_cons_zero, List.set_cons_succ, i64_w, i32_w]
           rfl
          refine take_ (i := 21) (N := some 47) (v := ?_) (a' := ?_) #[true, true, true, true, true, true, true, true, true, true, true, true, true, true, true, true, true, true, true, true, true, true, true, false, false, false, false, false, false, false] rfl rfl (take_ofW HT_.out HW_.out (by kernel_rfl)) (fun _ _ _ h => h) (Or.inl ⟨by rfl, ?_⟩) hHeld ?_ ?_
          rotate_left
          ·rintro w' ⟨s0, s1, s2, s3, s4, s5, s6, s7, s8, s9, s10, s11, s12, s13, s14, s15⟩
           go_simp
           with_reducible rfl
          rotate_left
          ·simp only [Act.put, List.setIfInBounds_toArray, List.set_cons_zero, List.set_cons_succ, i64_w, i32_w]
           rfl
          refine put 23 49 #[true, true, true, true, true, true, true, true, true, true, true, true, true, true, true, true, true, true, true, true, true, true, true, true, false, false, false, false, false, false] HT_ ?_
          refine put 24 50 #[true, true, true, true, true, true, true, true, true, true, true, true, true, true, true, true, true, true, true, true, true, true, true, true, true, false, false, false, false, false] HT_ ?_
          refine put 25 51 #[true, true, true, true, true, true, true, true, true, true, true, true, true, true, true, true, true, true, true, true, true, true, true, true, true, true, false, false, false, false] HT_ ?_
          refine take_ (i := 26) (N := some 52) (v := ?_) (a' := ?_) #[true, true, true, true, true, true, true, true, true, true, true, true, true, true, true, true, true, true, true, true, true, true, true, true, true, true, true, false, false, false] rfl rfl (take_ofW HT_.out HW_.out (by kernel_rfl)) (fun _ _ _ h => h) (Or.inl ⟨by rfl, ?_⟩) hHeld ?_ ?_
          rotate_left
          ·rintro w' ⟨s0, s1, s2, s3, s4, s5, s6, s7, s8, s9, s10, s11, s12, s13, s14, s15⟩
           go_simp
           with_reducible rfl
          rotate_left
          ·simp only [Act.put, List.setIfInBounds_toArray, List.set_cons_zero, List.set_cons_succ, i64_w, i32_w]
           rfl
          refine put 27 53 #[true, true, true, true, true, true, true, true, true, true, true, true, true, true, true, true, true, true, true, true, true, true, true, true, true, true, true, true, false, false] HT_ ?_
          refine put 28 54 #[true, true, true, true, true, true, true, true, true, true, true, true, true, true, true, true, true, true, true, true, true, true, true, true, true, true, true, true, true, false] HT_ ?_
          refine put 29 55 #[true, true, true, true, true, true, true, true, true, true, true, true, true, true, true, true, true, true, true, true, true, true, true, true, true, true, true, true, true, true] HT_ ?_
          refine done_ (done_of HT_.out (by kernel_rfl)) ?_
          try go_wp2
          go_ret
          exact ⟨by first | rfl | (simp [errW_none, errW_some] <;> rfl) | (simp only [← hji15]; first | rfl | (simp [errW_none, errW_some] <;> rfl)) | (simp [*, errW_none, errW_some] <;> rfl), sbw⟩
        ·have c14b0 := decide_eq_false c14
         clear c14
         have H' := Aside0.mk H
         clear H
         obtain ⟨hcz25_0, hcz25_1, hcz25_2, hcz25_3, hfz25_0, hfz25_1, hfz25_2, hfz25_3⟩ := cc4 BK374
         try go_wp2
         replace BK374 := Aside0.mk (blk_drew BK374.out)
         replace HB := Aside0.mk (below_drew1 HB.out)
         obtain ⟨p377, q377, ad377, A377_2, c377_2, A377_3, c377_3, e377, hw377_0, hw377_1, hw377_2, hw377_3, hx377_0, hx377_1, hx377_2, hx377_3, HC377_2, HR377_2, HC377_3, HR377_3⟩ := aT_T105 HR0_3 HB x3_2
         cases e377
         refine start_ (n := 30) (S := fun w' => w'.cell? ⟨gb374, 0, none⟩ = some (.int .i64 a0_0) ∧ w'.cell? ⟨gb374, 1, none⟩ = some (.int .i64 a0_1) ∧ w'.cell? ⟨gb374, 2, none⟩ = some (.int .i64 a0_2) ∧ w'.cell? ⟨gb374, 3, none⟩ = some (.slice (some ad377) l0_3.length c0_3) ∧ w'.cell? (ad377.add ((x3_2).toNat * 4)) = some (.int .i64 ((rd_T105 l0_3 x3_2).f0.f0)) ∧ w'.cell? ⟨(ad377.add ((x3_2).toNat * 4)).block, (ad377.add ((x3_2).toNat * 4)).off + 1, none⟩ = some (.int .i64 ((rd_T105 l0_3 x3_2).f0.f1)) ∧ w'.cell? ⟨(ad377.add ((x3_2).toNat * 4)).block, (ad377.add ((x3_2).toNat * 4)).off + 2, none⟩ = some (.slice A377_2 ((rd_T105 l0_3 x3_2).f1).length c377_2) ∧ w'.cell? ⟨(ad377.add ((x3_2).toNat * 4)).block, (ad377.add ((x3_2).toNat * 4)).off + 3, none⟩ = some (.slice A377_3 ((rd_T105 l0_3 x3_2).f2).length c377_3)) (ds := []) #[false, false, false, false, false, false, false, false, false, false, false, false, false, false, false, false, false, false, false, false, false, false, false, false, false, false, false, false, false, false] (by kernel_rfl) rfl rfl ⟨bc0 BK374, bc1 BK374, bc2 BK374, bc3 BK374, (hb_ HB hw377_0), (hb_ HB hw377_1), (hb_ HB hw377_2), (hb_ HB hw377_3)⟩ (fun hHeld => ?_); refine with_tabW spec_IsProgram.tab6 spec_IsProgram.bits6 (fun HT_ HW_ => ?_)
         generalize wr.drew = w26 at BK374 HB HR377_2 HR377_3 hx377_0 hx377_1 hx377_2 hx377_3 hHeld ⊢
         refine put 1 27 #[false, true, false, false, false, false, false, false, false, false, false, false, false, false, false, false, false, false, false, false, false, false, false, false, false, false, false, false, false, false] HT_ ?_
         refine put 3 29 #[false, true, false, true, false, false, false, false, false, false, false, false, false, false, false, false, false, false, false, false, false, false, false, false, false, false, false, false, false, false] HT_ ?_
         refine tat8 0 26 #[true, true, false, true, false, false, false, false, false, false, false, false, false, false, false, false, false, false, false, false, false, false, false, false, false, false, false, false, false, false] HT_ HW_ hHeld ?_
         refine tat8 2 28 #[true, true, true, true, false, false, false, false, false, false, false, false, false, false, false, false, false, false, false, false, false, false, false, false, false, false, false, false, false, false] HT_ HW_ hHeld ?_
         refine put 4 30 #[true, true, true, true, true, false, false, false, false, false, false, false, false, false, false, false, false, false, false, false, false, false, false, false, false, false, false, false, false, false] HT_ ?_
         refine tat8 5 31 #[true, true, true, true, true, true, false, false, false, false, false, false, false, false, false, false, false, false, false, false, false, false, false, false, false, false, false, false, false, false] HT_ HW_ hHeld ?_
         refine one_ (i := 6) (N := some 32) #[true, true, true, true, true, true, true, false, false, false, false, false, false, false, false, false, false, false, false, false, false, false, false, false, false, false, false, false, false, false] rfl rfl (one_of HT_.out (by kernel_rfl)) (by decide) (fun K hK => ?_)
         refine goes_ Try.func102 (by kernel_rfl) rfl #[.agg #[.int .i64 a0_0, .int .i64 a0_1, .int .i64 a0_2, .slice (some ad377) l0_3.length c0_3], .agg #[.int .i64 ((rd_T105 l0_3 x3_2).f0.f0), .int .i64 ((rd_T105 l0_3 x3_2).f0.f1), .slice A377_2 ((rd_T105 l0_3 x3_2).f1).length c377_2, .slice A377_3 ((rd_T105 l0_3 x3_2).f2).length c377_3]] (by rfl) rfl rfl sl ?_
         with_reducible refine (spec_l17Piece.calls k2 a0_0 a0_1 a0_2 _ _ l0_3 ((rd_T105 l0_3 x3_2).f0.f0) ((rd_T105 l0_3 x3_2).f0.f1) _ _ ((rd_T105 l0_3 x3_2).f1) _ _ ((rd_T105 l0_3 x3_2).f2) true _ ?side1 ?side2 ?side3 ?side4 ?side5 ?side6 A12.out).mono ?_
         (case side1 => exact cb HR0_3)
         (case side2 => exact HC0_3.out)
         (case side3 => exact cb HR377_2)
         (case side4 => exact HC377_2.out)
         (case side5 => exact cb HR377_3)
         (case side6 => exact HC377_3.out)
         rintro e w27 ⟨rfl, hb⟩
         refine ⟨_, rfl, ?_⟩
         replace BK374 := bb BK374 hb
         replace HB := bsw hb
         (try clear hb)
         (try clear hb2)
         (try clear hk)
         (try clear hi)
         refine hK.out _ _ ⟨bc0 BK374, bc1 BK374, bc2 BK374, bc3 BK374, (hb_ HB hw377_0), (hb_ HB hw377_1), (hb_ HB hw377_2), (hb_ HB hw377_3)⟩ (fun hHeld => ?_)
         clear hK K
         refine norm_ (a' := ?_) ?_ ?_
         rotate_left
         ·show Act.put _ (some 32) _ = _
          simp only [Act.put, List.setIfInBounds_toArray, List.set_cons_zero, List.set_cons_succ, i64_w, i32_w]
          rfl
         refine put 7 33 #[true, true, true, true, true, true, true, true, false, false, false, false, false, false, false, false, false, false, false, false, false, false, false, false, false, false, false, false, false, false] HT_ ?_
         refine put 8 34 #[true, true, true, true, true, true, true, true, true, false, false, false, false, false, false, false, false, false, false, false, false, false, false, false, false, false, false, false, false, false] HT_ ?_
         refine put 9 35 #[true, true, true, true, true, true, true, true, true, true, false, false, false, false, false, false, false, false, false, false, false, false, false, false, false, false, false, false, false, false] HT_ ?_
         refine put 10 36 #[true, true, true, true, true, true, true, true, true, true, true, false, false, false, false, false, false, false, false, false, false, false, false, false, false, false, false, false, false, false] HT_ ?_
         refine put 11 37 #[true, true, true, true, true, true, true, true, true, true, true, true, false, false, false, false, false, false, false, false, false, false, false, false, false, false, false, false, false, false] HT_ ?_
         refine pure_ (i := 12) (N := some 38) (v := undef) (a' := ?_) #[true, true, true, true, true, true, true, true, true, true, true, true, true, false, false, false, false, false, false, false, false, false, false, false, false, false, false, false, false, false] rfl rfl (any_of HT_.out (by kernel_rfl)) (fun _ _ _ h => h) (Or.inr ⟨by rfl, rfl⟩) ?_ ?_
         rotate_left
         ·simp only [Act.put, List.setIfInBounds_toArray, List.set_cons_zero, List.set_cons_succ, i64_w, i32_w]
          rfl
         refine pure_ (i := 13) (N := some 39) (v := undef) (a' := ?_) #[true, true, true, true, true, true, true, true, true, true, true, true, true, true, false, false, false, false, false, false, false, false, false, false, false, false, false, false, false, false] rfl rfl (any_of HT_.out (by kernel_rfl)) (fun _ _ _ h => h) (Or.inr ⟨by rfl, rfl⟩) ?_ ?_
         rotate_left
         ·simp only [Act.put, List.setIfInBounds_toArray, List.set_cons_zero, List.set_cons_succ, i64_w, i32_w]
          rfl
         refine pure_ (i := 14) (N := some 40) (v := undef) (a' := ?_) #[true, true, true, true, true, true, true, true, true, true, true, true, true, true, true, false, false, false, false, false, false, false, false, false, false, false, false, false, false, false] rfl rfl (any_of HT_.out (by kernel_rfl)) (fun _ _ _ h => h) (Or.inr ⟨by rfl, rfl⟩) ?_ ?_
         rotate_left
         ·simp only [Act.put, List.setIfInBounds_toArray, List.set_cons_zero, List.set_cons_succ, i64_w, i32_w]
          rfl
         refine pure_ (i := 15) (N := some 41) (v := undef) (a' := ?_) #[true, true, true, true, true, true, true, true, true, true, true, true, true, true, true, true, false, false, false, false, false, false, false, false, false, false, false, false, false, false] rfl rfl (any_of HT_.out (by kernel_rfl)) (fun _ _ _ h => h) (Or.inr ⟨by rfl, rfl⟩) ?_ ?_
         rotate_left
         ·simp only [Act.put, List.setIfInBounds_toArray, List.set_cons_zero, List.set_cons_succ, i64_w, i32_w]
          rfl
         refine pure_ (i := 16) (N := some 42) (v := undef) (a' := ?_) #[true, true, true, true, true, true, true, true, true, true, true, true, true, true, true, true, true, false, false, false, false, false, false, false, false, false, false, false, false, false] rfl rfl (any_of HT_.out (by kernel_rfl)) (fun _ _ _ h => h) (Or.inr ⟨by rfl, rfl⟩) ?_ ?_
         rotate_left
         ·simp only [Act.put, List.setIfInBounds_toArray, List.set_cons_zero, List.set_cons_succ, i64_w, i32_w]
          rfl
         refine pure_ (i := 17) (N := some 43) (v := undef) (a' := ?_) #[true, true, true, true, true, true, true, true, true, true, true, true, true, true, true, true, true, true, false, false, false, false, false, false, false, false, false, false, false, false] rfl rfl (any_of HT_.out (by kernel_rfl)) (fun _ _ _ h => h) (Or.inr ⟨by rfl, rfl⟩) ?_ ?_
         rotate_left
         ·simp only [Act.put, List.setIfInBounds_toArray, List.set_cons_zero, List.set_cons_succ, i64_w, i32_w]
          rfl
         refine pure_ (i := 18) (N := some 44) (v := undef) (a' := ?_) #[true, true, true, true, true, true, true, true, true, true, true, true, true, true, true, true, true, true, true, false, false, false, false, false, false, false, false, false, false, false] rfl rfl (any_of HT_.out (by kernel_rfl)) (fun _ _ _ h => h) (Or.inr ⟨by rfl, rfl⟩) ?_ ?_
         rotate_left
         ·simp only [Act.put, List.setIfInBounds_toArray, List.set_cons_zero, List.set_cons_succ, i64_w, i32_w]
          rfl
         refine pure_ (i := 19) (N := some 45) (v := undef) (a' := ?_) #[true, true, true, true, true, true, true, true, true, true, true, true, true, true, true, true, true, true, true, true, false, false, false, false, false, false, false, false, false, false] rfl rfl (any_of HT_.out (by kernel_rfl)) (fun _ _ _ h => h) (Or.inr ⟨by rfl, rfl⟩) ?_ ?_
         rotate_left
         ·simp only [Act.put, List.setIfInBounds_toArray, List.set_cons_zero, List.set_cons_succ, i64_w, i32_w]
          rfl
         refine pure_ (i := 20) (N := some 46) (v := undef) (a' := ?_) #[true, true, true, true, true, true, true, true, true, true, true, true, true, true, true, true, true, true, true, true, true, false, false, false, false, false, false, false, false, false] rfl rfl (any_of HT_.out (by kernel_rfl)) (fun _ _ _ h => h) (Or.inr ⟨by rfl, rfl⟩) ?_ ?_
         rotate_left
         ·simp only [Act.put, List.setIfInBounds_toArray, List.set_cons_zero, List.set_cons_succ, i64_w, i32_w]
          rfl
         refine pure_ (i := 21) (N := some 47) (v := undef) (a' := ?_) #[true, true, true, true, true, true, true, true, true, true, true, true, true, true, true, true, true, true, true, true, true, true, false, false, false, false, false, false, false, false] rfl rfl (any_of HT_.out (by kernel_rfl)) (fun _ _ _ h => h) (Or.inr ⟨by rfl, rfl⟩) ?_ ?_
         rotate_left
         ·simp only [Act.put, List.setIfInBounds_toArray, List.set_cons_zero, List.set_cons_succ, i64_w, i32_w]
          rfl
         refine pure_ (i := 22) (N := some 48) (v := undef) (a' := ?_) #[true, true, true, true, true, true, true, true, true, true, true, true, true, true, true, true, true, true, true, true, true, true, true, false, false, false, false, false, false, false] rfl rfl (any_of HT_.out (by kernel_rfl)) (fun _ _ _ h => h) (Or.inr ⟨by rfl, rfl⟩) ?_ ?_
         rotate_left
         ·simp only [Act.put, List.setIfInBounds_toArray, List.set_cons_zero, List.set_cons_succ, i64_w, i32_w]
          rfl
         refine pure_ (i := 23) (N := some 49) (v := undef) (a' := ?_) #[true, true, true, true, true, true, true, true, true, true, true, true, true, true, true, true, true, true, true, true, true, true, true, true, false, false, false, false, false, false] rfl rfl (any_of HT_.out (by kernel_rfl)) (fun _ _ _ h => h) (Or.inr ⟨by rfl, rfl⟩) ?_ ?_
         rotate_left
         ·simp only [Act.put, List.setIfInBounds_toArray, List.set_cons_zero, List.set_cons_succ, i64_w, i32_w]
          rfl
         refine pure_ (i := 24) (N := some 50) (v := undef) (a' := ?_) #[true, true, true, true, true, true, true, true, true, true, true, true, true, true, true, true, true, true, true, true, true, true, true, true, true, false, false, false, false, false] rfl rfl (any_of HT_.out (by kernel_rfl)) (fun _ _ _ h => h) (Or.inr ⟨by rfl, rfl⟩) ?_ ?_
         rotate_left
         ·simp only [Act.put, List.setIfInBounds_toArray, List.set_cons_zero, List.set_cons_succ, i64_w, i32_w]
          rfl
         refine pure_ (i := 25) (N := some 51) (v := undef) (a' := ?_) #[true, true, true, true, true, true, true, true, true, true, true, true, true, true, true, true, true, true, true, true, true, true, true, true, true, true, false, false, false, false] rfl rfl (any_of HT_.out (by kernel_rfl)) (fun _ _ _ h => h) (Or.inr ⟨by rfl, rfl⟩) ?_ ?_
         rotate_left
         ·simp only [Act.put, List.setIfInBounds_toArray, List.set_cons_zero, List.set_cons_succ, i64_w, i32_w]
          rfl
         refine pure_ (i := 26) (N := some 52) (v := undef) (a' := ?_) #[true, true, true, true, true, true, true, true, true, true, true, true, true, true, true, true, true, true, true, true, true, true, true, true, true, true, true, false, false, false] rfl rfl (any_of HT_.out (by kernel_rfl)) (fun _ _ _ h => h) (Or.inr ⟨by rfl, rfl⟩) ?_ ?_
         rotate_left
         ·simp only [Act.put, List.setIfInBounds_toArray, List.set_cons_zero, List.set_cons_succ, i64_w, i32_w]
          rfl
         refine pure_ (i := 27) (N := some 53) (v := undef) (a' := ?_) #[true, true, true, true, true, true, true, true, true, true, true, true, true, true, true, true, true, true, true, true, true, true, true, true, true, true, true, true, false, false] rfl rfl (any_of HT_.out (by kernel_rfl)) (fun _ _ _ h => h) (Or.inr ⟨by rfl, rfl⟩) ?_ ?_
         rotate_left
         ·simp only [Act.put, List.setIfInBounds_toArray, List.set_cons_zero, List.set_cons_succ, i64_w, i32_w]
          rfl
         refine put 28 54 #[true, true, true, true, true, true, true, true, true, true, true, true, true, true, true, true, true, true, true, true, true, true, true, true, true, true, true, true, true, false] HT_ ?_
         refine put 29 55 #[true, true, true, true, true, true, true, true, true, true, true, true, true, true, true, true, true, true, true, true, true, true, true, true, true, true, true, true, true, true] HT_ ?_
         refine done_ (done_of HT_.out (by kernel_rfl)) ?_
         try go_wp2
         go_roundg k2
         case measure => have := HJ1.out; have := HK2.out; omega
         case rel => exact ⟨(wrap64 (x3_2 + 1)), sc, H', ⟨by have := HJ1.out; have := HK2.out; omega⟩, ⟨sk BK374⟩, ⟨sbw⟩⟩
       ·replace H := im H
        obtain rfl := Option.some.inj H
        obtain ⟨hcz28_0, hcz28_1, hcz28_2, hcz28_3, hfz28_0, hfz28_1, hfz28_2, hfz28_3⟩ := cc4 BK374
        try go_wp2
        replace BK374 := Aside0.mk (blk_drew BK374.out)
        replace HB := Aside0.mk (below_drew1 HB.out)
        obtain ⟨p377, q377, ad377, A377_2, c377_2, A377_3, c377_3, e377, hw377_0, hw377_1, hw377_2, hw377_3, hx377_0, hx377_1, hx377_2, hx377_3, HC377_2, HR377_2, HC377_3, HR377_3⟩ := aT_T105 HR0_3 HB x3_2
        cases e377
        refine start_ (n := 30) (S := fun w' => w'.cell? ⟨gb374, 0, none⟩ = some (.int .i64 a0_0) ∧ w'.cell? ⟨gb374, 1, none⟩ = some (.int .i64 a0_1) ∧ w'.cell? ⟨gb374, 2, none⟩ = some (.int .i64 a0_2) ∧ w'.cell? ⟨gb374, 3, none⟩ = some (.slice (some ad377) l0_3.length c0_3) ∧ w'.cell? (ad377.add ((x3_2).toNat * 4)) = some (.int .i64 ((rd_T105 l0_3 x3_2).f0.f0)) ∧ w'.cell? ⟨(ad377.add ((x3_2).toNat * 4)).block, (ad377.add ((x3_2).toNat * 4)).off + 1, none⟩ = some (.int .i64 ((rd_T105 l0_3 x3_2).f0.f1)) ∧ w'.cell? ⟨(ad377.add ((x3_2).toNat * 4)).block, (ad377.add ((x3_2).toNat * 4)).off + 2, none⟩ = some (.slice A377_2 ((rd_T105 l0_3 x3_2).f1).length c377_2) ∧ w'.cell? ⟨(ad377.add ((x3_2).toNat * 4)).block, (ad377.add ((x3_2).toNat * 4)).off + 3, none⟩ = some (.slice A377_3 ((rd_T105 l0_3 x3_2).f2).length c377_3)) (ds := []) #[false, false, false, false, false, false, false, false, false, false, false, false, false, false, false, false, false, false, false, false, false, false, false, false, false, false, false, false, false, false] (by kernel_rfl) rfl rfl ⟨bc0 BK374, bc1 BK374, bc2 BK374, bc3 BK374, (hb_ HB hw377_0), (hb_ HB hw377_1), (hb_ HB hw377_2), (hb_ HB hw377_3)⟩ (fun hHeld => ?_); refine with_tabW spec_IsProgram.tab6 spec_IsProgram.bits6 (fun HT_ HW_ => ?_)
        generalize wr.drew = w29 at BK374 HB HR377_2 HR377_3 hx377_0 hx377_1 hx377_2 hx377_3 hHeld ⊢
        refine put 1 27 #[false, true, false, false, false, false, false, false, false, false, false, false, false, false, false, false, false, false, false, false, false, false, false, false, false, false, false, false, false, false] HT_ ?_
        refine put 3 29 #[false, true, false, true, false, false, false, false, false, false, false, false, false, false, false, false, false, false, false, false, false, false, false, false, false, false, false, false, false, false] HT_ ?_
        refine tat8 0 26 #[true, true, false, true, false, false, false, false, false, false, false, false, false, false, false, false, false, false, false, false, false, false, false, false, false, false, false, false, false, false] HT_ HW_ hHeld ?_
        refine tat8 2 28 #[true, true, true, true, false, false, false, false, false, false, false, false, false, false, false, false, false, false, false, false, false, false, false, false, false, false, false, false, false, false] HT_ HW_ hHeld ?_
        refine put 4 30 #[true, true, true, true, true, false, false, false, false, false, false, false, false, false, false, false, false, false, false, false, false, false, false, false, false, false, false, false, false, false] HT_ ?_
        refine tat8 5 31 #[true, true, true, true, true, true, false, false, false, false, false, false, false, false, false, false, false, false, false, false, false, false, false, false, false, false, false, false, false, false] HT_ HW_ hHeld ?_
        refine one_ (i := 6) (N := some 32) #[true, true, true, true, true, true, true, false, false, false, false, false, false, false, false, false, false, false, false, false, false, false, false, false, false, false, false, false, false, false] rfl rfl (one_of HT_.out (by kernel_rfl)) (by decide) (fun K hK => ?_)
        refine goes_ Try.func102 (by kernel_rfl) rfl #[.agg #[.int .i64 a0_0, .int .i64 a0_1, .int .i64 a0_2, .slice (some ad377) l0_3.length c0_3], .agg #[.int .i64 ((rd_T105 l0_3 x3_2).f0.f0), .int .i64 ((rd_T105 l0_3 x3_2).f0.f1), .slice A377_2 ((rd_T105 l0_3 x3_2).f1).length c377_2, .slice A377_3 ((rd_T105 l0_3 x3_2).f2).length c377_3]] (by rfl) rfl rfl sl ?_
        with_reducible refine (spec_l17Piece.calls k2 a0_0 a0_1 a0_2 _ _ l0_3 ((rd_T105 l0_3 x3_2).f0.f0) ((rd_T105 l0_3 x3_2).f0.f1) _ _ ((rd_T105 l0_3 x3_2).f1) _ _ ((rd_T105 l0_3 x3_2).f2) false _ ?side1 ?side2 ?side3 ?side4 ?side5 ?side6 A12.out).mono ?_
        (case side1 => exact cb HR0_3)
        (case side2 => exact HC0_3.out)
        (case side3 => exact cb HR377_2)
        (case side4 => exact HC377_2.out)
        (case side5 => exact cb HR377_3)
        (case side6 => exact HC377_3.out)
        rintro e w30 ⟨rfl, hb⟩
        refine ⟨_, rfl, ?_⟩
        replace BK374 := bb BK374 hb
        replace HB := bsw hb
        (try clear hb)
        (try clear hb2)
        (try clear hk)
        (try clear hi)
        refine hK.out _ _ ⟨bc0 BK374, bc1 BK374, bc2 BK374, bc3 BK374, (hb_ HB hw377_0), (hb_ HB hw377_1), (hb_ HB hw377_2), (hb_ HB hw377_3)⟩ (fun hHeld => ?_)
        clear hK K
        refine norm_ (a' := ?_) ?_ ?_
        rotate_left
        ·show Act.put _ (some 32) _ = _
         simp only [Act.put, List.setIfInBounds_toArray, List.set_cons_zero, List.set_cons_succ, i64_w, i32_w]
         rfl
        refine put 7 33 #[true, true, true, true, true, true, true, true, false, false, false, false, false, false, false, false, false, false, false, false, false, false, false, false, false, false, false, false, false, false] HT_ ?_
        refine put 8 34 #[true, true, true, true, true, true, true, true, true, false, false, false, false, false, false, false, false, false, false, false, false, false, false, false, false, false, false, false, false, false] HT_ ?_
        refine pure_ (i := 9) (N := some 35) (v := undef) (a' := ?_) #[true, true, true, true, true, true, true, true, true, true, false, false, false, false, false, false, false, false, false, false, false, false, false, false, false, false, false, false, false, false] rfl rfl (any_of HT_.out (by kernel_rfl)) (fun _ _ _ h => h) (Or.inr ⟨by rfl, rfl⟩) ?_ ?_
        rotate_left
        ·simp only [Act.put, List.setIfInBounds_toArray, List.set_cons_zero, List.set_cons_succ, i64_w, i32_w]
         rfl
        refine pure_ (i := 10) (N := some 36) (v := undef) (a' := ?_) #[true, true, true, true, true, true, true, true, true, true, true, false, false, false, false, false, false, false, false, false, false, false, false, false, false, false, false, false, false, false] rfl rfl (any_of HT_.out (by kernel_rfl)) (fun _ _ _ h => h) (Or.inr ⟨by rfl, rfl⟩) ?_ ?_
        rotate_left
        ·simp only [Act.put, List.setIfInBounds_toArray, List.set_cons_zero, List.set_cons_succ, i64_w, i32_w]
         rfl
        refine pure_ (i := 11) (N := some 37) (v := undef) (a' := ?_) #[true, true, true, true, true, true, true, true, true, true, true, true, false, false, false, false, false, false, false, false, false, false, false, false, false, false, false, false, false, false] rfl rfl (any_of HT_.out (by kernel_rfl)) (fun _ _ _ h => h) (Or.inr ⟨by rfl, rfl⟩) ?_ ?_
        rotate_left
        ·simp only [Act.put, List.setIfInBounds_toArray, List.set_cons_zero, List.set_cons_succ, i64_w, i32_w]
         rfl
        refine pure_ (i := 12) (N := some 38) (v := undef) (a' := ?_) #[true, true, true, true, true, true, true, true, true, true, true, true, true, false, false, false, false, false, false, false, false, false, false, false, false, false, false, false, false, false] rfl rfl (any_of HT_.out (by kernel_rfl)) (fun _ _ _ h => h) (Or.inr ⟨by rfl, rfl⟩) ?_ ?_
        rotate_left
        ·simp only [Act.put, List.setIfInBounds_toArray, List.set_cons_zero, List.set_cons_succ, i64_w, i32_w]
         rfl
        refine pure_ (i := 13) (N := some 39) (v := undef) (a' := ?_) #[true, true, true, true, true, true, true, true, true, true, true, true, true, true, false, false, false, false, false, false, false, false, false, false, false, false, false, false, false, false] rfl rfl (any_of HT_.out (by kernel_rfl)) (fun _ _ _ h => h) (Or.inr ⟨by rfl, rfl⟩) ?_ ?_
        rotate_left
        ·simp only [Act.put, List.setIfInBounds_toArray, List.set_cons_zero, List.set_cons_succ, i64_w, i32_w]
         rfl
        refine pure_ (i := 14) (N := some 40) (v := undef) (a' := ?_) #[true, true, true, true, true, true, true, true, true, true, true, true, true, true, true, false, false, false, false, false, false, false, false, false, false, false, false, false, false, false] rfl rfl (any_of HT_.out (by kernel_rfl)) (fun _ _ _ h => h) (Or.inr ⟨by rfl, rfl⟩) ?_ ?_
        rotate_left
        ·simp only [Act.put, List.setIfInBounds_toArray, List.set_cons_zero, List.set_cons_succ, i64_w, i32_w]
         rfl
        refine pure_ (i := 15) (N := some 41) (v := undef) (a' := ?_) #[true, true, true, true, true, true, true, true, true, true, true, true, true, true, true, true, false, false, false, false, false, false, false, false, false, false, false, false, false, false] rfl rfl (any_of HT_.out (by kernel_rfl)) (fun _ _ _ h => h) (Or.inr ⟨by rfl, rfl⟩) ?_ ?_
        rotate_left
        ·simp only [Act.put, List.setIfInBounds_toArray, List.set_cons_zero, List.set_cons_succ, i64_w, i32_w]
         rfl
        refine pure_ (i := 16) (N := some 42) (v := undef) (a' := ?_) #[true, true, true, true, true, true, true, true, true, true, true, true, true, true, true, true, true, false, false, false, false, false, false, false, false, false, false, false, false, false] rfl rfl (any_of HT_.out (by kernel_rfl)) (fun _ _ _ h => h) (Or.inr ⟨by rfl, rfl⟩) ?_ ?_
        rotate_left
        ·simp only [Act.put, List.setIfInBounds_toArray, List.set_cons_zero, List.set_cons_succ, i64_w, i32_w]
         rfl
        refine pure_ (i := 17) (N := some 43) (v := undef) (a' := ?_) #[true, true, true, true, true, true, true, true, true, true, true, true, true, true, true, true, true, true, false, false, false, false, false, false, false, false, false, false, false, false] rfl rfl (any_of HT_.out (by kernel_rfl)) (fun _ _ _ h => h) (Or.inr ⟨by rfl, rfl⟩) ?_ ?_
        rotate_left
        ·simp only [Act.put, List.setIfInBounds_toArray, List.set_cons_zero, List.set_cons_succ, i64_w, i32_w]
         rfl
        refine pure_ (i := 18) (N := some 44) (v := undef) (a' := ?_) #[true, true, true, true, true, true, true, true, true, true, true, true, true, true, true, true, true, true, true, false, false, false, false, false, false, false, false, false, false, false] rfl rfl (any_of HT_.out (by kernel_rfl)) (fun _ _ _ h => h) (Or.inr ⟨by rfl, rfl⟩) ?_ ?_
        rotate_left
        ·simp only [Act.put, List.setIfInBounds_toArray, List.set_cons_zero, List.set_cons_succ, i64_w, i32_w]
         rfl
        refine pure_ (i := 19) (N := some 45) (v := undef) (a' := ?_) #[true, true, true, true, true, true, true, true, true, true, true, true, true, true, true, true, true, true, true, true, false, false, false, false, false, false, false, false, false, false] rfl rfl (any_of HT_.out (by kernel_rfl)) (fun _ _ _ h => h) (Or.inr ⟨by rfl, rfl⟩) ?_ ?_
        rotate_left
        ·simp only [Act.put, List.setIfInBounds_toArray, List.set_cons_zero, List.set_cons_succ, i64_w, i32_w]
         rfl
        refine pure_ (i := 20) (N := some 46) (v := undef) (a' := ?_) #[true, true, true, true, true, true, true, true, true, true, true, true, true, true, true, true, true, true, true, true, true, false, false, false, false, false, false, false, false, false] rfl rfl (any_of HT_.out (by kernel_rfl)) (fun _ _ _ h => h) (Or.inr ⟨by rfl, rfl⟩) ?_ ?_
        rotate_left
        ·simp only [Act.put, List.setIfInBounds_toArray, List.set_cons_zero, List.set_cons_succ, i64_w, i32_w]
         rfl
        refine pure_ (i := 21) (N := some 47) (v := undef) (a' := ?_) #[true, true, true, true, true, true, true, true, true, true, true, true, true, true, true, true, true, true, true, true, true, true, false, false, false, false, false, false, false, false] rfl rfl (any_of HT_.out (by kernel_rfl)) (fun _ _ _ h => h) (Or.inr ⟨by rfl, rfl⟩) ?_ ?_
        rotate_left
        ·simp only [Act.put, List.setIfInBounds_toArray, List.set_cons_zero, List.set_cons_succ, i64_w, i32_w]
         rfl
        refine pure_ (i := 22) (N := some 48) (v := undef) (a' := ?_) #[true, true, true, true, true, true, true, true, true, true, true, true, true, true, true, true, true, true, true, true, true, true, true, false, false, false, false, false, false, false] rfl rfl (any_of HT_.out (by kernel_rfl)) (fun _ _ _ h => h) (Or.inr ⟨by rfl, rfl⟩) ?_ ?_
        rotate_left
        ·simp only [Act.put, List.setIfInBounds_toArray, List.set_cons_zero, List.set_cons_succ, i64_w, i32_w]
         rfl
        refine pure_ (i := 23) (N := some 49) (v := undef) (a' := ?_) #[true, true, true, true, true, true, true, true, true, true, true, true, true, true, true, true, true, true, true, true, true, true, true, true, false, false, false, false, false, false] rfl rfl (any_of HT_.out (by kernel_rfl)) (fun _ _ _ h => h) (Or.inr ⟨by rfl, rfl⟩) ?_ ?_
        rotate_left
        ·simp only [Act.put, List.setIfInBounds_toArray, List.set_cons_zero, List.set_cons_succ, i64_w, i32_w]
         rfl
        refine pure_ (i := 24) (N := some 50) (v := undef) (a' := ?_) #[true, true, true, true, true, true, true, true, true, true, true, true, true, true, true, true, true, true, true, true, true, true, true, true, true, false, false, false, false, false] rfl rfl (any_of HT_.out (by kernel_rfl)) (fun _ _ _ h => h) (Or.inr ⟨by rfl, rfl⟩) ?_ ?_
        rotate_left
        ·simp only [Act.put, List.setIfInBounds_toArray, List.set_cons_zero, List.set_cons_succ, i64_w, i32_w]
         rfl
        refine pure_ (i := 25) (N := some 51) (v := undef) (a' := ?_) #[true, true, true, true, true, true, true, true, true, true, true, true, true, true, true, true, true, true, true, true, true, true, true, true, true, true, false, false, false, false] rfl rfl (any_of HT_.out (by kernel_rfl)) (fun _ _ _ h => h) (Or.inr ⟨by rfl, rfl⟩) ?_ ?_
        rotate_left
        ·simp only [Act.put, List.setIfInBounds_toArray, List.set_cons_zero, List.set_cons_succ, i64_w, i32_w]
         rfl
        refine pure_ (i := 26) (N := some 52) (v := undef) (a' := ?_) #[true, true, true, true, true, true, true, true, true, true, true, true, true, true, true, true, true, true, true, true, true, true, true, true, true, true, true, false, false, false] rfl rfl (any_of HT_.out (by kernel_rfl)) (fun _ _ _ h => h) (Or.inr ⟨by rfl, rfl⟩) ?_ ?_
        rotate_left
        ·simp only [Act.put, List.setIfInBounds_toArray, List.set_cons_zero, List.set_cons_succ, i64_w, i32_w]
         rfl
        refine pure_ (i := 27) (N := some 53) (v := undef) (a' := ?_) #[true, true, true, true, true, true, true, true, true, true, true, true, true, true, true, true, true, true, true, true, true, true, true, true, true, true, true, true, false, false] rfl rfl (any_of HT_.out (by kernel_rfl)) (fun _ _ _ h => h) (Or.inr ⟨by rfl, rfl⟩) ?_ ?_
        rotate_left
        ·simp only [Act.put, List.setIfInBounds_toArray, List.set_cons_zero, List.set_cons_succ, i64_w, i32_w]
         rfl
        refine pure_ (i := 28) (N := some 54) (v := undef) (a' := ?_) #[true, true, true, true, true, true, true, true, true, true, true, true, true, true, true, true, true, true, true, true, true, true, true, true, true, true, true, true, true, false] rfl rfl (any_of HT_.out (by kernel_rfl)) (fun _ _ _ h => h) (Or.inr ⟨by rfl, rfl⟩) ?_ ?_
        rotate_left
        ·simp only [Act.put, List.setIfInBounds_toArray, List.set_cons_zero, List.set_cons_succ, i64_w, i32_w]
         rfl
        refine put 29 55 #[true, true, true, true, true, true, true, true, true, true, true, true, true, true, true, true, true, true, true, true, true, true, true, true, true, true, true, true, true, true] HT_ ?_
        refine done_ (done_of HT_.out (by kernel_rfl)) ?_
        try go_wp2
        go_ret
        exact ⟨se, sbw⟩
      ·have c10b0 := decide_eq_false c10
       clear c10
       obtain rfl := Option.some.inj H
       obtain ⟨hcz31_0, hcz31_1, hcz31_2, hcz31_3, hfz31_0, hfz31_1, hfz31_2, hfz31_3⟩ := cc4 BK374
       go_wp2
       go_ret
       exact ⟨se, sbw⟩

end Go.Proofs.Ytiihaabhjphaeaa.QFnExactIsProgram
