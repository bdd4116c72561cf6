/- Printed by a program of the session. Conditions: none. (squeezed). -/
import Derived.Test.YtiihaabhjphaeaaVFnProgramsQFnProgramsx5
namespace Go.Proofs.Ytiihaabhjphaeaa.QFnPrograms
set_option maxHeartbeats 8000000
set_option maxRecDepth 100000
open Go.RowKit Go.Proofs.YtiihaabhjphaeaaW.PrintWords Go.Proofs.YtiihaabhjphaeaaW.PrintLast Go.Proofs.YtiihaabhjphaeaaW.PrintMore Go.Proofs.Ytiihaabhjphaeaa.Open Go.Proofs.Ytiihaabhjphaeaa.Sq
attribute [local go_sem] max2_int min2_int max_two min_two max_three min_three max_four min_four   -- for this text's walks alone
attribute [local go_sem] isSome_set
set_option linter.unusedVariables false
set_option linter.unusedSimpArgs false

mutual
def impl_IsProgram.j0 : Nat → Bool → Int → Int → Int → List (S105) → Option (Bool)
  | 0, _, _, _, _, _ => none
  | k + 1, x19, x203000, x203001, x203002, x203003 => if x19 = true then (some false) else (impl_IsProgram.l0 k x203003 (x203003.length : Int) 0 x203000 x203001 x203002 x203003)
def impl_IsProgram.l0 : Nat → List (S105) → Int → Int → Int → Int → Int → List (S105) → Option (Bool)
  | 0, _, _, _, _, _, _, _ => none
  | k + 1, x21, x22, x23, x203000, x203001, x203002, x203003 => if x23 < x22 then (if 0 ≤ x23 then (if x23 < (x21.length : Int) then ((impl_IsSpan.f ((rd_T105 x21 x23).f0.f0) ((rd_T105 x21 x23).f0.f1)).bind fun t207 => (if t207 = true then (if x23 > 0 then (if 0 ≤ (wrap64 (x23 - 1)) then (if (wrap64 (x23 - 1)) < (x203003.length : Int) then (if ((rd_T105 x21 x23).f0.f0) = ((rd_T105 x203003 (wrap64 (x23 - 1))).f0.f1) then ((impl_tablesOf.f k ((rd_T105 x21 x23).f1) x203000 x203001).bind fun t209 => ((impl_Table.f k ((rd_T105 x21 x23).f2) t209 0).bind fun t212 => (if t212 = true then (impl_IsProgram.l0 k x21 x22 (wrap64 (x23 + 1)) x203000 x203001 x203002 x203003) else (some false)))) else (some false)) else (none)) else (none)) else ((impl_tablesOf.f k ((rd_T105 x21 x23).f1) x203000 x203001).bind fun t213 => ((impl_Table.f k ((rd_T105 x21 x23).f2) t213 0).bind fun t216 => (if t216 = true then (impl_IsProgram.l0 k x21 x22 (wrap64 (x23 + 1)) x203000 x203001 x203002 x203003) else (some false))))) else (some false))) else (none)) else (none)) else (some true)
end
def impl_IsProgram.f (k : Nat) (a0_0 : Int) (a0_1 : Int) (a0_2 : Int) (l0_3 : List (S105)) : Option (Bool) := (impl_isFrame.f a0_0 a0_1 a0_2).bind fun t203 => (if t203 = true then ((impl_InRange.f (l0_3.length : Int) 1 40).bind fun t204 => (impl_IsProgram.j0 k (!t204) a0_0 a0_1 a0_2 l0_3)) else (impl_IsProgram.j0 k true a0_0 a0_1 a0_2 l0_3))
theorem impl_IsProgram.mono_l : ∀ k, (∀ y0 y1 y2 y3 y4, LeO (impl_IsProgram.j0 k y0 y1 y2 y3 y4) (impl_IsProgram.j0 (k + 1) y0 y1 y2 y3 y4)) ∧ (∀ y0 y1 y2 y3 y4 y5 y6, LeO (impl_IsProgram.l0 k y0 y1 y2 y3 y4 y5 y6) (impl_IsProgram.l0 (k + 1) y0 y1 y2 y3 y4 y5 y6))
  | 0 => ⟨fun _ _ _ _ _ r h => by simp [impl_IsProgram.j0] at h, fun _ _ _ _ _ _ _ r h => by simp [impl_IsProgram.l0] at h⟩
  | k + 1 => by
    obtain ⟨ih0, ih1⟩ := impl_IsProgram.mono_l k
    refine ⟨?_, ?_⟩
    · intro y0 y1 y2 y3 y4
      unfold impl_IsProgram.j0
      have m0 := @impl_Table.mono
      have m1 := @impl_tablesOf.mono
      exact mo
    · intro y0 y1 y2 y3 y4 y5 y6
      unfold impl_IsProgram.l0
      have m0 := @impl_Table.mono
      have m1 := @impl_tablesOf.mono
      exact mo
theorem impl_IsProgram.mono : ∀ a0 a1 a2 a3 k, LeO (impl_IsProgram.f k a0 a1 a2 a3) (impl_IsProgram.f (k + 1) a0 a1 a2 a3) := by
  intro a0 a1 a2 a3 k
  obtain ⟨ih0, ih1⟩ := impl_IsProgram.mono_l k
  unfold impl_IsProgram.f
  have m0 := @impl_Table.mono
  have m1 := @impl_tablesOf.mono
  exact mo
def impl_IsProgram.T6 : Bool × List (List Nat × List Nat) := (true, [([], []), ([0], [0]), ([1], [1]), ([2], [2]), ([3, 2], [3]), ([4], [4]), ([5, 4], [4, 5]), ([6, 4, 4], [4, 6]), ([7], [7]), ([8, 7], [7, 8]), ([9, 7], [7, 9]), ([7], [7]), ([11, 7], [7, 11]), ([7], [7]), ([13, 7], [7, 13]), ([12, 14, 7], [7, 12, 14]), ([15, 7], [7, 15]), ([16, 7], [7, 16]), ([17, 7], [7, 17]), ([10, 18, 7], [7, 10, 18]), ([7, 19, 4], [4, 7, 19]), ([4, 20], [4, 20]), ([21, 7], [21]), ([22], [22]), ([23, 22], [22, 23]), ([22], [22]), ([25, 22], [22, 25]), ([22], [22]), ([27, 22], [22, 27]), ([22], [22]), ([29, 22], [22, 29]), ([26, 28, 30, 22, 22], [22, 26, 28, 30]), ([24, 31, 31, 22], [22, 24, 31]), ([32, 22], [22, 32]), ([22, 33], [22, 33])])
def impl_IsProgram.B6 : List Nat := [0, 1, 3, 7, 15, 31, 63, 127, 255, 511, 1023, 255, 2303, 255, 8447, 30975, 63743, 129279, 260351, 524287, 1048575, 2097151, 4194303, 8388607, 16777215, 8388607, 41943039, 8388607, 142606335, 8388607, 545259519, 2122317823, 4294967295, 8589934591, 17179869183]
theorem impl_IsProgram.tab6 : rtab .any (opsOf Try.f36 6) = impl_IsProgram.T6 := by kernel_rfl
theorem impl_IsProgram.bits6 : waitsOk impl_IsProgram.T6.2 impl_IsProgram.B6 = true := by kernel_rfl
theorem impl_IsProgram.calls (k : Nat) (a0_0 : Int) (a0_1 : Int) (a0_2 : Int) (A0_3 : Option Addr) (c0_3 : Nat) (l0_3 : List (S105)) (r : Bool) (w : World) (hr0_3 : Kd.C k105 w A0_3 l0_3.length l0_3) (hc0_3 : l0_3.length ≤ c0_3) (h : impl_IsProgram.f k a0_0 a0_1 a0_2 l0_3 = some r) :
    Calls Try.prog 36 #[.agg #[.int .i64 a0_0, .int .i64 a0_1, .int .i64 a0_2, .slice A0_3 l0_3.length c0_3]] w fun e w' => e = .returned (.bool r) ∧ Below w.heap.size w w' := by
 have hu31 := Try.underlying31
 have hu105 := Try.underlying105
 have hu102 := Try.underlying102
 have HR0_3 := am hr0_3
 have HC0_3 := am hc0_3
 clear hr0_3 hc0_3
 have HB := am (Below.refl w.heap.size w)
 have H := h; unfold impl_IsProgram.f at H
 clear h
 have HC2 := am H
 clear H
 go_enter Try.func36, Try.ntmps36
 go_upto_region 1 with (first | ((with_reducible refine gd 1 rfl ?_); (try (refine gate_guard (by rfl) ?_; dsimp only)); refine bx 1 #[.int .i64 a0_0, .int .i64 a0_1, .int .i64 a0_2, .slice A0_3 l0_3.length c0_3] 31 ?_; intro gb202 hg w3 hbox hb; have GW202 := bz w hg; have GE202 := bz w hg; replace HB := bs hb; have BK202 := am hbox; clear hb hbox hg))
 (try simp only [Act.put, List.setIfInBounds_toArray, List.set_cons_zero, List.set_cons_succ])
 go_cut [19] (fun v19 wc => ∃ (kq : Nat) (x19_1 : Bool), v19 = .bool x19_1 ∧ Aside0 (impl_IsProgram.j0 kq x19_1 a0_0 a0_1 a0_2 l0_3 = some r) ∧ Aside0 (kq ≤ k) ∧ Aside0 (wc.heap[gb202]? = some (.cells #[.int .i64 a0_0, .int .i64 a0_1, .int .i64 a0_2, (.slice A0_3 l0_3.length c0_3)] 31 (0, 0))) ∧ Aside0 (Below w.heap.size w wc))
 case first =>
  have H := HC2.out
  clear HC2
  obtain ⟨t203, A4, H⟩ := bnd H
  obtain rfl | rfl := tt t203
  ·replace H := ip H
   obtain ⟨t204, A6, H⟩ := bnd H
   have H' := am H
   clear H
   obtain ⟨hcz7_0, hcz7_1, hcz7_2, hcz7_3, hfz7_0, hfz7_1, hfz7_2, hfz7_3⟩ := cc4 BK202
   go_wp2_with (first | ((with_reducible refine gc 94 rfl ?_); refine gL (some 11) Try.func94 #[.int .i64 a0_0, .int .i64 a0_1, .int .i64 a0_2] ?_; (with_reducible refine (impl_isFrame.calls a0_0 a0_1 a0_2 true _ A4.out).mono ?_); rintro e w' ⟨rfl, ⟨nd, rfl⟩⟩; refine ⟨_, rfl, ?_⟩) | (go_at_call 95; (with_reducible refine (impl_InRange.calls (l0_3.length : Int) 1 40 t204 _ A6.out).mono ?_); rintro e w' ⟨rfl, ⟨nd, rfl⟩⟩))
   go_meet
   case rel => exact ⟨_, (!t204), sc, H', ⟨by first | omega | exact Nat.le_refl _⟩, ⟨sk BK202⟩, ⟨sbw⟩⟩
  ·replace H := im H
   have H' := am H
   clear H
   obtain ⟨hcz8_0, hcz8_1, hcz8_2, hcz8_3, hfz8_0, hfz8_1, hfz8_2, hfz8_3⟩ := cc4 BK202
   go_wp2_with (first | ((with_reducible refine gc 94 rfl ?_); refine gL (some 11) Try.func94 #[.int .i64 a0_0, .int .i64 a0_1, .int .i64 a0_2] ?_; (with_reducible refine (impl_isFrame.calls a0_0 a0_1 a0_2 false _ A4.out).mono ?_); rintro e w' ⟨rfl, ⟨nd, rfl⟩⟩; refine ⟨_, rfl, ?_⟩))
   go_meet
   case rel => exact ⟨_, (true), sc, H', ⟨by first | omega | exact Nat.le_refl _⟩, ⟨sk BK202⟩, ⟨sbw⟩⟩
 case rest =>
  clear HC2
  try clear hcz7_0
  try clear hcz7_1
  try clear hcz7_2
  try clear hcz7_3
  try clear hcz8_0
  try clear hcz8_1
  try clear hcz8_2
  try clear hcz8_3
  try clear hfz7_0
  try clear hfz7_1
  try clear hfz7_2
  try clear hfz7_3
  try clear hfz8_0
  try clear hfz8_1
  try clear hfz8_2
  try clear hfz8_3
  obtain ⟨kq, x19_1, rfl, HA, HJ1, BK202, HB⟩ := hcut
  cases kq with
  | zero => exact absurd HA.out (by simp [impl_IsProgram.j0])
  | succ kj1 =>
   have H := HA.out
   clear HA
   simp only [impl_IsProgram.j0] at H
   obtain rfl | rfl := tt x19_1
   ·replace H := ip H
    obtain rfl := Option.some.inj H
    go_wp2
    go_ret
    exact ⟨se, sbw⟩
   ·replace H := im H
    have H' := am H
    clear H
    obtain ⟨hcz10_0, hcz10_1, hcz10_2, hcz10_3, hfz10_0, hfz10_1, hfz10_2, hfz10_3⟩ := cc4 BK202
    go_wp2
    go_loopg [23] kj1 (fun kq v23 w' => ∃ (x23_2 : Int), v23 = .int .i64 x23_2 ∧ Aside0 (impl_IsProgram.l0 kq l0_3 (l0_3.length : Int) x23_2 a0_0 a0_1 a0_2 l0_3 = some r) ∧ Aside0 (kq ≤ kj1) ∧ Aside0 (w'.heap[gb202]? = some (.cells #[.int .i64 a0_0, .int .i64 a0_1, .int .i64 a0_2, (.slice A0_3 l0_3.length c0_3)] 31 (0, 0))) ∧ Aside0 (Below w.heap.size w w'))
    case atStart => exact ⟨(0), sc, H', kk0, ⟨sk BK202⟩, ⟨sbw⟩⟩
    case round =>
     clear H'
     try clear hcz10_0
     try clear hcz10_1
     try clear hcz10_2
     try clear hcz10_3
     try clear hcz7_0
     try clear hcz7_1
     try clear hcz7_2
     try clear hcz7_3
     try clear hcz8_0
     try clear hcz8_1
     try clear hcz8_2
     try clear hcz8_3
     try clear hfz10_0
     try clear hfz10_1
     try clear hfz10_2
     try clear hfz10_3
     try clear hfz7_0
     try clear hfz7_1
     try clear hfz7_2
     try clear hfz7_3
     try clear hfz8_0
     try clear hfz8_1
     try clear hfz8_2
     try clear hfz8_3
     obtain ⟨x23_2, rfl, HA, HK2, BK202, HB⟩ := hrel
     cases gk with
     | zero => exact absurd HA.out (by simp [impl_IsProgram.l0])
     | succ k2 =>
      have H := HA.out
      clear HA
      simp only [impl_IsProgram.l0] at H
      obtain ⟨c11, H⟩ | ⟨c11, H⟩ := ie_ H
      ·have c11b0 := decide_eq_true c11
       clear c11
       obtain ⟨c12b0, H⟩ := id_ H
       obtain ⟨c13b0, H⟩ := id_ H
       obtain ⟨t207, A14, H⟩ := bnd H
       obtain rfl | rfl := tt t207
       ·replace H := ip H
        obtain ⟨c16, H⟩ | ⟨c16, H⟩ := ie_ H
        ·have c16b0 := decide_eq_true c16
         clear c16
         obtain ⟨ji17, hji17⟩ : ∃ j_ : Int, (wrap64 (x23_2 - 1)) = j_ := ⟨_, rfl⟩
         replace H : (if 0 ≤ (ji17) then (if (ji17) < (l0_3.length : Int) then (if ((rd_T105 l0_3 x23_2).f0.f0) = ((rd_T105 l0_3 (ji17)).f0.f1) then ((impl_tablesOf.f k2 ((rd_T105 l0_3 x23_2).f1) a0_0 a0_1).bind fun t209 => ((impl_Table.f k2 ((rd_T105 l0_3 x23_2).f2) t209 0).bind fun t212 => (if t212 = true then (impl_IsProgram.l0 k2 l0_3 (l0_3.length : Int) (wrap64 (x23_2 + 1)) a0_0 a0_1 a0_2 l0_3) else (some false)))) else (some false)) else (none)) else (none)) = some r := by first | (rw [hji17] at H; exact H) | (simp only [hji17] at H ⊢; exact H)
         (try rw [hji17] at A14)
         have hji17w : (IntKind.i64.wrap (x23_2 - 1)) = ji17 := (i64_w _).trans hji17
         obtain ⟨c18b0, H⟩ := id_ H
         obtain ⟨c19b0, H⟩ := id_ H
         obtain ⟨c20, H⟩ | ⟨c20, H⟩ := ie_ H
         ·have c20b0 : (((rd_T105 l0_3 x23_2).f0.f0) == ((rd_T105 l0_3 (ji17)).f0.f1)) = true := beq_iff_eq.mpr c20
          have c20b1 : (((rd_T105 l0_3 x23_2).f0.f0) != ((rd_T105 l0_3 (ji17)).f0.f1)) = false := bne_eq_false_iff_eq.mpr c20
          clear c20
          obtain ⟨t209, A21, H⟩ := bnd H
          obtain ⟨t212, A22, H⟩ := bnd H
          obtain rfl | rfl := tt t212
          ·replace H := ip H
           have H' := am H
           clear H
           obtain ⟨p205, q205, ad205, A205_2, c205_2, A205_3, c205_3, e205, _, _, _, _, hx205_0, hx205_1, hx205_2, hx205_3, HC205_2, HR205_2, HC205_3, HR205_3⟩ := aT_T105 HR0_3 HB x23_2
           cases e205
           try go_wp2_with (first | ((with_reducible refine gd 4 rfl ?_); (try (refine gate_guard (by rfl) ?_; dsimp only)); refine bx 4 #[.int .i64 0, .int .i64 0, .slice none 0 0, .slice none 0 0] 105 ?_; intro gb206 hg w24 hbox hb; have GW206 := bzw w hg; have GE206 := bzw w hg; replace HB := bsw hb; have BK206 := am hbox; have NB202_206 := nl BK202 hg; have NB206_202 := ng BK202 hg; replace BK202 := bb BK202 hb; clear hb hbox hg; have hnb25 := NB206_202.out; have hnc25 := NB202_206.out; obtain ⟨hcz26_0, hcz26_1, hcz26_2, hcz26_3, hfz26_0, hfz26_1, hfz26_2, hfz26_3⟩ := cc4 BK206))
           have n0_ : Aside0 (((((w24.setCell ⟨gb206, 0, none⟩ (.int .i64 ((rd_T105 l0_3 x23_2).f0.f0))).setCell ⟨gb206, 1, none⟩ (.int .i64 ((rd_T105 l0_3 x23_2).f0.f1))).setCell ⟨gb206, 2, none⟩ (.slice A205_2 ((rd_T105 l0_3 x23_2).f1).length c205_2)).setCell ⟨gb206, 3, none⟩ (.slice A205_3 ((rd_T105 l0_3 x23_2).f2).length c205_3)).heap[gb202]? = some (.cells #[.int .i64 a0_0, .int .i64 a0_1, .int .i64 a0_2, .slice (some ad205) l0_3.length c0_3] 31 (0, 0))) := ⟨sp BK202⟩
           have n1_ : Aside0 (((((w24.setCell ⟨gb206, 0, none⟩ (.int .i64 ((rd_T105 l0_3 x23_2).f0.f0))).setCell ⟨gb206, 1, none⟩ (.int .i64 ((rd_T105 l0_3 x23_2).f0.f1))).setCell ⟨gb206, 2, none⟩ (.slice A205_2 ((rd_T105 l0_3 x23_2).f1).length c205_2)).setCell ⟨gb206, 3, none⟩ (.slice A205_3 ((rd_T105 l0_3 x23_2).f2).length c205_3)).heap[gb206]? = some (.cells #[.int .i64 ((rd_T105 l0_3 x23_2).f0.f0), .int .i64 ((rd_T105 l0_3 x23_2).f0.f1), .slice A205_2 ((rd_T105 l0_3 x23_2).f1).length c205_2, .slice A205_3 ((rd_T105 l0_3 x23_2).f2).length c205_3] 105 (0, 0))) := ⟨sp BK206⟩
           have n2_ : Aside0 (Below w.heap.size w ((((w24.setCell ⟨gb206, 0, none⟩ (.int .i64 ((rd_T105 l0_3 x23_2).f0.f0))).setCell ⟨gb206, 1, none⟩ (.int .i64 ((rd_T105 l0_3 x23_2).f0.f1))).setCell ⟨gb206, 2, none⟩ (.slice A205_2 ((rd_T105 l0_3 x23_2).f1).length c205_2)).setCell ⟨gb206, 3, none⟩ (.slice A205_3 ((rd_T105 l0_3 x23_2).f2).length c205_3))) := ⟨sbw⟩
           (try clear BK202)
           (try clear BK206)
           (try clear HB)
           generalize ((((w24.setCell ⟨gb206, 0, none⟩ (.int .i64 ((rd_T105 l0_3 x23_2).f0.f0))).setCell ⟨gb206, 1, none⟩ (.int .i64 ((rd_T105 l0_3 x23_2).f0.f1))).setCell ⟨gb206, 2, none⟩ (.slice A205_2 ((rd_T105 l0_3 x23_2).f1).length c205_2)).setCell ⟨gb206, 3, none⟩ (.slice A205_3 ((rd_T105 l0_3 x23_2).f2).length c205_3)) = w27 at n0_ n1_ n2_ ⊢
           have BK202 := n0_
           have BK206 := n1_
           have HB := n2_
           clear n0_ n1_ n2_
           replace BK202 := am (blk_drew BK202.out)
           replace BK206 := am (blk_drew BK206.out)
           replace HB := am (below_drew1 HB.out)
           obtain ⟨p208, q208, ad208, A208_2, c208_2, A208_3, c208_3, e208, hw208_0, hw208_1, hw208_2, hw208_3, hx208_0, hx208_1, hx208_2, hx208_3, HC208_2, HR208_2, HC208_3, HR208_3⟩ := aT_T105 HR0_3 HB (ji17)
           obtain rfl : ad205 = ad208 := (by injection e208)
           refine start_ (n := 35) (S := fun w' => w'.cell? ⟨gb206, 0, none⟩ = some (.int .i64 ((rd_T105 l0_3 x23_2).f0.f0)) ∧ w'.cell? ⟨gb206, 1, none⟩ = some (.int .i64 ((rd_T105 l0_3 x23_2).f0.f1)) ∧ w'.cell? ⟨gb206, 2, none⟩ = some (.slice A205_2 ((rd_T105 l0_3 x23_2).f1).length c205_2) ∧ w'.cell? ⟨gb206, 3, none⟩ = some (.slice A205_3 ((rd_T105 l0_3 x23_2).f2).length c205_3) ∧ w'.cell? ⟨gb202, 0, none⟩ = some (.int .i64 a0_0) ∧ w'.cell? ⟨gb202, 1, none⟩ = some (.int .i64 a0_1) ∧ w'.cell? ⟨gb202, 2, none⟩ = some (.int .i64 a0_2) ∧ w'.cell? ⟨gb202, 3, none⟩ = some (.slice (some ad205) l0_3.length c0_3) ∧ w'.cell? (ad205.add (((ji17)).toNat * 4)) = some (.int .i64 ((rd_T105 l0_3 (ji17)).f0.f0)) ∧ w'.cell? ⟨(ad205.add (((ji17)).toNat * 4)).block, (ad205.add (((ji17)).toNat * 4)).off + 1, none⟩ = some (.int .i64 ((rd_T105 l0_3 (ji17)).f0.f1)) ∧ w'.cell? ⟨(ad205.add (((ji17)).toNat * 4)).block, (ad205.add (((ji17)).toNat * 4)).off + 2, none⟩ = some (.slice A208_2 ((rd_T105 l0_3 (ji17)).f1).length c208_2) ∧ w'.cell? ⟨(ad205.add (((ji17)).toNat * 4)).block, (ad205.add (((ji17)).toNat * 4)).off + 3, none⟩ = some (.slice A208_3 ((rd_T105 l0_3 (ji17)).f2).length c208_3)) (ds := []) #[false, false, false, false, false, false, false, false, false, false, false, false, false, false, false, false, false, false, false, false, false, false, false, false, false, false, false, false, false, false, false, false, false, false, false] (by kernel_rfl) rfl rfl ⟨bc0 BK206, bc1 BK206, bc2 BK206, bc3 BK206, bc0 BK202, bc1 BK202, bc2 BK202, bc3 BK202, (hb_ HB hw208_0), (hb_ HB hw208_1), (hb_ HB hw208_2), (hb_ HB hw208_3)⟩ (fun hHeld => ?_); refine with_tabW impl_IsProgram.tab6 impl_IsProgram.bits6 (fun HT_ HW_ => ?_)
           generalize w27.drew = w28 at BK202 BK206 HB HR208_2 HR208_3 hx208_0 hx208_1 hx208_2 hx208_3 hHeld ⊢
           refine put 0 28 (bt 35 1) HT_ ?_
           refine tat12 1 29 (bt 35 3) HT_ HW_ hHeld ?_
           refine one_ (i := 2) (N := some 30) (bt 35 7) rfl rfl (one_of HT_.out (by kernel_rfl)) (by decide) (fun K hK => ?_)
           refine goes_ Try.func79 (by kernel_rfl) rfl #[.agg #[.int .i64 ((rd_T105 l0_3 x23_2).f0.f0), .int .i64 ((rd_T105 l0_3 x23_2).f0.f1)]] (by rfl) rfl rfl sl ?_
           with_reducible refine (impl_IsSpan.calls ((rd_T105 l0_3 x23_2).f0.f0) ((rd_T105 l0_3 x23_2).f0.f1) true _ A14.out).mono ?_
           rintro e w29 ⟨rfl, hb⟩
           refine ⟨_, rfl, ?_⟩
           replace BK202 := bb BK202 hb
           replace BK206 := bb BK206 hb
           replace HB := bsw hb
           (try clear hb)
           (try clear hb2)
           (try clear hk)
           (try clear hi)
           refine hK.out _ _ ⟨bc0 BK206, bc1 BK206, bc2 BK206, bc3 BK206, bc0 BK202, bc1 BK202, bc2 BK202, bc3 BK202, (hb_ HB hw208_0), (hb_ HB hw208_1), (hb_ HB hw208_2), (hb_ HB hw208_3)⟩ (fun hHeld => ?_)
           clear hK K
           refine nm 30 ?_
           refine put 3 31 (bt 35 15) HT_ ?_
           refine put 4 32 (bt 35 31) HT_ ?_
           refine put 5 33 (bt 35 63) HT_ ?_
           refine put 6 34 (bt 35 127) HT_ ?_
           refine put 7 35 (bt 35 255) HT_ ?_
           refine put 8 36 (bt 35 511) HT_ ?_
           refine put 9 37 (bt 35 1023) HT_ ?_
           refine put 11 39 (bt 35 3071) HT_ ?_
           refine put 13 41 (bt 35 11263) HT_ ?_
           refine put 14 42 (bt 35 27647) HT_ ?_
           refine tat12 10 38 (bt 35 28671) HT_ HW_ hHeld ?_
           refine tat12 12 40 (bt 35 32767) HT_ HW_ hHeld ?_
           refine put 15 43 (bt 35 65535) HT_ ?_
           refine put 16 44 (bt 35 131071) HT_ ?_
           refine put 17 45 (bt 35 262143) HT_ ?_
           refine tat12 18 46 (bt 35 524287) HT_ HW_ hHeld ?_
           refine put 19 47 (bt 35 1048575) HT_ ?_
           refine put 20 48 (bt 35 2097151) HT_ ?_
           refine put 21 49 (bt 35 4194303) HT_ ?_
           refine put 22 50 (bt 35 8388607) HT_ ?_
           refine put 23 51 (bt 35 16777215) HT_ ?_
           refine put 25 53 (bt 35 50331647) HT_ ?_
           refine put 27 55 (bt 35 184549375) HT_ ?_
           refine put 29 57 (bt 35 721420287) HT_ ?_
           refine tat12 24 52 (bt 35 738197503) HT_ HW_ hHeld ?_
           refine tat12 26 54 (bt 35 805306367) HT_ HW_ hHeld ?_
           refine tat12 28 56 (bt 35 1073741823) HT_ HW_ hHeld ?_
           refine tat12 30 58 (bt 35 2147483647) HT_ HW_ hHeld ?_
           refine one_ (i := 31) (N := some 59) (bt 35 4294967295) rfl rfl (one_of HT_.out (by kernel_rfl)) (by decide) (fun K hK => ?_)
           refine goes_ Try.func97 (by kernel_rfl) rfl #[.slice A205_2 ((rd_T105 l0_3 x23_2).f1).length c205_2, .int .i64 a0_0, .int .i64 a0_1] (by rfl) rfl rfl sl ?_
           with_reducible refine (impl_tablesOf.calls k2 _ _ ((rd_T105 l0_3 x23_2).f1) a0_0 a0_1 t209 _ ?side1 ?side2 A21.out).mono ?_
           (case side1 => exact cb HR205_2)
           (case side2 => exact HC205_2.out)
           rintro e w30 ⟨v210, rfl, ho0, hb⟩
           refine ⟨_, rfl, ?_⟩
           have HO211 := am (Kd.S_lower ho0 (below_size (sbw)))
           replace BK202 := bb BK202 hb
           replace BK206 := bb BK206 hb
           replace HB := bsw hb
           (try clear hb)
           (try clear hb2)
           (try clear hk)
           (try clear hi)
           (try clear ho0)
           obtain ⟨Ao31, co31, eo31⟩ := Kd.S_slice HO211.out
           (first | subst eo31 | (injection eo31 with f1_ f2_ f3_; have f4_ := f1_.symm; have f5_ := f3_.symm; clear f1_ f2_ f3_; subst f4_; subst f5_))
           refine hK.out _ _ ⟨bc0 BK206, bc1 BK206, bc2 BK206, bc3 BK206, bc0 BK202, bc1 BK202, bc2 BK202, bc3 BK202, (hb_ HB hw208_0), (hb_ HB hw208_1), (hb_ HB hw208_2), (hb_ HB hw208_3)⟩ (fun hHeld => ?_)
           clear hK K
           refine nm 59 ?_
           refine one_ (i := 32) (N := some 60) (bt 35 8589934591) rfl rfl (one_of HT_.out (by kernel_rfl)) (by decide) (fun K hK => ?_)
           refine goes_ Try.func96 (by kernel_rfl) rfl #[.slice A205_3 ((rd_T105 l0_3 x23_2).f2).length c205_3, .slice Ao31 t209.length co31, .func (.func 98) #[] #[]] (by rfl) rfl rfl sl ?_
           with_reducible refine (impl_Table.calls k2 _ _ ((rd_T105 l0_3 x23_2).f2) _ _ t209 0 true _ ?side1 ?side2 ?side3 ?side4 A22.out).mono ?_
           (case side1 => exact cb HR205_3)
           (case side2 => exact HC205_3.out)
           (case side3 => repeat (first | exact (Kd.S_reads' HO211.out).2.2 | (with_reducible refine Kd.C_alloc ?_ _) | (with_reducible refine Kd.C_drewN ?_ _) | (with_reducible refine Kd.C_drew ?_)))
           (case side4 => exact (Kd.S_reads' HO211.out).2.1)
           rintro e w32 ⟨rfl, hb⟩
           refine ⟨_, rfl, ?_⟩
           replace HO211 := am (Kd.S_below (ss HO211) hb)
           replace BK202 := bb BK202 hb
           replace BK206 := bb BK206 hb
           replace HB := bsw hb
           (try clear hb)
           (try clear hb2)
           (try clear hk)
           (try clear hi)
           refine hK.out _ _ ⟨bc0 BK206, bc1 BK206, bc2 BK206, bc3 BK206, bc0 BK202, bc1 BK202, bc2 BK202, bc3 BK202, (hb_ HB hw208_0), (hb_ HB hw208_1), (hb_ HB hw208_2), (hb_ HB hw208_3)⟩ (fun hHeld => ?_)
           clear hK K
           refine nm 60 ?_
           refine put 33 61 (bt 35 17179869183) HT_ ?_
           refine put 34 62 (bt 35 34359738367) HT_ ?_
           refine done_ (done_of HT_.out (by kernel_rfl)) ?_
           try go_wp2
           go_roundg k2
           case measure => have := HJ1.out; have := HK2.out; omega
           case rel => exact ⟨(wrap64 (x23_2 + 1)), sc, H', ⟨by have := HJ1.out; have := HK2.out; omega⟩, ⟨sk BK202⟩, ⟨sbw⟩⟩
          ·replace H := im H
           obtain rfl := Option.some.inj H
           obtain ⟨p205, q205, ad205, A205_2, c205_2, A205_3, c205_3, e205, _, _, _, _, hx205_0, hx205_1, hx205_2, hx205_3, HC205_2, HR205_2, HC205_3, HR205_3⟩ := aT_T105 HR0_3 HB x23_2
           cases e205
           try go_wp2_with (first | ((with_reducible refine gd 4 rfl ?_); (try (refine gate_guard (by rfl) ?_; dsimp only)); refine bx 4 #[.int .i64 0, .int .i64 0, .slice none 0 0, .slice none 0 0] 105 ?_; intro gb206 hg w33 hbox hb; have GW206 := bzw w hg; have GE206 := bzw w hg; replace HB := bsw hb; have BK206 := am hbox; have NB202_206 := nl BK202 hg; have NB206_202 := ng BK202 hg; replace BK202 := bb BK202 hb; clear hb hbox hg; have hnb34 := NB206_202.out; have hnc34 := NB202_206.out; obtain ⟨hcz35_0, hcz35_1, hcz35_2, hcz35_3, hfz35_0, hfz35_1, hfz35_2, hfz35_3⟩ := cc4 BK206))
           have n0_ : Aside0 (((((w33.setCell ⟨gb206, 0, none⟩ (.int .i64 ((rd_T105 l0_3 x23_2).f0.f0))).setCell ⟨gb206, 1, none⟩ (.int .i64 ((rd_T105 l0_3 x23_2).f0.f1))).setCell ⟨gb206, 2, none⟩ (.slice A205_2 ((rd_T105 l0_3 x23_2).f1).length c205_2)).setCell ⟨gb206, 3, none⟩ (.slice A205_3 ((rd_T105 l0_3 x23_2).f2).length c205_3)).heap[gb202]? = some (.cells #[.int .i64 a0_0, .int .i64 a0_1, .int .i64 a0_2, .slice (some ad205) l0_3.length c0_3] 31 (0, 0))) := ⟨sp BK202⟩
           have n1_ : Aside0 (((((w33.setCell ⟨gb206, 0, none⟩ (.int .i64 ((rd_T105 l0_3 x23_2).f0.f0))).setCell ⟨gb206, 1, none⟩ (.int .i64 ((rd_T105 l0_3 x23_2).f0.f1))).setCell ⟨gb206, 2, none⟩ (.slice A205_2 ((rd_T105 l0_3 x23_2).f1).length c205_2)).setCell ⟨gb206, 3, none⟩ (.slice A205_3 ((rd_T105 l0_3 x23_2).f2).length c205_3)).heap[gb206]? = some (.cells #[.int .i64 ((rd_T105 l0_3 x23_2).f0.f0), .int .i64 ((rd_T105 l0_3 x23_2).f0.f1), .slice A205_2 ((rd_T105 l0_3 x23_2).f1).length c205_2, .slice A205_3 ((rd_T105 l0_3 x23_2).f2).length c205_3] 105 (0, 0))) := ⟨sp BK206⟩
           have n2_ : Aside0 (Below w.heap.size w ((((w33.setCell ⟨gb206, 0, none⟩ (.int .i64 ((rd_T105 l0_3 x23_2).f0.f0))).setCell ⟨gb206, 1, none⟩ (.int .i64 ((rd_T105 l0_3 x23_2).f0.f1))).setCell ⟨gb206, 2, none⟩ (.slice A205_2 ((rd_T105 l0_3 x23_2).f1).length c205_2)).setCell ⟨gb206, 3, none⟩ (.slice A205_3 ((rd_T105 l0_3 x23_2).f2).length c205_3))) := ⟨sbw⟩
           (try clear BK202)
           (try clear BK206)
           (try clear HB)
           generalize ((((w33.setCell ⟨gb206, 0, none⟩ (.int .i64 ((rd_T105 l0_3 x23_2).f0.f0))).setCell ⟨gb206, 1, none⟩ (.int .i64 ((rd_T105 l0_3 x23_2).f0.f1))).setCell ⟨gb206, 2, none⟩ (.slice A205_2 ((rd_T105 l0_3 x23_2).f1).length c205_2)).setCell ⟨gb206, 3, none⟩ (.slice A205_3 ((rd_T105 l0_3 x23_2).f2).length c205_3)) = w36 at n0_ n1_ n2_ ⊢
           have BK202 := n0_
           have BK206 := n1_
           have HB := n2_
           clear n0_ n1_ n2_
           replace BK202 := am (blk_drew BK202.out)
           replace BK206 := am (blk_drew BK206.out)
           replace HB := am (below_drew1 HB.out)
           obtain ⟨p208, q208, ad208, A208_2, c208_2, A208_3, c208_3, e208, hw208_0, hw208_1, hw208_2, hw208_3, hx208_0, hx208_1, hx208_2, hx208_3, HC208_2, HR208_2, HC208_3, HR208_3⟩ := aT_T105 HR0_3 HB (ji17)
           obtain rfl : ad205 = ad208 := (by injection e208)
           refine start_ (n := 35) (S := fun w' => w'.cell? ⟨gb206, 0, none⟩ = some (.int .i64 ((rd_T105 l0_3 x23_2).f0.f0)) ∧ w'.cell? ⟨gb206, 1, none⟩ = some (.int .i64 ((rd_T105 l0_3 x23_2).f0.f1)) ∧ w'.cell? ⟨gb206, 2, none⟩ = some (.slice A205_2 ((rd_T105 l0_3 x23_2).f1).length c205_2) ∧ w'.cell? ⟨gb206, 3, none⟩ = some (.slice A205_3 ((rd_T105 l0_3 x23_2).f2).length c205_3) ∧ w'.cell? ⟨gb202, 0, none⟩ = some (.int .i64 a0_0) ∧ w'.cell? ⟨gb202, 1, none⟩ = some (.int .i64 a0_1) ∧ w'.cell? ⟨gb202, 2, none⟩ = some (.int .i64 a0_2) ∧ w'.cell? ⟨gb202, 3, none⟩ = some (.slice (some ad205) l0_3.length c0_3) ∧ w'.cell? (ad205.add (((ji17)).toNat * 4)) = some (.int .i64 ((rd_T105 l0_3 (ji17)).f0.f0)) ∧ w'.cell? ⟨(ad205.add (((ji17)).toNat * 4)).block, (ad205.add (((ji17)).toNat * 4)).off + 1, none⟩ = some (.int .i64 ((rd_T105 l0_3 (ji17)).f0.f1)) ∧ w'.cell? ⟨(ad205.add (((ji17)).toNat * 4)).block, (ad205.add (((ji17)).toNat * 4)).off + 2, none⟩ = some (.slice A208_2 ((rd_T105 l0_3 (ji17)).f1).length c208_2) ∧ w'.cell? ⟨(ad205.add (((ji17)).toNat * 4)).block, (ad205.add (((ji17)).toNat * 4)).off + 3, none⟩ = some (.slice A208_3 ((rd_T105 l0_3 (ji17)).f2).length c208_3)) (ds := []) #[false, false, false, false, false, false, false, false, false, false, false, false, false, false, false, false, false, false, false, false, false, false, false, false, false, false, false, false, false, false, false, false, false, false, false] (by kernel_rfl) rfl rfl ⟨bc0 BK206, bc1 BK206, bc2 BK206, bc3 BK206, bc0 BK202, bc1 BK202, bc2 BK202, bc3 BK202, (hb_ HB hw208_0), (hb_ HB hw208_1), (hb_ HB hw208_2), (hb_ HB hw208_3)⟩ (fun hHeld => ?_); refine with_tabW impl_IsProgram.tab6 impl_IsProgram.bits6 (fun HT_ HW_ => ?_)
           generalize w36.drew = w37 at BK202 BK206 HB HR208_2 HR208_3 hx208_0 hx208_1 hx208_2 hx208_3 hHeld ⊢
           refine put 0 28 (bt 35 1) HT_ ?_
           refine tat12 1 29 (bt 35 3) HT_ HW_ hHeld ?_
           refine one_ (i := 2) (N := some 30) (bt 35 7) rfl rfl (one_of HT_.out (by kernel_rfl)) (by decide) (fun K hK => ?_)
           refine goes_ Try.func79 (by kernel_rfl) rfl #[.agg #[.int .i64 ((rd_T105 l0_3 x23_2).f0.f0), .int .i64 ((rd_T105 l0_3 x23_2).f0.f1)]] (by rfl) rfl rfl sl ?_
           with_reducible refine (impl_IsSpan.calls ((rd_T105 l0_3 x23_2).f0.f0) ((rd_T105 l0_3 x23_2).f0.f1) true _ A14.out).mono ?_
           rintro e w38 ⟨rfl, hb⟩
           refine ⟨_, rfl, ?_⟩
           replace BK202 := bb BK202 hb
           replace BK206 := bb BK206 hb
           replace HB := bsw hb
           (try clear hb)
           (try clear hb2)
           (try clear hk)
           (try clear hi)
           refine hK.out _ _ ⟨bc0 BK206, bc1 BK206, bc2 BK206, bc3 BK206, bc0 BK202, bc1 BK202, bc2 BK202, bc3 BK202, (hb_ HB hw208_0), (hb_ HB hw208_1), (hb_ HB hw208_2), (hb_ HB hw208_3)⟩ (fun hHeld => ?_)
           clear hK K
           refine nm 30 ?_
           refine put 3 31 (bt 35 15) HT_ ?_
           refine put 4 32 (bt 35 31) HT_ ?_
           refine put 5 33 (bt 35 63) HT_ ?_
           refine put 6 34 (bt 35 127) HT_ ?_
           refine put 7 35 (bt 35 255) HT_ ?_
           refine put 8 36 (bt 35 511) HT_ ?_
           refine put 9 37 (bt 35 1023) HT_ ?_
           refine put 11 39 (bt 35 3071) HT_ ?_
           refine put 13 41 (bt 35 11263) HT_ ?_
           refine put 14 42 (bt 35 27647) HT_ ?_
           refine tat12 10 38 (bt 35 28671) HT_ HW_ hHeld ?_
           refine tat12 12 40 (bt 35 32767) HT_ HW_ hHeld ?_
           refine put 15 43 (bt 35 65535) HT_ ?_
           refine put 16 44 (bt 35 131071) HT_ ?_
           refine put 17 45 (bt 35 262143) HT_ ?_
           refine tat12 18 46 (bt 35 524287) HT_ HW_ hHeld ?_
           refine put 19 47 (bt 35 1048575) HT_ ?_
           refine put 20 48 (bt 35 2097151) HT_ ?_
           refine put 21 49 (bt 35 4194303) HT_ ?_
           refine put 22 50 (bt 35 8388607) HT_ ?_
           refine put 23 51 (bt 35 16777215) HT_ ?_
           refine put 25 53 (bt 35 50331647) HT_ ?_
           refine put 27 55 (bt 35 184549375) HT_ ?_
           refine put 29 57 (bt 35 721420287) HT_ ?_
           refine tat12 24 52 (bt 35 738197503) HT_ HW_ hHeld ?_
           refine tat12 26 54 (bt 35 805306367) HT_ HW_ hHeld ?_
           refine tat12 28 56 (bt 35 1073741823) HT_ HW_ hHeld ?_
           refine tat12 30 58 (bt 35 2147483647) HT_ HW_ hHeld ?_
           refine one_ (i := 31) (N := some 59) (bt 35 4294967295) rfl rfl (one_of HT_.out (by kernel_rfl)) (by decide) (fun K hK => ?_)
           refine goes_ Try.func97 (by kernel_rfl) rfl #[.slice A205_2 ((rd_T105 l0_3 x23_2).f1).length c205_2, .int .i64 a0_0, .int .i64 a0_1] (by rfl) rfl rfl sl ?_
           with_reducible refine (impl_tablesOf.calls k2 _ _ ((rd_T105 l0_3 x23_2).f1) a0_0 a0_1 t209 _ ?side1 ?side2 A21.out).mono ?_
           (case side1 => exact cb HR205_2)
           (case side2 => exact HC205_2.out)
           rintro e w39 ⟨v210, rfl, ho0, hb⟩
           refine ⟨_, rfl, ?_⟩
           have HO211 := am (Kd.S_lower ho0 (below_size (sbw)))
           replace BK202 := bb BK202 hb
           replace BK206 := bb BK206 hb
           replace HB := bsw hb
           (try clear hb)
           (try clear hb2)
           (try clear hk)
           (try clear hi)
           (try clear ho0)
           obtain ⟨Ao40, co40, eo40⟩ := Kd.S_slice HO211.out
           (first | subst eo40 | (injection eo40 with f1_ f2_ f3_; have f4_ := f1_.symm; have f5_ := f3_.symm; clear f1_ f2_ f3_; subst f4_; subst f5_))
           refine hK.out _ _ ⟨bc0 BK206, bc1 BK206, bc2 BK206, bc3 BK206, bc0 BK202, bc1 BK202, bc2 BK202, bc3 BK202, (hb_ HB hw208_0), (hb_ HB hw208_1), (hb_ HB hw208_2), (hb_ HB hw208_3)⟩ (fun hHeld => ?_)
           clear hK K
           refine nm 59 ?_
           refine one_ (i := 32) (N := some 60) (bt 35 8589934591) rfl rfl (one_of HT_.out (by kernel_rfl)) (by decide) (fun K hK => ?_)
           refine goes_ Try.func96 (by kernel_rfl) rfl #[.slice A205_3 ((rd_T105 l0_3 x23_2).f2).length c205_3, .slice Ao40 t209.length co40, .func (.func 98) #[] #[]] (by rfl) rfl rfl sl ?_
           with_reducible refine (impl_Table.calls k2 _ _ ((rd_T105 l0_3 x23_2).f2) _ _ t209 0 false _ ?side1 ?side2 ?side3 ?side4 A22.out).mono ?_
           (case side1 => exact cb HR205_3)
           (case side2 => exact HC205_3.out)
           (case side3 => repeat (first | exact (Kd.S_reads' HO211.out).2.2 | (with_reducible refine Kd.C_alloc ?_ _) | (with_reducible refine Kd.C_drewN ?_ _) | (with_reducible refine Kd.C_drew ?_)))
           (case side4 => exact (Kd.S_reads' HO211.out).2.1)
           rintro e w41 ⟨rfl, hb⟩
           refine ⟨_, rfl, ?_⟩
           replace HO211 := am (Kd.S_below (ss HO211) hb)
           replace BK202 := bb BK202 hb
           replace BK206 := bb BK206 hb
           replace HB := bsw hb
           (try clear hb)
           (try clear hb2)
           (try clear hk)
           (try clear hi)
           refine hK.out _ _ ⟨bc0 BK206, bc1 BK206, bc2 BK206, bc3 BK206, bc0 BK202, bc1 BK202, bc2 BK202, bc3 BK202, (hb_ HB hw208_0), (hb_ HB hw208_1), (hb_ HB hw208_2), (hb_ HB hw208_3)⟩ (fun hHeld => ?_)
           clear hK K
           refine nm 60 ?_
           refine put 33 61 (bt 35 17179869183) HT_ ?_
           refine put 34 62 (bt 35 34359738367) HT_ ?_
           refine done_ (done_of HT_.out (by kernel_rfl)) ?_
           try go_wp2
           go_ret
           exact ⟨by first | rfl | (simp [errW_none, errW_some] <;> rfl) | (simp only [← hji17]; first | rfl | (simp [errW_none, errW_some] <;> rfl)) | (simp [*, errW_none, errW_some] <;> rfl), sbw⟩
         ·have c20b0 : (((rd_T105 l0_3 x23_2).f0.f0) == ((rd_T105 l0_3 (ji17)).f0.f1)) = false := beq_eq_false_iff_ne.mpr c20
          have c20b1 : (((rd_T105 l0_3 x23_2).f0.f0) != ((rd_T105 l0_3 (ji17)).f0.f1)) = true := bne_iff_ne.mpr c20
          obtain rfl := Option.some.inj H
          obtain ⟨p205, q205, ad205, A205_2, c205_2, A205_3, c205_3, e205, _, _, _, _, hx205_0, hx205_1, hx205_2, hx205_3, HC205_2, HR205_2, HC205_3, HR205_3⟩ := aT_T105 HR0_3 HB x23_2
          cases e205
          try go_wp2_with (first | ((with_reducible refine gd 4 rfl ?_); (try (refine gate_guard (by rfl) ?_; dsimp only)); refine bx 4 #[.int .i64 0, .int .i64 0, .slice none 0 0, .slice none 0 0] 105 ?_; intro gb206 hg w42 hbox hb; have GW206 := bzw w hg; have GE206 := bzw w hg; replace HB := bsw hb; have BK206 := am hbox; have NB202_206 := nl BK202 hg; have NB206_202 := ng BK202 hg; replace BK202 := bb BK202 hb; clear hb hbox hg; have hnb43 := NB206_202.out; have hnc43 := NB202_206.out; obtain ⟨hcz44_0, hcz44_1, hcz44_2, hcz44_3, hfz44_0, hfz44_1, hfz44_2, hfz44_3⟩ := cc4 BK206))
          have n0_ : Aside0 (((((w42.setCell ⟨gb206, 0, none⟩ (.int .i64 ((rd_T105 l0_3 x23_2).f0.f0))).setCell ⟨gb206, 1, none⟩ (.int .i64 ((rd_T105 l0_3 x23_2).f0.f1))).setCell ⟨gb206, 2, none⟩ (.slice A205_2 ((rd_T105 l0_3 x23_2).f1).length c205_2)).setCell ⟨gb206, 3, none⟩ (.slice A205_3 ((rd_T105 l0_3 x23_2).f2).length c205_3)).heap[gb202]? = some (.cells #[.int .i64 a0_0, .int .i64 a0_1, .int .i64 a0_2, .slice (some ad205) l0_3.length c0_3] 31 (0, 0))) := ⟨sp BK202⟩
          have n1_ : Aside0 (((((w42.setCell ⟨gb206, 0, none⟩ (.int .i64 ((rd_T105 l0_3 x23_2).f0.f0))).setCell ⟨gb206, 1, none⟩ (.int .i64 ((rd_T105 l0_3 x23_2).f0.f1))).setCell ⟨gb206, 2, none⟩ (.slice A205_2 ((rd_T105 l0_3 x23_2).f1).length c205_2)).setCell ⟨gb206, 3, none⟩ (.slice A205_3 ((rd_T105 l0_3 x23_2).f2).length c205_3)).heap[gb206]? = some (.cells #[.int .i64 ((rd_T105 l0_3 x23_2).f0.f0), .int .i64 ((rd_T105 l0_3 x23_2).f0.f1), .slice A205_2 ((rd_T105 l0_3 x23_2).f1).length c205_2, .slice A205_3 ((rd_T105 l0_3 x23_2).f2).length c205_3] 105 (0, 0))) := ⟨sp BK206⟩
          have n2_ : Aside0 (Below w.heap.size w ((((w42.setCell ⟨gb206, 0, none⟩ (.int .i64 ((rd_T105 l0_3 x23_2).f0.f0))).setCell ⟨gb206, 1, none⟩ (.int .i64 ((rd_T105 l0_3 x23_2).f0.f1))).setCell ⟨gb206, 2, none⟩ (.slice A205_2 ((rd_T105 l0_3 x23_2).f1).length c205_2)).setCell ⟨gb206, 3, none⟩ (.slice A205_3 ((rd_T105 l0_3 x23_2).f2).length c205_3))) := ⟨sbw⟩
          (try clear BK202)
          (try clear BK206)
          (try clear HB)
          generalize ((((w42.setCell ⟨gb206, 0, none⟩ (.int .i64 ((rd_T105 l0_3 x23_2).f0.f0))).setCell ⟨gb206, 1, none⟩ (.int .i64 ((rd_T105 l0_3 x23_2).f0.f1))).setCell ⟨gb206, 2, none⟩ (.slice A205_2 ((rd_T105 l0_3 x23_2).f1).length c205_2)).setCell ⟨gb206, 3, none⟩ (.slice A205_3 ((rd_T105 l0_3 x23_2).f2).length c205_3)) = w45 at n0_ n1_ n2_ ⊢
          have BK202 := n0_
          have BK206 := n1_
          have HB := n2_
          clear n0_ n1_ n2_
          replace BK202 := am (blk_drew BK202.out)
          replace BK206 := am (blk_drew BK206.out)
          replace HB := am (below_drew1 HB.out)
          obtain ⟨p208, q208, ad208, A208_2, c208_2, A208_3, c208_3, e208, hw208_0, hw208_1, hw208_2, hw208_3, hx208_0, hx208_1, hx208_2, hx208_3, HC208_2, HR208_2, HC208_3, HR208_3⟩ := aT_T105 HR0_3 HB (ji17)
          obtain rfl : ad205 = ad208 := (by injection e208)
          refine start_ (n := 35) (S := fun w' => w'.cell? ⟨gb206, 0, none⟩ = some (.int .i64 ((rd_T105 l0_3 x23_2).f0.f0)) ∧ w'.cell? ⟨gb206, 1, none⟩ = some (.int .i64 ((rd_T105 l0_3 x23_2).f0.f1)) ∧ w'.cell? ⟨gb206, 2, none⟩ = some (.slice A205_2 ((rd_T105 l0_3 x23_2).f1).length c205_2) ∧ w'.cell? ⟨gb206, 3, none⟩ = some (.slice A205_3 ((rd_T105 l0_3 x23_2).f2).length c205_3) ∧ w'.cell? ⟨gb202, 0, none⟩ = some (.int .i64 a0_0) ∧ w'.cell? ⟨gb202, 1, none⟩ = some (.int .i64 a0_1) ∧ w'.cell? ⟨gb202, 2, none⟩ = some (.int .i64 a0_2) ∧ w'.cell? ⟨gb202, 3, none⟩ = some (.slice (some ad205) l0_3.length c0_3) ∧ w'.cell? (ad205.add (((ji17)).toNat * 4)) = some (.int .i64 ((rd_T105 l0_3 (ji17)).f0.f0)) ∧ w'.cell? ⟨(ad205.add (((ji17)).toNat * 4)).block, (ad205.add (((ji17)).toNat * 4)).off + 1, none⟩ = some (.int .i64 ((rd_T105 l0_3 (ji17)).f0.f1)) ∧ w'.cell? ⟨(ad205.add (((ji17)).toNat * 4)).block, (ad205.add (((ji17)).toNat * 4)).off + 2, none⟩ = some (.slice A208_2 ((rd_T105 l0_3 (ji17)).f1).length c208_2) ∧ w'.cell? ⟨(ad205.add (((ji17)).toNat * 4)).block, (ad205.add (((ji17)).toNat * 4)).off + 3, none⟩ = some (.slice A208_3 ((rd_T105 l0_3 (ji17)).f2).length c208_3)) (ds := []) #[false, false, false, false, false, false, false, false, false, false, false, false, false, false, false, false, false, false, false, false, false, false, false, false, false, false, false, false, false, false, false, false, false, false, false] (by kernel_rfl) rfl rfl ⟨bc0 BK206, bc1 BK206, bc2 BK206, bc3 BK206, bc0 BK202, bc1 BK202, bc2 BK202, bc3 BK202, (hb_ HB hw208_0), (hb_ HB hw208_1), (hb_ HB hw208_2), (hb_ HB hw208_3)⟩ (fun hHeld => ?_); refine with_tabW impl_IsProgram.tab6 impl_IsProgram.bits6 (fun HT_ HW_ => ?_)
          generalize w45.drew = w46 at BK202 BK206 HB HR208_2 HR208_3 hx208_0 hx208_1 hx208_2 hx208_3 hHeld ⊢
          refine put 0 28 (bt 35 1) HT_ ?_
          refine tat12 1 29 (bt 35 3) HT_ HW_ hHeld ?_
          refine one_ (i := 2) (N := some 30) (bt 35 7) rfl rfl (one_of HT_.out (by kernel_rfl)) (by decide) (fun K hK => ?_)
          refine goes_ Try.func79 (by kernel_rfl) rfl #[.agg #[.int .i64 ((rd_T105 l0_3 x23_2).f0.f0), .int .i64 ((rd_T105 l0_3 x23_2).f0.f1)]] (by rfl) rfl rfl sl ?_
          with_reducible refine (impl_IsSpan.calls ((rd_T105 l0_3 x23_2).f0.f0) ((rd_T105 l0_3 x23_2).f0.f1) true _ A14.out).mono ?_
          rintro e w47 ⟨rfl, hb⟩
          refine ⟨_, rfl, ?_⟩
          replace BK202 := bb BK202 hb
          replace BK206 := bb BK206 hb
          replace HB := bsw hb
          (try clear hb)
          (try clear hb2)
          (try clear hk)
          (try clear hi)
          refine hK.out _ _ ⟨bc0 BK206, bc1 BK206, bc2 BK206, bc3 BK206, bc0 BK202, bc1 BK202, bc2 BK202, bc3 BK202, (hb_ HB hw208_0), (hb_ HB hw208_1), (hb_ HB hw208_2), (hb_ HB hw208_3)⟩ (fun hHeld => ?_)
          clear hK K
          refine nm 30 ?_
          refine put 3 31 (bt 35 15) HT_ ?_
          refine put 4 32 (bt 35 31) HT_ ?_
          refine put 5 33 (bt 35 63) HT_ ?_
          refine put 6 34 (bt 35 127) HT_ ?_
          refine put 7 35 (bt 35 255) HT_ ?_
          refine put 8 36 (bt 35 511) HT_ ?_
          refine put 9 37 (bt 35 1023) HT_ ?_
          refine put 11 39 (bt 35 3071) HT_ ?_
          refine put 13 41 (bt 35 11263) HT_ ?_
          refine put 14 42 (bt 35 27647) HT_ ?_
          refine tat12 10 38 (bt 35 28671) HT_ HW_ hHeld ?_
          refine tat12 12 40 (bt 35 32767) HT_ HW_ hHeld ?_
          refine put 15 43 (bt 35 65535) HT_ ?_
          refine put 16 44 (bt 35 131071) HT_ ?_
          refine put 17 45 (bt 35 262143) HT_ ?_
          refine tat12 18 46 (bt 35 524287) HT_ HW_ hHeld ?_
          refine put 19 47 (bt 35 1048575) HT_ ?_
          refine put 20 48 (bt 35 2097151) HT_ ?_
          refine put 21 49 (bt 35 4194303) HT_ ?_
          refine put 22 50 (bt 35 8388607) HT_ ?_
          refine pn 23 51 (bt 35 16777215) HT_ ?_
          refine pn 24 52 (bt 35 33554431) HT_ ?_
          refine pn 25 53 (bt 35 67108863) HT_ ?_
          refine pn 26 54 (bt 35 134217727) HT_ ?_
          refine pn 27 55 (bt 35 268435455) HT_ ?_
          refine pn 28 56 (bt 35 536870911) HT_ ?_
          refine pn 29 57 (bt 35 1073741823) HT_ ?_
          refine pn 30 58 (bt 35 2147483647) HT_ ?_
          refine pn 31 59 (bt 35 4294967295) HT_ ?_
          refine pn 32 60 (bt 35 8589934591) HT_ ?_
          refine pn 33 61 (bt 35 17179869183) HT_ ?_
          refine put 34 62 (bt 35 34359738367) HT_ ?_
          refine done_ (done_of HT_.out (by kernel_rfl)) ?_
          try go_wp2
          go_ret
          exact ⟨by first | rfl | (simp [errW_none, errW_some] <;> rfl) | (simp only [← hji17]; first | rfl | (simp [errW_none, errW_some] <;> rfl)) | (simp [*, errW_none, errW_some] <;> rfl), sbw⟩
        ·have c16b0 := decide_eq_false c16
         clear c16
         obtain ⟨t213, A48, H⟩ := bnd H
         obtain ⟨t216, A49, H⟩ := bnd H
         obtain rfl | rfl := tt t216
         ·replace H := ip H
          have H' := am H
          clear H
          obtain ⟨p205, q205, ad205, A205_2, c205_2, A205_3, c205_3, e205, _, _, _, _, hx205_0, hx205_1, hx205_2, hx205_3, HC205_2, HR205_2, HC205_3, HR205_3⟩ := aT_T105 HR0_3 HB x23_2
          cases e205
          try go_wp2_with (first | ((with_reducible refine gd 4 rfl ?_); (try (refine gate_guard (by rfl) ?_; dsimp only)); refine bx 4 #[.int .i64 0, .int .i64 0, .slice none 0 0, .slice none 0 0] 105 ?_; intro gb206 hg w51 hbox hb; have GW206 := bzw w hg; have GE206 := bzw w hg; replace HB := bsw hb; have BK206 := am hbox; have NB202_206 := nl BK202 hg; have NB206_202 := ng BK202 hg; replace BK202 := bb BK202 hb; clear hb hbox hg; have hnb52 := NB206_202.out; have hnc52 := NB202_206.out; obtain ⟨hcz53_0, hcz53_1, hcz53_2, hcz53_3, hfz53_0, hfz53_1, hfz53_2, hfz53_3⟩ := cc4 BK206))
          have n0_ : Aside0 (((((w51.setCell ⟨gb206, 0, none⟩ (.int .i64 ((rd_T105 l0_3 x23_2).f0.f0))).setCell ⟨gb206, 1, none⟩ (.int .i64 ((rd_T105 l0_3 x23_2).f0.f1))).setCell ⟨gb206, 2, none⟩ (.slice A205_2 ((rd_T105 l0_3 x23_2).f1).length c205_2)).setCell ⟨gb206, 3, none⟩ (.slice A205_3 ((rd_T105 l0_3 x23_2).f2).length c205_3)).heap[gb202]? = some (.cells #[.int .i64 a0_0, .int .i64 a0_1, .int .i64 a0_2, .slice (some ad205) l0_3.length c0_3] 31 (0, 0))) := ⟨sp BK202⟩
          have n1_ : Aside0 (((((w51.setCell ⟨gb206, 0, none⟩ (.int .i64 ((rd_T105 l0_3 x23_2).f0.f0))).setCell ⟨gb206, 1, none⟩ (.int .i64 ((rd_T105 l0_3 x23_2).f0.f1))).setCell ⟨gb206, 2, none⟩ (.slice A205_2 ((rd_T105 l0_3 x23_2).f1).length c205_2)).setCell ⟨gb206, 3, none⟩ (.slice A205_3 ((rd_T105 l0_3 x23_2).f2).length c205_3)).heap[gb206]? = some (.cells #[.int .i64 ((rd_T105 l0_3 x23_2).f0.f0), .int .i64 ((rd_T105 l0_3 x23_2).f0.f1), .slice A205_2 ((rd_T105 l0_3 x23_2).f1).length c205_2, .slice A205_3 ((rd_T105 l0_3 x23_2).f2).length c205_3] 105 (0, 0))) := ⟨sp BK206⟩
          have n2_ : Aside0 (Below w.heap.size w ((((w51.setCell ⟨gb206, 0, none⟩ (.int .i64 ((rd_T105 l0_3 x23_2).f0.f0))).setCell ⟨gb206, 1, none⟩ (.int .i64 ((rd_T105 l0_3 x23_2).f0.f1))).setCell ⟨gb206, 2, none⟩ (.slice A205_2 ((rd_T105 l0_3 x23_2).f1).length c205_2)).setCell ⟨gb206, 3, none⟩ (.slice A205_3 ((rd_T105 l0_3 x23_2).f2).length c205_3))) := ⟨sbw⟩
          (try clear BK202)
          (try clear BK206)
          (try clear HB)
          generalize ((((w51.setCell ⟨gb206, 0, none⟩ (.int .i64 ((rd_T105 l0_3 x23_2).f0.f0))).setCell ⟨gb206, 1, none⟩ (.int .i64 ((rd_T105 l0_3 x23_2).f0.f1))).setCell ⟨gb206, 2, none⟩ (.slice A205_2 ((rd_T105 l0_3 x23_2).f1).length c205_2)).setCell ⟨gb206, 3, none⟩ (.slice A205_3 ((rd_T105 l0_3 x23_2).f2).length c205_3)) = w54 at n0_ n1_ n2_ ⊢
          have BK202 := n0_
          have BK206 := n1_
          have HB := n2_
          clear n0_ n1_ n2_
          replace BK202 := am (blk_drew BK202.out)
          replace BK206 := am (blk_drew BK206.out)
          replace HB := am (below_drew1 HB.out)
          refine start_ (n := 35) (S := fun w' => w'.cell? ⟨gb206, 0, none⟩ = some (.int .i64 ((rd_T105 l0_3 x23_2).f0.f0)) ∧ w'.cell? ⟨gb206, 1, none⟩ = some (.int .i64 ((rd_T105 l0_3 x23_2).f0.f1)) ∧ w'.cell? ⟨gb206, 2, none⟩ = some (.slice A205_2 ((rd_T105 l0_3 x23_2).f1).length c205_2) ∧ w'.cell? ⟨gb206, 3, none⟩ = some (.slice A205_3 ((rd_T105 l0_3 x23_2).f2).length c205_3) ∧ w'.cell? ⟨gb202, 0, none⟩ = some (.int .i64 a0_0) ∧ w'.cell? ⟨gb202, 1, none⟩ = some (.int .i64 a0_1) ∧ w'.cell? ⟨gb202, 2, none⟩ = some (.int .i64 a0_2) ∧ w'.cell? ⟨gb202, 3, none⟩ = some (.slice (some ad205) l0_3.length c0_3)) (ds := []) #[false, false, false, false, false, false, false, false, false, false, false, false, false, false, false, false, false, false, false, false, false, false, false, false, false, false, false, false, false, false, false, false, false, false, false] (by kernel_rfl) rfl rfl ⟨bc0 BK206, bc1 BK206, bc2 BK206, bc3 BK206, bc0 BK202, bc1 BK202, bc2 BK202, bc3 BK202⟩ (fun hHeld => ?_); refine with_tabW impl_IsProgram.tab6 impl_IsProgram.bits6 (fun HT_ HW_ => ?_)
          generalize w54.drew = w55 at BK202 BK206 HB hHeld ⊢
          refine put 0 28 (bt 35 1) HT_ ?_
          refine tat8 1 29 (bt 35 3) HT_ HW_ hHeld ?_
          refine one_ (i := 2) (N := some 30) (bt 35 7) rfl rfl (one_of HT_.out (by kernel_rfl)) (by decide) (fun K hK => ?_)
          refine goes_ Try.func79 (by kernel_rfl) rfl #[.agg #[.int .i64 ((rd_T105 l0_3 x23_2).f0.f0), .int .i64 ((rd_T105 l0_3 x23_2).f0.f1)]] (by rfl) rfl rfl sl ?_
          with_reducible refine (impl_IsSpan.calls ((rd_T105 l0_3 x23_2).f0.f0) ((rd_T105 l0_3 x23_2).f0.f1) true _ A14.out).mono ?_
          rintro e w56 ⟨rfl, hb⟩
          refine ⟨_, rfl, ?_⟩
          replace BK202 := bb BK202 hb
          replace BK206 := bb BK206 hb
          replace HB := bsw hb
          (try clear hb)
          (try clear hb2)
          (try clear hk)
          (try clear hi)
          refine hK.out _ _ ⟨bc0 BK206, bc1 BK206, bc2 BK206, bc3 BK206, bc0 BK202, bc1 BK202, bc2 BK202, bc3 BK202⟩ (fun hHeld => ?_)
          clear hK K
          refine nm 30 ?_
          refine put 3 31 (bt 35 15) HT_ ?_
          refine put 4 32 (bt 35 31) HT_ ?_
          refine put 5 33 (bt 35 63) HT_ ?_
          refine put 6 34 (bt 35 127) HT_ ?_
          refine put 7 35 (bt 35 255) HT_ ?_
          refine pn 8 36 (bt 35 511) HT_ ?_
          refine pn 9 37 (bt 35 1023) HT_ ?_
          refine pn 10 38 (bt 35 2047) HT_ ?_
          refine pn 11 39 (bt 35 4095) HT_ ?_
          refine pn 12 40 (bt 35 8191) HT_ ?_
          refine pn 13 41 (bt 35 16383) HT_ ?_
          refine pn 14 42 (bt 35 32767) HT_ ?_
          refine pn 15 43 (bt 35 65535) HT_ ?_
          refine pn 16 44 (bt 35 131071) HT_ ?_
          refine pn 17 45 (bt 35 262143) HT_ ?_
          refine pn 18 46 (bt 35 524287) HT_ ?_
          refine pn 19 47 (bt 35 1048575) HT_ ?_
          refine put 20 48 (bt 35 2097151) HT_ ?_
          refine put 21 49 (bt 35 4194303) HT_ ?_
          refine put 22 50 (bt 35 8388607) HT_ ?_
          refine put 23 51 (bt 35 16777215) HT_ ?_
          refine put 25 53 (bt 35 50331647) HT_ ?_
          refine put 27 55 (bt 35 184549375) HT_ ?_
          refine put 29 57 (bt 35 721420287) HT_ ?_
          refine tat8 24 52 (bt 35 738197503) HT_ HW_ hHeld ?_
          refine tat8 26 54 (bt 35 805306367) HT_ HW_ hHeld ?_
          refine tat8 28 56 (bt 35 1073741823) HT_ HW_ hHeld ?_
          refine tat8 30 58 (bt 35 2147483647) HT_ HW_ hHeld ?_
          refine one_ (i := 31) (N := some 59) (bt 35 4294967295) rfl rfl (one_of HT_.out (by kernel_rfl)) (by decide) (fun K hK => ?_)
          refine goes_ Try.func97 (by kernel_rfl) rfl #[.slice A205_2 ((rd_T105 l0_3 x23_2).f1).length c205_2, .int .i64 a0_0, .int .i64 a0_1] (by rfl) rfl rfl sl ?_
          with_reducible refine (impl_tablesOf.calls k2 _ _ ((rd_T105 l0_3 x23_2).f1) a0_0 a0_1 t213 _ ?side1 ?side2 A48.out).mono ?_
          (case side1 => exact cb HR205_2)
          (case side2 => exact HC205_2.out)
          rintro e w57 ⟨v214, rfl, ho0, hb⟩
          refine ⟨_, rfl, ?_⟩
          have HO215 := am (Kd.S_lower ho0 (below_size (sbw)))
          replace BK202 := bb BK202 hb
          replace BK206 := bb BK206 hb
          replace HB := bsw hb
          (try clear hb)
          (try clear hb2)
          (try clear hk)
          (try clear hi)
          (try clear ho0)
          obtain ⟨Ao58, co58, eo58⟩ := Kd.S_slice HO215.out
          (first | subst eo58 | (injection eo58 with f1_ f2_ f3_; have f4_ := f1_.symm; have f5_ := f3_.symm; clear f1_ f2_ f3_; subst f4_; subst f5_))
          refine hK.out _ _ ⟨bc0 BK206, bc1 BK206, bc2 BK206, bc3 BK206, bc0 BK202, bc1 BK202, bc2 BK202, bc3 BK202⟩ (fun hHeld => ?_)
          clear hK K
          refine nm 59 ?_
          refine one_ (i := 32) (N := some 60) (bt 35 8589934591) rfl rfl (one_of HT_.out (by kernel_rfl)) (by decide) (fun K hK => ?_)
          refine goes_ Try.func96 (by kernel_rfl) rfl #[.slice A205_3 ((rd_T105 l0_3 x23_2).f2).length c205_3, .slice Ao58 t213.length co58, .func (.func 98) #[] #[]] (by rfl) rfl rfl sl ?_
          with_reducible refine (impl_Table.calls k2 _ _ ((rd_T105 l0_3 x23_2).f2) _ _ t213 0 true _ ?side1 ?side2 ?side3 ?side4 A49.out).mono ?_
          (case side1 => exact cb HR205_3)
          (case side2 => exact HC205_3.out)
          (case side3 => repeat (first | exact (Kd.S_reads' HO215.out).2.2 | (with_reducible refine Kd.C_alloc ?_ _) | (with_reducible refine Kd.C_drewN ?_ _) | (with_reducible refine Kd.C_drew ?_)))
          (case side4 => exact (Kd.S_reads' HO215.out).2.1)
          rintro e w59 ⟨rfl, hb⟩
          refine ⟨_, rfl, ?_⟩
          replace HO215 := am (Kd.S_below (ss HO215) hb)
          replace BK202 := bb BK202 hb
          replace BK206 := bb BK206 hb
          replace HB := bsw hb
          (try clear hb)
          (try clear hb2)
          (try clear hk)
          (try clear hi)
          refine hK.out _ _ ⟨bc0 BK206, bc1 BK206, bc2 BK206, bc3 BK206, bc0 BK202, bc1 BK202, bc2 BK202, bc3 BK202⟩ (fun hHeld => ?_)
          clear hK K
          refine nm 60 ?_
          refine put 33 61 (bt 35 17179869183) HT_ ?_
          refine put 34 62 (bt 35 34359738367) HT_ ?_
          refine done_ (done_of HT_.out (by kernel_rfl)) ?_
          try go_wp2
          go_roundg k2
          case measure => have := HJ1.out; have := HK2.out; omega
          case rel => exact ⟨(wrap64 (x23_2 + 1)), sc, H', ⟨by have := HJ1.out; have := HK2.out; omega⟩, ⟨sk BK202⟩, ⟨sbw⟩⟩
         ·replace H := im H
          obtain rfl := Option.some.inj H
          obtain ⟨p205, q205, ad205, A205_2, c205_2, A205_3, c205_3, e205, _, _, _, _, hx205_0, hx205_1, hx205_2, hx205_3, HC205_2, HR205_2, HC205_3, HR205_3⟩ := aT_T105 HR0_3 HB x23_2
          cases e205
          try go_wp2_with (first | ((with_reducible refine gd 4 rfl ?_); (try (refine gate_guard (by rfl) ?_; dsimp only)); refine bx 4 #[.int .i64 0, .int .i64 0, .slice none 0 0, .slice none 0 0] 105 ?_; intro gb206 hg w60 hbox hb; have GW206 := bzw w hg; have GE206 := bzw w hg; replace HB := bsw hb; have BK206 := am hbox; have NB202_206 := nl BK202 hg; have NB206_202 := ng BK202 hg; replace BK202 := bb BK202 hb; clear hb hbox hg; have hnb61 := NB206_202.out; have hnc61 := NB202_206.out; obtain ⟨hcz62_0, hcz62_1, hcz62_2, hcz62_3, hfz62_0, hfz62_1, hfz62_2, hfz62_3⟩ := cc4 BK206))
          have n0_ : Aside0 (((((w60.setCell ⟨gb206, 0, none⟩ (.int .i64 ((rd_T105 l0_3 x23_2).f0.f0))).setCell ⟨gb206, 1, none⟩ (.int .i64 ((rd_T105 l0_3 x23_2).f0.f1))).setCell ⟨gb206, 2, none⟩ (.slice A205_2 ((rd_T105 l0_3 x23_2).f1).length c205_2)).setCell ⟨gb206, 3, none⟩ (.slice A205_3 ((rd_T105 l0_3 x23_2).f2).length c205_3)).heap[gb202]? = some (.cells #[.int .i64 a0_0, .int .i64 a0_1, .int .i64 a0_2, .slice (some ad205) l0_3.length c0_3] 31 (0, 0))) := ⟨sp BK202⟩
          have n1_ : Aside0 (((((w60.setCell ⟨gb206, 0, none⟩ (.int .i64 ((rd_T105 l0_3 x23_2).f0.f0))).setCell ⟨gb206, 1, none⟩ (.int .i64 ((rd_T105 l0_3 x23_2).f0.f1))).setCell ⟨gb206, 2, none⟩ (.slice A205_2 ((rd_T105 l0_3 x23_2).f1).length c205_2)).setCell ⟨gb206, 3, none⟩ (.slice A205_3 ((rd_T105 l0_3 x23_2).f2).length c205_3)).heap[gb206]? = some (.cells #[.int .i64 ((rd_T105 l0_3 x23_2).f0.f0), .int .i64 ((rd_T105 l0_3 x23_2).f0.f1), .slice A205_2 ((rd_T105 l0_3 x23_2).f1).length c205_2, .slice A205_3 ((rd_T105 l0_3 x23_2).f2).length c205_3] 105 (0, 0))) := ⟨sp BK206⟩
          have n2_ : Aside0 (Below w.heap.size w ((((w60.setCell ⟨gb206, 0, none⟩ (.int .i64 ((rd_T105 l0_3 x23_2).f0.f0))).setCell ⟨gb206, 1, none⟩ (.int .i64 ((rd_T105 l0_3 x23_2).f0.f1))).setCell ⟨gb206, 2, none⟩ (.slice A205_2 ((rd_T105 l0_3 x23_2).f1).length c205_2)).setCell ⟨gb206, 3, none⟩ (.slice A205_3 ((rd_T105 l0_3 x23_2).f2).length c205_3))) := ⟨sbw⟩
          (try clear BK202)
          (try clear BK206)
          (try clear HB)
          generalize ((((w60.setCell ⟨gb206, 0, none⟩ (.int .i64 ((rd_T105 l0_3 x23_2).f0.f0))).setCell ⟨gb206, 1, none⟩ (.int .i64 ((rd_T105 l0_3 x23_2).f0.f1))).setCell ⟨gb206, 2, none⟩ (.slice A205_2 ((rd_T105 l0_3 x23_2).f1).length c205_2)).setCell ⟨gb206, 3, none⟩ (.slice A205_3 ((rd_T105 l0_3 x23_2).f2).length c205_3)) = w63 at n0_ n1_ n2_ ⊢
          have BK202 := n0_
          have BK206 := n1_
          have HB := n2_
          clear n0_ n1_ n2_
          replace BK202 := am (blk_drew BK202.out)
          replace BK206 := am (blk_drew BK206.out)
          replace HB := am (below_drew1 HB.out)
          refine start_ (n := 35) (S := fun w' => w'.cell? ⟨gb206, 0, none⟩ = some (.int .i64 ((rd_T105 l0_3 x23_2).f0.f0)) ∧ w'.cell? ⟨gb206, 1, none⟩ = some (.int .i64 ((rd_T105 l0_3 x23_2).f0.f1)) ∧ w'.cell? ⟨gb206, 2, none⟩ = some (.slice A205_2 ((rd_T105 l0_3 x23_2).f1).length c205_2) ∧ w'.cell? ⟨gb206, 3, none⟩ = some (.slice A205_3 ((rd_T105 l0_3 x23_2).f2).length c205_3) ∧ w'.cell? ⟨gb202, 0, none⟩ = some (.int .i64 a0_0) ∧ w'.cell? ⟨gb202, 1, none⟩ = some (.int .i64 a0_1) ∧ w'.cell? ⟨gb202, 2, none⟩ = some (.int .i64 a0_2) ∧ w'.cell? ⟨gb202, 3, none⟩ = some (.slice (some ad205) l0_3.length c0_3)) (ds := []) #[false, false, false, false, false, false, false, false, false, false, false, false, false, false, false, false, false, false, false, false, false, false, false, false, false, false, false, false, false, false, false, false, false, false, false] (by kernel_rfl) rfl rfl ⟨bc0 BK206, bc1 BK206, bc2 BK206, bc3 BK206, bc0 BK202, bc1 BK202, bc2 BK202, bc3 BK202⟩ (fun hHeld => ?_); refine with_tabW impl_IsProgram.tab6 impl_IsProgram.bits6 (fun HT_ HW_ => ?_)
          generalize w63.drew = w64 at BK202 BK206 HB hHeld ⊢
          refine put 0 28 (bt 35 1) HT_ ?_
          refine tat8 1 29 (bt 35 3) HT_ HW_ hHeld ?_
          refine one_ (i := 2) (N := some 30) (bt 35 7) rfl rfl (one_of HT_.out (by kernel_rfl)) (by decide) (fun K hK => ?_)
          refine goes_ Try.func79 (by kernel_rfl) rfl #[.agg #[.int .i64 ((rd_T105 l0_3 x23_2).f0.f0), .int .i64 ((rd_T105 l0_3 x23_2).f0.f1)]] (by rfl) rfl rfl sl ?_
          with_reducible refine (impl_IsSpan.calls ((rd_T105 l0_3 x23_2).f0.f0) ((rd_T105 l0_3 x23_2).f0.f1) true _ A14.out).mono ?_
          rintro e w65 ⟨rfl, hb⟩
          refine ⟨_, rfl, ?_⟩
          replace BK202 := bb BK202 hb
          replace BK206 := bb BK206 hb
          replace HB := bsw hb
          (try clear hb)
          (try clear hb2)
          (try clear hk)
          (try clear hi)
          refine hK.out _ _ ⟨bc0 BK206, bc1 BK206, bc2 BK206, bc3 BK206, bc0 BK202, bc1 BK202, bc2 BK202, bc3 BK202⟩ (fun hHeld => ?_)
          clear hK K
          refine nm 30 ?_
          refine put 3 31 (bt 35 15) HT_ ?_
          refine put 4 32 (bt 35 31) HT_ ?_
          refine put 5 33 (bt 35 63) HT_ ?_
          refine put 6 34 (bt 35 127) HT_ ?_
          refine put 7 35 (bt 35 255) HT_ ?_
          refine pn 8 36 (bt 35 511) HT_ ?_
          refine pn 9 37 (bt 35 1023) HT_ ?_
          refine pn 10 38 (bt 35 2047) HT_ ?_
          refine pn 11 39 (bt 35 4095) HT_ ?_
          refine pn 12 40 (bt 35 8191) HT_ ?_
          refine pn 13 41 (bt 35 16383) HT_ ?_
          refine pn 14 42 (bt 35 32767) HT_ ?_
          refine pn 15 43 (bt 35 65535) HT_ ?_
          refine pn 16 44 (bt 35 131071) HT_ ?_
          refine pn 17 45 (bt 35 262143) HT_ ?_
          refine pn 18 46 (bt 35 524287) HT_ ?_
          refine pn 19 47 (bt 35 1048575) HT_ ?_
          refine put 20 48 (bt 35 2097151) HT_ ?_
          refine put 21 49 (bt 35 4194303) HT_ ?_
          refine put 22 50 (bt 35 8388607) HT_ ?_
          refine put 23 51 (bt 35 16777215) HT_ ?_
          refine put 25 53 (bt 35 50331647) HT_ ?_
          refine put 27 55 (bt 35 184549375) HT_ ?_
          refine put 29 57 (bt 35 721420287) HT_ ?_
          refine tat8 24 52 (bt 35 738197503) HT_ HW_ hHeld ?_
          refine tat8 26 54 (bt 35 805306367) HT_ HW_ hHeld ?_
          refine tat8 28 56 (bt 35 1073741823) HT_ HW_ hHeld ?_
          refine tat8 30 58 (bt 35 2147483647) HT_ HW_ hHeld ?_
          refine one_ (i := 31) (N := some 59) (bt 35 4294967295) rfl rfl (one_of HT_.out (by kernel_rfl)) (by decide) (fun K hK => ?_)
          refine goes_ Try.func97 (by kernel_rfl) rfl #[.slice A205_2 ((rd_T105 l0_3 x23_2).f1).length c205_2, .int .i64 a0_0, .int .i64 a0_1] (by rfl) rfl rfl sl ?_
          with_reducible refine (impl_tablesOf.calls k2 _ _ ((rd_T105 l0_3 x23_2).f1) a0_0 a0_1 t213 _ ?side1 ?side2 A48.out).mono ?_
          (case side1 => exact cb HR205_2)
          (case side2 => exact HC205_2.out)
          rintro e w66 ⟨v214, rfl, ho0, hb⟩
          refine ⟨_, rfl, ?_⟩
          have HO215 := am (Kd.S_lower ho0 (below_size (sbw)))
          replace BK202 := bb BK202 hb
          replace BK206 := bb BK206 hb
          replace HB := bsw hb
          (try clear hb)
          (try clear hb2)
          (try clear hk)
          (try clear hi)
          (try clear ho0)
          obtain ⟨Ao67, co67, eo67⟩ := Kd.S_slice HO215.out
          (first | subst eo67 | (injection eo67 with f1_ f2_ f3_; have f4_ := f1_.symm; have f5_ := f3_.symm; clear f1_ f2_ f3_; subst f4_; subst f5_))
          refine hK.out _ _ ⟨bc0 BK206, bc1 BK206, bc2 BK206, bc3 BK206, bc0 BK202, bc1 BK202, bc2 BK202, bc3 BK202⟩ (fun hHeld => ?_)
          clear hK K
          refine nm 59 ?_
          refine one_ (i := 32) (N := some 60) (bt 35 8589934591) rfl rfl (one_of HT_.out (by kernel_rfl)) (by decide) (fun K hK => ?_)
          refine goes_ Try.func96 (by kernel_rfl) rfl #[.slice A205_3 ((rd_T105 l0_3 x23_2).f2).length c205_3, .slice Ao67 t213.length co67, .func (.func 98) #[] #[]] (by rfl) rfl rfl sl ?_
          with_reducible refine (impl_Table.calls k2 _ _ ((rd_T105 l0_3 x23_2).f2) _ _ t213 0 false _ ?side1 ?side2 ?side3 ?side4 A49.out).mono ?_
          (case side1 => exact cb HR205_3)
          (case side2 => exact HC205_3.out)
          (case side3 => repeat (first | exact (Kd.S_reads' HO215.out).2.2 | (with_reducible refine Kd.C_alloc ?_ _) | (with_reducible refine Kd.C_drewN ?_ _) | (with_reducible refine Kd.C_drew ?_)))
          (case side4 => exact (Kd.S_reads' HO215.out).2.1)
          rintro e w68 ⟨rfl, hb⟩
          refine ⟨_, rfl, ?_⟩
          replace HO215 := am (Kd.S_below (ss HO215) hb)
          replace BK202 := bb BK202 hb
          replace BK206 := bb BK206 hb
          replace HB := bsw hb
          (try clear hb)
          (try clear hb2)
          (try clear hk)
          (try clear hi)
          refine hK.out _ _ ⟨bc0 BK206, bc1 BK206, bc2 BK206, bc3 BK206, bc0 BK202, bc1 BK202, bc2 BK202, bc3 BK202⟩ (fun hHeld => ?_)
          clear hK K
          refine nm 60 ?_
          refine put 33 61 (bt 35 17179869183) HT_ ?_
          refine put 34 62 (bt 35 34359738367) HT_ ?_
          refine done_ (done_of HT_.out (by kernel_rfl)) ?_
          try go_wp2
          go_ret
          exact ⟨se, sbw⟩
       ·replace H := im H
        obtain rfl := Option.some.inj H
        obtain ⟨p205, q205, ad205, A205_2, c205_2, A205_3, c205_3, e205, _, _, _, _, hx205_0, hx205_1, hx205_2, hx205_3, HC205_2, HR205_2, HC205_3, HR205_3⟩ := aT_T105 HR0_3 HB x23_2
        cases e205
        try go_wp2_with (first | ((with_reducible refine gd 4 rfl ?_); (try (refine gate_guard (by rfl) ?_; dsimp only)); refine bx 4 #[.int .i64 0, .int .i64 0, .slice none 0 0, .slice none 0 0] 105 ?_; intro gb206 hg w69 hbox hb; have GW206 := bzw w hg; have GE206 := bzw w hg; replace HB := bsw hb; have BK206 := am hbox; have NB202_206 := nl BK202 hg; have NB206_202 := ng BK202 hg; replace BK202 := bb BK202 hb; clear hb hbox hg; have hnb70 := NB206_202.out; have hnc70 := NB202_206.out; obtain ⟨hcz71_0, hcz71_1, hcz71_2, hcz71_3, hfz71_0, hfz71_1, hfz71_2, hfz71_3⟩ := cc4 BK206))
        have n0_ : Aside0 (((((w69.setCell ⟨gb206, 0, none⟩ (.int .i64 ((rd_T105 l0_3 x23_2).f0.f0))).setCell ⟨gb206, 1, none⟩ (.int .i64 ((rd_T105 l0_3 x23_2).f0.f1))).setCell ⟨gb206, 2, none⟩ (.slice A205_2 ((rd_T105 l0_3 x23_2).f1).length c205_2)).setCell ⟨gb206, 3, none⟩ (.slice A205_3 ((rd_T105 l0_3 x23_2).f2).length c205_3)).heap[gb202]? = some (.cells #[.int .i64 a0_0, .int .i64 a0_1, .int .i64 a0_2, .slice (some ad205) l0_3.length c0_3] 31 (0, 0))) := ⟨sp BK202⟩
        have n1_ : Aside0 (((((w69.setCell ⟨gb206, 0, none⟩ (.int .i64 ((rd_T105 l0_3 x23_2).f0.f0))).setCell ⟨gb206, 1, none⟩ (.int .i64 ((rd_T105 l0_3 x23_2).f0.f1))).setCell ⟨gb206, 2, none⟩ (.slice A205_2 ((rd_T105 l0_3 x23_2).f1).length c205_2)).setCell ⟨gb206, 3, none⟩ (.slice A205_3 ((rd_T105 l0_3 x23_2).f2).length c205_3)).heap[gb206]? = some (.cells #[.int .i64 ((rd_T105 l0_3 x23_2).f0.f0), .int .i64 ((rd_T105 l0_3 x23_2).f0.f1), .slice A205_2 ((rd_T105 l0_3 x23_2).f1).length c205_2, .slice A205_3 ((rd_T105 l0_3 x23_2).f2).length c205_3] 105 (0, 0))) := ⟨sp BK206⟩
        have n2_ : Aside0 (Below w.heap.size w ((((w69.setCell ⟨gb206, 0, none⟩ (.int .i64 ((rd_T105 l0_3 x23_2).f0.f0))).setCell ⟨gb206, 1, none⟩ (.int .i64 ((rd_T105 l0_3 x23_2).f0.f1))).setCell ⟨gb206, 2, none⟩ (.slice A205_2 ((rd_T105 l0_3 x23_2).f1).length c205_2)).setCell ⟨gb206, 3, none⟩ (.slice A205_3 ((rd_T105 l0_3 x23_2).f2).length c205_3))) := ⟨sbw⟩
        (try clear BK202)
        (try clear BK206)
        (try clear HB)
        generalize ((((w69.setCell ⟨gb206, 0, none⟩ (.int .i64 ((rd_T105 l0_3 x23_2).f0.f0))).setCell ⟨gb206, 1, none⟩ (.int .i64 ((rd_T105 l0_3 x23_2).f0.f1))).setCell ⟨gb206, 2, none⟩ (.slice A205_2 ((rd_T105 l0_3 x23_2).f1).length c205_2)).setCell ⟨gb206, 3, none⟩ (.slice A205_3 ((rd_T105 l0_3 x23_2).f2).length c205_3)) = w72 at n0_ n1_ n2_ ⊢
        have BK202 := n0_
        have BK206 := n1_
        have HB := n2_
        clear n0_ n1_ n2_
        replace BK202 := am (blk_drew BK202.out)
        replace BK206 := am (blk_drew BK206.out)
        replace HB := am (below_drew1 HB.out)
        refine start_ (n := 35) (S := fun w' => w'.cell? ⟨gb206, 0, none⟩ = some (.int .i64 ((rd_T105 l0_3 x23_2).f0.f0)) ∧ w'.cell? ⟨gb206, 1, none⟩ = some (.int .i64 ((rd_T105 l0_3 x23_2).f0.f1)) ∧ w'.cell? ⟨gb206, 2, none⟩ = some (.slice A205_2 ((rd_T105 l0_3 x23_2).f1).length c205_2) ∧ w'.cell? ⟨gb206, 3, none⟩ = some (.slice A205_3 ((rd_T105 l0_3 x23_2).f2).length c205_3)) (ds := []) #[false, false, false, false, false, false, false, false, false, false, false, false, false, false, false, false, false, false, false, false, false, false, false, false, false, false, false, false, false, false, false, false, false, false, false] (by kernel_rfl) rfl rfl ⟨bc0 BK206, bc1 BK206, bc2 BK206, bc3 BK206⟩ (fun hHeld => ?_); refine with_tabW impl_IsProgram.tab6 impl_IsProgram.bits6 (fun HT_ HW_ => ?_)
        generalize w72.drew = w73 at BK202 BK206 HB hHeld ⊢
        refine put 0 28 (bt 35 1) HT_ ?_
        refine tat4 1 29 (bt 35 3) HT_ HW_ hHeld ?_
        refine one_ (i := 2) (N := some 30) (bt 35 7) rfl rfl (one_of HT_.out (by kernel_rfl)) (by decide) (fun K hK => ?_)
        refine goes_ Try.func79 (by kernel_rfl) rfl #[.agg #[.int .i64 ((rd_T105 l0_3 x23_2).f0.f0), .int .i64 ((rd_T105 l0_3 x23_2).f0.f1)]] (by rfl) rfl rfl sl ?_
        with_reducible refine (impl_IsSpan.calls ((rd_T105 l0_3 x23_2).f0.f0) ((rd_T105 l0_3 x23_2).f0.f1) false _ A14.out).mono ?_
        rintro e w74 ⟨rfl, hb⟩
        refine ⟨_, rfl, ?_⟩
        replace BK202 := bb BK202 hb
        replace BK206 := bb BK206 hb
        replace HB := bsw hb
        (try clear hb)
        (try clear hb2)
        (try clear hk)
        (try clear hi)
        refine hK.out _ _ ⟨bc0 BK206, bc1 BK206, bc2 BK206, bc3 BK206⟩ (fun hHeld => ?_)
        clear hK K
        refine nm 30 ?_
        refine put 3 31 (bt 35 15) HT_ ?_
        refine put 4 32 (bt 35 31) HT_ ?_
        refine pn 5 33 (bt 35 63) HT_ ?_
        refine pn 6 34 (bt 35 127) HT_ ?_
        refine pn 7 35 (bt 35 255) HT_ ?_
        refine pn 8 36 (bt 35 511) HT_ ?_
        refine pn 9 37 (bt 35 1023) HT_ ?_
        refine pn 10 38 (bt 35 2047) HT_ ?_
        refine pn 11 39 (bt 35 4095) HT_ ?_
        refine pn 12 40 (bt 35 8191) HT_ ?_
        refine pn 13 41 (bt 35 16383) HT_ ?_
        refine pn 14 42 (bt 35 32767) HT_ ?_
        refine pn 15 43 (bt 35 65535) HT_ ?_
        refine pn 16 44 (bt 35 131071) HT_ ?_
        refine pn 17 45 (bt 35 262143) HT_ ?_
        refine pn 18 46 (bt 35 524287) HT_ ?_
        refine pn 19 47 (bt 35 1048575) HT_ ?_
        refine pn 20 48 (bt 35 2097151) HT_ ?_
        refine put 21 49 (bt 35 4194303) HT_ ?_
        refine put 22 50 (bt 35 8388607) HT_ ?_
        refine pn 23 51 (bt 35 16777215) HT_ ?_
        refine pn 24 52 (bt 35 33554431) HT_ ?_
        refine pn 25 53 (bt 35 67108863) HT_ ?_
        refine pn 26 54 (bt 35 134217727) HT_ ?_
        refine pn 27 55 (bt 35 268435455) HT_ ?_
        refine pn 28 56 (bt 35 536870911) HT_ ?_
        refine pn 29 57 (bt 35 1073741823) HT_ ?_
        refine pn 30 58 (bt 35 2147483647) HT_ ?_
        refine pn 31 59 (bt 35 4294967295) HT_ ?_
        refine pn 32 60 (bt 35 8589934591) HT_ ?_
        refine pn 33 61 (bt 35 17179869183) HT_ ?_
        refine put 34 62 (bt 35 34359738367) HT_ ?_
        refine done_ (done_of HT_.out (by kernel_rfl)) ?_
        try go_wp2
        go_ret
        exact ⟨se, sbw⟩
      ·have c11b0 := decide_eq_false c11
       clear c11
       obtain rfl := Option.some.inj H
       go_wp2
       go_ret
       exact ⟨se, sbw⟩

end Go.Proofs.Ytiihaabhjphaeaa.QFnPrograms
