/- Printed by a program of the session. Conditions: none. (squeezed). -/
import Derived.Test.YtiihaabhjphaeaaVFnSwitchedQFnSwitchedx7
namespace Go.Proofs.Ytiihaabhjphaeaa.QFnSwitched
set_option maxHeartbeats 8000000
set_option maxRecDepth 100000
open Go.RowKit Go.Proofs.YtiihaabhjphaeaaW.PrintWords Go.Proofs.YtiihaabhjphaeaaW.PrintLast Go.Proofs.YtiihaabhjphaeaaW.PrintMore Go.Proofs.Ytiihaabhjphaeaa.Open Go.Proofs.Ytiihaabhjphaeaa.Sq
attribute [local go_sem] max2_int min2_int max_two min_two max_three min_three max_four min_four   -- for this text's walks alone
attribute [local go_sem] isSome_set
set_option linter.unusedVariables false
set_option linter.unusedSimpArgs false

theorem a8_0 {P : Prop} (h : P := by first | rfl | (simp [errW_none, errW_some] <;> rfl) | (simp only [← hji17]; first | rfl | (simp [errW_none, errW_some] <;> rfl)) | (simp [*, errW_none, errW_some] <;> rfl)) : P := h
mutual
def impl_IsProgram.j0 : Nat → Bool → Int → Int → Int → List (S105) → Option (Bool)
  | 0, _, _, _, _, _ => none
  | k + 1, x19, x291000, x291001, x291002, x291003 => if x19 = true then (some false) else (impl_IsProgram.l0 k x291003 (x291003.length : Int) 0 x291000 x291001 x291002 x291003)
def impl_IsProgram.l0 : Nat → List (S105) → Int → Int → Int → Int → Int → List (S105) → Option (Bool)
  | 0, _, _, _, _, _, _, _ => none
  | k + 1, x21, x22, x23, x291000, x291001, x291002, x291003 => if x23 < x22 then (if 0 ≤ x23 then (if x23 < (x21.length : Int) then ((impl_IsSpan.f ((rd_T105 x21 x23).f0.f0) ((rd_T105 x21 x23).f0.f1)).bind fun t295 => (if t295 = true then (if x23 > 0 then (if 0 ≤ (wrap64 (x23 - 1)) then (if (wrap64 (x23 - 1)) < (x291003.length : Int) then (if ((rd_T105 x21 x23).f0.f0) = ((rd_T105 x291003 (wrap64 (x23 - 1))).f0.f1) then ((impl_tablesOf.f k ((rd_T105 x21 x23).f1) x291000 x291001).bind fun t297 => ((impl_Table.f k ((rd_T105 x21 x23).f2) t297 0).bind fun t300 => (if t300 = true then (impl_IsProgram.l0 k x21 x22 (wrap64 (x23 + 1)) x291000 x291001 x291002 x291003) else (some false)))) else (some false)) else (none)) else (none)) else ((impl_tablesOf.f k ((rd_T105 x21 x23).f1) x291000 x291001).bind fun t301 => ((impl_Table.f k ((rd_T105 x21 x23).f2) t301 0).bind fun t304 => (if t304 = true then (impl_IsProgram.l0 k x21 x22 (wrap64 (x23 + 1)) x291000 x291001 x291002 x291003) else (some false))))) else (some false))) else (none)) else (none)) else (some true)
end
def impl_IsProgram.f (k : Nat) (a0_0 : Int) (a0_1 : Int) (a0_2 : Int) (l0_3 : List (S105)) : Option (Bool) := (impl_isFrame.f a0_0 a0_1 a0_2).bind fun t291 => (if t291 = true then ((impl_InRange.f (l0_3.length : Int) 1 40).bind fun t292 => (impl_IsProgram.j0 k (!t292) a0_0 a0_1 a0_2 l0_3)) else (impl_IsProgram.j0 k true a0_0 a0_1 a0_2 l0_3))
theorem impl_IsProgram.mono_l : ∀ k, (∀ y0 y1 y2 y3 y4, LeO (impl_IsProgram.j0 k y0 y1 y2 y3 y4) (impl_IsProgram.j0 (k + 1) y0 y1 y2 y3 y4)) ∧ (∀ y0 y1 y2 y3 y4 y5 y6, LeO (impl_IsProgram.l0 k y0 y1 y2 y3 y4 y5 y6) (impl_IsProgram.l0 (k + 1) y0 y1 y2 y3 y4 y5 y6))
  | 0 => ⟨fun _ _ _ _ _ r h => by simp [impl_IsProgram.j0] at h, fun _ _ _ _ _ _ _ r h => by simp [impl_IsProgram.l0] at h⟩
  | k + 1 => by
    obtain ⟨ih0, ih1⟩ := impl_IsProgram.mono_l k
    refine ⟨?_, ?_⟩
    · intro y0 y1 y2 y3 y4
      unfold impl_IsProgram.j0
      have m0 := @impl_Table.mono
      have m1 := @impl_tablesOf.mono
      exact mo
    · intro y0 y1 y2 y3 y4 y5 y6
      unfold impl_IsProgram.l0
      have m0 := @impl_Table.mono
      have m1 := @impl_tablesOf.mono
      exact mo
theorem impl_IsProgram.mono : ∀ a0 a1 a2 a3 k, LeO (impl_IsProgram.f k a0 a1 a2 a3) (impl_IsProgram.f (k + 1) a0 a1 a2 a3) := by
  intro a0 a1 a2 a3 k
  obtain ⟨ih0, ih1⟩ := impl_IsProgram.mono_l k
  unfold impl_IsProgram.f
  have m0 := @impl_Table.mono
  have m1 := @impl_tablesOf.mono
  exact mo
def impl_IsProgram.T6 : Bool × List (List Nat × List Nat) := (true, [([], []), ([0], [0]), ([1], [1]), ([2], [2]), ([3, 2], [3]), ([4], [4]), ([5, 4], [4, 5]), ([6, 4, 4], [4, 6]), ([7], [7]), ([8, 7], [7, 8]), ([9, 7], [7, 9]), ([7], [7]), ([11, 7], [7, 11]), ([7], [7]), ([13, 7], [7, 13]), ([12, 14, 7], [7, 12, 14]), ([15, 7], [7, 15]), ([16, 7], [7, 16]), ([17, 7], [7, 17]), ([10, 18, 7], [7, 10, 18]), ([7, 19, 4], [4, 7, 19]), ([4, 20], [4, 20]), ([21, 7], [21]), ([22], [22]), ([23, 22], [22, 23]), ([22], [22]), ([25, 22], [22, 25]), ([22], [22]), ([27, 22], [22, 27]), ([22], [22]), ([29, 22], [22, 29]), ([26, 28, 30, 22, 22], [22, 26, 28, 30]), ([24, 31, 31, 22], [22, 24, 31]), ([32, 22], [22, 32]), ([22, 33], [22, 33])])
def impl_IsProgram.B6 : List Nat := [0, 1, 3, 7, 15, 31, 63, 127, 255, 511, 1023, 255, 2303, 255, 8447, 30975, 63743, 129279, 260351, 524287, 1048575, 2097151, 4194303, 8388607, 16777215, 8388607, 41943039, 8388607, 142606335, 8388607, 545259519, 2122317823, 4294967295, 8589934591, 17179869183]
theorem impl_IsProgram.tab6 : rtab .any (opsOf Try.f36 6) = impl_IsProgram.T6 := by kernel_rfl
theorem impl_IsProgram.bits6 : waitsOk impl_IsProgram.T6.2 impl_IsProgram.B6 = true := by kernel_rfl
theorem e8_0 {P : Prop} (h : P := by
 try go_wp2_with (first | ((with_reducible refine gd 4 rfl ?_); (try (refine gate_guard (by rfl) ?_; dsimp only)); refine bx 4 #[.int .i64 0, .int .i64 0, .slice none 0 0, .slice none 0 0] 105 ?_; intro gb294 hg w24 hbox hb; have GW294 := bzw w hg; have GE294 := bzw w hg; replace HB := bsw hb; have BK294 := am hbox; have NB290_294 := nl BK290 hg; have NB294_290 := ng BK290 hg; replace BK290 := bb BK290 hb; clear hb hbox hg; have hnb25 := NB294_290.out; have hnc25 := NB290_294.out; obtain ⟨hcz26_0, hcz26_1, hcz26_2, hcz26_3, hfz26_0, hfz26_1, hfz26_2, hfz26_3⟩ := cc4 BK294))
 first
 | have _ := A48
   have n0_ : Aside0 (((((w24.setCell ⟨gb294, 0, none⟩ (.int .i64 ((rd_T105 l0_3 x23_2).f0.f0))).setCell ⟨gb294, 1, none⟩ (.int .i64 ((rd_T105 l0_3 x23_2).f0.f1))).setCell ⟨gb294, 2, none⟩ (.slice A293_2 ((rd_T105 l0_3 x23_2).f1).length c293_2)).setCell ⟨gb294, 3, none⟩ (.slice A293_3 ((rd_T105 l0_3 x23_2).f2).length c293_3)).heap[gb290]? = some (.cells #[.int .i64 a0_0, .int .i64 a0_1, .int .i64 a0_2, .slice (some ad293) l0_3.length c0_3] 31 (0, 0))) := ⟨sp BK290⟩
   have n1_ : Aside0 (((((w24.setCell ⟨gb294, 0, none⟩ (.int .i64 ((rd_T105 l0_3 x23_2).f0.f0))).setCell ⟨gb294, 1, none⟩ (.int .i64 ((rd_T105 l0_3 x23_2).f0.f1))).setCell ⟨gb294, 2, none⟩ (.slice A293_2 ((rd_T105 l0_3 x23_2).f1).length c293_2)).setCell ⟨gb294, 3, none⟩ (.slice A293_3 ((rd_T105 l0_3 x23_2).f2).length c293_3)).heap[gb294]? = some (.cells #[.int .i64 ((rd_T105 l0_3 x23_2).f0.f0), .int .i64 ((rd_T105 l0_3 x23_2).f0.f1), .slice A293_2 ((rd_T105 l0_3 x23_2).f1).length c293_2, .slice A293_3 ((rd_T105 l0_3 x23_2).f2).length c293_3] 105 (0, 0))) := ⟨sp BK294⟩
   have n2_ : Aside0 (Below w.heap.size w ((((w24.setCell ⟨gb294, 0, none⟩ (.int .i64 ((rd_T105 l0_3 x23_2).f0.f0))).setCell ⟨gb294, 1, none⟩ (.int .i64 ((rd_T105 l0_3 x23_2).f0.f1))).setCell ⟨gb294, 2, none⟩ (.slice A293_2 ((rd_T105 l0_3 x23_2).f1).length c293_2)).setCell ⟨gb294, 3, none⟩ (.slice A293_3 ((rd_T105 l0_3 x23_2).f2).length c293_3))) := ⟨sbw⟩
   (try clear BK290)
   (try clear BK294)
   (try clear HB)
   generalize ((((w24.setCell ⟨gb294, 0, none⟩ (.int .i64 ((rd_T105 l0_3 x23_2).f0.f0))).setCell ⟨gb294, 1, none⟩ (.int .i64 ((rd_T105 l0_3 x23_2).f0.f1))).setCell ⟨gb294, 2, none⟩ (.slice A293_2 ((rd_T105 l0_3 x23_2).f1).length c293_2)).setCell ⟨gb294, 3, none⟩ (.slice A293_3 ((rd_T105 l0_3 x23_2).f2).length c293_3)) = w54 at n0_ n1_ n2_ ⊢
   have BK290 := n0_
   have BK294 := n1_
   have HB := n2_
   clear n0_ n1_ n2_
   replace BK290 := am (blk_drew BK290.out)
   replace BK294 := am (blk_drew BK294.out)
   replace HB := am (below_drew1 HB.out)
   refine start_ (n := 35) (S := fun w' => w'.cell? ⟨gb294, 0, none⟩ = some (.int .i64 ((rd_T105 l0_3 x23_2).f0.f0)) ∧ w'.cell? ⟨gb294, 1, none⟩ = some (.int .i64 ((rd_T105 l0_3 x23_2).f0.f1)) ∧ w'.cell? ⟨gb294, 2, none⟩ = some (.slice A293_2 ((rd_T105 l0_3 x23_2).f1).length c293_2) ∧ w'.cell? ⟨gb294, 3, none⟩ = some (.slice A293_3 ((rd_T105 l0_3 x23_2).f2).length c293_3) ∧ w'.cell? ⟨gb290, 0, none⟩ = some (.int .i64 a0_0) ∧ w'.cell? ⟨gb290, 1, none⟩ = some (.int .i64 a0_1) ∧ w'.cell? ⟨gb290, 2, none⟩ = some (.int .i64 a0_2) ∧ w'.cell? ⟨gb290, 3, none⟩ = some (.slice (some ad293) l0_3.length c0_3)) (ds := []) #[false, false, false, false, false, false, false, false, false, false, false, false, false, false, false, false, false, false, false, false, false, false, false, false, false, false, false, false, false, false, false, false, false, false, false] (by kernel_rfl) rfl rfl ⟨bc0 BK294, bc1 BK294, bc2 BK294, bc3 BK294, bc0 BK290, bc1 BK290, bc2 BK290, bc3 BK290⟩ (fun hHeld => ?_); refine with_tabW impl_IsProgram.tab6 impl_IsProgram.bits6 (fun HT_ HW_ => ?_)
   generalize w54.drew = w55 at BK290 BK294 HB hHeld ⊢
   refine put 0 28 (bt 35 1) HT_ ?_
   refine tat8 1 29 (bt 35 3) HT_ HW_ hHeld ?_
   refine on 2 30 (bt 35 7) HT_ (fun K hK => ?_)
   refine goes_ Try.func79 (by kernel_rfl) rfl #[.agg #[.int .i64 ((rd_T105 l0_3 x23_2).f0.f0), .int .i64 ((rd_T105 l0_3 x23_2).f0.f1)]] (by rfl) rfl rfl sl ?_
   with_reducible refine (impl_IsSpan.calls ((rd_T105 l0_3 x23_2).f0.f0) ((rd_T105 l0_3 x23_2).f0.f1) true _ A14.out).mono ?_
   rintro e w56 ⟨rfl, hb⟩
   refine ⟨_, rfl, ?_⟩
   replace BK290 := bb BK290 hb
   replace BK294 := bb BK294 hb
   replace HB := bsw hb
   (try clear hb)
   (try clear hb2)
   (try clear hk)
   (try clear hi)
   refine hK.out _ _ ⟨bc0 BK294, bc1 BK294, bc2 BK294, bc3 BK294, bc0 BK290, bc1 BK290, bc2 BK290, bc3 BK290⟩ (fun hHeld => ?_)
   clear hK K
   refine nm 30 ?_
   refine put 3 31 (bt 35 15) HT_ ?_
   refine put 4 32 (bt 35 31) HT_ ?_
   refine put 5 33 (bt 35 63) HT_ ?_
   refine put 6 34 (bt 35 127) HT_ ?_
   refine put 7 35 (bt 35 255) HT_ ?_
   refine pn 8 36 (bt 35 511) HT_ ?_
   refine pn 9 37 (bt 35 1023) HT_ ?_
   refine pn 10 38 (bt 35 2047) HT_ ?_
   refine pn 11 39 (bt 35 4095) HT_ ?_
   refine pn 12 40 (bt 35 8191) HT_ ?_
   refine pn 13 41 (bt 35 16383) HT_ ?_
   refine pn 14 42 (bt 35 32767) HT_ ?_
   refine pn 15 43 (bt 35 65535) HT_ ?_
   refine pn 16 44 (bt 35 131071) HT_ ?_
   refine pn 17 45 (bt 35 262143) HT_ ?_
   refine pn 18 46 (bt 35 524287) HT_ ?_
   refine pn 19 47 (bt 35 1048575) HT_ ?_
   refine put 20 48 (bt 35 2097151) HT_ ?_
   refine put 21 49 (bt 35 4194303) HT_ ?_
   refine put 22 50 (bt 35 8388607) HT_ ?_
   refine put 23 51 (bt 35 16777215) HT_ ?_
   refine put 25 53 (bt 35 50331647) HT_ ?_
   refine put 27 55 (bt 35 184549375) HT_ ?_
   refine put 29 57 (bt 35 721420287) HT_ ?_
   refine tat8 24 52 (bt 35 738197503) HT_ HW_ hHeld ?_
   refine tat8 26 54 (bt 35 805306367) HT_ HW_ hHeld ?_
   refine tat8 28 56 (bt 35 1073741823) HT_ HW_ hHeld ?_
   refine tat8 30 58 (bt 35 2147483647) HT_ HW_ hHeld ?_
   refine on 31 59 (bt 35 4294967295) HT_ (fun K hK => ?_)
   refine goes_ Try.func97 (by kernel_rfl) rfl #[.slice A293_2 ((rd_T105 l0_3 x23_2).f1).length c293_2, .int .i64 a0_0, .int .i64 a0_1] (by rfl) rfl rfl sl ?_
   with_reducible refine (impl_tablesOf.calls k2 _ _ ((rd_T105 l0_3 x23_2).f1) a0_0 a0_1 t301 _ ?side1 ?side2 A48.out).mono ?_
   (case side1 => exact cb HR293_2)
   (case side2 => exact HC293_2.out)
   rintro e w57 ⟨v302, rfl, ho0, hb⟩
   refine ⟨_, rfl, ?_⟩
   have HO303 := am (Kd.S_lower ho0 (below_size (sbw)))
   replace BK290 := bb BK290 hb
   replace BK294 := bb BK294 hb
   replace HB := bsw hb
   (try clear hb)
   (try clear hb2)
   (try clear hk)
   (try clear hi)
   (try clear ho0)
   obtain ⟨Ao58, co58, eo58⟩ := Kd.S_slice HO303.out
   (first | subst eo58 | (injection eo58 with f1_ f2_ f3_; have f4_ := f1_.symm; have f5_ := f3_.symm; clear f1_ f2_ f3_; subst f4_; subst f5_))
   refine hK.out _ _ ⟨bc0 BK294, bc1 BK294, bc2 BK294, bc3 BK294, bc0 BK290, bc1 BK290, bc2 BK290, bc3 BK290⟩ (fun hHeld => ?_)
   clear hK K
   refine nm 59 ?_
   refine on 32 60 (bt 35 8589934591) HT_ (fun K hK => ?_)
   refine goes_ Try.func96 (by kernel_rfl) rfl #[.slice A293_3 ((rd_T105 l0_3 x23_2).f2).length c293_3, .slice Ao58 t301.length co58, .func (.func 98) #[] #[]] (by rfl) rfl rfl sl ?_
   with_reducible refine (impl_Table.calls k2 _ _ ((rd_T105 l0_3 x23_2).f2) _ _ t301 0 true _ ?side1 ?side2 ?side3 ?side4 A49.out).mono ?_
   (case side1 => exact cb HR293_3)
   (case side2 => exact HC293_3.out)
   (case side3 => repeat (first | exact (Kd.S_reads' HO303.out).2.2 | (with_reducible refine Kd.C_alloc ?_ _) | (with_reducible refine Kd.C_drewN ?_ _) | (with_reducible refine Kd.C_drew ?_)))
   (case side4 => exact (Kd.S_reads' HO303.out).2.1)
   rintro e w59 ⟨rfl, hb⟩
   refine ⟨_, rfl, ?_⟩
   replace HO303 := am (Kd.S_below (ss HO303) hb)
   replace BK290 := bb BK290 hb
   replace BK294 := bb BK294 hb
   replace HB := bsw hb
   (try clear hb)
   (try clear hb2)
   (try clear hk)
   (try clear hi)
   refine hK.out _ _ ⟨bc0 BK294, bc1 BK294, bc2 BK294, bc3 BK294, bc0 BK290, bc1 BK290, bc2 BK290, bc3 BK290⟩ (fun hHeld => ?_)
   clear hK K
   refine nm 60 ?_
   refine put 33 61 (bt 35 17179869183) HT_ ?_
   refine put 34 62 (bt 35 34359738367) HT_ ?_
   refine done_ (done_of HT_.out (by kernel_rfl)) ?_
   try go_wp2
   go_roundg k2
   case measure => have := HJ1.out; have := HK2.out; omega
   case rel => exact ⟨(wrap64 (x23_2 + 1)), sc, H', ⟨by have := HJ1.out; have := HK2.out; omega⟩, ⟨sk BK290⟩, ⟨sbw⟩⟩
 | have n0_ : Aside0 (((((w24.setCell ⟨gb294, 0, none⟩ (.int .i64 ((rd_T105 l0_3 x23_2).f0.f0))).setCell ⟨gb294, 1, none⟩ (.int .i64 ((rd_T105 l0_3 x23_2).f0.f1))).setCell ⟨gb294, 2, none⟩ (.slice A293_2 ((rd_T105 l0_3 x23_2).f1).length c293_2)).setCell ⟨gb294, 3, none⟩ (.slice A293_3 ((rd_T105 l0_3 x23_2).f2).length c293_3)).heap[gb290]? = some (.cells #[.int .i64 a0_0, .int .i64 a0_1, .int .i64 a0_2, .slice (some ad293) l0_3.length c0_3] 31 (0, 0))) := ⟨sp BK290⟩
   have n1_ : Aside0 (((((w24.setCell ⟨gb294, 0, none⟩ (.int .i64 ((rd_T105 l0_3 x23_2).f0.f0))).setCell ⟨gb294, 1, none⟩ (.int .i64 ((rd_T105 l0_3 x23_2).f0.f1))).setCell ⟨gb294, 2, none⟩ (.slice A293_2 ((rd_T105 l0_3 x23_2).f1).length c293_2)).setCell ⟨gb294, 3, none⟩ (.slice A293_3 ((rd_T105 l0_3 x23_2).f2).length c293_3)).heap[gb294]? = some (.cells #[.int .i64 ((rd_T105 l0_3 x23_2).f0.f0), .int .i64 ((rd_T105 l0_3 x23_2).f0.f1), .slice A293_2 ((rd_T105 l0_3 x23_2).f1).length c293_2, .slice A293_3 ((rd_T105 l0_3 x23_2).f2).length c293_3] 105 (0, 0))) := ⟨sp BK294⟩
   have n2_ : Aside0 (Below w.heap.size w ((((w24.setCell ⟨gb294, 0, none⟩ (.int .i64 ((rd_T105 l0_3 x23_2).f0.f0))).setCell ⟨gb294, 1, none⟩ (.int .i64 ((rd_T105 l0_3 x23_2).f0.f1))).setCell ⟨gb294, 2, none⟩ (.slice A293_2 ((rd_T105 l0_3 x23_2).f1).length c293_2)).setCell ⟨gb294, 3, none⟩ (.slice A293_3 ((rd_T105 l0_3 x23_2).f2).length c293_3))) := ⟨sbw⟩
   (try clear BK290)
   (try clear BK294)
   (try clear HB)
   generalize ((((w24.setCell ⟨gb294, 0, none⟩ (.int .i64 ((rd_T105 l0_3 x23_2).f0.f0))).setCell ⟨gb294, 1, none⟩ (.int .i64 ((rd_T105 l0_3 x23_2).f0.f1))).setCell ⟨gb294, 2, none⟩ (.slice A293_2 ((rd_T105 l0_3 x23_2).f1).length c293_2)).setCell ⟨gb294, 3, none⟩ (.slice A293_3 ((rd_T105 l0_3 x23_2).f2).length c293_3)) = w27 at n0_ n1_ n2_ ⊢
   have BK290 := n0_
   have BK294 := n1_
   have HB := n2_
   clear n0_ n1_ n2_
   replace BK290 := am (blk_drew BK290.out)
   replace BK294 := am (blk_drew BK294.out)
   replace HB := am (below_drew1 HB.out)
   obtain ⟨p296, q296, ad296, A296_2, c296_2, A296_3, c296_3, e296, hw296_0, hw296_1, hw296_2, hw296_3, hx296_0, hx296_1, hx296_2, hx296_3, HC296_2, HR296_2, HC296_3, HR296_3⟩ := aT_T105 HR0_3 HB (ji17)
   obtain rfl : ad293 = ad296 := (by injection e296)
   refine start_ (n := 35) (S := fun w' => w'.cell? ⟨gb294, 0, none⟩ = some (.int .i64 ((rd_T105 l0_3 x23_2).f0.f0)) ∧ w'.cell? ⟨gb294, 1, none⟩ = some (.int .i64 ((rd_T105 l0_3 x23_2).f0.f1)) ∧ w'.cell? ⟨gb294, 2, none⟩ = some (.slice A293_2 ((rd_T105 l0_3 x23_2).f1).length c293_2) ∧ w'.cell? ⟨gb294, 3, none⟩ = some (.slice A293_3 ((rd_T105 l0_3 x23_2).f2).length c293_3) ∧ w'.cell? ⟨gb290, 0, none⟩ = some (.int .i64 a0_0) ∧ w'.cell? ⟨gb290, 1, none⟩ = some (.int .i64 a0_1) ∧ w'.cell? ⟨gb290, 2, none⟩ = some (.int .i64 a0_2) ∧ w'.cell? ⟨gb290, 3, none⟩ = some (.slice (some ad293) l0_3.length c0_3) ∧ w'.cell? (ad293.add (((ji17)).toNat * 4)) = some (.int .i64 ((rd_T105 l0_3 (ji17)).f0.f0)) ∧ w'.cell? ⟨(ad293.add (((ji17)).toNat * 4)).block, (ad293.add (((ji17)).toNat * 4)).off + 1, none⟩ = some (.int .i64 ((rd_T105 l0_3 (ji17)).f0.f1)) ∧ w'.cell? ⟨(ad293.add (((ji17)).toNat * 4)).block, (ad293.add (((ji17)).toNat * 4)).off + 2, none⟩ = some (.slice A296_2 ((rd_T105 l0_3 (ji17)).f1).length c296_2) ∧ w'.cell? ⟨(ad293.add (((ji17)).toNat * 4)).block, (ad293.add (((ji17)).toNat * 4)).off + 3, none⟩ = some (.slice A296_3 ((rd_T105 l0_3 (ji17)).f2).length c296_3)) (ds := []) #[false, false, false, false, false, false, false, false, false, false, false, false, false, false, false, false, false, false, false, false, false, false, false, false, false, false, false, false, false, false, false, false, false, false, false] (by kernel_rfl) rfl rfl ⟨bc0 BK294, bc1 BK294, bc2 BK294, bc3 BK294, bc0 BK290, bc1 BK290, bc2 BK290, bc3 BK290, (hb_ HB hw296_0), (hb_ HB hw296_1), (hb_ HB hw296_2), (hb_ HB hw296_3)⟩ (fun hHeld => ?_); refine with_tabW impl_IsProgram.tab6 impl_IsProgram.bits6 (fun HT_ HW_ => ?_)
   generalize w27.drew = w28 at BK290 BK294 HB HR296_2 HR296_3 hx296_0 hx296_1 hx296_2 hx296_3 hHeld ⊢
   refine put 0 28 (bt 35 1) HT_ ?_
   refine tat12 1 29 (bt 35 3) HT_ HW_ hHeld ?_
   refine on 2 30 (bt 35 7) HT_ (fun K hK => ?_)
   refine goes_ Try.func79 (by kernel_rfl) rfl #[.agg #[.int .i64 ((rd_T105 l0_3 x23_2).f0.f0), .int .i64 ((rd_T105 l0_3 x23_2).f0.f1)]] (by rfl) rfl rfl sl ?_
   with_reducible refine (impl_IsSpan.calls ((rd_T105 l0_3 x23_2).f0.f0) ((rd_T105 l0_3 x23_2).f0.f1) true _ A14.out).mono ?_
   rintro e w29 ⟨rfl, hb⟩
   refine ⟨_, rfl, ?_⟩
   replace BK290 := bb BK290 hb
   replace BK294 := bb BK294 hb
   replace HB := bsw hb
   (try clear hb)
   (try clear hb2)
   (try clear hk)
   (try clear hi)
   refine hK.out _ _ ⟨bc0 BK294, bc1 BK294, bc2 BK294, bc3 BK294, bc0 BK290, bc1 BK290, bc2 BK290, bc3 BK290, (hb_ HB hw296_0), (hb_ HB hw296_1), (hb_ HB hw296_2), (hb_ HB hw296_3)⟩ (fun hHeld => ?_)
   clear hK K
   refine nm 30 ?_
   refine put 3 31 (bt 35 15) HT_ ?_
   refine put 4 32 (bt 35 31) HT_ ?_
   refine put 5 33 (bt 35 63) HT_ ?_
   refine put 6 34 (bt 35 127) HT_ ?_
   refine put 7 35 (bt 35 255) HT_ ?_
   refine put 8 36 (bt 35 511) HT_ ?_
   refine put 9 37 (bt 35 1023) HT_ ?_
   refine put 11 39 (bt 35 3071) HT_ ?_
   refine put 13 41 (bt 35 11263) HT_ ?_
   refine put 14 42 (bt 35 27647) HT_ ?_
   refine tat12 10 38 (bt 35 28671) HT_ HW_ hHeld ?_
   refine tat12 12 40 (bt 35 32767) HT_ HW_ hHeld ?_
   refine put 15 43 (bt 35 65535) HT_ ?_
   refine put 16 44 (bt 35 131071) HT_ ?_
   refine put 17 45 (bt 35 262143) HT_ ?_
   refine tat12 18 46 (bt 35 524287) HT_ HW_ hHeld ?_
   refine put 19 47 (bt 35 1048575) HT_ ?_
   refine put 20 48 (bt 35 2097151) HT_ ?_
   refine put 21 49 (bt 35 4194303) HT_ ?_
   refine put 22 50 (bt 35 8388607) HT_ ?_
   refine put 23 51 (bt 35 16777215) HT_ ?_
   refine put 25 53 (bt 35 50331647) HT_ ?_
   refine put 27 55 (bt 35 184549375) HT_ ?_
   refine put 29 57 (bt 35 721420287) HT_ ?_
   refine tat12 24 52 (bt 35 738197503) HT_ HW_ hHeld ?_
   refine tat12 26 54 (bt 35 805306367) HT_ HW_ hHeld ?_
   refine tat12 28 56 (bt 35 1073741823) HT_ HW_ hHeld ?_
   refine tat12 30 58 (bt 35 2147483647) HT_ HW_ hHeld ?_
   refine on 31 59 (bt 35 4294967295) HT_ (fun K hK => ?_)
   refine goes_ Try.func97 (by kernel_rfl) rfl #[.slice A293_2 ((rd_T105 l0_3 x23_2).f1).length c293_2, .int .i64 a0_0, .int .i64 a0_1] (by rfl) rfl rfl sl ?_
   with_reducible refine (impl_tablesOf.calls k2 _ _ ((rd_T105 l0_3 x23_2).f1) a0_0 a0_1 t297 _ ?side1 ?side2 A21.out).mono ?_
   (case side1 => exact cb HR293_2)
   (case side2 => exact HC293_2.out)
   rintro e w30 ⟨v298, rfl, ho0, hb⟩
   refine ⟨_, rfl, ?_⟩
   have HO299 := am (Kd.S_lower ho0 (below_size (sbw)))
   replace BK290 := bb BK290 hb
   replace BK294 := bb BK294 hb
   replace HB := bsw hb
   (try clear hb)
   (try clear hb2)
   (try clear hk)
   (try clear hi)
   (try clear ho0)
   obtain ⟨Ao31, co31, eo31⟩ := Kd.S_slice HO299.out
   (first | subst eo31 | (injection eo31 with f1_ f2_ f3_; have f4_ := f1_.symm; have f5_ := f3_.symm; clear f1_ f2_ f3_; subst f4_; subst f5_))
   refine hK.out _ _ ⟨bc0 BK294, bc1 BK294, bc2 BK294, bc3 BK294, bc0 BK290, bc1 BK290, bc2 BK290, bc3 BK290, (hb_ HB hw296_0), (hb_ HB hw296_1), (hb_ HB hw296_2), (hb_ HB hw296_3)⟩ (fun hHeld => ?_)
   clear hK K
   refine nm 59 ?_
   refine on 32 60 (bt 35 8589934591) HT_ (fun K hK => ?_)
   refine goes_ Try.func96 (by kernel_rfl) rfl #[.slice A293_3 ((rd_T105 l0_3 x23_2).f2).length c293_3, .slice Ao31 t297.length co31, .func (.func 98) #[] #[]] (by rfl) rfl rfl sl ?_
   with_reducible refine (impl_Table.calls k2 _ _ ((rd_T105 l0_3 x23_2).f2) _ _ t297 0 true _ ?side1 ?side2 ?side3 ?side4 A22.out).mono ?_
   (case side1 => exact cb HR293_3)
   (case side2 => exact HC293_3.out)
   (case side3 => repeat (first | exact (Kd.S_reads' HO299.out).2.2 | (with_reducible refine Kd.C_alloc ?_ _) | (with_reducible refine Kd.C_drewN ?_ _) | (with_reducible refine Kd.C_drew ?_)))
   (case side4 => exact (Kd.S_reads' HO299.out).2.1)
   rintro e w32 ⟨rfl, hb⟩
   refine ⟨_, rfl, ?_⟩
   replace HO299 := am (Kd.S_below (ss HO299) hb)
   replace BK290 := bb BK290 hb
   replace BK294 := bb BK294 hb
   replace HB := bsw hb
   (try clear hb)
   (try clear hb2)
   (try clear hk)
   (try clear hi)
   refine hK.out _ _ ⟨bc0 BK294, bc1 BK294, bc2 BK294, bc3 BK294, bc0 BK290, bc1 BK290, bc2 BK290, bc3 BK290, (hb_ HB hw296_0), (hb_ HB hw296_1), (hb_ HB hw296_2), (hb_ HB hw296_3)⟩ (fun hHeld => ?_)
   clear hK K
   refine nm 60 ?_
   refine put 33 61 (bt 35 17179869183) HT_ ?_
   refine put 34 62 (bt 35 34359738367) HT_ ?_
   refine done_ (done_of HT_.out (by kernel_rfl)) ?_
   try go_wp2
   go_roundg k2
   case measure => have := HJ1.out; have := HK2.out; omega
   case rel => exact ⟨(wrap64 (x23_2 + 1)), sc, H', ⟨by have := HJ1.out; have := HK2.out; omega⟩, ⟨sk BK290⟩, ⟨sbw⟩⟩) : P := h
theorem impl_IsProgram.calls (k : Nat) (a0_0 : Int) (a0_1 : Int) (a0_2 : Int) (A0_3 : Option Addr) (c0_3 : Nat) (l0_3 : List (S105)) (r : Bool) (w : World) (hr0_3 : Kd.C k105 w A0_3 l0_3.length l0_3) (hc0_3 : l0_3.length ≤ c0_3) (h : impl_IsProgram.f k a0_0 a0_1 a0_2 l0_3 = some r) :
    Calls Try.prog 36 #[.agg #[.int .i64 a0_0, .int .i64 a0_1, .int .i64 a0_2, .slice A0_3 l0_3.length c0_3]] w fun e w' => e = .returned (.bool r) ∧ Below w.heap.size w w' := by
 have hu31 := Try.underlying31
 have hu105 := Try.underlying105
 have hu102 := Try.underlying102
 have HR0_3 := am hr0_3
 have HC0_3 := am hc0_3
 clear hr0_3 hc0_3
 have HB := am (Below.refl w.heap.size w)
 have H := h; unfold impl_IsProgram.f at H
 clear h
 have HC2 := am H
 clear H
 go_enter Try.func36, Try.ntmps36
 go_upto_region 1 with (first | ((with_reducible refine gd 1 rfl ?_); (try (refine gate_guard (by rfl) ?_; dsimp only)); refine bx 1 #[.int .i64 a0_0, .int .i64 a0_1, .int .i64 a0_2, .slice A0_3 l0_3.length c0_3] 31 ?_; intro gb290 hg w3 hbox hb; have GW290 := bz w hg; have GE290 := bz w hg; replace HB := bs hb; have BK290 := am hbox; clear hb hbox hg))
 (try simp only [Act.put, List.setIfInBounds_toArray, List.set_cons_zero, List.set_cons_succ])
 go_cut [19] (fun v19 wc => ∃ (kq : Nat) (x19_1 : Bool), v19 = .bool x19_1 ∧ Aside0 (impl_IsProgram.j0 kq x19_1 a0_0 a0_1 a0_2 l0_3 = some r) ∧ Aside0 (kq ≤ k) ∧ Aside0 (wc.heap[gb290]? = some (.cells #[.int .i64 a0_0, .int .i64 a0_1, .int .i64 a0_2, (.slice A0_3 l0_3.length c0_3)] 31 (0, 0))) ∧ Aside0 (Below w.heap.size w wc))
 case first =>
  have H := HC2.out
  clear HC2
  obtain ⟨t291, A4, H⟩ := bnd H
  obtain rfl | rfl := tt t291
  ·replace H := ip H
   obtain ⟨t292, A6, H⟩ := bnd H
   have H' := am H
   clear H
   obtain ⟨hcz7_0, hcz7_1, hcz7_2, hcz7_3, hfz7_0, hfz7_1, hfz7_2, hfz7_3⟩ := cc4 BK290
   go_wp2_with (first | ((with_reducible refine gc 94 rfl ?_); refine gL (some 11) Try.func94 #[.int .i64 a0_0, .int .i64 a0_1, .int .i64 a0_2] ?_; (with_reducible refine (impl_isFrame.calls a0_0 a0_1 a0_2 true _ A4.out).mono ?_); rintro e w' ⟨rfl, ⟨nd, rfl⟩⟩; refine ⟨_, rfl, ?_⟩) | (go_at_call 95; (with_reducible refine (impl_InRange.calls (l0_3.length : Int) 1 40 t292 _ A6.out).mono ?_); rintro e w' ⟨rfl, ⟨nd, rfl⟩⟩))
   go_meet
   case rel => exact ⟨_, (!t292), sc, H', ⟨by first | omega | exact Nat.le_refl _⟩, ⟨sk BK290⟩, ⟨sbw⟩⟩
  ·replace H := im H
   have H' := am H
   clear H
   obtain ⟨hcz8_0, hcz8_1, hcz8_2, hcz8_3, hfz8_0, hfz8_1, hfz8_2, hfz8_3⟩ := cc4 BK290
   go_wp2_with (first | ((with_reducible refine gc 94 rfl ?_); refine gL (some 11) Try.func94 #[.int .i64 a0_0, .int .i64 a0_1, .int .i64 a0_2] ?_; (with_reducible refine (impl_isFrame.calls a0_0 a0_1 a0_2 false _ A4.out).mono ?_); rintro e w' ⟨rfl, ⟨nd, rfl⟩⟩; refine ⟨_, rfl, ?_⟩))
   go_meet
   case rel => exact ⟨_, (true), sc, H', ⟨by first | omega | exact Nat.le_refl _⟩, ⟨sk BK290⟩, ⟨sbw⟩⟩
 case rest =>
  clear HC2
  obtain ⟨kq, x19_1, rfl, HA, HJ1, BK290, HB⟩ := hcut
  cases kq with
  | zero => exact absurd HA.out (by simp [impl_IsProgram.j0])
  | succ kj1 =>
   have H := HA.out
   clear HA
   simp only [impl_IsProgram.j0] at H
   obtain rfl | rfl := tt x19_1
   ·replace H := ip H
    obtain rfl := Option.some.inj H
    go_wp2
    go_ret
    exact ⟨se, sbw⟩
   ·replace H := im H
    have H' := am H
    clear H
    obtain ⟨hcz10_0, hcz10_1, hcz10_2, hcz10_3, hfz10_0, hfz10_1, hfz10_2, hfz10_3⟩ := cc4 BK290
    go_wp2
    go_loopg [23] kj1 (fun kq v23 w' => ∃ (x23_2 : Int), v23 = .int .i64 x23_2 ∧ Aside0 (impl_IsProgram.l0 kq l0_3 (l0_3.length : Int) x23_2 a0_0 a0_1 a0_2 l0_3 = some r) ∧ Aside0 (kq ≤ kj1) ∧ Aside0 (w'.heap[gb290]? = some (.cells #[.int .i64 a0_0, .int .i64 a0_1, .int .i64 a0_2, (.slice A0_3 l0_3.length c0_3)] 31 (0, 0))) ∧ Aside0 (Below w.heap.size w w'))
    case atStart => exact ⟨(0), sc, H', kk0, ⟨sk BK290⟩, ⟨sbw⟩⟩
    case round =>
     clear H'
     try clear hcz10_0
     try clear hcz10_1
     try clear hcz10_2
     try clear hcz10_3
     try clear hfz10_0
     try clear hfz10_1
     try clear hfz10_2
     try clear hfz10_3
     obtain ⟨x23_2, rfl, HA, HK2, BK290, HB⟩ := hrel
     cases gk with
     | zero => exact absurd HA.out (by simp [impl_IsProgram.l0])
     | succ k2 =>
      have H := HA.out
      clear HA
      simp only [impl_IsProgram.l0] at H
      obtain ⟨-, c11b0, H⟩ | ⟨-, c11b0, H⟩ := ic_ H
      ·obtain ⟨c12b0, H⟩ := id_ H
       obtain ⟨c13b0, H⟩ := id_ H
       obtain ⟨t295, A14, H⟩ := bnd H
       obtain rfl | rfl := tt t295
       ·replace H := ip H
        obtain ⟨-, c16b0, H⟩ | ⟨-, c16b0, H⟩ := ic_ H
        ·obtain ⟨ji17, hji17⟩ : ∃ j_ : Int, (wrap64 (x23_2 - 1)) = j_ := ⟨_, rfl⟩
         replace H : (if 0 ≤ (ji17) then (if (ji17) < (l0_3.length : Int) then (if ((rd_T105 l0_3 x23_2).f0.f0) = ((rd_T105 l0_3 (ji17)).f0.f1) then ((impl_tablesOf.f k2 ((rd_T105 l0_3 x23_2).f1) a0_0 a0_1).bind fun t297 => ((impl_Table.f k2 ((rd_T105 l0_3 x23_2).f2) t297 0).bind fun t300 => (if t300 = true then (impl_IsProgram.l0 k2 l0_3 (l0_3.length : Int) (wrap64 (x23_2 + 1)) a0_0 a0_1 a0_2 l0_3) else (some false)))) else (some false)) else (none)) else (none)) = some r := by first | (rw [hji17] at H; exact H) | (simp only [hji17] at H ⊢; exact H)
         (try rw [hji17] at A14)
         have hji17w : (IntKind.i64.wrap (x23_2 - 1)) = ji17 := (i64_w _).trans hji17
         obtain ⟨c18b0, H⟩ := id_ H
         obtain ⟨c19b0, H⟩ := id_ H
         obtain ⟨-, c20b0, c20b1, H⟩ | ⟨c20, c20b0, c20b1, H⟩ := ib_ H
         ·obtain ⟨t297, A21, H⟩ := bnd H
          obtain ⟨t300, A22, H⟩ := bnd H
          obtain rfl | rfl := tt t300
          ·replace H := ip H
           have H' := am H
           clear H
           obtain ⟨p293, q293, ad293, A293_2, c293_2, A293_3, c293_3, e293, _, _, _, _, hx293_0, hx293_1, hx293_2, hx293_3, HC293_2, HR293_2, HC293_3, HR293_3⟩ := aT_T105 HR0_3 HB x23_2
           cases e293
           exact e8_0
          ·replace H := im H
           obtain rfl := Option.some.inj H
           obtain ⟨p293, q293, ad293, A293_2, c293_2, A293_3, c293_3, e293, _, _, _, _, hx293_0, hx293_1, hx293_2, hx293_3, HC293_2, HR293_2, HC293_3, HR293_3⟩ := aT_T105 HR0_3 HB x23_2
           cases e293
           try go_wp2_with (first | ((with_reducible refine gd 4 rfl ?_); (try (refine gate_guard (by rfl) ?_; dsimp only)); refine bx 4 #[.int .i64 0, .int .i64 0, .slice none 0 0, .slice none 0 0] 105 ?_; intro gb294 hg w33 hbox hb; have GW294 := bzw w hg; have GE294 := bzw w hg; replace HB := bsw hb; have BK294 := am hbox; have NB290_294 := nl BK290 hg; have NB294_290 := ng BK290 hg; replace BK290 := bb BK290 hb; clear hb hbox hg; have hnb34 := NB294_290.out; have hnc34 := NB290_294.out; obtain ⟨hcz35_0, hcz35_1, hcz35_2, hcz35_3, hfz35_0, hfz35_1, hfz35_2, hfz35_3⟩ := cc4 BK294))
           have n0_ : Aside0 (((((w33.setCell ⟨gb294, 0, none⟩ (.int .i64 ((rd_T105 l0_3 x23_2).f0.f0))).setCell ⟨gb294, 1, none⟩ (.int .i64 ((rd_T105 l0_3 x23_2).f0.f1))).setCell ⟨gb294, 2, none⟩ (.slice A293_2 ((rd_T105 l0_3 x23_2).f1).length c293_2)).setCell ⟨gb294, 3, none⟩ (.slice A293_3 ((rd_T105 l0_3 x23_2).f2).length c293_3)).heap[gb290]? = some (.cells #[.int .i64 a0_0, .int .i64 a0_1, .int .i64 a0_2, .slice (some ad293) l0_3.length c0_3] 31 (0, 0))) := ⟨sp BK290⟩
           have n1_ : Aside0 (((((w33.setCell ⟨gb294, 0, none⟩ (.int .i64 ((rd_T105 l0_3 x23_2).f0.f0))).setCell ⟨gb294, 1, none⟩ (.int .i64 ((rd_T105 l0_3 x23_2).f0.f1))).setCell ⟨gb294, 2, none⟩ (.slice A293_2 ((rd_T105 l0_3 x23_2).f1).length c293_2)).setCell ⟨gb294, 3, none⟩ (.slice A293_3 ((rd_T105 l0_3 x23_2).f2).length c293_3)).heap[gb294]? = some (.cells #[.int .i64 ((rd_T105 l0_3 x23_2).f0.f0), .int .i64 ((rd_T105 l0_3 x23_2).f0.f1), .slice A293_2 ((rd_T105 l0_3 x23_2).f1).length c293_2, .slice A293_3 ((rd_T105 l0_3 x23_2).f2).length c293_3] 105 (0, 0))) := ⟨sp BK294⟩
           have n2_ : Aside0 (Below w.heap.size w ((((w33.setCell ⟨gb294, 0, none⟩ (.int .i64 ((rd_T105 l0_3 x23_2).f0.f0))).setCell ⟨gb294, 1, none⟩ (.int .i64 ((rd_T105 l0_3 x23_2).f0.f1))).setCell ⟨gb294, 2, none⟩ (.slice A293_2 ((rd_T105 l0_3 x23_2).f1).length c293_2)).setCell ⟨gb294, 3, none⟩ (.slice A293_3 ((rd_T105 l0_3 x23_2).f2).length c293_3))) := ⟨sbw⟩
           (try clear BK290)
           (try clear BK294)
           (try clear HB)
           generalize ((((w33.setCell ⟨gb294, 0, none⟩ (.int .i64 ((rd_T105 l0_3 x23_2).f0.f0))).setCell ⟨gb294, 1, none⟩ (.int .i64 ((rd_T105 l0_3 x23_2).f0.f1))).setCell ⟨gb294, 2, none⟩ (.slice A293_2 ((rd_T105 l0_3 x23_2).f1).length c293_2)).setCell ⟨gb294, 3, none⟩ (.slice A293_3 ((rd_T105 l0_3 x23_2).f2).length c293_3)) = w36 at n0_ n1_ n2_ ⊢
           have BK290 := n0_
           have BK294 := n1_
           have HB := n2_
           clear n0_ n1_ n2_
           replace BK290 := am (blk_drew BK290.out)
           replace BK294 := am (blk_drew BK294.out)
           replace HB := am (below_drew1 HB.out)
           obtain ⟨p296, q296, ad296, A296_2, c296_2, A296_3, c296_3, e296, hw296_0, hw296_1, hw296_2, hw296_3, hx296_0, hx296_1, hx296_2, hx296_3, HC296_2, HR296_2, HC296_3, HR296_3⟩ := aT_T105 HR0_3 HB (ji17)
           obtain rfl : ad293 = ad296 := (by injection e296)
           refine start_ (n := 35) (S := fun w' => w'.cell? ⟨gb294, 0, none⟩ = some (.int .i64 ((rd_T105 l0_3 x23_2).f0.f0)) ∧ w'.cell? ⟨gb294, 1, none⟩ = some (.int .i64 ((rd_T105 l0_3 x23_2).f0.f1)) ∧ w'.cell? ⟨gb294, 2, none⟩ = some (.slice A293_2 ((rd_T105 l0_3 x23_2).f1).length c293_2) ∧ w'.cell? ⟨gb294, 3, none⟩ = some (.slice A293_3 ((rd_T105 l0_3 x23_2).f2).length c293_3) ∧ w'.cell? ⟨gb290, 0, none⟩ = some (.int .i64 a0_0) ∧ w'.cell? ⟨gb290, 1, none⟩ = some (.int .i64 a0_1) ∧ w'.cell? ⟨gb290, 2, none⟩ = some (.int .i64 a0_2) ∧ w'.cell? ⟨gb290, 3, none⟩ = some (.slice (some ad293) l0_3.length c0_3) ∧ w'.cell? (ad293.add (((ji17)).toNat * 4)) = some (.int .i64 ((rd_T105 l0_3 (ji17)).f0.f0)) ∧ w'.cell? ⟨(ad293.add (((ji17)).toNat * 4)).block, (ad293.add (((ji17)).toNat * 4)).off + 1, none⟩ = some (.int .i64 ((rd_T105 l0_3 (ji17)).f0.f1)) ∧ w'.cell? ⟨(ad293.add (((ji17)).toNat * 4)).block, (ad293.add (((ji17)).toNat * 4)).off + 2, none⟩ = some (.slice A296_2 ((rd_T105 l0_3 (ji17)).f1).length c296_2) ∧ w'.cell? ⟨(ad293.add (((ji17)).toNat * 4)).block, (ad293.add (((ji17)).toNat * 4)).off + 3, none⟩ = some (.slice A296_3 ((rd_T105 l0_3 (ji17)).f2).length c296_3)) (ds := []) #[false, false, false, false, false, false, false, false, false, false, false, false, false, false, false, false, false, false, false, false, false, false, false, false, false, false, false, false, false, false, false, false, false, false, false] (by kernel_rfl) rfl rfl ⟨bc0 BK294, bc1 BK294, bc2 BK294, bc3 BK294, bc0 BK290, bc1 BK290, bc2 BK290, bc3 BK290, (hb_ HB hw296_0), (hb_ HB hw296_1), (hb_ HB hw296_2), (hb_ HB hw296_3)⟩ (fun hHeld => ?_); refine with_tabW impl_IsProgram.tab6 impl_IsProgram.bits6 (fun HT_ HW_ => ?_)
           generalize w36.drew = w37 at BK290 BK294 HB HR296_2 HR296_3 hx296_0 hx296_1 hx296_2 hx296_3 hHeld ⊢
           refine put 0 28 (bt 35 1) HT_ ?_
           refine tat12 1 29 (bt 35 3) HT_ HW_ hHeld ?_
           refine on 2 30 (bt 35 7) HT_ (fun K hK => ?_)
           refine goes_ Try.func79 (by kernel_rfl) rfl #[.agg #[.int .i64 ((rd_T105 l0_3 x23_2).f0.f0), .int .i64 ((rd_T105 l0_3 x23_2).f0.f1)]] (by rfl) rfl rfl sl ?_
           with_reducible refine (impl_IsSpan.calls ((rd_T105 l0_3 x23_2).f0.f0) ((rd_T105 l0_3 x23_2).f0.f1) true _ A14.out).mono ?_
           rintro e w38 ⟨rfl, hb⟩
           refine ⟨_, rfl, ?_⟩
           replace BK290 := bb BK290 hb
           replace BK294 := bb BK294 hb
           replace HB := bsw hb
           (try clear hb)
           (try clear hb2)
           (try clear hk)
           (try clear hi)
           refine hK.out _ _ ⟨bc0 BK294, bc1 BK294, bc2 BK294, bc3 BK294, bc0 BK290, bc1 BK290, bc2 BK290, bc3 BK290, (hb_ HB hw296_0), (hb_ HB hw296_1), (hb_ HB hw296_2), (hb_ HB hw296_3)⟩ (fun hHeld => ?_)
           clear hK K
           refine nm 30 ?_
           refine put 3 31 (bt 35 15) HT_ ?_
           refine put 4 32 (bt 35 31) HT_ ?_
           refine put 5 33 (bt 35 63) HT_ ?_
           refine put 6 34 (bt 35 127) HT_ ?_
           refine put 7 35 (bt 35 255) HT_ ?_
           refine put 8 36 (bt 35 511) HT_ ?_
           refine put 9 37 (bt 35 1023) HT_ ?_
           refine put 11 39 (bt 35 3071) HT_ ?_
           refine put 13 41 (bt 35 11263) HT_ ?_
           refine put 14 42 (bt 35 27647) HT_ ?_
           refine tat12 10 38 (bt 35 28671) HT_ HW_ hHeld ?_
           refine tat12 12 40 (bt 35 32767) HT_ HW_ hHeld ?_
           refine put 15 43 (bt 35 65535) HT_ ?_
           refine put 16 44 (bt 35 131071) HT_ ?_
           refine put 17 45 (bt 35 262143) HT_ ?_
           refine tat12 18 46 (bt 35 524287) HT_ HW_ hHeld ?_
           refine put 19 47 (bt 35 1048575) HT_ ?_
           refine put 20 48 (bt 35 2097151) HT_ ?_
           refine put 21 49 (bt 35 4194303) HT_ ?_
           refine put 22 50 (bt 35 8388607) HT_ ?_
           refine put 23 51 (bt 35 16777215) HT_ ?_
           refine put 25 53 (bt 35 50331647) HT_ ?_
           refine put 27 55 (bt 35 184549375) HT_ ?_
           refine put 29 57 (bt 35 721420287) HT_ ?_
           refine tat12 24 52 (bt 35 738197503) HT_ HW_ hHeld ?_
           refine tat12 26 54 (bt 35 805306367) HT_ HW_ hHeld ?_
           refine tat12 28 56 (bt 35 1073741823) HT_ HW_ hHeld ?_
           refine tat12 30 58 (bt 35 2147483647) HT_ HW_ hHeld ?_
           refine on 31 59 (bt 35 4294967295) HT_ (fun K hK => ?_)
           refine goes_ Try.func97 (by kernel_rfl) rfl #[.slice A293_2 ((rd_T105 l0_3 x23_2).f1).length c293_2, .int .i64 a0_0, .int .i64 a0_1] (by rfl) rfl rfl sl ?_
           with_reducible refine (impl_tablesOf.calls k2 _ _ ((rd_T105 l0_3 x23_2).f1) a0_0 a0_1 t297 _ ?side1 ?side2 A21.out).mono ?_
           (case side1 => exact cb HR293_2)
           (case side2 => exact HC293_2.out)
           rintro e w39 ⟨v298, rfl, ho0, hb⟩
           refine ⟨_, rfl, ?_⟩
           have HO299 := am (Kd.S_lower ho0 (below_size (sbw)))
           replace BK290 := bb BK290 hb
           replace BK294 := bb BK294 hb
           replace HB := bsw hb
           (try clear hb)
           (try clear hb2)
           (try clear hk)
           (try clear hi)
           (try clear ho0)
           obtain ⟨Ao40, co40, eo40⟩ := Kd.S_slice HO299.out
           (first | subst eo40 | (injection eo40 with f1_ f2_ f3_; have f4_ := f1_.symm; have f5_ := f3_.symm; clear f1_ f2_ f3_; subst f4_; subst f5_))
           refine hK.out _ _ ⟨bc0 BK294, bc1 BK294, bc2 BK294, bc3 BK294, bc0 BK290, bc1 BK290, bc2 BK290, bc3 BK290, (hb_ HB hw296_0), (hb_ HB hw296_1), (hb_ HB hw296_2), (hb_ HB hw296_3)⟩ (fun hHeld => ?_)
           clear hK K
           refine nm 59 ?_
           refine on 32 60 (bt 35 8589934591) HT_ (fun K hK => ?_)
           refine goes_ Try.func96 (by kernel_rfl) rfl #[.slice A293_3 ((rd_T105 l0_3 x23_2).f2).length c293_3, .slice Ao40 t297.length co40, .func (.func 98) #[] #[]] (by rfl) rfl rfl sl ?_
           with_reducible refine (impl_Table.calls k2 _ _ ((rd_T105 l0_3 x23_2).f2) _ _ t297 0 false _ ?side1 ?side2 ?side3 ?side4 A22.out).mono ?_
           (case side1 => exact cb HR293_3)
           (case side2 => exact HC293_3.out)
           (case side3 => repeat (first | exact (Kd.S_reads' HO299.out).2.2 | (with_reducible refine Kd.C_alloc ?_ _) | (with_reducible refine Kd.C_drewN ?_ _) | (with_reducible refine Kd.C_drew ?_)))
           (case side4 => exact (Kd.S_reads' HO299.out).2.1)
           rintro e w41 ⟨rfl, hb⟩
           refine ⟨_, rfl, ?_⟩
           replace HO299 := am (Kd.S_below (ss HO299) hb)
           replace BK290 := bb BK290 hb
           replace BK294 := bb BK294 hb
           replace HB := bsw hb
           (try clear hb)
           (try clear hb2)
           (try clear hk)
           (try clear hi)
           refine hK.out _ _ ⟨bc0 BK294, bc1 BK294, bc2 BK294, bc3 BK294, bc0 BK290, bc1 BK290, bc2 BK290, bc3 BK290, (hb_ HB hw296_0), (hb_ HB hw296_1), (hb_ HB hw296_2), (hb_ HB hw296_3)⟩ (fun hHeld => ?_)
           clear hK K
           refine nm 60 ?_
           refine put 33 61 (bt 35 17179869183) HT_ ?_
           refine put 34 62 (bt 35 34359738367) HT_ ?_
           refine done_ (done_of HT_.out (by kernel_rfl)) ?_
           try go_wp2
           go_ret
           exact ⟨a8_0, sbw⟩
         ·obtain rfl := Option.some.inj H
          obtain ⟨p293, q293, ad293, A293_2, c293_2, A293_3, c293_3, e293, _, _, _, _, hx293_0, hx293_1, hx293_2, hx293_3, HC293_2, HR293_2, HC293_3, HR293_3⟩ := aT_T105 HR0_3 HB x23_2
          cases e293
          try go_wp2_with (first | ((with_reducible refine gd 4 rfl ?_); (try (refine gate_guard (by rfl) ?_; dsimp only)); refine bx 4 #[.int .i64 0, .int .i64 0, .slice none 0 0, .slice none 0 0] 105 ?_; intro gb294 hg w42 hbox hb; have GW294 := bzw w hg; have GE294 := bzw w hg; replace HB := bsw hb; have BK294 := am hbox; have NB290_294 := nl BK290 hg; have NB294_290 := ng BK290 hg; replace BK290 := bb BK290 hb; clear hb hbox hg; have hnb43 := NB294_290.out; have hnc43 := NB290_294.out; obtain ⟨hcz44_0, hcz44_1, hcz44_2, hcz44_3, hfz44_0, hfz44_1, hfz44_2, hfz44_3⟩ := cc4 BK294))
          have n0_ : Aside0 (((((w42.setCell ⟨gb294, 0, none⟩ (.int .i64 ((rd_T105 l0_3 x23_2).f0.f0))).setCell ⟨gb294, 1, none⟩ (.int .i64 ((rd_T105 l0_3 x23_2).f0.f1))).setCell ⟨gb294, 2, none⟩ (.slice A293_2 ((rd_T105 l0_3 x23_2).f1).length c293_2)).setCell ⟨gb294, 3, none⟩ (.slice A293_3 ((rd_T105 l0_3 x23_2).f2).length c293_3)).heap[gb290]? = some (.cells #[.int .i64 a0_0, .int .i64 a0_1, .int .i64 a0_2, .slice (some ad293) l0_3.length c0_3] 31 (0, 0))) := ⟨sp BK290⟩
          have n1_ : Aside0 (((((w42.setCell ⟨gb294, 0, none⟩ (.int .i64 ((rd_T105 l0_3 x23_2).f0.f0))).setCell ⟨gb294, 1, none⟩ (.int .i64 ((rd_T105 l0_3 x23_2).f0.f1))).setCell ⟨gb294, 2, none⟩ (.slice A293_2 ((rd_T105 l0_3 x23_2).f1).length c293_2)).setCell ⟨gb294, 3, none⟩ (.slice A293_3 ((rd_T105 l0_3 x23_2).f2).length c293_3)).heap[gb294]? = some (.cells #[.int .i64 ((rd_T105 l0_3 x23_2).f0.f0), .int .i64 ((rd_T105 l0_3 x23_2).f0.f1), .slice A293_2 ((rd_T105 l0_3 x23_2).f1).length c293_2, .slice A293_3 ((rd_T105 l0_3 x23_2).f2).length c293_3] 105 (0, 0))) := ⟨sp BK294⟩
          have n2_ : Aside0 (Below w.heap.size w ((((w42.setCell ⟨gb294, 0, none⟩ (.int .i64 ((rd_T105 l0_3 x23_2).f0.f0))).setCell ⟨gb294, 1, none⟩ (.int .i64 ((rd_T105 l0_3 x23_2).f0.f1))).setCell ⟨gb294, 2, none⟩ (.slice A293_2 ((rd_T105 l0_3 x23_2).f1).length c293_2)).setCell ⟨gb294, 3, none⟩ (.slice A293_3 ((rd_T105 l0_3 x23_2).f2).length c293_3))) := ⟨sbw⟩
          (try clear BK290)
          (try clear BK294)
          (try clear HB)
          generalize ((((w42.setCell ⟨gb294, 0, none⟩ (.int .i64 ((rd_T105 l0_3 x23_2).f0.f0))).setCell ⟨gb294, 1, none⟩ (.int .i64 ((rd_T105 l0_3 x23_2).f0.f1))).setCell ⟨gb294, 2, none⟩ (.slice A293_2 ((rd_T105 l0_3 x23_2).f1).length c293_2)).setCell ⟨gb294, 3, none⟩ (.slice A293_3 ((rd_T105 l0_3 x23_2).f2).length c293_3)) = w45 at n0_ n1_ n2_ ⊢
          have BK290 := n0_
          have BK294 := n1_
          have HB := n2_
          clear n0_ n1_ n2_
          replace BK290 := am (blk_drew BK290.out)
          replace BK294 := am (blk_drew BK294.out)
          replace HB := am (below_drew1 HB.out)
          obtain ⟨p296, q296, ad296, A296_2, c296_2, A296_3, c296_3, e296, hw296_0, hw296_1, hw296_2, hw296_3, hx296_0, hx296_1, hx296_2, hx296_3, HC296_2, HR296_2, HC296_3, HR296_3⟩ := aT_T105 HR0_3 HB (ji17)
          obtain rfl : ad293 = ad296 := (by injection e296)
          refine start_ (n := 35) (S := fun w' => w'.cell? ⟨gb294, 0, none⟩ = some (.int .i64 ((rd_T105 l0_3 x23_2).f0.f0)) ∧ w'.cell? ⟨gb294, 1, none⟩ = some (.int .i64 ((rd_T105 l0_3 x23_2).f0.f1)) ∧ w'.cell? ⟨gb294, 2, none⟩ = some (.slice A293_2 ((rd_T105 l0_3 x23_2).f1).length c293_2) ∧ w'.cell? ⟨gb294, 3, none⟩ = some (.slice A293_3 ((rd_T105 l0_3 x23_2).f2).length c293_3) ∧ w'.cell? ⟨gb290, 0, none⟩ = some (.int .i64 a0_0) ∧ w'.cell? ⟨gb290, 1, none⟩ = some (.int .i64 a0_1) ∧ w'.cell? ⟨gb290, 2, none⟩ = some (.int .i64 a0_2) ∧ w'.cell? ⟨gb290, 3, none⟩ = some (.slice (some ad293) l0_3.length c0_3) ∧ w'.cell? (ad293.add (((ji17)).toNat * 4)) = some (.int .i64 ((rd_T105 l0_3 (ji17)).f0.f0)) ∧ w'.cell? ⟨(ad293.add (((ji17)).toNat * 4)).block, (ad293.add (((ji17)).toNat * 4)).off + 1, none⟩ = some (.int .i64 ((rd_T105 l0_3 (ji17)).f0.f1)) ∧ w'.cell? ⟨(ad293.add (((ji17)).toNat * 4)).block, (ad293.add (((ji17)).toNat * 4)).off + 2, none⟩ = some (.slice A296_2 ((rd_T105 l0_3 (ji17)).f1).length c296_2) ∧ w'.cell? ⟨(ad293.add (((ji17)).toNat * 4)).block, (ad293.add (((ji17)).toNat * 4)).off + 3, none⟩ = some (.slice A296_3 ((rd_T105 l0_3 (ji17)).f2).length c296_3)) (ds := []) #[false, false, false, false, false, false, false, false, false, false, false, false, false, false, false, false, false, false, false, false, false, false, false, false, false, false, false, false, false, false, false, false, false, false, false] (by kernel_rfl) rfl rfl ⟨bc0 BK294, bc1 BK294, bc2 BK294, bc3 BK294, bc0 BK290, bc1 BK290, bc2 BK290, bc3 BK290, (hb_ HB hw296_0), (hb_ HB hw296_1), (hb_ HB hw296_2), (hb_ HB hw296_3)⟩ (fun hHeld => ?_); refine with_tabW impl_IsProgram.tab6 impl_IsProgram.bits6 (fun HT_ HW_ => ?_)
          generalize w45.drew = w46 at BK290 BK294 HB HR296_2 HR296_3 hx296_0 hx296_1 hx296_2 hx296_3 hHeld ⊢
          refine put 0 28 (bt 35 1) HT_ ?_
          refine tat12 1 29 (bt 35 3) HT_ HW_ hHeld ?_
          refine on 2 30 (bt 35 7) HT_ (fun K hK => ?_)
          refine goes_ Try.func79 (by kernel_rfl) rfl #[.agg #[.int .i64 ((rd_T105 l0_3 x23_2).f0.f0), .int .i64 ((rd_T105 l0_3 x23_2).f0.f1)]] (by rfl) rfl rfl sl ?_
          with_reducible refine (impl_IsSpan.calls ((rd_T105 l0_3 x23_2).f0.f0) ((rd_T105 l0_3 x23_2).f0.f1) true _ A14.out).mono ?_
          rintro e w47 ⟨rfl, hb⟩
          refine ⟨_, rfl, ?_⟩
          replace BK290 := bb BK290 hb
          replace BK294 := bb BK294 hb
          replace HB := bsw hb
          (try clear hb)
          (try clear hb2)
          (try clear hk)
          (try clear hi)
          refine hK.out _ _ ⟨bc0 BK294, bc1 BK294, bc2 BK294, bc3 BK294, bc0 BK290, bc1 BK290, bc2 BK290, bc3 BK290, (hb_ HB hw296_0), (hb_ HB hw296_1), (hb_ HB hw296_2), (hb_ HB hw296_3)⟩ (fun hHeld => ?_)
          clear hK K
          refine nm 30 ?_
          refine put 3 31 (bt 35 15) HT_ ?_
          refine put 4 32 (bt 35 31) HT_ ?_
          refine put 5 33 (bt 35 63) HT_ ?_
          refine put 6 34 (bt 35 127) HT_ ?_
          refine put 7 35 (bt 35 255) HT_ ?_
          refine put 8 36 (bt 35 511) HT_ ?_
          refine put 9 37 (bt 35 1023) HT_ ?_
          refine put 11 39 (bt 35 3071) HT_ ?_
          refine put 13 41 (bt 35 11263) HT_ ?_
          refine put 14 42 (bt 35 27647) HT_ ?_
          refine tat12 10 38 (bt 35 28671) HT_ HW_ hHeld ?_
          refine tat12 12 40 (bt 35 32767) HT_ HW_ hHeld ?_
          refine put 15 43 (bt 35 65535) HT_ ?_
          refine put 16 44 (bt 35 131071) HT_ ?_
          refine put 17 45 (bt 35 262143) HT_ ?_
          refine tat12 18 46 (bt 35 524287) HT_ HW_ hHeld ?_
          refine put 19 47 (bt 35 1048575) HT_ ?_
          refine put 20 48 (bt 35 2097151) HT_ ?_
          refine put 21 49 (bt 35 4194303) HT_ ?_
          refine put 22 50 (bt 35 8388607) HT_ ?_
          refine pn 23 51 (bt 35 16777215) HT_ ?_
          refine pn 24 52 (bt 35 33554431) HT_ ?_
          refine pn 25 53 (bt 35 67108863) HT_ ?_
          refine pn 26 54 (bt 35 134217727) HT_ ?_
          refine pn 27 55 (bt 35 268435455) HT_ ?_
          refine pn 28 56 (bt 35 536870911) HT_ ?_
          refine pn 29 57 (bt 35 1073741823) HT_ ?_
          refine pn 30 58 (bt 35 2147483647) HT_ ?_
          refine pn 31 59 (bt 35 4294967295) HT_ ?_
          refine pn 32 60 (bt 35 8589934591) HT_ ?_
          refine pn 33 61 (bt 35 17179869183) HT_ ?_
          refine put 34 62 (bt 35 34359738367) HT_ ?_
          refine done_ (done_of HT_.out (by kernel_rfl)) ?_
          try go_wp2
          go_ret
          exact ⟨a8_0, sbw⟩
        ·obtain ⟨t301, A48, H⟩ := bnd H
         obtain ⟨t304, A49, H⟩ := bnd H
         obtain rfl | rfl := tt t304
         ·replace H := ip H
          have H' := am H
          clear H
          obtain ⟨p293, q293, ad293, A293_2, c293_2, A293_3, c293_3, e293, _, _, _, _, hx293_0, hx293_1, hx293_2, hx293_3, HC293_2, HR293_2, HC293_3, HR293_3⟩ := aT_T105 HR0_3 HB x23_2
          cases e293
          exact e8_0
         ·replace H := im H
          obtain rfl := Option.some.inj H
          obtain ⟨p293, q293, ad293, A293_2, c293_2, A293_3, c293_3, e293, _, _, _, _, hx293_0, hx293_1, hx293_2, hx293_3, HC293_2, HR293_2, HC293_3, HR293_3⟩ := aT_T105 HR0_3 HB x23_2
          cases e293
          try go_wp2_with (first | ((with_reducible refine gd 4 rfl ?_); (try (refine gate_guard (by rfl) ?_; dsimp only)); refine bx 4 #[.int .i64 0, .int .i64 0, .slice none 0 0, .slice none 0 0] 105 ?_; intro gb294 hg w60 hbox hb; have GW294 := bzw w hg; have GE294 := bzw w hg; replace HB := bsw hb; have BK294 := am hbox; have NB290_294 := nl BK290 hg; have NB294_290 := ng BK290 hg; replace BK290 := bb BK290 hb; clear hb hbox hg; have hnb61 := NB294_290.out; have hnc61 := NB290_294.out; obtain ⟨hcz62_0, hcz62_1, hcz62_2, hcz62_3, hfz62_0, hfz62_1, hfz62_2, hfz62_3⟩ := cc4 BK294))
          have n0_ : Aside0 (((((w60.setCell ⟨gb294, 0, none⟩ (.int .i64 ((rd_T105 l0_3 x23_2).f0.f0))).setCell ⟨gb294, 1, none⟩ (.int .i64 ((rd_T105 l0_3 x23_2).f0.f1))).setCell ⟨gb294, 2, none⟩ (.slice A293_2 ((rd_T105 l0_3 x23_2).f1).length c293_2)).setCell ⟨gb294, 3, none⟩ (.slice A293_3 ((rd_T105 l0_3 x23_2).f2).length c293_3)).heap[gb290]? = some (.cells #[.int .i64 a0_0, .int .i64 a0_1, .int .i64 a0_2, .slice (some ad293) l0_3.length c0_3] 31 (0, 0))) := ⟨sp BK290⟩
          have n1_ : Aside0 (((((w60.setCell ⟨gb294, 0, none⟩ (.int .i64 ((rd_T105 l0_3 x23_2).f0.f0))).setCell ⟨gb294, 1, none⟩ (.int .i64 ((rd_T105 l0_3 x23_2).f0.f1))).setCell ⟨gb294, 2, none⟩ (.slice A293_2 ((rd_T105 l0_3 x23_2).f1).length c293_2)).setCell ⟨gb294, 3, none⟩ (.slice A293_3 ((rd_T105 l0_3 x23_2).f2).length c293_3)).heap[gb294]? = some (.cells #[.int .i64 ((rd_T105 l0_3 x23_2).f0.f0), .int .i64 ((rd_T105 l0_3 x23_2).f0.f1), .slice A293_2 ((rd_T105 l0_3 x23_2).f1).length c293_2, .slice A293_3 ((rd_T105 l0_3 x23_2).f2).length c293_3] 105 (0, 0))) := ⟨sp BK294⟩
          have n2_ : Aside0 (Below w.heap.size w ((((w60.setCell ⟨gb294, 0, none⟩ (.int .i64 ((rd_T105 l0_3 x23_2).f0.f0))).setCell ⟨gb294, 1, none⟩ (.int .i64 ((rd_T105 l0_3 x23_2).f0.f1))).setCell ⟨gb294, 2, none⟩ (.slice A293_2 ((rd_T105 l0_3 x23_2).f1).length c293_2)).setCell ⟨gb294, 3, none⟩ (.slice A293_3 ((rd_T105 l0_3 x23_2).f2).length c293_3))) := ⟨sbw⟩
          (try clear BK290)
          (try clear BK294)
          (try clear HB)
          generalize ((((w60.setCell ⟨gb294, 0, none⟩ (.int .i64 ((rd_T105 l0_3 x23_2).f0.f0))).setCell ⟨gb294, 1, none⟩ (.int .i64 ((rd_T105 l0_3 x23_2).f0.f1))).setCell ⟨gb294, 2, none⟩ (.slice A293_2 ((rd_T105 l0_3 x23_2).f1).length c293_2)).setCell ⟨gb294, 3, none⟩ (.slice A293_3 ((rd_T105 l0_3 x23_2).f2).length c293_3)) = w63 at n0_ n1_ n2_ ⊢
          have BK290 := n0_
          have BK294 := n1_
          have HB := n2_
          clear n0_ n1_ n2_
          replace BK290 := am (blk_drew BK290.out)
          replace BK294 := am (blk_drew BK294.out)
          replace HB := am (below_drew1 HB.out)
          refine start_ (n := 35) (S := fun w' => w'.cell? ⟨gb294, 0, none⟩ = some (.int .i64 ((rd_T105 l0_3 x23_2).f0.f0)) ∧ w'.cell? ⟨gb294, 1, none⟩ = some (.int .i64 ((rd_T105 l0_3 x23_2).f0.f1)) ∧ w'.cell? ⟨gb294, 2, none⟩ = some (.slice A293_2 ((rd_T105 l0_3 x23_2).f1).length c293_2) ∧ w'.cell? ⟨gb294, 3, none⟩ = some (.slice A293_3 ((rd_T105 l0_3 x23_2).f2).length c293_3) ∧ w'.cell? ⟨gb290, 0, none⟩ = some (.int .i64 a0_0) ∧ w'.cell? ⟨gb290, 1, none⟩ = some (.int .i64 a0_1) ∧ w'.cell? ⟨gb290, 2, none⟩ = some (.int .i64 a0_2) ∧ w'.cell? ⟨gb290, 3, none⟩ = some (.slice (some ad293) l0_3.length c0_3)) (ds := []) #[false, false, false, false, false, false, false, false, false, false, false, false, false, false, false, false, false, false, false, false, false, false, false, false, false, false, false, false, false, false, false, false, false, false, false] (by kernel_rfl) rfl rfl ⟨bc0 BK294, bc1 BK294, bc2 BK294, bc3 BK294, bc0 BK290, bc1 BK290, bc2 BK290, bc3 BK290⟩ (fun hHeld => ?_); refine with_tabW impl_IsProgram.tab6 impl_IsProgram.bits6 (fun HT_ HW_ => ?_)
          generalize w63.drew = w64 at BK290 BK294 HB hHeld ⊢
          refine put 0 28 (bt 35 1) HT_ ?_
          refine tat8 1 29 (bt 35 3) HT_ HW_ hHeld ?_
          refine on 2 30 (bt 35 7) HT_ (fun K hK => ?_)
          refine goes_ Try.func79 (by kernel_rfl) rfl #[.agg #[.int .i64 ((rd_T105 l0_3 x23_2).f0.f0), .int .i64 ((rd_T105 l0_3 x23_2).f0.f1)]] (by rfl) rfl rfl sl ?_
          with_reducible refine (impl_IsSpan.calls ((rd_T105 l0_3 x23_2).f0.f0) ((rd_T105 l0_3 x23_2).f0.f1) true _ A14.out).mono ?_
          rintro e w65 ⟨rfl, hb⟩
          refine ⟨_, rfl, ?_⟩
          replace BK290 := bb BK290 hb
          replace BK294 := bb BK294 hb
          replace HB := bsw hb
          (try clear hb)
          (try clear hb2)
          (try clear hk)
          (try clear hi)
          refine hK.out _ _ ⟨bc0 BK294, bc1 BK294, bc2 BK294, bc3 BK294, bc0 BK290, bc1 BK290, bc2 BK290, bc3 BK290⟩ (fun hHeld => ?_)
          clear hK K
          refine nm 30 ?_
          refine put 3 31 (bt 35 15) HT_ ?_
          refine put 4 32 (bt 35 31) HT_ ?_
          refine put 5 33 (bt 35 63) HT_ ?_
          refine put 6 34 (bt 35 127) HT_ ?_
          refine put 7 35 (bt 35 255) HT_ ?_
          refine pn 8 36 (bt 35 511) HT_ ?_
          refine pn 9 37 (bt 35 1023) HT_ ?_
          refine pn 10 38 (bt 35 2047) HT_ ?_
          refine pn 11 39 (bt 35 4095) HT_ ?_
          refine pn 12 40 (bt 35 8191) HT_ ?_
          refine pn 13 41 (bt 35 16383) HT_ ?_
          refine pn 14 42 (bt 35 32767) HT_ ?_
          refine pn 15 43 (bt 35 65535) HT_ ?_
          refine pn 16 44 (bt 35 131071) HT_ ?_
          refine pn 17 45 (bt 35 262143) HT_ ?_
          refine pn 18 46 (bt 35 524287) HT_ ?_
          refine pn 19 47 (bt 35 1048575) HT_ ?_
          refine put 20 48 (bt 35 2097151) HT_ ?_
          refine put 21 49 (bt 35 4194303) HT_ ?_
          refine put 22 50 (bt 35 8388607) HT_ ?_
          refine put 23 51 (bt 35 16777215) HT_ ?_
          refine put 25 53 (bt 35 50331647) HT_ ?_
          refine put 27 55 (bt 35 184549375) HT_ ?_
          refine put 29 57 (bt 35 721420287) HT_ ?_
          refine tat8 24 52 (bt 35 738197503) HT_ HW_ hHeld ?_
          refine tat8 26 54 (bt 35 805306367) HT_ HW_ hHeld ?_
          refine tat8 28 56 (bt 35 1073741823) HT_ HW_ hHeld ?_
          refine tat8 30 58 (bt 35 2147483647) HT_ HW_ hHeld ?_
          refine on 31 59 (bt 35 4294967295) HT_ (fun K hK => ?_)
          refine goes_ Try.func97 (by kernel_rfl) rfl #[.slice A293_2 ((rd_T105 l0_3 x23_2).f1).length c293_2, .int .i64 a0_0, .int .i64 a0_1] (by rfl) rfl rfl sl ?_
          with_reducible refine (impl_tablesOf.calls k2 _ _ ((rd_T105 l0_3 x23_2).f1) a0_0 a0_1 t301 _ ?side1 ?side2 A48.out).mono ?_
          (case side1 => exact cb HR293_2)
          (case side2 => exact HC293_2.out)
          rintro e w66 ⟨v302, rfl, ho0, hb⟩
          refine ⟨_, rfl, ?_⟩
          have HO303 := am (Kd.S_lower ho0 (below_size (sbw)))
          replace BK290 := bb BK290 hb
          replace BK294 := bb BK294 hb
          replace HB := bsw hb
          (try clear hb)
          (try clear hb2)
          (try clear hk)
          (try clear hi)
          (try clear ho0)
          obtain ⟨Ao67, co67, eo67⟩ := Kd.S_slice HO303.out
          (first | subst eo67 | (injection eo67 with f1_ f2_ f3_; have f4_ := f1_.symm; have f5_ := f3_.symm; clear f1_ f2_ f3_; subst f4_; subst f5_))
          refine hK.out _ _ ⟨bc0 BK294, bc1 BK294, bc2 BK294, bc3 BK294, bc0 BK290, bc1 BK290, bc2 BK290, bc3 BK290⟩ (fun hHeld => ?_)
          clear hK K
          refine nm 59 ?_
          refine on 32 60 (bt 35 8589934591) HT_ (fun K hK => ?_)
          refine goes_ Try.func96 (by kernel_rfl) rfl #[.slice A293_3 ((rd_T105 l0_3 x23_2).f2).length c293_3, .slice Ao67 t301.length co67, .func (.func 98) #[] #[]] (by rfl) rfl rfl sl ?_
          with_reducible refine (impl_Table.calls k2 _ _ ((rd_T105 l0_3 x23_2).f2) _ _ t301 0 false _ ?side1 ?side2 ?side3 ?side4 A49.out).mono ?_
          (case side1 => exact cb HR293_3)
          (case side2 => exact HC293_3.out)
          (case side3 => repeat (first | exact (Kd.S_reads' HO303.out).2.2 | (with_reducible refine Kd.C_alloc ?_ _) | (with_reducible refine Kd.C_drewN ?_ _) | (with_reducible refine Kd.C_drew ?_)))
          (case side4 => exact (Kd.S_reads' HO303.out).2.1)
          rintro e w68 ⟨rfl, hb⟩
          refine ⟨_, rfl, ?_⟩
          replace HO303 := am (Kd.S_below (ss HO303) hb)
          replace BK290 := bb BK290 hb
          replace BK294 := bb BK294 hb
          replace HB := bsw hb
          (try clear hb)
          (try clear hb2)
          (try clear hk)
          (try clear hi)
          refine hK.out _ _ ⟨bc0 BK294, bc1 BK294, bc2 BK294, bc3 BK294, bc0 BK290, bc1 BK290, bc2 BK290, bc3 BK290⟩ (fun hHeld => ?_)
          clear hK K
          refine nm 60 ?_
          refine put 33 61 (bt 35 17179869183) HT_ ?_
          refine put 34 62 (bt 35 34359738367) HT_ ?_
          refine done_ (done_of HT_.out (by kernel_rfl)) ?_
          try go_wp2
          go_ret
          exact ⟨se, sbw⟩
       ·replace H := im H
        obtain rfl := Option.some.inj H
        obtain ⟨p293, q293, ad293, A293_2, c293_2, A293_3, c293_3, e293, _, _, _, _, hx293_0, hx293_1, hx293_2, hx293_3, HC293_2, HR293_2, HC293_3, HR293_3⟩ := aT_T105 HR0_3 HB x23_2
        cases e293
        try go_wp2_with (first | ((with_reducible refine gd 4 rfl ?_); (try (refine gate_guard (by rfl) ?_; dsimp only)); refine bx 4 #[.int .i64 0, .int .i64 0, .slice none 0 0, .slice none 0 0] 105 ?_; intro gb294 hg w69 hbox hb; have GW294 := bzw w hg; have GE294 := bzw w hg; replace HB := bsw hb; have BK294 := am hbox; have NB290_294 := nl BK290 hg; have NB294_290 := ng BK290 hg; replace BK290 := bb BK290 hb; clear hb hbox hg; have hnb70 := NB294_290.out; have hnc70 := NB290_294.out; obtain ⟨hcz71_0, hcz71_1, hcz71_2, hcz71_3, hfz71_0, hfz71_1, hfz71_2, hfz71_3⟩ := cc4 BK294))
        have n0_ : Aside0 (((((w69.setCell ⟨gb294, 0, none⟩ (.int .i64 ((rd_T105 l0_3 x23_2).f0.f0))).setCell ⟨gb294, 1, none⟩ (.int .i64 ((rd_T105 l0_3 x23_2).f0.f1))).setCell ⟨gb294, 2, none⟩ (.slice A293_2 ((rd_T105 l0_3 x23_2).f1).length c293_2)).setCell ⟨gb294, 3, none⟩ (.slice A293_3 ((rd_T105 l0_3 x23_2).f2).length c293_3)).heap[gb290]? = some (.cells #[.int .i64 a0_0, .int .i64 a0_1, .int .i64 a0_2, .slice (some ad293) l0_3.length c0_3] 31 (0, 0))) := ⟨sp BK290⟩
        have n1_ : Aside0 (((((w69.setCell ⟨gb294, 0, none⟩ (.int .i64 ((rd_T105 l0_3 x23_2).f0.f0))).setCell ⟨gb294, 1, none⟩ (.int .i64 ((rd_T105 l0_3 x23_2).f0.f1))).setCell ⟨gb294, 2, none⟩ (.slice A293_2 ((rd_T105 l0_3 x23_2).f1).length c293_2)).setCell ⟨gb294, 3, none⟩ (.slice A293_3 ((rd_T105 l0_3 x23_2).f2).length c293_3)).heap[gb294]? = some (.cells #[.int .i64 ((rd_T105 l0_3 x23_2).f0.f0), .int .i64 ((rd_T105 l0_3 x23_2).f0.f1), .slice A293_2 ((rd_T105 l0_3 x23_2).f1).length c293_2, .slice A293_3 ((rd_T105 l0_3 x23_2).f2).length c293_3] 105 (0, 0))) := ⟨sp BK294⟩
        have n2_ : Aside0 (Below w.heap.size w ((((w69.setCell ⟨gb294, 0, none⟩ (.int .i64 ((rd_T105 l0_3 x23_2).f0.f0))).setCell ⟨gb294, 1, none⟩ (.int .i64 ((rd_T105 l0_3 x23_2).f0.f1))).setCell ⟨gb294, 2, none⟩ (.slice A293_2 ((rd_T105 l0_3 x23_2).f1).length c293_2)).setCell ⟨gb294, 3, none⟩ (.slice A293_3 ((rd_T105 l0_3 x23_2).f2).length c293_3))) := ⟨sbw⟩
        (try clear BK290)
        (try clear BK294)
        (try clear HB)
        generalize ((((w69.setCell ⟨gb294, 0, none⟩ (.int .i64 ((rd_T105 l0_3 x23_2).f0.f0))).setCell ⟨gb294, 1, none⟩ (.int .i64 ((rd_T105 l0_3 x23_2).f0.f1))).setCell ⟨gb294, 2, none⟩ (.slice A293_2 ((rd_T105 l0_3 x23_2).f1).length c293_2)).setCell ⟨gb294, 3, none⟩ (.slice A293_3 ((rd_T105 l0_3 x23_2).f2).length c293_3)) = w72 at n0_ n1_ n2_ ⊢
        have BK290 := n0_
        have BK294 := n1_
        have HB := n2_
        clear n0_ n1_ n2_
        replace BK290 := am (blk_drew BK290.out)
        replace BK294 := am (blk_drew BK294.out)
        replace HB := am (below_drew1 HB.out)
        refine start_ (n := 35) (S := fun w' => w'.cell? ⟨gb294, 0, none⟩ = some (.int .i64 ((rd_T105 l0_3 x23_2).f0.f0)) ∧ w'.cell? ⟨gb294, 1, none⟩ = some (.int .i64 ((rd_T105 l0_3 x23_2).f0.f1)) ∧ w'.cell? ⟨gb294, 2, none⟩ = some (.slice A293_2 ((rd_T105 l0_3 x23_2).f1).length c293_2) ∧ w'.cell? ⟨gb294, 3, none⟩ = some (.slice A293_3 ((rd_T105 l0_3 x23_2).f2).length c293_3)) (ds := []) #[false, false, false, false, false, false, false, false, false, false, false, false, false, false, false, false, false, false, false, false, false, false, false, false, false, false, false, false, false, false, false, false, false, false, false] (by kernel_rfl) rfl rfl ⟨bc0 BK294, bc1 BK294, bc2 BK294, bc3 BK294⟩ (fun hHeld => ?_); refine with_tabW impl_IsProgram.tab6 impl_IsProgram.bits6 (fun HT_ HW_ => ?_)
        generalize w72.drew = w73 at BK290 BK294 HB hHeld ⊢
        refine put 0 28 (bt 35 1) HT_ ?_
        refine tat4 1 29 (bt 35 3) HT_ HW_ hHeld ?_
        refine on 2 30 (bt 35 7) HT_ (fun K hK => ?_)
        refine goes_ Try.func79 (by kernel_rfl) rfl #[.agg #[.int .i64 ((rd_T105 l0_3 x23_2).f0.f0), .int .i64 ((rd_T105 l0_3 x23_2).f0.f1)]] (by rfl) rfl rfl sl ?_
        with_reducible refine (impl_IsSpan.calls ((rd_T105 l0_3 x23_2).f0.f0) ((rd_T105 l0_3 x23_2).f0.f1) false _ A14.out).mono ?_
        rintro e w74 ⟨rfl, hb⟩
        refine ⟨_, rfl, ?_⟩
        replace BK290 := bb BK290 hb
        replace BK294 := bb BK294 hb
        replace HB := bsw hb
        (try clear hb)
        (try clear hb2)
        (try clear hk)
        (try clear hi)
        refine hK.out _ _ ⟨bc0 BK294, bc1 BK294, bc2 BK294, bc3 BK294⟩ (fun hHeld => ?_)
        clear hK K
        refine nm 30 ?_
        refine put 3 31 (bt 35 15) HT_ ?_
        refine put 4 32 (bt 35 31) HT_ ?_
        refine pn 5 33 (bt 35 63) HT_ ?_
        refine pn 6 34 (bt 35 127) HT_ ?_
        refine pn 7 35 (bt 35 255) HT_ ?_
        refine pn 8 36 (bt 35 511) HT_ ?_
        refine pn 9 37 (bt 35 1023) HT_ ?_
        refine pn 10 38 (bt 35 2047) HT_ ?_
        refine pn 11 39 (bt 35 4095) HT_ ?_
        refine pn 12 40 (bt 35 8191) HT_ ?_
        refine pn 13 41 (bt 35 16383) HT_ ?_
        refine pn 14 42 (bt 35 32767) HT_ ?_
        refine pn 15 43 (bt 35 65535) HT_ ?_
        refine pn 16 44 (bt 35 131071) HT_ ?_
        refine pn 17 45 (bt 35 262143) HT_ ?_
        refine pn 18 46 (bt 35 524287) HT_ ?_
        refine pn 19 47 (bt 35 1048575) HT_ ?_
        refine pn 20 48 (bt 35 2097151) HT_ ?_
        refine put 21 49 (bt 35 4194303) HT_ ?_
        refine put 22 50 (bt 35 8388607) HT_ ?_
        refine pn 23 51 (bt 35 16777215) HT_ ?_
        refine pn 24 52 (bt 35 33554431) HT_ ?_
        refine pn 25 53 (bt 35 67108863) HT_ ?_
        refine pn 26 54 (bt 35 134217727) HT_ ?_
        refine pn 27 55 (bt 35 268435455) HT_ ?_
        refine pn 28 56 (bt 35 536870911) HT_ ?_
        refine pn 29 57 (bt 35 1073741823) HT_ ?_
        refine pn 30 58 (bt 35 2147483647) HT_ ?_
        refine pn 31 59 (bt 35 4294967295) HT_ ?_
        refine pn 32 60 (bt 35 8589934591) HT_ ?_
        refine pn 33 61 (bt 35 17179869183) HT_ ?_
        refine put 34 62 (bt 35 34359738367) HT_ ?_
        refine done_ (done_of HT_.out (by kernel_rfl)) ?_
        try go_wp2
        go_ret
        exact ⟨se, sbw⟩
      ·obtain rfl := Option.some.inj H
       go_wp2
       go_ret
       exact ⟨se, sbw⟩

end Go.Proofs.Ytiihaabhjphaeaa.QFnSwitched
