/- Printed by a program of the session. Conditions: none. (squeezed). -/
import Derived.Test.YthnlkgbhohchoaaGreatVFnExactRepairedAtQFnExactRepairedAtx10
namespace Go.Proofs.YthnlkgbhohchoaaGreat.QFnExactRepairedAt
set_option maxHeartbeats 8000000
set_option maxRecDepth 100000
open Go.RowKit Go.Proofs.YthnlkgbhohchoaaGreatW.PrintWords Go.Proofs.YthnlkgbhohchoaaGreatW.PrintLast Go.Proofs.YthnlkgbhohchoaaGreatW.PrintMore Go.Proofs.YthnlkgbhohchoaaGreat.Open Go.Proofs.YthnlkgbhohchoaaGreat.Sq
attribute [local go_sem] max2_int min2_int max_two min_two max_three min_three max_four min_four   -- for this text's walks alone
attribute [local go_sem] isSome_set
set_option linter.unusedVariables false
set_option linter.unusedSimpArgs false

theorem a11_0 {P : Prop} (h : P := by have h_ : (x4_1 : Int) < ((x3_1.length : Int) : Int) := sa; first | exact h_ | (have e_ := (Kd.R_reads' HO_3.out).1; omega) | simpa using h_) : P := h
mutual
def spec_RepairedAt.j0 : Nat → Int → Int → List Int → List (List Int) → List Int → Bool → Int → Int → Int → List (S76) → Option (List Int)
  | 0, _, _, _, _, _, _, _, _, _, _ => none
  | k + 1, x1, x2, x3, x4, x11, x23, x409000, x409001, x409002, x409003 => if x23 = true then (some x11) else (spec_RepairedAt.l0 k x1 x2 x3 x4 x11 0 x409000 x409001 x409002 x409003)
def spec_RepairedAt.l0 : Nat → Int → Int → List Int → List (List Int) → List Int → Int → Int → Int → Int → List (S76) → Option (List Int)
  | 0, _, _, _, _, _, _, _, _, _, _ => none
  | k + 1, x1, x2, x3, x4, x11, x12, x409000, x409001, x409002, x409003 => if x12 < (x3.length : Int) then (if x12 < (x4.length : Int) then (if 0 ≤ x12 then ((spec_RepairHop.f k x409000 x409001 x409002 x409003 x12 x1 (wrap64 (x2 + (rd x3 x12))) (rd_L2 x4 x12)).bind fun t419 => (if x11.length < 17592186044416 then (spec_RepairedAt.l0 k x1 x2 x3 x4 (x11 ++ [t419]) (wrap64 (x12 + 1)) x409000 x409001 x409002 x409003) else (none))) else (none)) else (if 0 ≤ x12 then ((spec_RepairHop.f k x409000 x409001 x409002 x409003 x12 x1 (wrap64 (x2 + (rd x3 x12))) (([] : List Int))).bind fun t424 => (if x11.length < 17592186044416 then (spec_RepairedAt.l0 k x1 x2 x3 x4 (x11 ++ [t424]) (wrap64 (x12 + 1)) x409000 x409001 x409002 x409003) else (none))) else (none))) else (some x11)
end
def spec_RepairedAt.f (k : Nat) (a0_0 : Int) (a0_1 : Int) (a0_2 : Int) (l0_3 : List (S76)) (a1 : Int) (a2 : Int) (l3 : List Int) (l4 : List (List Int)) : Option (List Int) := (some (([] : List Int) : List Int)).bind fun y409 => ((spec_AreOffsets.f k a0_0 a0_1 a0_2 l0_3 l3).bind fun t412 => (if t412 = true then ((spec_l1In.f a2 0 1000).bind fun t413 => (spec_RepairedAt.j0 k a1 a2 l3 l4 y409 (!t413) a0_0 a0_1 a0_2 l0_3)) else (spec_RepairedAt.j0 k a1 a2 l3 l4 y409 true a0_0 a0_1 a0_2 l0_3)))
theorem spec_RepairedAt.mono_l : ∀ k, (∀ y0 y1 y2 y3 y4 y5 y6 y7 y8 y9, LeO (spec_RepairedAt.j0 k y0 y1 y2 y3 y4 y5 y6 y7 y8 y9) (spec_RepairedAt.j0 (k + 1) y0 y1 y2 y3 y4 y5 y6 y7 y8 y9)) ∧ (∀ y0 y1 y2 y3 y4 y5 y6 y7 y8 y9, LeO (spec_RepairedAt.l0 k y0 y1 y2 y3 y4 y5 y6 y7 y8 y9) (spec_RepairedAt.l0 (k + 1) y0 y1 y2 y3 y4 y5 y6 y7 y8 y9))
  | 0 => ⟨fun _ _ _ _ _ _ _ _ _ _ r h => by simp [spec_RepairedAt.j0] at h, fun _ _ _ _ _ _ _ _ _ _ r h => by simp [spec_RepairedAt.l0] at h⟩
  | k + 1 => by
    obtain ⟨ih0, ih1⟩ := spec_RepairedAt.mono_l k
    refine ⟨?_, ?_⟩
    · intro y0 y1 y2 y3 y4 y5 y6 y7 y8 y9
      unfold spec_RepairedAt.j0
      have m0 := @spec_AreOffsets.mono
      have m1 := @spec_RepairHop.mono
      exact mo
    · intro y0 y1 y2 y3 y4 y5 y6 y7 y8 y9
      unfold spec_RepairedAt.l0
      have m0 := @spec_AreOffsets.mono
      have m1 := @spec_RepairHop.mono
      exact mo
theorem spec_RepairedAt.mono : ∀ a0 a1 a2 a3 a4 a5 a6 a7 k, LeO (spec_RepairedAt.f k a0 a1 a2 a3 a4 a5 a6 a7) (spec_RepairedAt.f (k + 1) a0 a1 a2 a3 a4 a5 a6 a7) := by
  intro a0 a1 a2 a3 a4 a5 a6 a7 k
  obtain ⟨ih0, ih1⟩ := spec_RepairedAt.mono_l k
  unfold spec_RepairedAt.f
  have m0 := @spec_AreOffsets.mono
  have m1 := @spec_RepairHop.mono
  exact mo
def spec_RepairedAt.T10 : Bool × List (List Nat × List Nat) := (true, [([], []), ([], []), ([], []), ([], []), ([], []), ([], []), ([], []), ([5, 6], [5, 6]), ([7], [7]), ([4, 8], [4, 8]), ([], []), ([1, 2, 3, 9, 10], [1, 2, 3, 9, 10]), ([11], [11]), ([0, 12, 11], [0, 12]), ([13, 13, 0, 1, 2, 3, 4, 5, 6, 7, 8, 9, 10, 11, 12, 13], [0, 13])])
def spec_RepairedAt.B10 : List Nat := [0, 0, 0, 0, 0, 0, 0, 96, 224, 496, 0, 2046, 4094, 8191, 16383]
theorem spec_RepairedAt.tab10 : rtab .any (opsOf Tryz.f7 10) = spec_RepairedAt.T10 := by kernel_rfl
theorem spec_RepairedAt.bits10 : waitsOk spec_RepairedAt.T10.2 spec_RepairedAt.B10 = true := by kernel_rfl
theorem spec_RepairedAt.calls (k : Nat) (a0_0 : Int) (a0_1 : Int) (a0_2 : Int) (A0_3 : Option Addr) (c0_3 : Nat) (l0_3 : List (S76)) (a1 : Int) (a2 : Int) (A3 : Option Addr) (c3 : Nat) (l3 : List Int) (A4 : Option Addr) (c4 : Nat) (l4 : List (List Int)) (r : List Int) (w : World) (hr0_3 : Kd.C k76 w A0_3 l0_3.length l0_3) (hc0_3 : l0_3.length ≤ c0_3) (hr3 : Kd.C (Kd.int .i64) w A3 l3.length l3) (hc3 : l3.length ≤ c3) (hr4 : Kd.C (Kd.slice 3 (Kd.int .i64)) w A4 l4.length l4) (hc4 : l4.length ≤ c4) (h : spec_RepairedAt.f k a0_0 a0_1 a0_2 l0_3 a1 a2 l3 l4 = some r) :
    Calls Tryz.prog 7 #[.agg #[.int .i64 a0_0, .int .i64 a0_1, .int .i64 a0_2, .slice A0_3 l0_3.length c0_3], .int .i64 a1, .int .i64 a2, .slice A3 l3.length c3, .slice A4 l4.length c4] w fun e w' => ∃ v0_ : Value, e = .returned (v0_) ∧ Kd.R (Kd.int .i64) 3 w' w.heap.size (fun _ => True) v0_ r ∧ Below w.heap.size w w' := by
 have hu32 := Tryz.underlying32
 have HR0_3 := am hr0_3
 have HC0_3 := am hc0_3
 clear hr0_3 hc0_3
 have HR3 := am hr3
 have HC3 := am hc3
 clear hr3 hc3
 have HR4 := am hr4
 have HC4 := am hc4
 clear hr4 hc4
 have HB := am (Below.refl w.heap.size w)
 have H := h; unfold spec_RepairedAt.f at H
 clear h
 obtain ⟨y409, Ny409, H⟩ := iy_ H
 have HC6 := am H
 clear H
 go_enter Tryz.func7, Tryz.ntmps7
 go_upto_region 2 with (first | ((with_reducible refine gd 5 rfl ?_); refine bx 5 #[.int .i64 a0_0, .int .i64 a0_1, .int .i64 a0_2, .slice A0_3 l0_3.length c0_3] 32 ?_; intro gb408 hg w7 hbox hb; have GW408 := bz w hg; have GE408 := bz w hg; replace HB := bs hb; have BK408 := am hbox; clear hb hbox hg) | ((with_reducible refine gd 14 rfl ?_); refine rl_ (Kd.int .i64) 3 14 ?_; intro v410 w8 ho9 hb; (first | rw [← Ny409.out] at ho9 | (simp only [Int.reduceToNat] at ho9; rw [← Ny409.out] at ho9)); have HO411 := am (Kd.R_lower ho9 (below_size (sbw))); replace BK408 := bb BK408 hb; replace HB := bsw hb; clear hb ho9))
 (try simp only [Act.put, List.setIfInBounds_toArray, List.set_cons_zero, List.set_cons_succ])
 go_cut [23] (fun v23 wc => ∃ (kq : Nat) (x23_5 : Bool), v23 = .bool x23_5 ∧ Aside0 (spec_RepairedAt.j0 kq a1 a2 l3 l4 y409 x23_5 a0_0 a0_1 a0_2 l0_3 = some r) ∧ Aside0 (kq ≤ k) ∧ Aside0 (Kd.R (Kd.int .i64) 3 wc w.heap.size (fun _ => True) v410 y409) ∧ Aside0 (wc.heap[gb408]? = some (.cells #[.int .i64 a0_0, .int .i64 a0_1, .int .i64 a0_2, (.slice A0_3 l0_3.length c0_3)] 32 (0, 0))) ∧ Aside0 (Below w.heap.size w wc))
 case first =>
  have H := HC6.out
  clear HC6
  obtain ⟨t412, A10, H⟩ := bnd H
  obtain rfl | rfl := tt t412
  ·replace H := ip H
   obtain ⟨t413, A12, H⟩ := bnd H
   have H' := am H
   clear H
   obtain ⟨_, _, _, _, _, _, _, _⟩ := cc4 BK408
   go_wp2_with (first | ((with_reducible refine gc 30 rfl ?_); refine gL (some 17) Tryz.func30 #[.agg #[.int .i64 a0_0, .int .i64 a0_1, .int .i64 a0_2, .slice A0_3 l0_3.length c0_3], .slice A3 l3.length c3] ?_; (with_reducible refine (spec_AreOffsets.calls k a0_0 a0_1 a0_2 _ _ l0_3 _ _ l3 true _ ?side1 ?side2 ?side3 ?side4 A10.out).mono ?_); (case side1 => exact cb HR0_3); (case side2 => exact HC0_3.out); (case side3 => exact cb HR3); (case side4 => exact HC3.out); rintro e w14 ⟨rfl, hb⟩; refine ⟨_, rfl, ?_⟩; replace HO411 := rb HO411 hb; replace BK408 := bb BK408 hb; replace HB := bsw hb; (try clear hb)) | (go_at_call 31; (with_reducible refine (spec_l1In.calls a2 0 1000 t413 _ A12.out).mono ?_); rintro e w' ⟨rfl, ⟨nd, rfl⟩⟩))
   go_meet
   case rel => exact ⟨_, (!t413), sc, H', ⟨by first | omega | exact Nat.le_refl _⟩, ⟨sr HO411⟩, ⟨sk BK408⟩, ⟨sbw⟩⟩
  ·replace H := im H
   have H' := am H
   clear H
   obtain ⟨_, _, _, _, _, _, _, _⟩ := cc4 BK408
   go_wp2_with (first | ((with_reducible refine gc 30 rfl ?_); refine gL (some 17) Tryz.func30 #[.agg #[.int .i64 a0_0, .int .i64 a0_1, .int .i64 a0_2, .slice A0_3 l0_3.length c0_3], .slice A3 l3.length c3] ?_; (with_reducible refine (spec_AreOffsets.calls k a0_0 a0_1 a0_2 _ _ l0_3 _ _ l3 false _ ?side1 ?side2 ?side3 ?side4 A10.out).mono ?_); (case side1 => exact cb HR0_3); (case side2 => exact HC0_3.out); (case side3 => exact cb HR3); (case side4 => exact HC3.out); rintro e w16 ⟨rfl, hb⟩; refine ⟨_, rfl, ?_⟩; replace HO411 := rb HO411 hb; replace BK408 := bb BK408 hb; replace HB := bsw hb; (try clear hb)))
   go_meet
   case rel => exact ⟨_, (true), sc, H', ⟨by first | omega | exact Nat.le_refl _⟩, ⟨sr HO411⟩, ⟨sk BK408⟩, ⟨sbw⟩⟩
 case rest =>
  clear HC6
  obtain ⟨kq, x23_5, rfl, HA, HJ5, HO_11, BK408, HB⟩ := hcut
  cases kq with
  | zero => exact absurd HA.out (by simp [spec_RepairedAt.j0])
  | succ kj5 =>
   have H := HA.out
   clear HA
   simp only [spec_RepairedAt.j0] at H
   obtain rfl | rfl := tt x23_5
   ·replace H := ip H
    obtain rfl := Option.some.inj H
    go_wp2
    go_ret
    exact ⟨_, se, sr HO_11, sbw⟩
   ·replace H := im H
    have H' := am H
    clear H
    go_wp2
    go_loopg [11, 12] kj5 (fun kq v11 v12 w' => ∃ (x11_2 : List Int) (x12_2 : Int), v12 = .int .i64 x12_2 ∧ Aside0 (spec_RepairedAt.l0 kq a1 a2 l3 l4 x11_2 x12_2 a0_0 a0_1 a0_2 l0_3 = some r) ∧ Aside0 (kq ≤ kj5) ∧ Aside0 (Kd.R (Kd.int .i64) 3 w' w.heap.size (fun _ => True) v11 x11_2) ∧ Aside0 (w'.heap[gb408]? = some (.cells #[.int .i64 a0_0, .int .i64 a0_1, .int .i64 a0_2, (.slice A0_3 l0_3.length c0_3)] 32 (0, 0))) ∧ Aside0 (Below w.heap.size w w'))
    case atStart => exact ⟨(y409), (0), sc, H', kk0, ⟨sr HO_11⟩, ⟨sk BK408⟩, ⟨sbw⟩⟩
    case round =>
     clear H'
     obtain ⟨x11_2, x12_2, rfl, HA, HK2, HO_11, BK408, HB⟩ := hrel
     cases gk with
     | zero => exact absurd HA.out (by simp [spec_RepairedAt.l0])
     | succ k2 =>
      have H := HA.out
      clear HA
      simp only [spec_RepairedAt.l0] at H
      obtain ⟨-, c18b0, H⟩ | ⟨-, c18b0, H⟩ := ic_ H
      ·obtain ⟨y414, hy414⟩ : ∃ y_ : List Int, y_ = (([] : List Int)) := ⟨_, rfl⟩
       replace H : (if x12_2 < (l4.length : Int) then (if 0 ≤ x12_2 then ((spec_RepairHop.f k2 a0_0 a0_1 a0_2 l0_3 x12_2 a1 (wrap64 (a2 + (rd l3 x12_2))) (rd_L2 l4 x12_2)).bind fun t419 => (if x11_2.length < 17592186044416 then (spec_RepairedAt.l0 k2 a1 a2 l3 l4 (x11_2 ++ [t419]) (wrap64 (x12_2 + 1)) a0_0 a0_1 a0_2 l0_3) else (none))) else (none)) else (if 0 ≤ x12_2 then ((spec_RepairHop.f k2 a0_0 a0_1 a0_2 l0_3 x12_2 a1 (wrap64 (a2 + (rd l3 x12_2))) y414).bind fun t424 => (if x11_2.length < 17592186044416 then (spec_RepairedAt.l0 k2 a1 a2 l3 l4 (x11_2 ++ [t424]) (wrap64 (x12_2 + 1)) a0_0 a0_1 a0_2 l0_3) else (none))) else (none))) = some r := ry hy414 H
       have Ny414 := am hy414
       clear hy414
       obtain ⟨-, c19b0, H⟩ | ⟨-, c19b0, H⟩ := ic_ H
       ·obtain ⟨c20b0, H⟩ := id_ H
        obtain ⟨t419, A21, H⟩ := bnd H
        obtain ⟨LMc22, H⟩ := il_ H
        obtain ⟨y420, hy420⟩ : ∃ y_ : List Int, y_ = (x11_2 ++ [t419]) := ⟨_, rfl⟩
        replace H : (spec_RepairedAt.l0 k2 a1 a2 l3 l4 y420 (wrap64 (x12_2 + 1)) a0_0 a0_1 a0_2 l0_3) = some r := ry hy420 H
        have Ny420 := am hy420
        clear hy420
        have H' := am H
        clear H
        try go_wp2_with (first | ((with_reducible refine gd 31 rfl ?_); refine rl_ (Kd.int .i64) 3 31 ?_; intro v415 w23 ho24 hb; (first | rw [← Ny414.out] at ho24 | (simp only [Int.reduceToNat] at ho24; rw [← Ny414.out] at ho24)); have HO416 := am (Kd.R_lower (Kd.R_new' ho24 (Kd.R_lt (sr HO_11))) (below_size (sbw))); replace HO_11 := am (Kd.R_elder' (sr HO_11) (Kd.R_base ho24) hb); replace BK408 := bb BK408 hb; replace HB := bsw hb; clear hb ho24; obtain ⟨p417, q417, ad417, A417_0, c417_0, e417, _, hx417_0, HC417_0, HR417_0⟩ := aT_L2 HR4 HB x12_2; cases e417))
        replace HO_11 := am (Kd.R_drew HO_11.out)
        replace HO416 := am (Kd.R_drew HO416.out)
        replace BK408 := am (blk_drew BK408.out)
        replace HB := am (below_drew1 HB.out)
        obtain ⟨p418, q418, ad418, e418, hw418_0, hx418_0⟩ := at_i HR3 HB x12_2
        cases e418
        refine start_ (n := 15) (S := fun w' => w'.cell? ⟨gb408, 0, none⟩ = some (.int .i64 a0_0) ∧ w'.cell? ⟨gb408, 1, none⟩ = some (.int .i64 a0_1) ∧ w'.cell? ⟨gb408, 2, none⟩ = some (.int .i64 a0_2) ∧ w'.cell? ⟨gb408, 3, none⟩ = some (.slice A0_3 l0_3.length c0_3) ∧ w'.cell? (ad418.add (x12_2).toNat) = some (.int .i64 (rd l3 x12_2))) (ds := []) (bt 15 0) (by kernel_rfl) rfl (by kernel_rfl) ⟨bc0 BK408, bc1 BK408, bc2 BK408, bc3 BK408, (hb_ HB hw418_0)⟩ (fun hHeld => ?_); refine with_tabW spec_RepairedAt.tab10 spec_RepairedAt.bits10 (fun HT_ HW_ => ?_)
        generalize w23.drew = w25 at HO_11 HO416 BK408 HB hx418_0 hHeld ⊢
        refine r8_ 0 2 3 4 5 6 7 10 ?_
        refine tv_ 1 ?_
        refine tv_ 8 ?_
        refine r1_ 9 ?_
        refine ow_ 11 (fun K hK => ?_)
        refine goes_ Tryz.func32 (by kernel_rfl) rfl #[.agg #[.int .i64 a0_0, .int .i64 a0_1, .int .i64 a0_2, .slice A0_3 l0_3.length c0_3], .int .i64 x12_2, .int .i64 a1, .int .i64 (wrap64 (a2 + (rd l3 x12_2))), .slice A417_0 (rd_L2 l4 x12_2).length c417_0] (by rfl) rfl rfl sl ?_
        with_reducible refine (spec_RepairHop.calls k2 a0_0 a0_1 a0_2 _ _ l0_3 x12_2 a1 (wrap64 (a2 + (rd l3 x12_2))) _ _ (rd_L2 l4 x12_2) t419 _ ?side1 ?side2 ?side3 ?side4 A21.out).mono ?_
        (case side1 => exact cb HR0_3)
        (case side2 => exact HC0_3.out)
        (case side3 => exact cb HR417_0)
        (case side4 => exact HC417_0.out)
        rintro e w26 ⟨rfl, hb⟩
        refine ⟨_, rfl, ?_⟩
        replace HO_11 := rb HO_11 hb
        replace HO416 := rb HO416 hb
        replace BK408 := bb BK408 hb
        replace HB := bsw hb
        (try clear hb)
        refine hw_ hK ⟨bc0 BK408, bc1 BK408, bc2 BK408, bc3 BK408, (hb_ HB hw418_0)⟩ (fun hHeld => ?_)
        clear hK K
        refine ow_ 12 (fun K hK => ?_)
        refine value_ (w1 := ?_) (v := ?_) (by rfl) rfl ?_ ?_
        rotate_left 2
        ·go_simp
         constructor
         ·rfl
         ·rfl
        refine hw_ hK ⟨(blk_cell (blk_alloc BK408.out _) 0).trans rfl, (blk_cell (blk_alloc BK408.out _) 1).trans rfl, (blk_cell (blk_alloc BK408.out _) 2).trans rfl, (blk_cell (blk_alloc BK408.out _) 3).trans rfl, (World.cell?_alloc_lt _ _ _ (World.block_lt_of_cell? _ _ ((hb_ HB hw418_0)))).trans ((hb_ HB hw418_0))⟩ (fun hHeld => ?_)
        clear hK K
        refine ow_ 13 (fun K hK => ?_)
        refine Kd.R_append_step (Kd.int .i64) (w0 := w) w.heap.size (by rfl) (.tmp 40) (.tmp 52) 25 3 (.int .i64 0) 8 rfl Tryz.underlying25 info3 rfl (by decide) (by omega) u11 x11_2 t419 [.int .i64 t419] (fun k_ => some k_ ≠ (v415 : Value).ownBlock) (fun _ => False) rfl rfl ?aP (fun _ hk => hk.elim) ?aF ?aO ?aB ?aS ?aL ?_
        (case aP => exact rfl)
        (case aB => exact (sbw))
        (case aF => exact (fun k_ hk => Kd.fresh' (Kd.R_lt (sr HO416)) k_ hk))
        (case aO => exact (by exact rm HO_11 (fun _ hk => hk.2)))
        (case aS => exact (below_size (sbw)))
        (case aL => have := LMc22.out; omega)
        intro v421 w27 ho hb hg hat
        rw [← Ny420.out] at ho
        replace BK408 := am (blk_grown (g := gb408) (o := .cells #[.int .i64 a0_0, .int .i64 a0_1, .int .i64 a0_2, .slice A0_3 l0_3.length c0_3] 32 (0, 0)) (sk BK408) hg (Kd.R_ne HO_11.out BK408.out (by decide)))
        replace HO416 := am (Kd.R_after (ok := (fun _ => True)) (sr HO416) hg hat)
        replace HB := am hb
        have HO422 := am ho
        clear HO_11 ho hb hg hat
        refine hw_ hK ⟨bc0 BK408, bc1 BK408, bc2 BK408, bc3 BK408, (hb_ HB hw418_0)⟩ (fun hHeld => ?_)
        clear hK K
        refine r1_ 14 ?_
        refine done_ (done_of HT_.out (by kernel_rfl)) ?_
        try go_wp2
        go_roundg k2
        case measure => have := HJ5.out; have := HK2.out; omega
        case rel => exact ⟨(y420), (wrap64 (x12_2 + 1)), sc, H', ⟨by have := HJ5.out; have := HK2.out; omega⟩, ⟨by exact rm HO422 (fun _ hk => trivial)⟩, ⟨sk BK408⟩, ⟨sbw⟩⟩
       ·obtain ⟨c28b0, H⟩ := id_ H
        obtain ⟨t424, A29, H⟩ := bnd H
        obtain ⟨LMc30, H⟩ := il_ H
        obtain ⟨y425, hy425⟩ : ∃ y_ : List Int, y_ = (x11_2 ++ [t424]) := ⟨_, rfl⟩
        replace H : (spec_RepairedAt.l0 k2 a1 a2 l3 l4 y425 (wrap64 (x12_2 + 1)) a0_0 a0_1 a0_2 l0_3) = some r := ry hy425 H
        have Ny425 := am hy425
        clear hy425
        have H' := am H
        clear H
        try go_wp2_with (first | ((with_reducible refine gd 31 rfl ?_); refine rl_ (Kd.int .i64) 3 31 ?_; intro v415 w31 ho32 hb; (first | rw [← Ny414.out] at ho32 | (simp only [Int.reduceToNat] at ho32; rw [← Ny414.out] at ho32)); have HO416 := am (Kd.R_lower (Kd.R_new' ho32 (Kd.R_lt (sr HO_11))) (below_size (sbw))); replace HO_11 := am (Kd.R_elder' (sr HO_11) (Kd.R_base ho32) hb); replace BK408 := bb BK408 hb; replace HB := bsw hb; clear hb ho32))
        replace HO_11 := am (Kd.R_drew HO_11.out)
        replace HO416 := am (Kd.R_drew HO416.out)
        replace BK408 := am (blk_drew BK408.out)
        replace HB := am (below_drew1 HB.out)
        obtain ⟨p423, q423, ad423, e423, hw423_0, hx423_0⟩ := at_i HR3 HB x12_2
        cases e423
        obtain ⟨Ao34, co34, eo34⟩ := Kd.R_slice HO416.out
        (first | subst eo34 | (injection eo34 with f1_ f2_ f3_; have f4_ := f1_.symm; have f5_ := f3_.symm; clear f1_ f2_ f3_; subst f4_; subst f5_))
        refine start_ (n := 15) (S := fun w' => w'.cell? ⟨gb408, 0, none⟩ = some (.int .i64 a0_0) ∧ w'.cell? ⟨gb408, 1, none⟩ = some (.int .i64 a0_1) ∧ w'.cell? ⟨gb408, 2, none⟩ = some (.int .i64 a0_2) ∧ w'.cell? ⟨gb408, 3, none⟩ = some (.slice A0_3 l0_3.length c0_3) ∧ w'.cell? (ad423.add (x12_2).toNat) = some (.int .i64 (rd l3 x12_2))) (ds := []) (bt 15 0) (by kernel_rfl) rfl (by kernel_rfl) ⟨bc0 BK408, bc1 BK408, bc2 BK408, bc3 BK408, (hb_ HB hw423_0)⟩ (fun hHeld => ?_); refine with_tabW spec_RepairedAt.tab10 spec_RepairedAt.bits10 (fun HT_ HW_ => ?_)
        generalize w31.drew = w33 at HO_11 HO416 BK408 HB hx423_0 hHeld ⊢
        refine r8_ 0 2 3 4 5 6 7 10 ?_
        refine tv_ 1 ?_
        refine tv_ 8 ?_
        refine r1_ 9 ?_
        refine ow_ 11 (fun K hK => ?_)
        refine goes_ Tryz.func32 (by kernel_rfl) rfl #[.agg #[.int .i64 a0_0, .int .i64 a0_1, .int .i64 a0_2, .slice A0_3 l0_3.length c0_3], .int .i64 x12_2, .int .i64 a1, .int .i64 (wrap64 (a2 + (rd l3 x12_2))), .slice Ao34 y414.length co34] (by rfl) rfl rfl sl ?_
        with_reducible refine (spec_RepairHop.calls k2 a0_0 a0_1 a0_2 _ _ l0_3 x12_2 a1 (wrap64 (a2 + (rd l3 x12_2))) _ _ y414 t424 _ ?side1 ?side2 ?side3 ?side4 A29.out).mono ?_
        (case side1 => exact cb HR0_3)
        (case side2 => exact HC0_3.out)
        (case side3 => exact cr HO416)
        (case side4 => exact (Kd.R_reads' HO416.out).2.1)
        rintro e w35 ⟨rfl, hb⟩
        refine ⟨_, rfl, ?_⟩
        replace HO_11 := rb HO_11 hb
        replace HO416 := rb HO416 hb
        replace BK408 := bb BK408 hb
        replace HB := bsw hb
        (try clear hb)
        refine hw_ hK ⟨bc0 BK408, bc1 BK408, bc2 BK408, bc3 BK408, (hb_ HB hw423_0)⟩ (fun hHeld => ?_)
        clear hK K
        refine ow_ 12 (fun K hK => ?_)
        refine value_ (w1 := ?_) (v := ?_) (by rfl) rfl ?_ ?_
        rotate_left 2
        ·go_simp
         constructor
         ·rfl
         ·rfl
        refine hw_ hK ⟨(blk_cell (blk_alloc BK408.out _) 0).trans rfl, (blk_cell (blk_alloc BK408.out _) 1).trans rfl, (blk_cell (blk_alloc BK408.out _) 2).trans rfl, (blk_cell (blk_alloc BK408.out _) 3).trans rfl, (World.cell?_alloc_lt _ _ _ (World.block_lt_of_cell? _ _ ((hb_ HB hw423_0)))).trans ((hb_ HB hw423_0))⟩ (fun hHeld => ?_)
        clear hK K
        refine ow_ 13 (fun K hK => ?_)
        refine Kd.R_append_step (Kd.int .i64) (w0 := w) w.heap.size (by rfl) (.tmp 40) (.tmp 52) 25 3 (.int .i64 0) 8 rfl Tryz.underlying25 info3 rfl (by decide) (by omega) u11 x11_2 t424 [.int .i64 t424] (fun k_ => some k_ ≠ (.slice Ao34 y414.length co34 : Value).ownBlock) (fun _ => False) rfl rfl ?aP (fun _ hk => hk.elim) ?aF ?aO ?aB ?aS ?aL ?_
        (case aP => exact rfl)
        (case aB => exact (sbw))
        (case aF => exact (fun k_ hk => Kd.fresh' (Kd.R_lt (sr HO416)) k_ hk))
        (case aO => exact (by exact rm HO_11 (fun _ hk => hk.2)))
        (case aS => exact (below_size (sbw)))
        (case aL => have := LMc30.out; omega)
        intro v426 w36 ho hb hg hat
        rw [← Ny425.out] at ho
        replace BK408 := am (blk_grown (g := gb408) (o := .cells #[.int .i64 a0_0, .int .i64 a0_1, .int .i64 a0_2, .slice A0_3 l0_3.length c0_3] 32 (0, 0)) (sk BK408) hg (Kd.R_ne HO_11.out BK408.out (by decide)))
        replace HO416 := am (Kd.R_after (ok := (fun _ => True)) (sr HO416) hg hat)
        replace HB := am hb
        have HO427 := am ho
        clear HO_11 ho hb hg hat
        refine hw_ hK ⟨bc0 BK408, bc1 BK408, bc2 BK408, bc3 BK408, (hb_ HB hw423_0)⟩ (fun hHeld => ?_)
        clear hK K
        refine r1_ 14 ?_
        refine done_ (done_of HT_.out (by kernel_rfl)) ?_
        try go_wp2
        go_roundg k2
        case measure => have := HJ5.out; have := HK2.out; omega
        case rel => exact ⟨(y425), (wrap64 (x12_2 + 1)), sc, H', ⟨by have := HJ5.out; have := HK2.out; omega⟩, ⟨by exact rm HO427 (fun _ hk => trivial)⟩, ⟨sk BK408⟩, ⟨sbw⟩⟩
      ·obtain rfl := Option.some.inj H
       go_wp2
       go_ret
       exact ⟨_, se, sr HO_11, sbw⟩

def laws_toSpan.f (a0_0 : Int) (a0_1 : Int) : Option (Int × Int) := some (a0_0, a0_1)
theorem laws_toSpan.calls (a0_0 : Int) (a0_1 : Int) (r1 : Int) (r2 : Int) (w : World) (h : laws_toSpan.f a0_0 a0_1 = some (r1, r2)) :
    Calls Tryz.prog 103 #[.agg #[.int .i64 a0_0, .int .i64 a0_1]] w fun e w' => e = .returned (.agg #[.int .i64 r1, .int .i64 r2]) ∧ Below w.heap.size w w' := by
 have hu93 := Tryz.underlying93
 have hu73 := Tryz.underlying73
 have HB := am (Below.refl w.heap.size w)
 have H := h; unfold laws_toSpan.f at H
 clear h
 simp only [Option.some.injEq, Prod.mk.injEq] at H
 obtain ⟨rfl, rfl⟩ := H
 go_enter Tryz.func103, Tryz.ntmps103
 go_wp2_with (first | ((with_reducible refine gd 1 rfl ?_); refine bx 1 #[.int .i64 a0_0, .int .i64 a0_1] 93 ?_; intro gb428 hg w2 hbox hb; have GW428 := bz w hg; have GE428 := bz w hg; replace HB := bs hb; have BK428 := am hbox; clear hb hbox hg) | ((with_reducible refine gd 2 rfl ?_); refine bx 2 #[.int .i64 0, .int .i64 0] 73 ?_; intro gb429 hg w3 hbox hb; have GW429 := bzw w hg; have GE429 := bzw w hg; replace HB := bsw hb; have BK429 := am hbox; have NB428_429 := nl BK428 hg; have NB429_428 := ng BK428 hg; replace BK428 := bb BK428 hb; clear hb hbox hg) | ((with_reducible refine gd 3 rfl ?_); refine bx 3 #[.int .i64 0, .int .i64 0] 73 ?_; intro gb430 hg w4 hbox hb; have GW430 := bzw w hg; have GE430 := bzw w hg; replace HB := bsw hb; have BK430 := am hbox; have NB428_430 := nl BK428 hg; have NB430_428 := ng BK428 hg; replace BK428 := bb BK428 hb; have NB429_430 := nl BK429 hg; have NB430_429 := ng BK429 hg; replace BK429 := bb BK429 hb; clear hb hbox hg; have hnb5 := NB428_429.out; have hnc5 := NB429_428.out; have hnb6 := NB428_430.out; have hnc6 := NB430_428.out; obtain ⟨_, _, _, _⟩ := cc2 BK428; have hnb8 := NB430_429.out; have hnc8 := NB429_430.out; obtain ⟨_, _, _, _⟩ := cc2 BK430; obtain ⟨_, _, _, _⟩ := cc2 BK429))
 refine bodyPost_ret (results_cell_row rfl _ _ gb429 73 #[.int .i64 a0_0, .int .i64 a0_1] (0, 0) _ rfl (sp BK429) Tryz.underlying73 rfl (by kernel_rfl)) rfl ?_
 exact ⟨se, sbw⟩

def laws_toLink.f (a0_0 : Int) (a0_1 : Int) : Option (Int × Int) := some (a0_0, a0_1)
theorem laws_toLink.calls (a0_0 : Int) (a0_1 : Int) (r1 : Int) (r2 : Int) (w : World) (h : laws_toLink.f a0_0 a0_1 = some (r1, r2)) :
    Calls Tryz.prog 145 #[.agg #[.int .i64 a0_0, .int .i64 a0_1]] w fun e w' => e = .returned (.agg #[.int .i64 r1, .int .i64 r2]) ∧ Below w.heap.size w w' := by
 have hu161 := Tryz.underlying161
 have hu90 := Tryz.underlying90
 have HB := am (Below.refl w.heap.size w)
 have H := h; unfold laws_toLink.f at H
 clear h
 simp only [Option.some.injEq, Prod.mk.injEq] at H
 obtain ⟨rfl, rfl⟩ := H
 go_enter Tryz.func145, Tryz.ntmps145
 go_wp2_with (first | ((with_reducible refine gd 1 rfl ?_); refine bx 1 #[.int .i64 a0_0, .int .i64 a0_1] 161 ?_; intro gb431 hg w2 hbox hb; have GW431 := bz w hg; have GE431 := bz w hg; replace HB := bs hb; have BK431 := am hbox; clear hb hbox hg) | ((with_reducible refine gd 2 rfl ?_); refine bx 2 #[.int .i64 0, .int .i64 0] 90 ?_; intro gb432 hg w3 hbox hb; have GW432 := bzw w hg; have GE432 := bzw w hg; replace HB := bsw hb; have BK432 := am hbox; have NB431_432 := nl BK431 hg; have NB432_431 := ng BK431 hg; replace BK431 := bb BK431 hb; clear hb hbox hg) | ((with_reducible refine gd 3 rfl ?_); refine bx 3 #[.int .i64 0, .int .i64 0] 90 ?_; intro gb433 hg w4 hbox hb; have GW433 := bzw w hg; have GE433 := bzw w hg; replace HB := bsw hb; have BK433 := am hbox; have NB431_433 := nl BK431 hg; have NB433_431 := ng BK431 hg; replace BK431 := bb BK431 hb; have NB432_433 := nl BK432 hg; have NB433_432 := ng BK432 hg; replace BK432 := bb BK432 hb; clear hb hbox hg; have hnb5 := NB431_432.out; have hnc5 := NB432_431.out; have hnb6 := NB431_433.out; have hnc6 := NB433_431.out; obtain ⟨_, _, _, _⟩ := cc2 BK431; have hnb8 := NB433_432.out; have hnc8 := NB432_433.out; obtain ⟨_, _, _, _⟩ := cc2 BK433; obtain ⟨_, _, _, _⟩ := cc2 BK432))
 refine bodyPost_ret (results_cell_row rfl _ _ gb432 90 #[.int .i64 a0_0, .int .i64 a0_1] (0, 0) _ rfl (sp BK432) Tryz.underlying90 rfl (by kernel_rfl)) rfl ?_
 exact ⟨se, sbw⟩

def laws_toLinkS.l0 : Nat → List (S161) → List (S90) → Int → Option ((List (S90)))
  | 0, _, _, _ => none
  | k + 1, x0, x3, x4 => if x4 < (x0.length : Int) then (if 0 ≤ x4 then ((laws_toLink.f ((rd_T161 x0 x4).f0) ((rd_T161 x0 x4).f1)).bind fun bt438 => (if x4 < (x3.length : Int) then (laws_toLinkS.l0 k x0 (x3.set (x4 : Int).toNat (⟨bt438.1, bt438.2⟩ : S90)) (wrap64 (x4 + 1))) else (none))) else (none)) else (some x3)
def laws_toLinkS.f (k : Nat) (l0 : List (S161)) : Option ((List (S90))) := if 0 ≤ (l0.length : Int) then (if ((l0.length : Int) : Int).toNat ≤ 17592186044416 then (laws_toLinkS.l0 k l0 (List.replicate ((l0.length : Int) : Int).toNat z90) 0) else (none)) else (none)
theorem laws_toLinkS.mono_l : ∀ k, (∀ y0 y1 y2, LeO (laws_toLinkS.l0 k y0 y1 y2) (laws_toLinkS.l0 (k + 1) y0 y1 y2))
  | 0 => fun _ _ _ r h => by simp [laws_toLinkS.l0] at h
  | k + 1 => by
    have ih0 := laws_toLinkS.mono_l k
    · intro y0 y1 y2
      unfold laws_toLinkS.l0
      exact mo
theorem laws_toLinkS.mono : ∀ a0 k, LeO (laws_toLinkS.f k a0) (laws_toLinkS.f (k + 1) a0) := by
  intro a0 k
  have ih0 := laws_toLinkS.mono_l k
  unfold laws_toLinkS.f
  exact mo
theorem laws_toLinkS.calls (k : Nat) (A0 : Option Addr) (c0 : Nat) (l0 : List (S161)) (r : List (S90)) (w : World) (hr0 : Kd.C k161 w A0 l0.length l0) (hc0 : l0.length ≤ c0) (h : laws_toLinkS.f k l0 = some r) :
    Calls Tryz.prog 104 #[.slice A0 l0.length c0] w fun e w' => ∃ v0_ : Value, e = .returned (v0_) ∧ Kd.R k90 90 w' w.heap.size (fun _ => True) v0_ r ∧ Below w.heap.size w w' := by
 have hu161 := Tryz.underlying161
 have hu90 := Tryz.underlying90
 have HR0 := am hr0
 have HC0 := am hc0
 clear hr0 hc0
 have HB := am (Below.refl w.heap.size w)
 have H := h; unfold laws_toLinkS.f at H
 clear h
 obtain ⟨c2, H⟩ := ia_ H
 have c2b0 := eq_true c2
 have c2b1 := decide_eq_true c2
 clear c2
 obtain ⟨c3, H⟩ := ia_ H
 have c3b0 := eq_true c3
 have c3b1 := decide_eq_true c3
 clear c3
 obtain ⟨y434, hy434⟩ : ∃ y_ : List (S90), y_ = (List.replicate ((l0.length : Int) : Int).toNat z90) := ⟨_, rfl⟩
 replace H : (laws_toLinkS.l0 k l0 y434 0) = some r := ry hy434 H
 have Ny434 := am hy434
 clear hy434
 have H' := am H
 clear H
 go_enter Tryz.func104, Tryz.ntmps104
 go_wp2_with (first | ((with_reducible refine gd 7 rfl ?_); refine Kd.R_make k90 _ 90 rfl (N := 7) rfl 51 _ _ rfl (l0.length : Int) rfl rfl Tryz.underlying51 (.agg #[(.int .i64 0), (.int .i64 0)]) 16 info90 rfl (by decide) (by omega) z90 (ok := fun _ => True) (okp := fun _ => True) (k90_mkM _ _ _ z90 ) (fun _ hk => hk) trivial (sa) (Nat.le_trans (Nat.mul_le_mul_right _ (sa : (l0.length : Int).toNat ≤ 17592186044416)) (by omega)) (Below.refl _ _) (Nat.le_refl _) ?_; intro v435 w4 ho5 hb hg_ hnew_; clear hg_ hnew_; (first | rw [← Ny434.out] at ho5 | (simp only [Int.reduceToNat] at ho5; rw [← Ny434.out] at ho5)); have HO436 := am (Kd.R_lower ho5 (below_size (sb))); replace HB := bs hb; clear hb ho5))
 go_loopg [4] k (fun kq v4 w' => ∃ (x3_1 : List (S90)) (x4_1 : Int), v4 = .int .i64 x4_1 ∧ Aside0 (laws_toLinkS.l0 kq l0 x3_1 x4_1 = some r) ∧ Aside0 (kq ≤ k) ∧ Aside0 (Kd.R k90 90 w' w.heap.size (fun _ => True) v435 x3_1) ∧ Aside0 (Below w.heap.size w w'))
 case atStart => exact ⟨(y434), (0), sc, H', kk0, ⟨sr HO436⟩, ⟨sb⟩⟩
 case round =>
  clear H'
  try clear c2
  try clear c2b0
  try clear c2b1
  try clear c3
  try clear c3b0
  try clear c3b1
  obtain ⟨x3_1, x4_1, rfl, HA, HK1, HO_3, HB⟩ := hrel
  cases gk with
  | zero => exact absurd HA.out (by simp [laws_toLinkS.l0])
  | succ k1 =>
   have H := HA.out
   clear HA
   simp only [laws_toLinkS.l0] at H
   obtain ⟨-, c6b0, H⟩ | ⟨-, c6b0, H⟩ := ic_ H
   ·obtain ⟨c7b0, H⟩ := id_ H
    obtain ⟨⟨t438, t439⟩, A8, H⟩ := bnd H
    try dsimp only at H
    obtain ⟨c9b0, H⟩ := id_ H
    obtain ⟨y440, hy440⟩ : ∃ y_ : List (S90), y_ = (x3_1.set (x4_1 : Int).toNat (⟨t438, t439⟩ : S90)) := ⟨_, rfl⟩
    replace H : (laws_toLinkS.l0 k1 l0 y440 (wrap64 (x4_1 + 1))) = some r := ry hy440 H
    have Ny440 := am hy440
    clear hy440
    have H' := am H
    clear H
    obtain ⟨p437, q437, ad437, e437, _, _, hx437_0, hx437_1⟩ := aT_T161 HR0 HB x4_1
    cases e437
    go_wp2_with (first | ((with_reducible refine gc 145 rfl ?_); refine gL (some 20) Tryz.func145 #[.agg #[.int .i64 ((rd_T161 l0 x4_1).f0), .int .i64 ((rd_T161 l0 x4_1).f1)]] ?_; (with_reducible refine (laws_toLink.calls ((rd_T161 l0 x4_1).f0) ((rd_T161 l0 x4_1).f1) t438 t439 _ A8.out).mono ?_); rintro e w11 ⟨rfl, hb⟩; refine ⟨_, rfl, ?_⟩; replace HO_3 := rb HO_3 hb; replace HB := bs hb; (try clear hb); (try clear hk); have p10 : 0 ≤ (x4_1 : Int) := sa; have q10 : (x4_1 : Int) < ((x3_1.length : Int) : Int) := sa; obtain ⟨go10, co10, eo10, gb10, gl10, cl10, HG10⟩ := Kd.R_form HO_3.out (by omega); (first | cases eo10 | (injection eo10 with ea_ en_ ec_; (first | subst ea_ | (injection ea_ with ea_; subst ea_)); subst ec_; clear en_)); have GB10 := am gb10; have GG10 := am HG10; clear gb10 gl10 HG10; obtain ⟨ce10, hcl10, hM10, hcc10, hfr10⟩ := Kd.R_elem HO_3.out z90 (x4_1 : Int) p10 q10; obtain rfl := k90_openM hM10; have hx10_0 : w11.cell? ⟨go10, (x4_1 : Int).toNat * 2, none⟩ = some (.int .i64 ((rd_T90 x3_1 x4_1).f0)) := hcc10 0 _ rfl; have hx10_1 : w11.cell? ⟨go10, (x4_1 : Int).toNat * 2 + 1, none⟩ = some (.int .i64 ((rd_T90 x3_1 x4_1).f1)) := hcc10 1 _ rfl; have hf10_0 : w11.frozen? ⟨go10, (x4_1 : Int).toNat * 2, none⟩ = false := hfr10 0; have hf10_1 : w11.frozen? ⟨go10, (x4_1 : Int).toNat * 2 + 1, none⟩ = false := hfr10 1; (try clear hcl10); (try clear hcc10); (try clear hfr10); (try clear hM10); replace p10 := eq_true p10; replace q10 := eq_true q10; have HX12 := am (show Kd.R k90 90 w11 w.heap.size (fun _ => True) (.slice (some ⟨go10, 0, none⟩) x3_1.length co10) x3_1 from (sr HO_3)); obtain ⟨ce12, hcl12, hM12, hcc12, hfr12⟩ := Kd.R_elem HX12.out z90 (x4_1 : Int) (sa) a11_0; obtain rfl := k90_openM hM12; have HP12 := Kd.R_seg HX12.out (x4_1 : Int) (sa) a11_0 (seg := [.int .i64 t438, .int .i64 t439]) (j := 0) hcl12 hcc12 (show 2 ≤ 2 from by decide) (x' := (⟨t438, t439⟩ : S90)) (k90_mkM _ _ _ (⟨t438, t439⟩ : S90) ) (fun _ hk => hk); have hx12_0 := hcc12 0 _ rfl; (try simp only [show (k90).sz = 2 from rfl, Nat.mul_one, Nat.add_zero] at hx12_0); have hf12_0 := hfr12 0; (try simp only [show (k90).sz = 2 from rfl, Nat.mul_one, Nat.add_zero] at hf12_0); have hx12_1 := hcc12 1 _ rfl; (try simp only [show (k90).sz = 2 from rfl, Nat.mul_one, Nat.add_zero] at hx12_1); have hf12_1 := hfr12 1; (try simp only [show (k90).sz = 2 from rfl, Nat.mul_one, Nat.add_zero] at hf12_1); (try clear hcl12); (try clear hcc12); (try clear hfr12); (try clear hM12)) | ((with_reducible refine gate_store (t := 90) (p := 21) rfl ?_); refine store_event (t := 90) (p := 21) (v := ?vo_w13) (w1 := ((w11.setCell ⟨go10, (x4_1 : Int).toNat * 2, none⟩ (.int .i64 t438)).setCell ⟨go10, (x4_1 : Int).toNat * 2 + 1, none⟩ (.int .i64 t439))) ?hg ?ho ?hn ?hr ?_; (case ho => rfl); (case hg => rfl); (case hn => rfl); (case hr => first | (go_simp; done) | (go_simp; rfl)); intro w13 hw; have hg : w11.grownBy w13 (some go10) := (by rw [hw]; exact HP12.2); have hp_ : Kd.R k90 90 w13 w.heap.size (fun _ => True) (.slice (some ⟨go10, 0, none⟩) x3_1.length co10) y440 := (by rw [hw, Ny440.out]; exact HP12.1); clear HP12; replace HO_3 := am hp_; replace HB := am ((by rw [hw]; exact below_set (below_set (HB.out) GB10.out) GB10.out : Below w.heap.size w w13)); clear hg hw hp_))
    go_roundg k1
    case measure => have := HK1.out; omega
    case rel => exact ⟨(y440), (wrap64 (x4_1 + 1)), sc, H', kk1, ⟨sr HO_3⟩, ⟨sb⟩⟩
   ·obtain rfl := Option.some.inj H
    go_wp2
    go_ret
    exact ⟨_, se, sr HO_3, sb⟩

end Go.Proofs.YthnlkgbhohchoaaGreat.QFnExactRepairedAt
