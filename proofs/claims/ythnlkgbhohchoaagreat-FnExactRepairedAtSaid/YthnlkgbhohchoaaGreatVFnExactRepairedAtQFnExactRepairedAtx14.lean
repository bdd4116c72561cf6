/- Printed by a program of the session. Conditions: none. (squeezed). -/
import Derived.Test.YthnlkgbhohchoaaGreatVFnExactRepairedAtQFnExactRepairedAtx13
namespace Go.Proofs.YthnlkgbhohchoaaGreat.QFnExactRepairedAt
set_option maxHeartbeats 8000000
set_option maxRecDepth 100000
open Go.RowKit Go.Proofs.YthnlkgbhohchoaaGreatW.PrintWords Go.Proofs.YthnlkgbhohchoaaGreatW.PrintLast Go.Proofs.YthnlkgbhohchoaaGreatW.PrintMore Go.Proofs.YthnlkgbhohchoaaGreat.Open Go.Proofs.YthnlkgbhohchoaaGreat.Sq
attribute [local go_sem] max2_int min2_int max_two min_two max_three min_three max_four min_four   -- for this text's walks alone
attribute [local go_sem] isSome_set
set_option linter.unusedVariables false
set_option linter.unusedSimpArgs false

theorem a14_0 {P : Prop} (h : P := by have := HJ4.out; have := HK2.out; omega) : P := h
mutual
def impl_AltsOf.j0 : Nat → List (S90) → Int → Int → List Int → Bool → Int → List Int → List Int → Option (List Int)
  | 0, _, _, _, _, _, _, _, _ => none
  | k + 1, x1, x2, x3, x9, x26, x531000, x531001, x531002 => if x26 = true then (some x9) else ((impl_NeighborsIn.f k x1 x3).bind fun t536 => (impl_AltsOf.l0 k x2 x3 x9 t536 (t536.length : Int) 0 x531000 x531001 x531002))
def impl_AltsOf.l0 : Nat → Int → Int → List Int → List Int → Int → Int → Int → List Int → List Int → Option (List Int)
  | 0, _, _, _, _, _, _, _, _, _ => none
  | k + 1, x2, x3, x9, x30, x31, x32, x531000, x531001, x531002 => if x32 < x31 then (if 0 ≤ x32 then (if x32 < (x30.length : Int) then (if 0 ≤ x3 then (if x3 < (x531002.length : Int) then (if (rd x30 x32) = (rd x531002 x3) then (impl_AltsOf.l0 k x2 x3 x9 x30 x31 (wrap64 (x32 + 1)) x531000 x531001 x531002) else (if (rd x30 x32) < x2 then ((impl_isIndex.f (rd x30 x32) (x531001.length : Int)).bind fun t541 => (if t541 = true then (if 0 ≤ (rd x30 x32) then (if (rd x30 x32) < (x531001.length : Int) then (if (rd x531001 (rd x30 x32)) ≥ 0 then (if x3 < (x531001.length : Int) then (if (rd x531001 (rd x30 x32)) < (rd x531001 x3) then (if x9.length < 17592186044416 then (impl_AltsOf.l0 k x2 x3 (x9 ++ [rd x30 x32]) x30 x31 (wrap64 (x32 + 1)) x531000 x531001 x531002) else (none)) else (impl_AltsOf.l0 k x2 x3 x9 x30 x31 (wrap64 (x32 + 1)) x531000 x531001 x531002)) else (none)) else (impl_AltsOf.l0 k x2 x3 x9 x30 x31 (wrap64 (x32 + 1)) x531000 x531001 x531002)) else (none)) else (none)) else (impl_AltsOf.l0 k x2 x3 x9 x30 x31 (wrap64 (x32 + 1)) x531000 x531001 x531002))) else (if (rd x30 x32) = x531000 then ((impl_isIndex.f (rd x30 x32) (x531001.length : Int)).bind fun t548 => (if t548 = true then (if 0 ≤ (rd x30 x32) then (if (rd x30 x32) < (x531001.length : Int) then (if (rd x531001 (rd x30 x32)) ≥ 0 then (if x3 < (x531001.length : Int) then (if (rd x531001 (rd x30 x32)) < (rd x531001 x3) then (if x9.length < 17592186044416 then (impl_AltsOf.l0 k x2 x3 (x9 ++ [rd x30 x32]) x30 x31 (wrap64 (x32 + 1)) x531000 x531001 x531002) else (none)) else (impl_AltsOf.l0 k x2 x3 x9 x30 x31 (wrap64 (x32 + 1)) x531000 x531001 x531002)) else (none)) else (impl_AltsOf.l0 k x2 x3 x9 x30 x31 (wrap64 (x32 + 1)) x531000 x531001 x531002)) else (none)) else (none)) else (impl_AltsOf.l0 k x2 x3 x9 x30 x31 (wrap64 (x32 + 1)) x531000 x531001 x531002))) else (impl_AltsOf.l0 k x2 x3 x9 x30 x31 (wrap64 (x32 + 1)) x531000 x531001 x531002)))) else (none)) else (none)) else (none)) else (none)) else ((slices_SortStableFunc_int_int.f x531001 x9 0).bind fun t555 => (some t555))
end
def impl_AltsOf.f (k : Nat) (a0_0 : Int) (l0_1 : List Int) (l0_2 : List Int) (l1 : List (S90)) (a2 : Int) (a3 : Int) : Option (List Int) := (some (([] : List Int) : List Int)).bind fun y531 => ((impl_isIndex.f a3 (l0_1.length : Int)).bind fun t534 => (if t534 = true then ((impl_isIndex.f a3 (l0_2.length : Int)).bind fun t535 => (impl_AltsOf.j0 k l1 a2 a3 y531 (!t535) a0_0 l0_1 l0_2)) else (impl_AltsOf.j0 k l1 a2 a3 y531 true a0_0 l0_1 l0_2)))
theorem impl_AltsOf.mono_l : ∀ k, (∀ y0 y1 y2 y3 y4 y5 y6 y7, LeO (impl_AltsOf.j0 k y0 y1 y2 y3 y4 y5 y6 y7) (impl_AltsOf.j0 (k + 1) y0 y1 y2 y3 y4 y5 y6 y7)) ∧ (∀ y0 y1 y2 y3 y4 y5 y6 y7 y8, LeO (impl_AltsOf.l0 k y0 y1 y2 y3 y4 y5 y6 y7 y8) (impl_AltsOf.l0 (k + 1) y0 y1 y2 y3 y4 y5 y6 y7 y8))
  | 0 => ⟨fun _ _ _ _ _ _ _ _ r h => by simp [impl_AltsOf.j0] at h, fun _ _ _ _ _ _ _ _ _ r h => by simp [impl_AltsOf.l0] at h⟩
  | k + 1 => by
    obtain ⟨ih0, ih1⟩ := impl_AltsOf.mono_l k
    refine ⟨?_, ?_⟩
    · intro y0 y1 y2 y3 y4 y5 y6 y7
      unfold impl_AltsOf.j0
      have m0 := @impl_NeighborsIn.mono
      exact mo
    · intro y0 y1 y2 y3 y4 y5 y6 y7 y8
      unfold impl_AltsOf.l0
      have m0 := @impl_NeighborsIn.mono
      exact mo
theorem impl_AltsOf.mono : ∀ a0 a1 a2 a3 a4 a5 k, LeO (impl_AltsOf.f k a0 a1 a2 a3 a4 a5) (impl_AltsOf.f (k + 1) a0 a1 a2 a3 a4 a5) := by
  intro a0 a1 a2 a3 a4 a5 k
  obtain ⟨ih0, ih1⟩ := impl_AltsOf.mono_l k
  unfold impl_AltsOf.f
  have m0 := @impl_NeighborsIn.mono
  exact mo
def impl_AltsOf.T7 : Bool × List (List Nat × List Nat) := (true, [([], []), ([], []), ([1], [1]), ([], []), ([2, 3], [2, 3]), ([4], [4]), ([0, 5], [0, 5]), ([6], [6]), ([7], [7]), ([7], [7]), ([8, 9, 7], [7, 8, 9]), ([10, 7, 7], [7, 10]), ([11], [11]), ([11], [11]), ([13, 11], [11, 13]), ([12, 14, 11], [11, 12, 14]), ([11, 15, 7], [7, 11, 15]), ([7, 16], [7, 16]), ([17, 11], [17]), ([18], [18]), ([18], [18]), ([20, 18], [18, 20]), ([21, 18], [18, 21]), ([19, 22, 18, 18], [18, 19, 22]), ([18, 23], [18, 23]), ([24, 23], [24]), ([25], [25]), ([26, 25], [25, 26]), ([25], [25]), ([27, 28, 25], [25, 27, 28]), ([29, 25], [25, 29]), ([30, 25], [25, 30]), ([25, 31], [25, 31]), ([32, 25], [32]), ([33], [33]), ([34, 33], [33, 34]), ([33], [33]), ([35, 36, 33], [33, 35, 36]), ([37, 33], [33, 37]), ([33], [33]), ([39, 33], [33, 39]), ([33], [33]), ([40, 41, 33], [33, 40, 41]), ([42, 33], [33, 42]), ([38, 43, 33], [33, 38, 43]), ([33, 44], [33, 44])])
def impl_AltsOf.B7 : List Nat := [0, 0, 2, 0, 14, 30, 63, 127, 255, 255, 1023, 2047, 4095, 4095, 12287, 32767, 65535, 131071, 262143, 524287, 524287, 1572863, 3670015, 8388607, 16777215, 33554431, 67108863, 134217727, 67108863, 536870911, 1073741823, 2147483647, 4294967295, 8589934591, 17179869183, 34359738367, 17179869183, 137438953471, 274877906943, 17179869183, 566935683071, 17179869183, 3865470566399, 8263517077503, 17592186044415, 35184372088831]
theorem impl_AltsOf.tab7 : rtab .any (opsOf Tryz.f25 7) = impl_AltsOf.T7 := by kernel_rfl
theorem impl_AltsOf.bits7 : waitsOk impl_AltsOf.T7.2 impl_AltsOf.B7 = true := by kernel_rfl
theorem impl_AltsOf.calls (k : Nat) (a0_0 : Int) (A0_1 : Option Addr) (c0_1 : Nat) (l0_1 : List Int) (A0_2 : Option Addr) (c0_2 : Nat) (l0_2 : List Int) (A1 : Option Addr) (c1 : Nat) (l1 : List (S90)) (a2 : Int) (a3 : Int) (r : List Int) (w : World) (hr0_1 : Kd.C (Kd.int .i64) w A0_1 l0_1.length l0_1) (hc0_1 : l0_1.length ≤ c0_1) (hr0_2 : Kd.C (Kd.int .i64) w A0_2 l0_2.length l0_2) (hc0_2 : l0_2.length ≤ c0_2) (hr1 : Kd.C k90 w A1 l1.length l1) (hc1 : l1.length ≤ c1) (h : impl_AltsOf.f k a0_0 l0_1 l0_2 l1 a2 a3 = some r) :
    Calls Tryz.prog 25 #[.agg #[.int .i64 a0_0, .slice A0_1 l0_1.length c0_1, .slice A0_2 l0_2.length c0_2], .slice A1 l1.length c1, .int .i64 a2, .int .i64 a3] w fun e w' => ∃ v0_ : Value, e = .returned (v0_) ∧ Kd.R (Kd.int .i64) 3 w' w.heap.size (fun _ => True) v0_ r ∧ Below w.heap.size w w' := by
 have hu50 := Tryz.underlying50
 have HR0_1 := am hr0_1
 have HC0_1 := am hc0_1
 clear hr0_1 hc0_1
 have HR0_2 := am hr0_2
 have HC0_2 := am hc0_2
 clear hr0_2 hc0_2
 have HR1 := am hr1
 have HC1 := am hc1
 clear hr1 hc1
 have HB := am (Below.refl w.heap.size w)
 have H := h; unfold impl_AltsOf.f at H
 clear h
 obtain ⟨y531, Ny531, H⟩ := iy_ H
 have HC5 := am H
 clear H
 go_enter Tryz.func25, Tryz.ntmps25
 go_upto_region 2 with (first | ((with_reducible refine gd 4 rfl ?_); (try (refine gate_guard (by rfl) ?_; dsimp only)); refine bx 4 #[.int .i64 a0_0, .slice A0_1 l0_1.length c0_1, .slice A0_2 l0_2.length c0_2] 50 ?_; intro gb530 hg w6 hbox hb; have GW530 := bz w hg; have GE530 := bz w hg; replace HB := bs hb; have BK530 := am hbox; clear hb hbox hg) | ((with_reducible refine gd 12 rfl ?_); (try (refine gate_guard (by rfl) ?_; dsimp only)); refine rl_ (Kd.int .i64) 3 12 ?_; intro v532 w7 ho8 hb; (first | rw [← Ny531.out] at ho8 | (simp only [Int.reduceToNat] at ho8; rw [← Ny531.out] at ho8)); have HO533 := am (Kd.R_lower ho8 (below_size (sbw))); replace BK530 := bb BK530 hb; replace HB := bsw hb; clear hb ho8))
 (try simp only [Act.put, List.setIfInBounds_toArray, List.set_cons_zero, List.set_cons_succ])
 go_cut [26] (fun v26 wc => ∃ (kq : Nat) (x26_4 : Bool), v26 = .bool x26_4 ∧ Aside0 (impl_AltsOf.j0 kq l1 a2 a3 y531 x26_4 a0_0 l0_1 l0_2 = some r) ∧ Aside0 (kq ≤ k) ∧ Aside0 (Kd.R (Kd.int .i64) 3 wc w.heap.size (fun _ => True) v532 y531) ∧ Aside0 (wc.heap[gb530]? = some (.cells #[.int .i64 a0_0, (.slice A0_1 l0_1.length c0_1), (.slice A0_2 l0_2.length c0_2)] 50 (0, 0))) ∧ Aside0 (Below w.heap.size w wc))
 case first =>
  have H := HC5.out
  clear HC5
  obtain ⟨t534, A9, H⟩ := bnd H
  obtain rfl | rfl := tt t534
  ·replace H := ip H
   obtain ⟨t535, A11, H⟩ := bnd H
   have H' := am H
   clear H
   obtain ⟨_, _, _, _, _, _⟩ := cc3 BK530
   go_wp2_with (first | ((with_reducible refine gc 55 rfl ?_); refine gL (some 17) Tryz.func55 #[.int .i64 a3, .int .i64 (l0_1.length : Int)] ?_; (with_reducible refine (impl_isIndex.calls a3 (l0_1.length : Int) true _ A9.out).mono ?_); rintro e w' ⟨rfl, ⟨nd, rfl⟩⟩; refine ⟨_, rfl, ?_⟩) | (go_at_call 55; (with_reducible refine (impl_isIndex.calls a3 (l0_2.length : Int) t535 _ A11.out).mono ?_); rintro e w' ⟨rfl, ⟨nd, rfl⟩⟩))
   go_meet
   case rel => exact ⟨_, (!t535), sc, H', ⟨by first | omega | exact Nat.le_refl _⟩, ⟨sr HO533⟩, ⟨sk BK530⟩, ⟨sbw⟩⟩
  ·replace H := im H
   have H' := am H
   clear H
   obtain ⟨_, _, _, _, _, _⟩ := cc3 BK530
   go_wp2_with (first | ((with_reducible refine gc 55 rfl ?_); refine gL (some 17) Tryz.func55 #[.int .i64 a3, .int .i64 (l0_1.length : Int)] ?_; (with_reducible refine (impl_isIndex.calls a3 (l0_1.length : Int) false _ A9.out).mono ?_); rintro e w' ⟨rfl, ⟨nd, rfl⟩⟩; refine ⟨_, rfl, ?_⟩))
   go_meet
   case rel => exact ⟨_, (true), sc, H', ⟨by first | omega | exact Nat.le_refl _⟩, ⟨sr HO533⟩, ⟨sk BK530⟩, ⟨sbw⟩⟩
 case rest =>
  clear HC5
  obtain ⟨kq, x26_4, rfl, HA, HJ4, HO_9, BK530, HB⟩ := hcut
  cases kq with
  | zero => exact absurd HA.out (by simp [impl_AltsOf.j0])
  | succ kj4 =>
   have H := HA.out
   clear HA
   simp only [impl_AltsOf.j0] at H
   obtain rfl | rfl := tt x26_4
   ·replace H := ip H
    obtain rfl := Option.some.inj H
    go_wp2
    go_ret
    exact ⟨_, se, sr HO_9, sbw⟩
   ·replace H := im H
    obtain ⟨t536, A15, H⟩ := bnd H
    have H' := am H
    clear H
    go_wp2_with (first | ((with_reducible refine gc 26 rfl ?_); refine gL (some 30) Tryz.func26 #[.slice A1 l1.length c1, .int .i64 a3] ?_; (with_reducible refine (impl_NeighborsIn.calls kj4 _ _ l1 a3 t536 _ ?side1 ?side2 A15.out).mono ?_); (case side1 => exact cb HR1); (case side2 => exact HC1.out); rintro e w16 ⟨v537, rfl, ho0, hb⟩; refine ⟨_, rfl, ?_⟩; have HO538 := am (Kd.R_lower (Kd.R_new' ho0 (Kd.R_lt (sr HO_9))) (below_size (sbw))); replace HO_9 := am (Kd.R_elder' (sr HO_9) (Kd.R_base ho0) hb); replace BK530 := bb BK530 hb; replace HB := bsw hb; (try clear hb); (try clear ho0); obtain ⟨Ao17, co17, eo17⟩ := Kd.R_slice HO538.out; subst eo17))
    go_loopg [9, 32] kj4 (fun kq v9 v32 w' => ∃ (x9_2 : List Int) (x32_2 : Int), v32 = .int .i64 x32_2 ∧ Aside0 (impl_AltsOf.l0 kq a2 a3 x9_2 t536 (t536.length : Int) x32_2 a0_0 l0_1 l0_2 = some r) ∧ Aside0 (kq ≤ kj4) ∧ Aside0 (Kd.R (Kd.int .i64) 3 w' w.heap.size (fun k_ => some k_ ≠ ((.slice Ao17 t536.length co17) : Value).ownBlock) v9 x9_2) ∧ Aside0 (Kd.R (Kd.int .i64) 3 w' w.heap.size (fun k_ => some k_ ≠ (v9 : Value).ownBlock) (.slice Ao17 t536.length co17) t536) ∧ Aside0 (w'.heap[gb530]? = some (.cells #[.int .i64 a0_0, (.slice A0_1 l0_1.length c0_1), (.slice A0_2 l0_2.length c0_2)] 50 (0, 0))) ∧ Aside0 (Below w.heap.size w w'))
    case atStart => exact ⟨(y531), (0), sc, H', kk0, ⟨by exact rm HO_9 (fun _ hk => hk.2)⟩, ⟨by exact rm HO538 (fun _ hk => hk.2)⟩, ⟨sk BK530⟩, ⟨sbw⟩⟩
    case round =>
     clear H'
     obtain ⟨x9_2, x32_2, rfl, HA, HK2, HO_9, HO_30, BK530, HB⟩ := hrel
     cases gk with
     | zero => exact absurd HA.out (by simp [impl_AltsOf.l0])
     | succ k2 =>
      have H := HA.out
      clear HA
      simp only [impl_AltsOf.l0] at H
      obtain ⟨-, c18b0, H⟩ | ⟨-, c18b0, H⟩ := ic_ H
      ·obtain ⟨c19b0, H⟩ := id_ H
       obtain ⟨c20b0, H⟩ := id_ H
       obtain ⟨c21b0, H⟩ := id_ H
       obtain ⟨c22b0, H⟩ := id_ H
       obtain ⟨-, c23b0, c23b1, H⟩ | ⟨c23, c23b0, c23b1, H⟩ := ib_ H
       ·have H' := am H
        clear H
        have p539 : 0 ≤ (x32_2 : Int) := sa
        have q539 : x32_2 < (t536.length : Int) := sa
        obtain ⟨ad539, e539, hx539_0⟩ := Kd.at_int (Kd.R_reads' HO_30.out).2.2 x32_2 p539 q539
        cases e539
        replace p539 := eq_true p539
        replace q539 := eq_true q539
        try go_wp2
        replace HO_9 := am (Kd.R_drew HO_9.out)
        replace HO_30 := am (Kd.R_drew HO_30.out)
        replace BK530 := am (blk_drew BK530.out)
        replace HB := am (below_drew1 HB.out)
        obtain ⟨p540, q540, ad540, e540, hw540_0, hx540_0⟩ := at_i HR0_2 HB a3
        cases e540
        refine start_ (n := 46) (S := fun w' => w'.cell? ⟨gb530, 0, none⟩ = some (.int .i64 a0_0) ∧ w'.cell? ⟨gb530, 1, none⟩ = some (.slice A0_1 l0_1.length c0_1) ∧ w'.cell? ⟨gb530, 2, none⟩ = some (.slice (some ad540) l0_2.length c0_2) ∧ w'.cell? (ad540.add (a3).toNat) = some (.int .i64 (rd l0_2 a3))) (ds := []) (bt 46 0) (by kernel_rfl) rfl (by kernel_rfl) ⟨bc0 BK530, bc1 BK530, bc2 BK530, (hb_ HB hw540_0)⟩ (fun hHeld => ?_); refine with_tabW impl_AltsOf.tab7 impl_AltsOf.bits7 (fun HT_ HW_ => ?_)
        generalize wr.drew = w24 at HO_9 HO_30 BK530 HB hx540_0 hHeld ⊢
        refine r3_ 0 1 3 ?_
        refine tv_ 2 ?_
        refine r1_ 4 ?_
        refine tv_ 5 ?_
        refine r10_ 6 7 8 9 10 11 12 13 14 15 ?_
        refine r10_ 16 17 18 19 20 21 22 23 24 25 ?_
        refine r10_ 26 27 28 29 30 31 32 33 34 35 ?_
        refine r10_ 36 37 38 39 40 41 42 43 44 45 ?_
        refine done_ (done_of HT_.out (by kernel_rfl)) ?_
        try go_wp2
        go_roundg k2
        case measure => have := HJ4.out; have := HK2.out; omega
        case rel => exact ⟨(x9_2), (wrap64 (x32_2 + 1)), sc, H', ⟨a14_0⟩, ⟨sr HO_9⟩, ⟨sr HO_30⟩, ⟨sk BK530⟩, ⟨sbw⟩⟩
       ·obtain ⟨-, c25b0, H⟩ | ⟨-, c25b0, H⟩ := ic_ H
        ·obtain ⟨t541, A26, H⟩ := bnd H
         obtain rfl | rfl := tt t541
         ·replace H := ip H
          obtain ⟨c28b0, H⟩ := id_ H
          obtain ⟨c29b0, H⟩ := id_ H
          obtain ⟨-, c30b0, H⟩ | ⟨-, c30b0, H⟩ := ic_ H
          ·obtain ⟨c31b0, H⟩ := id_ H
           obtain ⟨-, c32b0, H⟩ | ⟨-, c32b0, H⟩ := ic_ H
           ·obtain ⟨LMc33, H⟩ := il_ H
            obtain ⟨y545, hy545⟩ : ∃ y_ : List Int, y_ = (x9_2 ++ [rd t536 x32_2]) := ⟨_, rfl⟩
            replace H : (impl_AltsOf.l0 k2 a2 a3 y545 t536 (t536.length : Int) (wrap64 (x32_2 + 1)) a0_0 l0_1 l0_2) = some r := ry hy545 H
            have Ny545 := am hy545
            clear hy545
            have H' := am H
            clear H
            have p539 : 0 ≤ (x32_2 : Int) := sa
            have q539 : x32_2 < (t536.length : Int) := sa
            obtain ⟨ad539, e539, hx539_0⟩ := Kd.at_int (Kd.R_reads' HO_30.out).2.2 x32_2 p539 q539
            cases e539
            replace p539 := eq_true p539
            replace q539 := eq_true q539
            try go_wp2
            replace HO_9 := am (Kd.R_drew HO_9.out)
            replace HO_30 := am (Kd.R_drew HO_30.out)
            replace BK530 := am (blk_drew BK530.out)
            replace HB := am (below_drew1 HB.out)
            obtain ⟨p540, q540, ad540, e540, hw540_0, hx540_0⟩ := at_i HR0_2 HB a3
            cases e540
            obtain ⟨p542, q542, ad542, e542, hw542_0, hx542_0⟩ := at_i HR0_1 HB (rd t536 x32_2)
            cases e542
            obtain ⟨p543, q543, ad543, e543, hw543_0, hx543_0⟩ := at_i HR0_1 HB (rd t536 x32_2)
            obtain rfl : ad542 = ad543 := (by injection e543)
            obtain ⟨p544, q544, ad544, e544, hw544_0, hx544_0⟩ := at_i HR0_1 HB a3
            obtain rfl : ad542 = ad544 := (by injection e544)
            refine start_ (n := 46) (S := fun w' => w'.cell? ⟨gb530, 0, none⟩ = some (.int .i64 a0_0) ∧ w'.cell? ⟨gb530, 1, none⟩ = some (.slice (some ad542) l0_1.length c0_1) ∧ w'.cell? ⟨gb530, 2, none⟩ = some (.slice (some ad540) l0_2.length c0_2) ∧ w'.cell? (ad540.add (a3).toNat) = some (.int .i64 (rd l0_2 a3)) ∧ w'.cell? (ad542.add ((rd t536 x32_2)).toNat) = some (.int .i64 (rd l0_1 (rd t536 x32_2))) ∧ w'.cell? (ad542.add ((rd t536 x32_2)).toNat) = some (.int .i64 (rd l0_1 (rd t536 x32_2))) ∧ w'.cell? (ad542.add (a3).toNat) = some (.int .i64 (rd l0_1 a3))) (ds := []) (bt 46 0) (by kernel_rfl) rfl (by kernel_rfl) ⟨bc0 BK530, bc1 BK530, bc2 BK530, (hb_ HB hw540_0), (hb_ HB hw542_0), (hb_ HB hw543_0), (hb_ HB hw544_0)⟩ (fun hHeld => ?_); refine with_tabW impl_AltsOf.tab7 impl_AltsOf.bits7 (fun HT_ HW_ => ?_)
            generalize wr.drew = w34 at HO_9 HO_30 BK530 HB hx540_0 hx542_0 hx543_0 hx544_0 hHeld ⊢
            refine r3_ 0 1 3 ?_
            refine tv_ 2 ?_
            refine r1_ 4 ?_
            refine tv_ 5 ?_
            refine r10_ 6 7 8 9 10 11 12 13 14 15 ?_
            refine r5_ 16 17 18 19 20 ?_
            refine tv_ 21 ?_
            refine r1_ 22 ?_
            refine ow_ 23 (fun K hK => ?_)
            refine goes_ Tryz.func55 (by kernel_rfl) rfl #[.int .i64 (rd t536 x32_2), .int .i64 (l0_1.length : Int)] (by rfl) rfl rfl sl ?_
            with_reducible refine (impl_isIndex.calls (rd t536 x32_2) (l0_1.length : Int) true _ A26.out).mono ?_
            rintro e w' ⟨rfl, ⟨nd, rfl⟩⟩
            refine ⟨_, rfl, ?_⟩
            refine hw_ hK ⟨bc0 BK530, bc1 BK530, bc2 BK530, (hb_ ⟨sb⟩ hw540_0), (hb_ ⟨sb⟩ hw542_0), (hb_ ⟨sb⟩ hw543_0), (hb_ ⟨sb⟩ hw544_0)⟩ (fun hHeld => ?_)
            clear hK K
            refine r4_ 24 25 26 28 ?_
            refine tv_ 27 ?_
            refine r1_ 29 ?_
            refine tv_ 30 ?_
            refine r7_ 31 32 33 34 36 39 41 ?_
            refine tv_ 35 ?_
            refine r1_ 37 ?_
            refine tv_ 38 ?_
            refine tv_ 40 ?_
            refine r1_ 42 ?_
            refine tv_ 43 ?_
            refine r2_ 44 45 ?_
            refine done_ (done_of HT_.out (by kernel_rfl)) ?_
            try go_wp2_with (first | ((with_reducible refine gate_builtin (b := .append) (xs := #[.tmp 82, .tmp 84]) rfl ?_); (try (refine gate_guard (by rfl) ?_; dsimp only)); at_builtin; refine Kd.R_append (Kd.int .i64) (w0 := w) w.heap.size rfl (.tmp 82) (.tmp 84) 25 3 (.int .i64 0) 8 rfl Tryz.underlying25 info3 rfl (by decide) (by omega) u9 x9_2 (rd t536 x32_2) [.int .i64 (rd t536 x32_2)] (fun k_ => some k_ ≠ (.slice (some ad539) t536.length co17 : Value).ownBlock) (fun _ => False) rfl rfl ?aP (fun _ hk => hk.elim) ?aF ?aO ?aB ?aS ?aL ?_; (case aP => exact rfl); (case aB => exact (sbw)); (case aF => exact (fun k_ hk => Kd.fresh' (Kd.R_lt (sr HO_30)) k_ hk)); (case aO => exact (sr HO_9)); (case aS => exact (below_size (sbw))); (case aL => have := LMc33.out; omega); intro v546 w35 ho hb hg hat; rw [← Ny545.out] at ho; replace HO_30 := am (Kd.R_after (ok := (fun _ => True)) (by exact rm HO_30 (fun _ hk => ⟨trivial, hk⟩)) hg hat); replace BK530 := am (blk_grown (g := gb530) (o := .cells #[.int .i64 a0_0, .slice (some ad542) l0_1.length c0_1, .slice (some ad540) l0_2.length c0_2] 50 (0, 0)) (sk BK530) hg (Kd.R_ne HO_9.out BK530.out (by decide))); replace HB := am hb; have HO547 := am ho; clear HO_9; clear ho hb hg hat))
            go_roundg k2
            case measure => have := HJ4.out; have := HK2.out; omega
            case rel => exact ⟨(y545), (wrap64 (x32_2 + 1)), sc, H', ⟨a14_0⟩, ⟨sr HO547⟩, ⟨by exact rm HO_30 (fun _ hk => hk.2)⟩, ⟨sk BK530⟩, ⟨sbw⟩⟩
           ·have H' := am H
            clear H
            have p539 : 0 ≤ (x32_2 : Int) := sa
            have q539 : x32_2 < (t536.length : Int) := sa
            obtain ⟨ad539, e539, hx539_0⟩ := Kd.at_int (Kd.R_reads' HO_30.out).2.2 x32_2 p539 q539
            cases e539
            replace p539 := eq_true p539
            replace q539 := eq_true q539
            try go_wp2
            replace HO_9 := am (Kd.R_drew HO_9.out)
            replace HO_30 := am (Kd.R_drew HO_30.out)
            replace BK530 := am (blk_drew BK530.out)
            replace HB := am (below_drew1 HB.out)
            obtain ⟨p540, q540, ad540, e540, hw540_0, hx540_0⟩ := at_i HR0_2 HB a3
            cases e540
            obtain ⟨p542, q542, ad542, e542, hw542_0, hx542_0⟩ := at_i HR0_1 HB (rd t536 x32_2)
            cases e542
            obtain ⟨p543, q543, ad543, e543, hw543_0, hx543_0⟩ := at_i HR0_1 HB (rd t536 x32_2)
            obtain rfl : ad542 = ad543 := (by injection e543)
            obtain ⟨p544, q544, ad544, e544, hw544_0, hx544_0⟩ := at_i HR0_1 HB a3
            obtain rfl : ad542 = ad544 := (by injection e544)
            refine start_ (n := 46) (S := fun w' => w'.cell? ⟨gb530, 0, none⟩ = some (.int .i64 a0_0) ∧ w'.cell? ⟨gb530, 1, none⟩ = some (.slice (some ad542) l0_1.length c0_1) ∧ w'.cell? ⟨gb530, 2, none⟩ = some (.slice (some ad540) l0_2.length c0_2) ∧ w'.cell? (ad540.add (a3).toNat) = some (.int .i64 (rd l0_2 a3)) ∧ w'.cell? (ad542.add ((rd t536 x32_2)).toNat) = some (.int .i64 (rd l0_1 (rd t536 x32_2))) ∧ w'.cell? (ad542.add ((rd t536 x32_2)).toNat) = some (.int .i64 (rd l0_1 (rd t536 x32_2))) ∧ w'.cell? (ad542.add (a3).toNat) = some (.int .i64 (rd l0_1 a3))) (ds := []) (bt 46 0) (by kernel_rfl) rfl (by kernel_rfl) ⟨bc0 BK530, bc1 BK530, bc2 BK530, (hb_ HB hw540_0), (hb_ HB hw542_0), (hb_ HB hw543_0), (hb_ HB hw544_0)⟩ (fun hHeld => ?_); refine with_tabW impl_AltsOf.tab7 impl_AltsOf.bits7 (fun HT_ HW_ => ?_)
            generalize wr.drew = w36 at HO_9 HO_30 BK530 HB hx540_0 hx542_0 hx543_0 hx544_0 hHeld ⊢
            refine r3_ 0 1 3 ?_
            refine tv_ 2 ?_
            refine r1_ 4 ?_
            refine tv_ 5 ?_
            refine r10_ 6 7 8 9 10 11 12 13 14 15 ?_
            refine r5_ 16 17 18 19 20 ?_
            refine tv_ 21 ?_
            refine r1_ 22 ?_
            refine ow_ 23 (fun K hK => ?_)
            refine goes_ Tryz.func55 (by kernel_rfl) rfl #[.int .i64 (rd t536 x32_2), .int .i64 (l0_1.length : Int)] (by rfl) rfl rfl sl ?_
            with_reducible refine (impl_isIndex.calls (rd t536 x32_2) (l0_1.length : Int) true _ A26.out).mono ?_
            rintro e w' ⟨rfl, ⟨nd, rfl⟩⟩
            refine ⟨_, rfl, ?_⟩
            refine hw_ hK ⟨bc0 BK530, bc1 BK530, bc2 BK530, (hb_ ⟨sb⟩ hw540_0), (hb_ ⟨sb⟩ hw542_0), (hb_ ⟨sb⟩ hw543_0), (hb_ ⟨sb⟩ hw544_0)⟩ (fun hHeld => ?_)
            clear hK K
            refine r4_ 24 25 26 28 ?_
            refine tv_ 27 ?_
            refine r1_ 29 ?_
            refine tv_ 30 ?_
            refine r7_ 31 32 33 34 36 39 41 ?_
            refine tv_ 35 ?_
            refine r1_ 37 ?_
            refine tv_ 38 ?_
            refine tv_ 40 ?_
            refine r1_ 42 ?_
            refine tv_ 43 ?_
            refine r2_ 44 45 ?_
            refine done_ (done_of HT_.out (by kernel_rfl)) ?_
            try go_wp2
            go_roundg k2
            case measure => have := HJ4.out; have := HK2.out; omega
            case rel => exact ⟨(x9_2), (wrap64 (x32_2 + 1)), sc, H', ⟨a14_0⟩, ⟨sr HO_9⟩, ⟨sr HO_30⟩, ⟨sk BK530⟩, ⟨sbw⟩⟩
          ·have H' := am H
           clear H
           have p539 : 0 ≤ (x32_2 : Int) := sa
           have q539 : x32_2 < (t536.length : Int) := sa
           obtain ⟨ad539, e539, hx539_0⟩ := Kd.at_int (Kd.R_reads' HO_30.out).2.2 x32_2 p539 q539
           cases e539
           replace p539 := eq_true p539
           replace q539 := eq_true q539
           try go_wp2
           replace HO_9 := am (Kd.R_drew HO_9.out)
           replace HO_30 := am (Kd.R_drew HO_30.out)
           replace BK530 := am (blk_drew BK530.out)
           replace HB := am (below_drew1 HB.out)
           obtain ⟨p540, q540, ad540, e540, hw540_0, hx540_0⟩ := at_i HR0_2 HB a3
           cases e540
           obtain ⟨p542, q542, ad542, e542, hw542_0, hx542_0⟩ := at_i HR0_1 HB (rd t536 x32_2)
           cases e542
           refine start_ (n := 46) (S := fun w' => w'.cell? ⟨gb530, 0, none⟩ = some (.int .i64 a0_0) ∧ w'.cell? ⟨gb530, 1, none⟩ = some (.slice (some ad542) l0_1.length c0_1) ∧ w'.cell? ⟨gb530, 2, none⟩ = some (.slice (some ad540) l0_2.length c0_2) ∧ w'.cell? (ad540.add (a3).toNat) = some (.int .i64 (rd l0_2 a3)) ∧ w'.cell? (ad542.add ((rd t536 x32_2)).toNat) = some (.int .i64 (rd l0_1 (rd t536 x32_2)))) (ds := []) (bt 46 0) (by kernel_rfl) rfl (by kernel_rfl) ⟨bc0 BK530, bc1 BK530, bc2 BK530, (hb_ HB hw540_0), (hb_ HB hw542_0)⟩ (fun hHeld => ?_); refine with_tabW impl_AltsOf.tab7 impl_AltsOf.bits7 (fun HT_ HW_ => ?_)
           generalize wr.drew = w37 at HO_9 HO_30 BK530 HB hx540_0 hx542_0 hHeld ⊢
           refine r3_ 0 1 3 ?_
           refine tv_ 2 ?_
           refine r1_ 4 ?_
           refine tv_ 5 ?_
           refine r10_ 6 7 8 9 10 11 12 13 14 15 ?_
           refine r5_ 16 17 18 19 20 ?_
           refine tv_ 21 ?_
           refine r1_ 22 ?_
           refine ow_ 23 (fun K hK => ?_)
           refine goes_ Tryz.func55 (by kernel_rfl) rfl #[.int .i64 (rd t536 x32_2), .int .i64 (l0_1.length : Int)] (by rfl) rfl rfl sl ?_
           with_reducible refine (impl_isIndex.calls (rd t536 x32_2) (l0_1.length : Int) true _ A26.out).mono ?_
           rintro e w' ⟨rfl, ⟨nd, rfl⟩⟩
           refine ⟨_, rfl, ?_⟩
           refine hw_ hK ⟨bc0 BK530, bc1 BK530, bc2 BK530, (hb_ ⟨sb⟩ hw540_0), (hb_ ⟨sb⟩ hw542_0)⟩ (fun hHeld => ?_)
           clear hK K
           refine r4_ 24 25 26 28 ?_
           refine tv_ 27 ?_
           refine r1_ 29 ?_
           refine tv_ 30 ?_
           refine r10_ 31 32 33 34 35 36 37 38 39 40 ?_
           refine r5_ 41 42 43 44 45 ?_
           refine done_ (done_of HT_.out (by kernel_rfl)) ?_
           try go_wp2
           go_roundg k2
           case measure => have := HJ4.out; have := HK2.out; omega
           case rel => exact ⟨(x9_2), (wrap64 (x32_2 + 1)), sc, H', ⟨a14_0⟩, ⟨sr HO_9⟩, ⟨sr HO_30⟩, ⟨sk BK530⟩, ⟨sbw⟩⟩
         ·replace H := im H
          have H' := am H
          clear H
          have p539 : 0 ≤ (x32_2 : Int) := sa
          have q539 : x32_2 < (t536.length : Int) := sa
          obtain ⟨ad539, e539, hx539_0⟩ := Kd.at_int (Kd.R_reads' HO_30.out).2.2 x32_2 p539 q539
          cases e539
          replace p539 := eq_true p539
          replace q539 := eq_true q539
          try go_wp2
          replace HO_9 := am (Kd.R_drew HO_9.out)
          replace HO_30 := am (Kd.R_drew HO_30.out)
          replace BK530 := am (blk_drew BK530.out)
          replace HB := am (below_drew1 HB.out)
          obtain ⟨p540, q540, ad540, e540, hw540_0, hx540_0⟩ := at_i HR0_2 HB a3
          cases e540
          refine start_ (n := 46) (S := fun w' => w'.cell? ⟨gb530, 0, none⟩ = some (.int .i64 a0_0) ∧ w'.cell? ⟨gb530, 1, none⟩ = some (.slice A0_1 l0_1.length c0_1) ∧ w'.cell? ⟨gb530, 2, none⟩ = some (.slice (some ad540) l0_2.length c0_2) ∧ w'.cell? (ad540.add (a3).toNat) = some (.int .i64 (rd l0_2 a3))) (ds := []) (bt 46 0) (by kernel_rfl) rfl (by kernel_rfl) ⟨bc0 BK530, bc1 BK530, bc2 BK530, (hb_ HB hw540_0)⟩ (fun hHeld => ?_); refine with_tabW impl_AltsOf.tab7 impl_AltsOf.bits7 (fun HT_ HW_ => ?_)
          generalize wr.drew = w38 at HO_9 HO_30 BK530 HB hx540_0 hHeld ⊢
          refine r3_ 0 1 3 ?_
          refine tv_ 2 ?_
          refine r1_ 4 ?_
          refine tv_ 5 ?_
          refine r10_ 6 7 8 9 10 11 12 13 14 15 ?_
          refine r5_ 16 17 18 19 20 ?_
          refine tv_ 21 ?_
          refine r1_ 22 ?_
          refine ow_ 23 (fun K hK => ?_)
          refine goes_ Tryz.func55 (by kernel_rfl) rfl #[.int .i64 (rd t536 x32_2), .int .i64 (l0_1.length : Int)] (by rfl) rfl rfl sl ?_
          with_reducible refine (impl_isIndex.calls (rd t536 x32_2) (l0_1.length : Int) false _ A26.out).mono ?_
          rintro e w' ⟨rfl, ⟨nd, rfl⟩⟩
          refine ⟨_, rfl, ?_⟩
          refine hw_ hK ⟨bc0 BK530, bc1 BK530, bc2 BK530, (hb_ ⟨sb⟩ hw540_0)⟩ (fun hHeld => ?_)
          clear hK K
          refine r10_ 24 25 26 27 28 29 30 31 32 33 ?_
          refine r10_ 34 35 36 37 38 39 40 41 42 43 ?_
          refine r2_ 44 45 ?_
          refine done_ (done_of HT_.out (by kernel_rfl)) ?_
          try go_wp2
          go_roundg k2
          case measure => have := HJ4.out; have := HK2.out; omega
          case rel => exact ⟨(x9_2), (wrap64 (x32_2 + 1)), sc, H', ⟨a14_0⟩, ⟨sr HO_9⟩, ⟨sr HO_30⟩, ⟨sk BK530⟩, ⟨sbw⟩⟩
        ·obtain ⟨-, c39b0, c39b1, H⟩ | ⟨c39, c39b0, c39b1, H⟩ := ib_ H
         ·obtain ⟨t548, A40, H⟩ := bnd H
          obtain rfl | rfl := tt t548
          ·replace H := ip H
           obtain ⟨c42b0, H⟩ := id_ H
           obtain ⟨c43b0, H⟩ := id_ H
           obtain ⟨-, c44b0, H⟩ | ⟨-, c44b0, H⟩ := ic_ H
           ·obtain ⟨c45b0, H⟩ := id_ H
            obtain ⟨-, c46b0, H⟩ | ⟨-, c46b0, H⟩ := ic_ H
            ·obtain ⟨LMc47, H⟩ := il_ H
             obtain ⟨y552, hy552⟩ : ∃ y_ : List Int, y_ = (x9_2 ++ [rd t536 x32_2]) := ⟨_, rfl⟩
             replace H : (impl_AltsOf.l0 k2 a2 a3 y552 t536 (t536.length : Int) (wrap64 (x32_2 + 1)) a0_0 l0_1 l0_2) = some r := ry hy552 H
             have Ny552 := am hy552
             clear hy552
             have H' := am H
             clear H
             have p539 : 0 ≤ (x32_2 : Int) := sa
             have q539 : x32_2 < (t536.length : Int) := sa
             obtain ⟨ad539, e539, hx539_0⟩ := Kd.at_int (Kd.R_reads' HO_30.out).2.2 x32_2 p539 q539
             cases e539
             replace p539 := eq_true p539
             replace q539 := eq_true q539
             try go_wp2
             replace HO_9 := am (Kd.R_drew HO_9.out)
             replace HO_30 := am (Kd.R_drew HO_30.out)
             replace BK530 := am (blk_drew BK530.out)
             replace HB := am (below_drew1 HB.out)
             obtain ⟨p540, q540, ad540, e540, hw540_0, hx540_0⟩ := at_i HR0_2 HB a3
             cases e540
             obtain ⟨p549, q549, ad549, e549, hw549_0, hx549_0⟩ := at_i HR0_1 HB (rd t536 x32_2)
             cases e549
             obtain ⟨p550, q550, ad550, e550, hw550_0, hx550_0⟩ := at_i HR0_1 HB (rd t536 x32_2)
             obtain rfl : ad549 = ad550 := (by injection e550)
             obtain ⟨p551, q551, ad551, e551, hw551_0, hx551_0⟩ := at_i HR0_1 HB a3
             obtain rfl : ad549 = ad551 := (by injection e551)
             refine start_ (n := 46) (S := fun w' => w'.cell? ⟨gb530, 0, none⟩ = some (.int .i64 a0_0) ∧ w'.cell? ⟨gb530, 1, none⟩ = some (.slice (some ad549) l0_1.length c0_1) ∧ w'.cell? ⟨gb530, 2, none⟩ = some (.slice (some ad540) l0_2.length c0_2) ∧ w'.cell? (ad540.add (a3).toNat) = some (.int .i64 (rd l0_2 a3)) ∧ w'.cell? (ad549.add ((rd t536 x32_2)).toNat) = some (.int .i64 (rd l0_1 (rd t536 x32_2))) ∧ w'.cell? (ad549.add ((rd t536 x32_2)).toNat) = some (.int .i64 (rd l0_1 (rd t536 x32_2))) ∧ w'.cell? (ad549.add (a3).toNat) = some (.int .i64 (rd l0_1 a3))) (ds := []) (bt 46 0) (by kernel_rfl) rfl (by kernel_rfl) ⟨bc0 BK530, bc1 BK530, bc2 BK530, (hb_ HB hw540_0), (hb_ HB hw549_0), (hb_ HB hw550_0), (hb_ HB hw551_0)⟩ (fun hHeld => ?_); refine with_tabW impl_AltsOf.tab7 impl_AltsOf.bits7 (fun HT_ HW_ => ?_)
             generalize wr.drew = w48 at HO_9 HO_30 BK530 HB hx540_0 hx549_0 hx550_0 hx551_0 hHeld ⊢
             refine r3_ 0 1 3 ?_
             refine tv_ 2 ?_
             refine r1_ 4 ?_
             refine tv_ 5 ?_
             refine r8_ 6 7 8 9 10 11 12 13 ?_
             refine tv_ 14 ?_
             refine r6_ 15 16 17 18 19 20 ?_
             refine tv_ 21 ?_
             refine r1_ 22 ?_
             refine ow_ 23 (fun K hK => ?_)
             refine goes_ Tryz.func55 (by kernel_rfl) rfl #[.int .i64 (rd t536 x32_2), .int .i64 (l0_1.length : Int)] (by rfl) rfl rfl sl ?_
             with_reducible refine (impl_isIndex.calls (rd t536 x32_2) (l0_1.length : Int) true _ A40.out).mono ?_
             rintro e w' ⟨rfl, ⟨nd, rfl⟩⟩
             refine ⟨_, rfl, ?_⟩
             refine hw_ hK ⟨bc0 BK530, bc1 BK530, bc2 BK530, (hb_ ⟨sb⟩ hw540_0), (hb_ ⟨sb⟩ hw549_0), (hb_ ⟨sb⟩ hw550_0), (hb_ ⟨sb⟩ hw551_0)⟩ (fun hHeld => ?_)
             clear hK K
             refine r4_ 24 25 26 28 ?_
             refine tv_ 27 ?_
             refine r1_ 29 ?_
             refine tv_ 30 ?_
             refine r7_ 31 32 33 34 36 39 41 ?_
             refine tv_ 35 ?_
             refine r1_ 37 ?_
             refine tv_ 38 ?_
             refine tv_ 40 ?_
             refine r1_ 42 ?_
             refine tv_ 43 ?_
             refine r2_ 44 45 ?_
             refine done_ (done_of HT_.out (by kernel_rfl)) ?_
             try go_wp2_with (first | ((with_reducible refine gate_builtin (b := .append) (xs := #[.tmp 82, .tmp 84]) rfl ?_); (try (refine gate_guard (by rfl) ?_; dsimp only)); at_builtin; refine Kd.R_append (Kd.int .i64) (w0 := w) w.heap.size rfl (.tmp 82) (.tmp 84) 25 3 (.int .i64 0) 8 rfl Tryz.underlying25 info3 rfl (by decide) (by omega) u9 x9_2 (rd t536 x32_2) [.int .i64 (rd t536 x32_2)] (fun k_ => some k_ ≠ (.slice (some ad539) t536.length co17 : Value).ownBlock) (fun _ => False) rfl rfl ?aP (fun _ hk => hk.elim) ?aF ?aO ?aB ?aS ?aL ?_; (case aP => exact rfl); (case aB => exact (sbw)); (case aF => exact (fun k_ hk => Kd.fresh' (Kd.R_lt (sr HO_30)) k_ hk)); (case aO => exact (sr HO_9)); (case aS => exact (below_size (sbw))); (case aL => have := LMc47.out; omega); intro v553 w49 ho hb hg hat; rw [← Ny552.out] at ho; replace HO_30 := am (Kd.R_after (ok := (fun _ => True)) (by exact rm HO_30 (fun _ hk => ⟨trivial, hk⟩)) hg hat); replace BK530 := am (blk_grown (g := gb530) (o := .cells #[.int .i64 a0_0, .slice (some ad549) l0_1.length c0_1, .slice (some ad540) l0_2.length c0_2] 50 (0, 0)) (sk BK530) hg (Kd.R_ne HO_9.out BK530.out (by decide))); replace HB := am hb; have HO554 := am ho; clear HO_9; clear ho hb hg hat))
             go_roundg k2
             case measure => have := HJ4.out; have := HK2.out; omega
             case rel => exact ⟨(y552), (wrap64 (x32_2 + 1)), sc, H', ⟨a14_0⟩, ⟨sr HO554⟩, ⟨by exact rm HO_30 (fun _ hk => hk.2)⟩, ⟨sk BK530⟩, ⟨sbw⟩⟩
            ·have H' := am H
             clear H
             have p539 : 0 ≤ (x32_2 : Int) := sa
             have q539 : x32_2 < (t536.length : Int) := sa
             obtain ⟨ad539, e539, hx539_0⟩ := Kd.at_int (Kd.R_reads' HO_30.out).2.2 x32_2 p539 q539
             cases e539
             replace p539 := eq_true p539
             replace q539 := eq_true q539
             try go_wp2
             replace HO_9 := am (Kd.R_drew HO_9.out)
             replace HO_30 := am (Kd.R_drew HO_30.out)
             replace BK530 := am (blk_drew BK530.out)
             replace HB := am (below_drew1 HB.out)
             obtain ⟨p540, q540, ad540, e540, hw540_0, hx540_0⟩ := at_i HR0_2 HB a3
             cases e540
             obtain ⟨p549, q549, ad549, e549, hw549_0, hx549_0⟩ := at_i HR0_1 HB (rd t536 x32_2)
             cases e549
             obtain ⟨p550, q550, ad550, e550, hw550_0, hx550_0⟩ := at_i HR0_1 HB (rd t536 x32_2)
             obtain rfl : ad549 = ad550 := (by injection e550)
             obtain ⟨p551, q551, ad551, e551, hw551_0, hx551_0⟩ := at_i HR0_1 HB a3
             obtain rfl : ad549 = ad551 := (by injection e551)
             refine start_ (n := 46) (S := fun w' => w'.cell? ⟨gb530, 0, none⟩ = some (.int .i64 a0_0) ∧ w'.cell? ⟨gb530, 1, none⟩ = some (.slice (some ad549) l0_1.length c0_1) ∧ w'.cell? ⟨gb530, 2, none⟩ = some (.slice (some ad540) l0_2.length c0_2) ∧ w'.cell? (ad540.add (a3).toNat) = some (.int .i64 (rd l0_2 a3)) ∧ w'.cell? (ad549.add ((rd t536 x32_2)).toNat) = some (.int .i64 (rd l0_1 (rd t536 x32_2))) ∧ w'.cell? (ad549.add ((rd t536 x32_2)).toNat) = some (.int .i64 (rd l0_1 (rd t536 x32_2))) ∧ w'.cell? (ad549.add (a3).toNat) = some (.int .i64 (rd l0_1 a3))) (ds := []) (bt 46 0) (by kernel_rfl) rfl (by kernel_rfl) ⟨bc0 BK530, bc1 BK530, bc2 BK530, (hb_ HB hw540_0), (hb_ HB hw549_0), (hb_ HB hw550_0), (hb_ HB hw551_0)⟩ (fun hHeld => ?_); refine with_tabW impl_AltsOf.tab7 impl_AltsOf.bits7 (fun HT_ HW_ => ?_)
             generalize wr.drew = w50 at HO_9 HO_30 BK530 HB hx540_0 hx549_0 hx550_0 hx551_0 hHeld ⊢
             refine r3_ 0 1 3 ?_
             refine tv_ 2 ?_
             refine r1_ 4 ?_
             refine tv_ 5 ?_
             refine r8_ 6 7 8 9 10 11 12 13 ?_
             refine tv_ 14 ?_
             refine r6_ 15 16 17 18 19 20 ?_
             refine tv_ 21 ?_
             refine r1_ 22 ?_
             refine ow_ 23 (fun K hK => ?_)
             refine goes_ Tryz.func55 (by kernel_rfl) rfl #[.int .i64 (rd t536 x32_2), .int .i64 (l0_1.length : Int)] (by rfl) rfl rfl sl ?_
             with_reducible refine (impl_isIndex.calls (rd t536 x32_2) (l0_1.length : Int) true _ A40.out).mono ?_
             rintro e w' ⟨rfl, ⟨nd, rfl⟩⟩
             refine ⟨_, rfl, ?_⟩
             refine hw_ hK ⟨bc0 BK530, bc1 BK530, bc2 BK530, (hb_ ⟨sb⟩ hw540_0), (hb_ ⟨sb⟩ hw549_0), (hb_ ⟨sb⟩ hw550_0), (hb_ ⟨sb⟩ hw551_0)⟩ (fun hHeld => ?_)
             clear hK K
             refine r4_ 24 25 26 28 ?_
             refine tv_ 27 ?_
             refine r1_ 29 ?_
             refine tv_ 30 ?_
             refine r7_ 31 32 33 34 36 39 41 ?_
             refine tv_ 35 ?_
             refine r1_ 37 ?_
             refine tv_ 38 ?_
             refine tv_ 40 ?_
             refine r1_ 42 ?_
             refine tv_ 43 ?_
             refine r2_ 44 45 ?_
             refine done_ (done_of HT_.out (by kernel_rfl)) ?_
             try go_wp2
             go_roundg k2
             case measure => have := HJ4.out; have := HK2.out; omega
             case rel => exact ⟨(x9_2), (wrap64 (x32_2 + 1)), sc, H', ⟨a14_0⟩, ⟨sr HO_9⟩, ⟨sr HO_30⟩, ⟨sk BK530⟩, ⟨sbw⟩⟩
           ·have H' := am H
            clear H
            have p539 : 0 ≤ (x32_2 : Int) := sa
            have q539 : x32_2 < (t536.length : Int) := sa
            obtain ⟨ad539, e539, hx539_0⟩ := Kd.at_int (Kd.R_reads' HO_30.out).2.2 x32_2 p539 q539
            cases e539
            replace p539 := eq_true p539
            replace q539 := eq_true q539
            try go_wp2
            replace HO_9 := am (Kd.R_drew HO_9.out)
            replace HO_30 := am (Kd.R_drew HO_30.out)
            replace BK530 := am (blk_drew BK530.out)
            replace HB := am (below_drew1 HB.out)
            obtain ⟨p540, q540, ad540, e540, hw540_0, hx540_0⟩ := at_i HR0_2 HB a3
            cases e540
            obtain ⟨p549, q549, ad549, e549, hw549_0, hx549_0⟩ := at_i HR0_1 HB (rd t536 x32_2)
            cases e549
            refine start_ (n := 46) (S := fun w' => w'.cell? ⟨gb530, 0, none⟩ = some (.int .i64 a0_0) ∧ w'.cell? ⟨gb530, 1, none⟩ = some (.slice (some ad549) l0_1.length c0_1) ∧ w'.cell? ⟨gb530, 2, none⟩ = some (.slice (some ad540) l0_2.length c0_2) ∧ w'.cell? (ad540.add (a3).toNat) = some (.int .i64 (rd l0_2 a3)) ∧ w'.cell? (ad549.add ((rd t536 x32_2)).toNat) = some (.int .i64 (rd l0_1 (rd t536 x32_2)))) (ds := []) (bt 46 0) (by kernel_rfl) rfl (by kernel_rfl) ⟨bc0 BK530, bc1 BK530, bc2 BK530, (hb_ HB hw540_0), (hb_ HB hw549_0)⟩ (fun hHeld => ?_); refine with_tabW impl_AltsOf.tab7 impl_AltsOf.bits7 (fun HT_ HW_ => ?_)
            generalize wr.drew = w51 at HO_9 HO_30 BK530 HB hx540_0 hx549_0 hHeld ⊢
            refine r3_ 0 1 3 ?_
            refine tv_ 2 ?_
            refine r1_ 4 ?_
            refine tv_ 5 ?_
            refine r8_ 6 7 8 9 10 11 12 13 ?_
            refine tv_ 14 ?_
            refine r6_ 15 16 17 18 19 20 ?_
            refine tv_ 21 ?_
            refine r1_ 22 ?_
            refine ow_ 23 (fun K hK => ?_)
            refine goes_ Tryz.func55 (by kernel_rfl) rfl #[.int .i64 (rd t536 x32_2), .int .i64 (l0_1.length : Int)] (by rfl) rfl rfl sl ?_
            with_reducible refine (impl_isIndex.calls (rd t536 x32_2) (l0_1.length : Int) true _ A40.out).mono ?_
            rintro e w' ⟨rfl, ⟨nd, rfl⟩⟩
            refine ⟨_, rfl, ?_⟩
            refine hw_ hK ⟨bc0 BK530, bc1 BK530, bc2 BK530, (hb_ ⟨sb⟩ hw540_0), (hb_ ⟨sb⟩ hw549_0)⟩ (fun hHeld => ?_)
            clear hK K
            refine r4_ 24 25 26 28 ?_
            refine tv_ 27 ?_
            refine r1_ 29 ?_
            refine tv_ 30 ?_
            refine r10_ 31 32 33 34 35 36 37 38 39 40 ?_
            refine r5_ 41 42 43 44 45 ?_
            refine done_ (done_of HT_.out (by kernel_rfl)) ?_
            try go_wp2
            go_roundg k2
            case measure => have := HJ4.out; have := HK2.out; omega
            case rel => exact ⟨(x9_2), (wrap64 (x32_2 + 1)), sc, H', ⟨a14_0⟩, ⟨sr HO_9⟩, ⟨sr HO_30⟩, ⟨sk BK530⟩, ⟨sbw⟩⟩
          ·replace H := im H
           have H' := am H
           clear H
           have p539 : 0 ≤ (x32_2 : Int) := sa
           have q539 : x32_2 < (t536.length : Int) := sa
           obtain ⟨ad539, e539, hx539_0⟩ := Kd.at_int (Kd.R_reads' HO_30.out).2.2 x32_2 p539 q539
           cases e539
           replace p539 := eq_true p539
           replace q539 := eq_true q539
           try go_wp2
           replace HO_9 := am (Kd.R_drew HO_9.out)
           replace HO_30 := am (Kd.R_drew HO_30.out)
           replace BK530 := am (blk_drew BK530.out)
           replace HB := am (below_drew1 HB.out)
           obtain ⟨p540, q540, ad540, e540, hw540_0, hx540_0⟩ := at_i HR0_2 HB a3
           cases e540
           refine start_ (n := 46) (S := fun w' => w'.cell? ⟨gb530, 0, none⟩ = some (.int .i64 a0_0) ∧ w'.cell? ⟨gb530, 1, none⟩ = some (.slice A0_1 l0_1.length c0_1) ∧ w'.cell? ⟨gb530, 2, none⟩ = some (.slice (some ad540) l0_2.length c0_2) ∧ w'.cell? (ad540.add (a3).toNat) = some (.int .i64 (rd l0_2 a3))) (ds := []) (bt 46 0) (by kernel_rfl) rfl (by kernel_rfl) ⟨bc0 BK530, bc1 BK530, bc2 BK530, (hb_ HB hw540_0)⟩ (fun hHeld => ?_); refine with_tabW impl_AltsOf.tab7 impl_AltsOf.bits7 (fun HT_ HW_ => ?_)
           generalize wr.drew = w52 at HO_9 HO_30 BK530 HB hx540_0 hHeld ⊢
           refine r3_ 0 1 3 ?_
           refine tv_ 2 ?_
           refine r1_ 4 ?_
           refine tv_ 5 ?_
           refine r8_ 6 7 8 9 10 11 12 13 ?_
           refine tv_ 14 ?_
           refine r6_ 15 16 17 18 19 20 ?_
           refine tv_ 21 ?_
           refine r1_ 22 ?_
           refine ow_ 23 (fun K hK => ?_)
           refine goes_ Tryz.func55 (by kernel_rfl) rfl #[.int .i64 (rd t536 x32_2), .int .i64 (l0_1.length : Int)] (by rfl) rfl rfl sl ?_
           with_reducible refine (impl_isIndex.calls (rd t536 x32_2) (l0_1.length : Int) false _ A40.out).mono ?_
           rintro e w' ⟨rfl, ⟨nd, rfl⟩⟩
           refine ⟨_, rfl, ?_⟩
           refine hw_ hK ⟨bc0 BK530, bc1 BK530, bc2 BK530, (hb_ ⟨sb⟩ hw540_0)⟩ (fun hHeld => ?_)
           clear hK K
           refine r10_ 24 25 26 27 28 29 30 31 32 33 ?_
           refine r10_ 34 35 36 37 38 39 40 41 42 43 ?_
           refine r2_ 44 45 ?_
           refine done_ (done_of HT_.out (by kernel_rfl)) ?_
           try go_wp2
           go_roundg k2
           case measure => have := HJ4.out; have := HK2.out; omega
           case rel => exact ⟨(x9_2), (wrap64 (x32_2 + 1)), sc, H', ⟨a14_0⟩, ⟨sr HO_9⟩, ⟨sr HO_30⟩, ⟨sk BK530⟩, ⟨sbw⟩⟩
         ·have H' := am H
          clear H
          have p539 : 0 ≤ (x32_2 : Int) := sa
          have q539 : x32_2 < (t536.length : Int) := sa
          obtain ⟨ad539, e539, hx539_0⟩ := Kd.at_int (Kd.R_reads' HO_30.out).2.2 x32_2 p539 q539
          cases e539
          replace p539 := eq_true p539
          replace q539 := eq_true q539
          try go_wp2
          replace HO_9 := am (Kd.R_drew HO_9.out)
          replace HO_30 := am (Kd.R_drew HO_30.out)
          replace BK530 := am (blk_drew BK530.out)
          replace HB := am (below_drew1 HB.out)
          obtain ⟨p540, q540, ad540, e540, hw540_0, hx540_0⟩ := at_i HR0_2 HB a3
          cases e540
          refine start_ (n := 46) (S := fun w' => w'.cell? ⟨gb530, 0, none⟩ = some (.int .i64 a0_0) ∧ w'.cell? ⟨gb530, 1, none⟩ = some (.slice A0_1 l0_1.length c0_1) ∧ w'.cell? ⟨gb530, 2, none⟩ = some (.slice (some ad540) l0_2.length c0_2) ∧ w'.cell? (ad540.add (a3).toNat) = some (.int .i64 (rd l0_2 a3))) (ds := []) (bt 46 0) (by kernel_rfl) rfl (by kernel_rfl) ⟨bc0 BK530, bc1 BK530, bc2 BK530, (hb_ HB hw540_0)⟩ (fun hHeld => ?_); refine with_tabW impl_AltsOf.tab7 impl_AltsOf.bits7 (fun HT_ HW_ => ?_)
          generalize wr.drew = w53 at HO_9 HO_30 BK530 HB hx540_0 hHeld ⊢
          refine r3_ 0 1 3 ?_
          refine tv_ 2 ?_
          refine r1_ 4 ?_
          refine tv_ 5 ?_
          refine r8_ 6 7 8 9 10 11 12 13 ?_
          refine tv_ 14 ?_
          refine r10_ 15 16 17 18 19 20 21 22 23 24 ?_
          refine r10_ 25 26 27 28 29 30 31 32 33 34 ?_
          refine r10_ 35 36 37 38 39 40 41 42 43 44 ?_
          refine r1_ 45 ?_
          refine done_ (done_of HT_.out (by kernel_rfl)) ?_
          try go_wp2
          go_roundg k2
          case measure => have := HJ4.out; have := HK2.out; omega
          case rel => exact ⟨(x9_2), (wrap64 (x32_2 + 1)), sc, H', ⟨a14_0⟩, ⟨sr HO_9⟩, ⟨sr HO_30⟩, ⟨sk BK530⟩, ⟨sbw⟩⟩
      ·obtain ⟨t555, A54, H⟩ := bnd H
       obtain rfl := Option.some.inj H
       obtain ⟨Ao55, co55, eo55⟩ := Kd.R_slice HO_9.out
       subst eo55
       go_wp2_with (first | ((with_reducible refine gc 56 rfl ?_); refine gL (some 89) Tryz.func56 #[.slice Ao55 x9_2.length co55, .func (.func 57) #[] #[.pointer (some ⟨gb530, 0, none⟩)]] ?_; (with_reducible refine (slices_SortStableFunc_int_int.calls gb530 a0_0 A0_1 c0_1 l0_1 (.slice A0_2 l0_2.length c0_2) (fun k_ => some k_ = (.slice Ao55 x9_2.length co55 : Value).ownBlock) (.slice Ao55 x9_2.length co55) x9_2 0 t555 w _ ?side1 HR0_1.out GE530.out ?sideb ?side2 A54.out).mono ?_); (case sideb => (with_reducible repeat (first | refine blk_drewN ?_ _ | refine blk_drew ?_ | refine blk_alloc ?_ _)); exact BK530.out); (case side1 => repeat (first | (with_reducible first | exact HB.out | apply below_alloc | apply pw_below_drewN | apply below_drew1 | refine below_set ?_ GE530.out) | exact HB.out)); (case side2 => exact Kd.R_tight rfl HO_9.out); rintro e w56 ⟨rfl, hy0, hb, hkp⟩; refine ⟨_, rfl, ?_⟩; replace HO_30 := am (Kd.R_mono (ok' := fun k_ => some k_ ≠ (.slice Ao55 x9_2.length co55 : Value).ownBlock) (Kd.R_keptB (HO_30.out) hkp (fun k_ hk_ hs_ => (hk_) hs_)) (fun k_ hk_ => hk_.1)); replace BK530 := am (blk_kept (sk BK530) hkp (fun hs_ => (fun e_ => (Kd.R_ne HO_9.out BK530.out (by decide)) e_) hs_)); replace HO_9 := am (Kd.R_reok rfl hy0 (fun k_ e_ => HO_9.out.1 k_ e_)); replace HB := am hb; (try clear hb); (try clear hkp); (try clear hy0)))
       go_ret
       exact ⟨_, se, by exact rm HO_9 (fun _ hk => trivial), sbw⟩

end Go.Proofs.YthnlkgbhohchoaaGreat.QFnExactRepairedAt
