/- Printed by a program of the session. Conditions: none. (squeezed). -/
import Derived.Test.YtohbccekdmdmbaaVFnExactRepairHopQFnExactRepairHopx11
namespace Go.Proofs.Ytohbccekdmdmbaa.QFnExactRepairHop
set_option maxHeartbeats 8000000
set_option maxRecDepth 100000
open Go.RowKit Go.Proofs.YtohbccekdmdmbaaW.PrintWords Go.Proofs.YtohbccekdmdmbaaW.PrintLast Go.Proofs.YtohbccekdmdmbaaW.PrintMore Go.Proofs.Ytohbccekdmdmbaa.Open Go.Proofs.Ytohbccekdmdmbaa.Sq
attribute [local go_sem] max2_int min2_int max_two min_two max_three min_three max_four min_four   -- for this text's walks alone
attribute [local go_sem] isSome_set
set_option linter.unusedVariables false
set_option linter.unusedSimpArgs false

theorem a12_0 {P : Prop} (h : P := by have := HJ4.out; have := HK2.out; omega) : P := h
mutual
def impl_AltsOf.j0 : Nat → List (S55) → Int → Int → List Int → Bool → Int → List Int → List Int → Option (List Int)
  | 0, _, _, _, _, _, _, _, _ => none
  | k + 1, x1, x2, x3, x9, x26, x492000, x492001, x492002 => if x26 = true then (some x9) else ((impl_NeighborsIn.f k x1 x3).bind fun t497 => (impl_AltsOf.l0 k x2 x3 x9 t497 (t497.length : Int) 0 x492000 x492001 x492002))
def impl_AltsOf.l0 : Nat → Int → Int → List Int → List Int → Int → Int → Int → List Int → List Int → Option (List Int)
  | 0, _, _, _, _, _, _, _, _, _ => none
  | k + 1, x2, x3, x9, x30, x31, x32, x492000, x492001, x492002 => if x32 < x31 then (if 0 ≤ x32 then (if x32 < (x30.length : Int) then (if 0 ≤ x3 then (if x3 < (x492002.length : Int) then (if (rd x30 x32) = (rd x492002 x3) then (impl_AltsOf.l0 k x2 x3 x9 x30 x31 (wrap64 (x32 + 1)) x492000 x492001 x492002) else (if (rd x30 x32) < x2 then ((impl_isIndex.f (rd x30 x32) (x492001.length : Int)).bind fun t502 => (if t502 = true then (if 0 ≤ (rd x30 x32) then (if (rd x30 x32) < (x492001.length : Int) then (if (rd x492001 (rd x30 x32)) ≥ 0 then (if x3 < (x492001.length : Int) then (if (rd x492001 (rd x30 x32)) < (rd x492001 x3) then (if x9.length < 17592186044416 then (impl_AltsOf.l0 k x2 x3 (x9 ++ [rd x30 x32]) x30 x31 (wrap64 (x32 + 1)) x492000 x492001 x492002) else (none)) else (impl_AltsOf.l0 k x2 x3 x9 x30 x31 (wrap64 (x32 + 1)) x492000 x492001 x492002)) else (none)) else (impl_AltsOf.l0 k x2 x3 x9 x30 x31 (wrap64 (x32 + 1)) x492000 x492001 x492002)) else (none)) else (none)) else (impl_AltsOf.l0 k x2 x3 x9 x30 x31 (wrap64 (x32 + 1)) x492000 x492001 x492002))) else (if (rd x30 x32) = x492000 then ((impl_isIndex.f (rd x30 x32) (x492001.length : Int)).bind fun t509 => (if t509 = true then (if 0 ≤ (rd x30 x32) then (if (rd x30 x32) < (x492001.length : Int) then (if (rd x492001 (rd x30 x32)) ≥ 0 then (if x3 < (x492001.length : Int) then (if (rd x492001 (rd x30 x32)) < (rd x492001 x3) then (if x9.length < 17592186044416 then (impl_AltsOf.l0 k x2 x3 (x9 ++ [rd x30 x32]) x30 x31 (wrap64 (x32 + 1)) x492000 x492001 x492002) else (none)) else (impl_AltsOf.l0 k x2 x3 x9 x30 x31 (wrap64 (x32 + 1)) x492000 x492001 x492002)) else (none)) else (impl_AltsOf.l0 k x2 x3 x9 x30 x31 (wrap64 (x32 + 1)) x492000 x492001 x492002)) else (none)) else (none)) else (impl_AltsOf.l0 k x2 x3 x9 x30 x31 (wrap64 (x32 + 1)) x492000 x492001 x492002))) else (impl_AltsOf.l0 k x2 x3 x9 x30 x31 (wrap64 (x32 + 1)) x492000 x492001 x492002)))) else (none)) else (none)) else (none)) else (none)) else ((slices_SortStableFunc_int_int.f x492001 x9 0).bind fun t516 => (some t516))
end
def impl_AltsOf.f (k : Nat) (a0_0 : Int) (l0_1 : List Int) (l0_2 : List Int) (l1 : List (S55)) (a2 : Int) (a3 : Int) : Option (List Int) := (some (([] : List Int) : List Int)).bind fun y492 => ((impl_isIndex.f a3 (l0_1.length : Int)).bind fun t495 => (if t495 = true then ((impl_isIndex.f a3 (l0_2.length : Int)).bind fun t496 => (impl_AltsOf.j0 k l1 a2 a3 y492 (!t496) a0_0 l0_1 l0_2)) else (impl_AltsOf.j0 k l1 a2 a3 y492 true a0_0 l0_1 l0_2)))
theorem impl_AltsOf.mono_l : ∀ k, (∀ y0 y1 y2 y3 y4 y5 y6 y7, LeO (impl_AltsOf.j0 k y0 y1 y2 y3 y4 y5 y6 y7) (impl_AltsOf.j0 (k + 1) y0 y1 y2 y3 y4 y5 y6 y7)) ∧ (∀ y0 y1 y2 y3 y4 y5 y6 y7 y8, LeO (impl_AltsOf.l0 k y0 y1 y2 y3 y4 y5 y6 y7 y8) (impl_AltsOf.l0 (k + 1) y0 y1 y2 y3 y4 y5 y6 y7 y8))
  | 0 => ⟨fun _ _ _ _ _ _ _ _ r h => by simp [impl_AltsOf.j0] at h, fun _ _ _ _ _ _ _ _ _ r h => by simp [impl_AltsOf.l0] at h⟩
  | k + 1 => by
    obtain ⟨ih0, ih1⟩ := impl_AltsOf.mono_l k
    refine ⟨?_, ?_⟩
    · intro y0 y1 y2 y3 y4 y5 y6 y7
      unfold impl_AltsOf.j0
      have m0 := @impl_NeighborsIn.mono
      exact mo
    · intro y0 y1 y2 y3 y4 y5 y6 y7 y8
      unfold impl_AltsOf.l0
      have m0 := @impl_NeighborsIn.mono
      exact mo
theorem impl_AltsOf.mono : ∀ a0 a1 a2 a3 a4 a5 k, LeO (impl_AltsOf.f k a0 a1 a2 a3 a4 a5) (impl_AltsOf.f (k + 1) a0 a1 a2 a3 a4 a5) := by
  intro a0 a1 a2 a3 a4 a5 k
  obtain ⟨ih0, ih1⟩ := impl_AltsOf.mono_l k
  unfold impl_AltsOf.f
  have m0 := @impl_NeighborsIn.mono
  exact mo
def impl_AltsOf.T7 : Bool × List (List Nat × List Nat) := (true, [([], []), ([], []), ([1], [1]), ([], []), ([2, 3], [2, 3]), ([4], [4]), ([0, 5], [0, 5]), ([6], [6]), ([7], [7]), ([7], [7]), ([8, 9, 7], [7, 8, 9]), ([10, 7, 7], [7, 10]), ([11], [11]), ([11], [11]), ([13, 11], [11, 13]), ([12, 14, 11], [11, 12, 14]), ([11, 15, 7], [7, 11, 15]), ([7, 16], [7, 16]), ([17, 11], [17]), ([18], [18]), ([18], [18]), ([20, 18], [18, 20]), ([21, 18], [18, 21]), ([19, 22, 18, 18], [18, 19, 22]), ([18, 23], [18, 23]), ([24, 23], [24]), ([25], [25]), ([26, 25], [25, 26]), ([25], [25]), ([27, 28, 25], [25, 27, 28]), ([29, 25], [25, 29]), ([30, 25], [25, 30]), ([25, 31], [25, 31]), ([32, 25], [32]), ([33], [33]), ([34, 33], [33, 34]), ([33], [33]), ([35, 36, 33], [33, 35, 36]), ([37, 33], [33, 37]), ([33], [33]), ([39, 33], [33, 39]), ([33], [33]), ([40, 41, 33], [33, 40, 41]), ([42, 33], [33, 42]), ([38, 43, 33], [33, 38, 43]), ([33, 44], [33, 44])])
def impl_AltsOf.B7 : List Nat := [0, 0, 2, 0, 14, 30, 63, 127, 255, 255, 1023, 2047, 4095, 4095, 12287, 32767, 65535, 131071, 262143, 524287, 524287, 1572863, 3670015, 8388607, 16777215, 33554431, 67108863, 134217727, 67108863, 536870911, 1073741823, 2147483647, 4294967295, 8589934591, 17179869183, 34359738367, 17179869183, 137438953471, 274877906943, 17179869183, 566935683071, 17179869183, 3865470566399, 8263517077503, 17592186044415, 35184372088831]
theorem impl_AltsOf.tab7 : rtab .any (opsOf Try.f15 7) = impl_AltsOf.T7 := by kernel_rfl
theorem impl_AltsOf.bits7 : waitsOk impl_AltsOf.T7.2 impl_AltsOf.B7 = true := by kernel_rfl
theorem impl_AltsOf.calls (k : Nat) (a0_0 : Int) (A0_1 : Option Addr) (c0_1 : Nat) (l0_1 : List Int) (A0_2 : Option Addr) (c0_2 : Nat) (l0_2 : List Int) (A1 : Option Addr) (c1 : Nat) (l1 : List (S55)) (a2 : Int) (a3 : Int) (r : List Int) (w : World) (hr0_1 : Kd.C (Kd.int .i64) w A0_1 l0_1.length l0_1) (hc0_1 : l0_1.length ≤ c0_1) (hr0_2 : Kd.C (Kd.int .i64) w A0_2 l0_2.length l0_2) (hc0_2 : l0_2.length ≤ c0_2) (hr1 : Kd.C k55 w A1 l1.length l1) (hc1 : l1.length ≤ c1) (h : impl_AltsOf.f k a0_0 l0_1 l0_2 l1 a2 a3 = some r) :
    Calls Try.prog 15 #[.agg #[.int .i64 a0_0, .slice A0_1 l0_1.length c0_1, .slice A0_2 l0_2.length c0_2], .slice A1 l1.length c1, .int .i64 a2, .int .i64 a3] w fun e w' => ∃ v0_ : Value, e = .returned (v0_) ∧ Kd.R (Kd.int .i64) 3 w' w.heap.size (fun _ => True) v0_ r ∧ Below w.heap.size w w' := by
 have hu29 := Try.underlying29
 have HR0_1 := am hr0_1
 have HC0_1 := am hc0_1
 clear hr0_1 hc0_1
 have HR0_2 := am hr0_2
 have HC0_2 := am hc0_2
 clear hr0_2 hc0_2
 have HR1 := am hr1
 have HC1 := am hc1
 clear hr1 hc1
 have HB := am (Below.refl w.heap.size w)
 have H := h; unfold impl_AltsOf.f at H
 clear h
 obtain ⟨y492, Ny492, H⟩ := iy_ H
 have HC5 := am H
 clear H
 go_enter Try.func15, Try.ntmps15
 go_upto_region 2 with (first | ((with_reducible refine gd 4 rfl ?_); (try (refine gate_guard (by rfl) ?_; dsimp only)); refine bx 4 #[.int .i64 a0_0, .slice A0_1 l0_1.length c0_1, .slice A0_2 l0_2.length c0_2] 29 ?_; intro gb491 hg w6 hbox hb; have GW491 := bz w hg; have GE491 := bz w hg; replace HB := bs hb; have BK491 := am hbox; clear hb hbox hg) | ((with_reducible refine gd 12 rfl ?_); (try (refine gate_guard (by rfl) ?_; dsimp only)); refine Kd.R_lit (Kd.int .i64) _ 3 ?hg (N := 12) ?hd (xs := ([] : List Int)) (inner := []) (ok := fun _ => True) (okp := fun _ => True) ?hr ?hp (fun _ hk => hk) trivial (Below.refl _ _) (Nat.le_refl _) (by simp) ?_; (case hd => rfl); (case hg => rfl); (case hr => first | (go_simp; done) | (go_simp; rfl)); (case hp => exact (Reps.none _ _)); intro v493 w7 ho8 hb hg_ hnew_; clear hg_ hnew_; (first | rw [← Ny492.out] at ho8 | (simp only [Int.reduceToNat] at ho8; rw [← Ny492.out] at ho8)); have HO494 := am (Kd.R_lower ho8 (below_size (sbw))); replace BK491 := bb BK491 hb; replace HB := bsw hb; clear hb ho8))
 (try simp only [Act.put, List.setIfInBounds_toArray, List.set_cons_zero, List.set_cons_succ])
 go_cut [26] (fun v26 wc => ∃ (kq : Nat) (x26_4 : Bool), v26 = .bool x26_4 ∧ Aside0 (impl_AltsOf.j0 kq l1 a2 a3 y492 x26_4 a0_0 l0_1 l0_2 = some r) ∧ Aside0 (kq ≤ k) ∧ Aside0 (Kd.R (Kd.int .i64) 3 wc w.heap.size (fun _ => True) v493 y492) ∧ Aside0 (wc.heap[gb491]? = some (.cells #[.int .i64 a0_0, (.slice A0_1 l0_1.length c0_1), (.slice A0_2 l0_2.length c0_2)] 29 (0, 0))) ∧ Aside0 (Below w.heap.size w wc))
 case first =>
  have H := HC5.out
  clear HC5
  obtain ⟨t495, A9, H⟩ := bnd H
  obtain rfl | rfl := tt t495
  ·replace H := ip H
   obtain ⟨t496, A11, H⟩ := bnd H
   have H' := am H
   clear H
   obtain ⟨hcz12_0, hcz12_1, hcz12_2, hfz12_0, hfz12_1, hfz12_2⟩ := cc3 BK491
   go_wp2_with (first | ((with_reducible refine gc 32 rfl ?_); refine gL (some 17) Try.func32 #[.int .i64 a3, .int .i64 (l0_1.length : Int)] ?_; (with_reducible refine (impl_isIndex.calls a3 (l0_1.length : Int) true _ A9.out).mono ?_); rintro e w' ⟨rfl, ⟨nd, rfl⟩⟩; refine ⟨_, rfl, ?_⟩) | (go_at_call 32; (with_reducible refine (impl_isIndex.calls a3 (l0_2.length : Int) t496 _ A11.out).mono ?_); rintro e w' ⟨rfl, ⟨nd, rfl⟩⟩))
   go_meet
   case rel => exact ⟨_, (!t496), sc, H', ⟨by first | omega | exact Nat.le_refl _⟩, ⟨sr HO494⟩, ⟨sk BK491⟩, ⟨sbw⟩⟩
  ·replace H := im H
   have H' := am H
   clear H
   obtain ⟨hcz13_0, hcz13_1, hcz13_2, hfz13_0, hfz13_1, hfz13_2⟩ := cc3 BK491
   go_wp2_with (first | ((with_reducible refine gc 32 rfl ?_); refine gL (some 17) Try.func32 #[.int .i64 a3, .int .i64 (l0_1.length : Int)] ?_; (with_reducible refine (impl_isIndex.calls a3 (l0_1.length : Int) false _ A9.out).mono ?_); rintro e w' ⟨rfl, ⟨nd, rfl⟩⟩; refine ⟨_, rfl, ?_⟩))
   go_meet
   case rel => exact ⟨_, (true), sc, H', ⟨by first | omega | exact Nat.le_refl _⟩, ⟨sr HO494⟩, ⟨sk BK491⟩, ⟨sbw⟩⟩
 case rest =>
  clear HC5
  obtain ⟨kq, x26_4, rfl, HA, HJ4, HO_9, BK491, HB⟩ := hcut
  cases kq with
  | zero => exact absurd HA.out (by simp [impl_AltsOf.j0])
  | succ kj4 =>
   have H := HA.out
   clear HA
   simp only [impl_AltsOf.j0] at H
   obtain rfl | rfl := tt x26_4
   ·replace H := ip H
    obtain rfl := Option.some.inj H
    go_wp2
    go_ret
    exact ⟨_, se, sr HO_9, sbw⟩
   ·replace H := im H
    obtain ⟨t497, A15, H⟩ := bnd H
    have H' := am H
    clear H
    go_wp2_with (first | ((with_reducible refine gc 33 rfl ?_); refine gL (some 30) Try.func33 #[.slice A1 l1.length c1, .int .i64 a3] ?_; (with_reducible refine (impl_NeighborsIn.calls kj4 _ _ l1 a3 t497 _ ?side1 ?side2 A15.out).mono ?_); (case side1 => exact cb HR1); (case side2 => exact HC1.out); rintro e w16 ⟨v498, rfl, ho0, hb⟩; refine ⟨_, rfl, ?_⟩; have HO499 := am (Kd.R_lower (Kd.R_new' ho0 (Kd.R_lt (sr HO_9))) (below_size (sbw))); replace HO_9 := am (Kd.R_elder' (sr HO_9) (Kd.R_base ho0) hb); replace BK491 := bb BK491 hb; replace HB := bsw hb; (try clear hb); (try clear ho0); obtain ⟨Ao17, co17, eo17⟩ := Kd.R_slice HO499.out; subst eo17))
    go_loopg [9, 32] kj4 (fun kq v9 v32 w' => ∃ (x9_2 : List Int) (x32_2 : Int), v32 = .int .i64 x32_2 ∧ Aside0 (impl_AltsOf.l0 kq a2 a3 x9_2 t497 (t497.length : Int) x32_2 a0_0 l0_1 l0_2 = some r) ∧ Aside0 (kq ≤ kj4) ∧ Aside0 (Kd.R (Kd.int .i64) 3 w' w.heap.size (fun k_ => some k_ ≠ ((.slice Ao17 t497.length co17) : Value).ownBlock) v9 x9_2) ∧ Aside0 (Kd.R (Kd.int .i64) 3 w' w.heap.size (fun k_ => some k_ ≠ (v9 : Value).ownBlock) (.slice Ao17 t497.length co17) t497) ∧ Aside0 (w'.heap[gb491]? = some (.cells #[.int .i64 a0_0, (.slice A0_1 l0_1.length c0_1), (.slice A0_2 l0_2.length c0_2)] 29 (0, 0))) ∧ Aside0 (Below w.heap.size w w'))
    case atStart => exact ⟨(y492), (0), sc, H', kk0, ⟨by exact rm HO_9 (fun _ hk => hk.2)⟩, ⟨by exact rm HO499 (fun _ hk => hk.2)⟩, ⟨sk BK491⟩, ⟨sbw⟩⟩
    case round =>
     clear H'
     obtain ⟨x9_2, x32_2, rfl, HA, HK2, HO_9, HO_30, BK491, HB⟩ := hrel
     cases gk with
     | zero => exact absurd HA.out (by simp [impl_AltsOf.l0])
     | succ k2 =>
      have H := HA.out
      clear HA
      simp only [impl_AltsOf.l0] at H
      obtain ⟨-, c18b0, H⟩ | ⟨-, c18b0, H⟩ := ic_ H
      ·obtain ⟨c19b0, H⟩ := id_ H
       obtain ⟨c20b0, H⟩ := id_ H
       obtain ⟨c21b0, H⟩ := id_ H
       obtain ⟨c22b0, H⟩ := id_ H
       obtain ⟨-, c23b0, c23b1, H⟩ | ⟨c23, c23b0, c23b1, H⟩ := ib_ H
       ·have H' := am H
        clear H
        have p500 : 0 ≤ (x32_2 : Int) := sa
        have q500 : x32_2 < (t497.length : Int) := sa
        obtain ⟨ad500, e500, hx500_0⟩ := Kd.at_int (Kd.R_reads' HO_30.out).2.2 x32_2 p500 q500
        cases e500
        replace p500 := eq_true p500
        replace q500 := eq_true q500
        try go_wp2
        replace HO_9 := am (Kd.R_drew HO_9.out)
        replace HO_30 := am (Kd.R_drew HO_30.out)
        replace BK491 := am (blk_drew BK491.out)
        replace HB := am (below_drew1 HB.out)
        obtain ⟨p501, q501, ad501, e501, hw501_0, hx501_0⟩ := at_i HR0_2 HB a3
        cases e501
        refine start_ (n := 46) (S := fun w' => w'.cell? ⟨gb491, 0, none⟩ = some (.int .i64 a0_0) ∧ w'.cell? ⟨gb491, 1, none⟩ = some (.slice A0_1 l0_1.length c0_1) ∧ w'.cell? ⟨gb491, 2, none⟩ = some (.slice (some ad501) l0_2.length c0_2) ∧ w'.cell? (ad501.add (a3).toNat) = some (.int .i64 (rd l0_2 a3))) (ds := []) #[false, false, false, false, false, false, false, false, false, false, false, false, false, false, false, false, false, false, false, false, false, false, false, false, false, false, false, false, false, false, false, false, false, false, false, false, false, false, false, false, false, false, false, false, false, false] (by kernel_rfl) rfl rfl ⟨bc0 BK491, bc1 BK491, bc2 BK491, (hb_ HB hw501_0)⟩ (fun hHeld => ?_); refine with_tabW impl_AltsOf.tab7 impl_AltsOf.bits7 (fun HT_ HW_ => ?_)
        generalize wr.drew = w24 at HO_9 HO_30 BK491 HB hx501_0 hHeld ⊢
        refine put 0 36 (bt 46 1) HT_ ?_
        refine put 1 37 (bt 46 3) HT_ ?_
        refine put 3 39 (bt 46 11) HT_ ?_
        refine tat4 2 38 (bt 46 15) HT_ HW_ hHeld ?_
        refine put 4 40 (bt 46 31) HT_ ?_
        refine tat4 5 41 (bt 46 63) HT_ HW_ hHeld ?_
        refine put 6 42 (bt 46 127) HT_ ?_
        refine put 7 43 (bt 46 255) HT_ ?_
        refine pn 8 44 (bt 46 511) HT_ ?_
        refine pn 9 45 (bt 46 1023) HT_ ?_
        refine pn 10 46 (bt 46 2047) HT_ ?_
        refine pn 11 47 (bt 46 4095) HT_ ?_
        refine pn 12 48 (bt 46 8191) HT_ ?_
        refine pn 13 49 (bt 46 16383) HT_ ?_
        refine pn 14 50 (bt 46 32767) HT_ ?_
        refine pn 15 51 (bt 46 65535) HT_ ?_
        refine pn 16 52 (bt 46 131071) HT_ ?_
        refine put 17 53 (bt 46 262143) HT_ ?_
        refine put 18 54 (bt 46 524287) HT_ ?_
        refine pn 19 55 (bt 46 1048575) HT_ ?_
        refine pn 20 56 (bt 46 2097151) HT_ ?_
        refine pn 21 57 (bt 46 4194303) HT_ ?_
        refine pn 22 58 (bt 46 8388607) HT_ ?_
        refine pn 23 59 (bt 46 16777215) HT_ ?_
        refine put 24 60 (bt 46 33554431) HT_ ?_
        refine put 25 61 (bt 46 67108863) HT_ ?_
        refine pn 26 62 (bt 46 134217727) HT_ ?_
        refine pn 27 63 (bt 46 268435455) HT_ ?_
        refine pn 28 64 (bt 46 536870911) HT_ ?_
        refine pn 29 65 (bt 46 1073741823) HT_ ?_
        refine pn 30 66 (bt 46 2147483647) HT_ ?_
        refine pn 31 67 (bt 46 4294967295) HT_ ?_
        refine put 32 68 (bt 46 8589934591) HT_ ?_
        refine put 33 69 (bt 46 17179869183) HT_ ?_
        refine pn 34 70 (bt 46 34359738367) HT_ ?_
        refine pn 35 71 (bt 46 68719476735) HT_ ?_
        refine pn 36 72 (bt 46 137438953471) HT_ ?_
        refine pn 37 73 (bt 46 274877906943) HT_ ?_
        refine pn 38 74 (bt 46 549755813887) HT_ ?_
        refine pn 39 75 (bt 46 1099511627775) HT_ ?_
        refine pn 40 76 (bt 46 2199023255551) HT_ ?_
        refine pn 41 77 (bt 46 4398046511103) HT_ ?_
        refine pn 42 78 (bt 46 8796093022207) HT_ ?_
        refine pn 43 79 (bt 46 17592186044415) HT_ ?_
        refine pn 44 80 (bt 46 35184372088831) HT_ ?_
        refine put 45 81 (bt 46 70368744177663) HT_ ?_
        refine done_ (done_of HT_.out (by kernel_rfl)) ?_
        try go_wp2
        go_roundg k2
        case measure => have := HJ4.out; have := HK2.out; omega
        case rel => exact ⟨(x9_2), (wrap64 (x32_2 + 1)), sc, H', ⟨a12_0⟩, ⟨sr HO_9⟩, ⟨sr HO_30⟩, ⟨sk BK491⟩, ⟨sbw⟩⟩
       ·obtain ⟨-, c25b0, H⟩ | ⟨-, c25b0, H⟩ := ic_ H
        ·obtain ⟨t502, A26, H⟩ := bnd H
         obtain rfl | rfl := tt t502
         ·replace H := ip H
          obtain ⟨c28b0, H⟩ := id_ H
          obtain ⟨c29b0, H⟩ := id_ H
          obtain ⟨-, c30b0, H⟩ | ⟨-, c30b0, H⟩ := ic_ H
          ·obtain ⟨c31b0, H⟩ := id_ H
           obtain ⟨-, c32b0, H⟩ | ⟨-, c32b0, H⟩ := ic_ H
           ·obtain ⟨LMc33, H⟩ := il_ H
            obtain ⟨y506, hy506⟩ : ∃ y_ : List Int, y_ = (x9_2 ++ [rd t497 x32_2]) := ⟨_, rfl⟩
            replace H : (impl_AltsOf.l0 k2 a2 a3 y506 t497 (t497.length : Int) (wrap64 (x32_2 + 1)) a0_0 l0_1 l0_2) = some r := ry hy506 H
            have Ny506 := am hy506
            clear hy506
            have H' := am H
            clear H
            have p500 : 0 ≤ (x32_2 : Int) := sa
            have q500 : x32_2 < (t497.length : Int) := sa
            obtain ⟨ad500, e500, hx500_0⟩ := Kd.at_int (Kd.R_reads' HO_30.out).2.2 x32_2 p500 q500
            cases e500
            replace p500 := eq_true p500
            replace q500 := eq_true q500
            try go_wp2
            replace HO_9 := am (Kd.R_drew HO_9.out)
            replace HO_30 := am (Kd.R_drew HO_30.out)
            replace BK491 := am (blk_drew BK491.out)
            replace HB := am (below_drew1 HB.out)
            obtain ⟨p501, q501, ad501, e501, hw501_0, hx501_0⟩ := at_i HR0_2 HB a3
            cases e501
            obtain ⟨p503, q503, ad503, e503, hw503_0, hx503_0⟩ := at_i HR0_1 HB (rd t497 x32_2)
            cases e503
            obtain ⟨p504, q504, ad504, e504, hw504_0, hx504_0⟩ := at_i HR0_1 HB (rd t497 x32_2)
            obtain rfl : ad503 = ad504 := (by injection e504)
            obtain ⟨p505, q505, ad505, e505, hw505_0, hx505_0⟩ := at_i HR0_1 HB a3
            obtain rfl : ad503 = ad505 := (by injection e505)
            refine start_ (n := 46) (S := fun w' => w'.cell? ⟨gb491, 0, none⟩ = some (.int .i64 a0_0) ∧ w'.cell? ⟨gb491, 1, none⟩ = some (.slice (some ad503) l0_1.length c0_1) ∧ w'.cell? ⟨gb491, 2, none⟩ = some (.slice (some ad501) l0_2.length c0_2) ∧ w'.cell? (ad501.add (a3).toNat) = some (.int .i64 (rd l0_2 a3)) ∧ w'.cell? (ad503.add ((rd t497 x32_2)).toNat) = some (.int .i64 (rd l0_1 (rd t497 x32_2))) ∧ w'.cell? (ad503.add ((rd t497 x32_2)).toNat) = some (.int .i64 (rd l0_1 (rd t497 x32_2))) ∧ w'.cell? (ad503.add (a3).toNat) = some (.int .i64 (rd l0_1 a3))) (ds := []) #[false, false, false, false, false, false, false, false, false, false, false, false, false, false, false, false, false, false, false, false, false, false, false, false, false, false, false, false, false, false, false, false, false, false, false, false, false, false, false, false, false, false, false, false, false, false] (by kernel_rfl) rfl rfl ⟨bc0 BK491, bc1 BK491, bc2 BK491, (hb_ HB hw501_0), (hb_ HB hw503_0), (hb_ HB hw504_0), (hb_ HB hw505_0)⟩ (fun hHeld => ?_); refine with_tabW impl_AltsOf.tab7 impl_AltsOf.bits7 (fun HT_ HW_ => ?_)
            generalize wr.drew = w34 at HO_9 HO_30 BK491 HB hx501_0 hx503_0 hx504_0 hx505_0 hHeld ⊢
            refine put 0 36 (bt 46 1) HT_ ?_
            refine put 1 37 (bt 46 3) HT_ ?_
            refine put 3 39 (bt 46 11) HT_ ?_
            refine tat7 2 38 (bt 46 15) HT_ HW_ hHeld ?_
            refine put 4 40 (bt 46 31) HT_ ?_
            refine tat7 5 41 (bt 46 63) HT_ HW_ hHeld ?_
            refine put 6 42 (bt 46 127) HT_ ?_
            refine put 7 43 (bt 46 255) HT_ ?_
            refine put 8 44 (bt 46 511) HT_ ?_
            refine put 9 45 (bt 46 1023) HT_ ?_
            refine put 10 46 (bt 46 2047) HT_ ?_
            refine put 11 47 (bt 46 4095) HT_ ?_
            refine pn 12 48 (bt 46 8191) HT_ ?_
            refine pn 13 49 (bt 46 16383) HT_ ?_
            refine pn 14 50 (bt 46 32767) HT_ ?_
            refine pn 15 51 (bt 46 65535) HT_ ?_
            refine put 16 52 (bt 46 131071) HT_ ?_
            refine put 17 53 (bt 46 262143) HT_ ?_
            refine put 18 54 (bt 46 524287) HT_ ?_
            refine put 19 55 (bt 46 1048575) HT_ ?_
            refine put 20 56 (bt 46 2097151) HT_ ?_
            refine tat7 21 57 (bt 46 4194303) HT_ HW_ hHeld ?_
            refine put 22 58 (bt 46 8388607) HT_ ?_
            refine on 23 59 (bt 46 16777215) HT_ (fun K hK => ?_)
            refine goes_ Try.func32 (by kernel_rfl) rfl #[.int .i64 (rd t497 x32_2), .int .i64 (l0_1.length : Int)] (by rfl) rfl rfl sl ?_
            with_reducible refine (impl_isIndex.calls (rd t497 x32_2) (l0_1.length : Int) true _ A26.out).mono ?_
            rintro e w' ⟨rfl, ⟨nd, rfl⟩⟩
            refine ⟨_, rfl, ?_⟩
            refine hK.out _ _ ⟨bc0 BK491, bc1 BK491, bc2 BK491, (hb_ ⟨sb⟩ hw501_0), (hb_ ⟨sb⟩ hw503_0), (hb_ ⟨sb⟩ hw504_0), (hb_ ⟨sb⟩ hw505_0)⟩ (fun hHeld => ?_)
            clear hK K
            refine nm 59 ?_
            refine put 24 60 (bt 46 33554431) HT_ ?_
            refine put 25 61 (bt 46 67108863) HT_ ?_
            refine put 26 62 (bt 46 134217727) HT_ ?_
            refine put 28 64 (bt 46 402653183) HT_ ?_
            refine tat7 27 63 (bt 46 536870911) HT_ HW_ hHeld ?_
            refine put 29 65 (bt 46 1073741823) HT_ ?_
            refine tat7 30 66 (bt 46 2147483647) HT_ HW_ hHeld ?_
            refine put 31 67 (bt 46 4294967295) HT_ ?_
            refine put 32 68 (bt 46 8589934591) HT_ ?_
            refine put 33 69 (bt 46 17179869183) HT_ ?_
            refine put 34 70 (bt 46 34359738367) HT_ ?_
            refine put 36 72 (bt 46 103079215103) HT_ ?_
            refine put 39 75 (bt 46 652835028991) HT_ ?_
            refine put 41 77 (bt 46 2851858284543) HT_ ?_
            refine tat7 35 71 (bt 46 2886218022911) HT_ HW_ hHeld ?_
            refine put 37 73 (bt 46 3023656976383) HT_ ?_
            refine tat7 38 74 (bt 46 3298534883327) HT_ HW_ hHeld ?_
            refine tat7 40 76 (bt 46 4398046511103) HT_ HW_ hHeld ?_
            refine put 42 78 (bt 46 8796093022207) HT_ ?_
            refine tat7 43 79 (bt 46 17592186044415) HT_ HW_ hHeld ?_
            refine put 44 80 (bt 46 35184372088831) HT_ ?_
            refine put 45 81 (bt 46 70368744177663) HT_ ?_
            refine done_ (done_of HT_.out (by kernel_rfl)) ?_
            try go_wp2_with (first | ((with_reducible refine gate_builtin (b := .append) (xs := #[.tmp 82, .tmp 84]) rfl ?_); (try (refine gate_guard (by rfl) ?_; dsimp only)); at_builtin; refine Kd.R_append (Kd.int .i64) (w0 := w) w.heap.size rfl (.tmp 82) (.tmp 84) 22 3 (.int .i64 0) 8 rfl Try.underlying22 info3 rfl (by decide) (by omega) u9 x9_2 (rd t497 x32_2) [.int .i64 (rd t497 x32_2)] (fun k_ => some k_ ≠ (.slice (some ad500) t497.length co17 : Value).ownBlock) (fun _ => False) rfl rfl ?aP (fun _ hk => hk.elim) ?aF ?aO ?aB ?aS ?aL ?_; (case aP => exact rfl); (case aB => exact (sbw)); (case aF => exact (fun k_ hk => Kd.fresh' (Kd.R_lt (sr HO_30)) k_ hk)); (case aO => exact (sr HO_9)); (case aS => exact (below_size (sbw))); (case aL => have := LMc33.out; omega); intro v507 w35 ho hb hg hat; rw [← Ny506.out] at ho; replace HO_30 := am (Kd.R_after (ok := (fun _ => True)) (by exact rm HO_30 (fun _ hk => ⟨trivial, hk⟩)) hg hat); replace BK491 := am (blk_grown (g := gb491) (o := .cells #[.int .i64 a0_0, .slice (some ad503) l0_1.length c0_1, .slice (some ad501) l0_2.length c0_2] 29 (0, 0)) (sk BK491) hg (Kd.R_ne HO_9.out BK491.out (by decide))); replace HB := am hb; have HO508 := am ho; clear HO_9; clear ho hb hg hat))
            go_roundg k2
            case measure => have := HJ4.out; have := HK2.out; omega
            case rel => exact ⟨(y506), (wrap64 (x32_2 + 1)), sc, H', ⟨a12_0⟩, ⟨sr HO508⟩, ⟨by exact rm HO_30 (fun _ hk => hk.2)⟩, ⟨sk BK491⟩, ⟨sbw⟩⟩
           ·have H' := am H
            clear H
            have p500 : 0 ≤ (x32_2 : Int) := sa
            have q500 : x32_2 < (t497.length : Int) := sa
            obtain ⟨ad500, e500, hx500_0⟩ := Kd.at_int (Kd.R_reads' HO_30.out).2.2 x32_2 p500 q500
            cases e500
            replace p500 := eq_true p500
            replace q500 := eq_true q500
            try go_wp2
            replace HO_9 := am (Kd.R_drew HO_9.out)
            replace HO_30 := am (Kd.R_drew HO_30.out)
            replace BK491 := am (blk_drew BK491.out)
            replace HB := am (below_drew1 HB.out)
            obtain ⟨p501, q501, ad501, e501, hw501_0, hx501_0⟩ := at_i HR0_2 HB a3
            cases e501
            obtain ⟨p503, q503, ad503, e503, hw503_0, hx503_0⟩ := at_i HR0_1 HB (rd t497 x32_2)
            cases e503
            obtain ⟨p504, q504, ad504, e504, hw504_0, hx504_0⟩ := at_i HR0_1 HB (rd t497 x32_2)
            obtain rfl : ad503 = ad504 := (by injection e504)
            obtain ⟨p505, q505, ad505, e505, hw505_0, hx505_0⟩ := at_i HR0_1 HB a3
            obtain rfl : ad503 = ad505 := (by injection e505)
            refine start_ (n := 46) (S := fun w' => w'.cell? ⟨gb491, 0, none⟩ = some (.int .i64 a0_0) ∧ w'.cell? ⟨gb491, 1, none⟩ = some (.slice (some ad503) l0_1.length c0_1) ∧ w'.cell? ⟨gb491, 2, none⟩ = some (.slice (some ad501) l0_2.length c0_2) ∧ w'.cell? (ad501.add (a3).toNat) = some (.int .i64 (rd l0_2 a3)) ∧ w'.cell? (ad503.add ((rd t497 x32_2)).toNat) = some (.int .i64 (rd l0_1 (rd t497 x32_2))) ∧ w'.cell? (ad503.add ((rd t497 x32_2)).toNat) = some (.int .i64 (rd l0_1 (rd t497 x32_2))) ∧ w'.cell? (ad503.add (a3).toNat) = some (.int .i64 (rd l0_1 a3))) (ds := []) #[false, false, false, false, false, false, false, false, false, false, false, false, false, false, false, false, false, false, false, false, false, false, false, false, false, false, false, false, false, false, false, false, false, false, false, false, false, false, false, false, false, false, false, false, false, false] (by kernel_rfl) rfl rfl ⟨bc0 BK491, bc1 BK491, bc2 BK491, (hb_ HB hw501_0), (hb_ HB hw503_0), (hb_ HB hw504_0), (hb_ HB hw505_0)⟩ (fun hHeld => ?_); refine with_tabW impl_AltsOf.tab7 impl_AltsOf.bits7 (fun HT_ HW_ => ?_)
            generalize wr.drew = w36 at HO_9 HO_30 BK491 HB hx501_0 hx503_0 hx504_0 hx505_0 hHeld ⊢
            refine put 0 36 (bt 46 1) HT_ ?_
            refine put 1 37 (bt 46 3) HT_ ?_
            refine put 3 39 (bt 46 11) HT_ ?_
            refine tat7 2 38 (bt 46 15) HT_ HW_ hHeld ?_
            refine put 4 40 (bt 46 31) HT_ ?_
            refine tat7 5 41 (bt 46 63) HT_ HW_ hHeld ?_
            refine put 6 42 (bt 46 127) HT_ ?_
            refine put 7 43 (bt 46 255) HT_ ?_
            refine put 8 44 (bt 46 511) HT_ ?_
            refine put 9 45 (bt 46 1023) HT_ ?_
            refine put 10 46 (bt 46 2047) HT_ ?_
            refine put 11 47 (bt 46 4095) HT_ ?_
            refine pn 12 48 (bt 46 8191) HT_ ?_
            refine pn 13 49 (bt 46 16383) HT_ ?_
            refine pn 14 50 (bt 46 32767) HT_ ?_
            refine pn 15 51 (bt 46 65535) HT_ ?_
            refine put 16 52 (bt 46 131071) HT_ ?_
            refine put 17 53 (bt 46 262143) HT_ ?_
            refine put 18 54 (bt 46 524287) HT_ ?_
            refine put 19 55 (bt 46 1048575) HT_ ?_
            refine put 20 56 (bt 46 2097151) HT_ ?_
            refine tat7 21 57 (bt 46 4194303) HT_ HW_ hHeld ?_
            refine put 22 58 (bt 46 8388607) HT_ ?_
            refine on 23 59 (bt 46 16777215) HT_ (fun K hK => ?_)
            refine goes_ Try.func32 (by kernel_rfl) rfl #[.int .i64 (rd t497 x32_2), .int .i64 (l0_1.length : Int)] (by rfl) rfl rfl sl ?_
            with_reducible refine (impl_isIndex.calls (rd t497 x32_2) (l0_1.length : Int) true _ A26.out).mono ?_
            rintro e w' ⟨rfl, ⟨nd, rfl⟩⟩
            refine ⟨_, rfl, ?_⟩
            refine hK.out _ _ ⟨bc0 BK491, bc1 BK491, bc2 BK491, (hb_ ⟨sb⟩ hw501_0), (hb_ ⟨sb⟩ hw503_0), (hb_ ⟨sb⟩ hw504_0), (hb_ ⟨sb⟩ hw505_0)⟩ (fun hHeld => ?_)
            clear hK K
            refine nm 59 ?_
            refine put 24 60 (bt 46 33554431) HT_ ?_
            refine put 25 61 (bt 46 67108863) HT_ ?_
            refine put 26 62 (bt 46 134217727) HT_ ?_
            refine put 28 64 (bt 46 402653183) HT_ ?_
            refine tat7 27 63 (bt 46 536870911) HT_ HW_ hHeld ?_
            refine put 29 65 (bt 46 1073741823) HT_ ?_
            refine tat7 30 66 (bt 46 2147483647) HT_ HW_ hHeld ?_
            refine put 31 67 (bt 46 4294967295) HT_ ?_
            refine put 32 68 (bt 46 8589934591) HT_ ?_
            refine put 33 69 (bt 46 17179869183) HT_ ?_
            refine put 34 70 (bt 46 34359738367) HT_ ?_
            refine put 36 72 (bt 46 103079215103) HT_ ?_
            refine put 39 75 (bt 46 652835028991) HT_ ?_
            refine put 41 77 (bt 46 2851858284543) HT_ ?_
            refine tat7 35 71 (bt 46 2886218022911) HT_ HW_ hHeld ?_
            refine put 37 73 (bt 46 3023656976383) HT_ ?_
            refine tat7 38 74 (bt 46 3298534883327) HT_ HW_ hHeld ?_
            refine tat7 40 76 (bt 46 4398046511103) HT_ HW_ hHeld ?_
            refine put 42 78 (bt 46 8796093022207) HT_ ?_
            refine tat7 43 79 (bt 46 17592186044415) HT_ HW_ hHeld ?_
            refine put 44 80 (bt 46 35184372088831) HT_ ?_
            refine put 45 81 (bt 46 70368744177663) HT_ ?_
            refine done_ (done_of HT_.out (by kernel_rfl)) ?_
            try go_wp2
            go_roundg k2
            case measure => have := HJ4.out; have := HK2.out; omega
            case rel => exact ⟨(x9_2), (wrap64 (x32_2 + 1)), sc, H', ⟨a12_0⟩, ⟨sr HO_9⟩, ⟨sr HO_30⟩, ⟨sk BK491⟩, ⟨sbw⟩⟩
          ·have H' := am H
           clear H
           have p500 : 0 ≤ (x32_2 : Int) := sa
           have q500 : x32_2 < (t497.length : Int) := sa
           obtain ⟨ad500, e500, hx500_0⟩ := Kd.at_int (Kd.R_reads' HO_30.out).2.2 x32_2 p500 q500
           cases e500
           replace p500 := eq_true p500
           replace q500 := eq_true q500
           try go_wp2
           replace HO_9 := am (Kd.R_drew HO_9.out)
           replace HO_30 := am (Kd.R_drew HO_30.out)
           replace BK491 := am (blk_drew BK491.out)
           replace HB := am (below_drew1 HB.out)
           obtain ⟨p501, q501, ad501, e501, hw501_0, hx501_0⟩ := at_i HR0_2 HB a3
           cases e501
           obtain ⟨p503, q503, ad503, e503, hw503_0, hx503_0⟩ := at_i HR0_1 HB (rd t497 x32_2)
           cases e503
           refine start_ (n := 46) (S := fun w' => w'.cell? ⟨gb491, 0, none⟩ = some (.int .i64 a0_0) ∧ w'.cell? ⟨gb491, 1, none⟩ = some (.slice (some ad503) l0_1.length c0_1) ∧ w'.cell? ⟨gb491, 2, none⟩ = some (.slice (some ad501) l0_2.length c0_2) ∧ w'.cell? (ad501.add (a3).toNat) = some (.int .i64 (rd l0_2 a3)) ∧ w'.cell? (ad503.add ((rd t497 x32_2)).toNat) = some (.int .i64 (rd l0_1 (rd t497 x32_2)))) (ds := []) #[false, false, false, false, false, false, false, false, false, false, false, false, false, false, false, false, false, false, false, false, false, false, false, false, false, false, false, false, false, false, false, false, false, false, false, false, false, false, false, false, false, false, false, false, false, false] (by kernel_rfl) rfl rfl ⟨bc0 BK491, bc1 BK491, bc2 BK491, (hb_ HB hw501_0), (hb_ HB hw503_0)⟩ (fun hHeld => ?_); refine with_tabW impl_AltsOf.tab7 impl_AltsOf.bits7 (fun HT_ HW_ => ?_)
           generalize wr.drew = w37 at HO_9 HO_30 BK491 HB hx501_0 hx503_0 hHeld ⊢
           refine put 0 36 (bt 46 1) HT_ ?_
           refine put 1 37 (bt 46 3) HT_ ?_
           refine put 3 39 (bt 46 11) HT_ ?_
           refine tat5 2 38 (bt 46 15) HT_ HW_ hHeld ?_
           refine put 4 40 (bt 46 31) HT_ ?_
           refine tat5 5 41 (bt 46 63) HT_ HW_ hHeld ?_
           refine put 6 42 (bt 46 127) HT_ ?_
           refine put 7 43 (bt 46 255) HT_ ?_
           refine put 8 44 (bt 46 511) HT_ ?_
           refine put 9 45 (bt 46 1023) HT_ ?_
           refine put 10 46 (bt 46 2047) HT_ ?_
           refine put 11 47 (bt 46 4095) HT_ ?_
           refine pn 12 48 (bt 46 8191) HT_ ?_
           refine pn 13 49 (bt 46 16383) HT_ ?_
           refine pn 14 50 (bt 46 32767) HT_ ?_
           refine pn 15 51 (bt 46 65535) HT_ ?_
           refine put 16 52 (bt 46 131071) HT_ ?_
           refine put 17 53 (bt 46 262143) HT_ ?_
           refine put 18 54 (bt 46 524287) HT_ ?_
           refine put 19 55 (bt 46 1048575) HT_ ?_
           refine put 20 56 (bt 46 2097151) HT_ ?_
           refine tat5 21 57 (bt 46 4194303) HT_ HW_ hHeld ?_
           refine put 22 58 (bt 46 8388607) HT_ ?_
           refine on 23 59 (bt 46 16777215) HT_ (fun K hK => ?_)
           refine goes_ Try.func32 (by kernel_rfl) rfl #[.int .i64 (rd t497 x32_2), .int .i64 (l0_1.length : Int)] (by rfl) rfl rfl sl ?_
           with_reducible refine (impl_isIndex.calls (rd t497 x32_2) (l0_1.length : Int) true _ A26.out).mono ?_
           rintro e w' ⟨rfl, ⟨nd, rfl⟩⟩
           refine ⟨_, rfl, ?_⟩
           refine hK.out _ _ ⟨bc0 BK491, bc1 BK491, bc2 BK491, (hb_ ⟨sb⟩ hw501_0), (hb_ ⟨sb⟩ hw503_0)⟩ (fun hHeld => ?_)
           clear hK K
           refine nm 59 ?_
           refine put 24 60 (bt 46 33554431) HT_ ?_
           refine put 25 61 (bt 46 67108863) HT_ ?_
           refine put 26 62 (bt 46 134217727) HT_ ?_
           refine put 28 64 (bt 46 402653183) HT_ ?_
           refine tat5 27 63 (bt 46 536870911) HT_ HW_ hHeld ?_
           refine put 29 65 (bt 46 1073741823) HT_ ?_
           refine tat5 30 66 (bt 46 2147483647) HT_ HW_ hHeld ?_
           refine put 31 67 (bt 46 4294967295) HT_ ?_
           refine put 32 68 (bt 46 8589934591) HT_ ?_
           refine put 33 69 (bt 46 17179869183) HT_ ?_
           refine pn 34 70 (bt 46 34359738367) HT_ ?_
           refine pn 35 71 (bt 46 68719476735) HT_ ?_
           refine pn 36 72 (bt 46 137438953471) HT_ ?_
           refine pn 37 73 (bt 46 274877906943) HT_ ?_
           refine pn 38 74 (bt 46 549755813887) HT_ ?_
           refine pn 39 75 (bt 46 1099511627775) HT_ ?_
           refine pn 40 76 (bt 46 2199023255551) HT_ ?_
           refine pn 41 77 (bt 46 4398046511103) HT_ ?_
           refine pn 42 78 (bt 46 8796093022207) HT_ ?_
           refine pn 43 79 (bt 46 17592186044415) HT_ ?_
           refine pn 44 80 (bt 46 35184372088831) HT_ ?_
           refine put 45 81 (bt 46 70368744177663) HT_ ?_
           refine done_ (done_of HT_.out (by kernel_rfl)) ?_
           try go_wp2
           go_roundg k2
           case measure => have := HJ4.out; have := HK2.out; omega
           case rel => exact ⟨(x9_2), (wrap64 (x32_2 + 1)), sc, H', ⟨a12_0⟩, ⟨sr HO_9⟩, ⟨sr HO_30⟩, ⟨sk BK491⟩, ⟨sbw⟩⟩
         ·replace H := im H
          have H' := am H
          clear H
          have p500 : 0 ≤ (x32_2 : Int) := sa
          have q500 : x32_2 < (t497.length : Int) := sa
          obtain ⟨ad500, e500, hx500_0⟩ := Kd.at_int (Kd.R_reads' HO_30.out).2.2 x32_2 p500 q500
          cases e500
          replace p500 := eq_true p500
          replace q500 := eq_true q500
          try go_wp2
          replace HO_9 := am (Kd.R_drew HO_9.out)
          replace HO_30 := am (Kd.R_drew HO_30.out)
          replace BK491 := am (blk_drew BK491.out)
          replace HB := am (below_drew1 HB.out)
          obtain ⟨p501, q501, ad501, e501, hw501_0, hx501_0⟩ := at_i HR0_2 HB a3
          cases e501
          refine start_ (n := 46) (S := fun w' => w'.cell? ⟨gb491, 0, none⟩ = some (.int .i64 a0_0) ∧ w'.cell? ⟨gb491, 1, none⟩ = some (.slice A0_1 l0_1.length c0_1) ∧ w'.cell? ⟨gb491, 2, none⟩ = some (.slice (some ad501) l0_2.length c0_2) ∧ w'.cell? (ad501.add (a3).toNat) = some (.int .i64 (rd l0_2 a3))) (ds := []) #[false, false, false, false, false, false, false, false, false, false, false, false, false, false, false, false, false, false, false, false, false, false, false, false, false, false, false, false, false, false, false, false, false, false, false, false, false, false, false, false, false, false, false, false, false, false] (by kernel_rfl) rfl rfl ⟨bc0 BK491, bc1 BK491, bc2 BK491, (hb_ HB hw501_0)⟩ (fun hHeld => ?_); refine with_tabW impl_AltsOf.tab7 impl_AltsOf.bits7 (fun HT_ HW_ => ?_)
          generalize wr.drew = w38 at HO_9 HO_30 BK491 HB hx501_0 hHeld ⊢
          refine put 0 36 (bt 46 1) HT_ ?_
          refine put 1 37 (bt 46 3) HT_ ?_
          refine put 3 39 (bt 46 11) HT_ ?_
          refine tat4 2 38 (bt 46 15) HT_ HW_ hHeld ?_
          refine put 4 40 (bt 46 31) HT_ ?_
          refine tat4 5 41 (bt 46 63) HT_ HW_ hHeld ?_
          refine put 6 42 (bt 46 127) HT_ ?_
          refine put 7 43 (bt 46 255) HT_ ?_
          refine put 8 44 (bt 46 511) HT_ ?_
          refine put 9 45 (bt 46 1023) HT_ ?_
          refine put 10 46 (bt 46 2047) HT_ ?_
          refine put 11 47 (bt 46 4095) HT_ ?_
          refine pn 12 48 (bt 46 8191) HT_ ?_
          refine pn 13 49 (bt 46 16383) HT_ ?_
          refine pn 14 50 (bt 46 32767) HT_ ?_
          refine pn 15 51 (bt 46 65535) HT_ ?_
          refine put 16 52 (bt 46 131071) HT_ ?_
          refine put 17 53 (bt 46 262143) HT_ ?_
          refine put 18 54 (bt 46 524287) HT_ ?_
          refine put 19 55 (bt 46 1048575) HT_ ?_
          refine put 20 56 (bt 46 2097151) HT_ ?_
          refine tat4 21 57 (bt 46 4194303) HT_ HW_ hHeld ?_
          refine put 22 58 (bt 46 8388607) HT_ ?_
          refine on 23 59 (bt 46 16777215) HT_ (fun K hK => ?_)
          refine goes_ Try.func32 (by kernel_rfl) rfl #[.int .i64 (rd t497 x32_2), .int .i64 (l0_1.length : Int)] (by rfl) rfl rfl sl ?_
          with_reducible refine (impl_isIndex.calls (rd t497 x32_2) (l0_1.length : Int) false _ A26.out).mono ?_
          rintro e w' ⟨rfl, ⟨nd, rfl⟩⟩
          refine ⟨_, rfl, ?_⟩
          refine hK.out _ _ ⟨bc0 BK491, bc1 BK491, bc2 BK491, (hb_ ⟨sb⟩ hw501_0)⟩ (fun hHeld => ?_)
          clear hK K
          refine nm 59 ?_
          refine put 24 60 (bt 46 33554431) HT_ ?_
          refine put 25 61 (bt 46 67108863) HT_ ?_
          refine pn 26 62 (bt 46 134217727) HT_ ?_
          refine pn 27 63 (bt 46 268435455) HT_ ?_
          refine pn 28 64 (bt 46 536870911) HT_ ?_
          refine pn 29 65 (bt 46 1073741823) HT_ ?_
          refine pn 30 66 (bt 46 2147483647) HT_ ?_
          refine pn 31 67 (bt 46 4294967295) HT_ ?_
          refine put 32 68 (bt 46 8589934591) HT_ ?_
          refine put 33 69 (bt 46 17179869183) HT_ ?_
          refine pn 34 70 (bt 46 34359738367) HT_ ?_
          refine pn 35 71 (bt 46 68719476735) HT_ ?_
          refine pn 36 72 (bt 46 137438953471) HT_ ?_
          refine pn 37 73 (bt 46 274877906943) HT_ ?_
          refine pn 38 74 (bt 46 549755813887) HT_ ?_
          refine pn 39 75 (bt 46 1099511627775) HT_ ?_
          refine pn 40 76 (bt 46 2199023255551) HT_ ?_
          refine pn 41 77 (bt 46 4398046511103) HT_ ?_
          refine pn 42 78 (bt 46 8796093022207) HT_ ?_
          refine pn 43 79 (bt 46 17592186044415) HT_ ?_
          refine pn 44 80 (bt 46 35184372088831) HT_ ?_
          refine put 45 81 (bt 46 70368744177663) HT_ ?_
          refine done_ (done_of HT_.out (by kernel_rfl)) ?_
          try go_wp2
          go_roundg k2
          case measure => have := HJ4.out; have := HK2.out; omega
          case rel => exact ⟨(x9_2), (wrap64 (x32_2 + 1)), sc, H', ⟨a12_0⟩, ⟨sr HO_9⟩, ⟨sr HO_30⟩, ⟨sk BK491⟩, ⟨sbw⟩⟩
        ·obtain ⟨-, c39b0, c39b1, H⟩ | ⟨c39, c39b0, c39b1, H⟩ := ib_ H
         ·obtain ⟨t509, A40, H⟩ := bnd H
          obtain rfl | rfl := tt t509
          ·replace H := ip H
           obtain ⟨c42b0, H⟩ := id_ H
           obtain ⟨c43b0, H⟩ := id_ H
           obtain ⟨-, c44b0, H⟩ | ⟨-, c44b0, H⟩ := ic_ H
           ·obtain ⟨c45b0, H⟩ := id_ H
            obtain ⟨-, c46b0, H⟩ | ⟨-, c46b0, H⟩ := ic_ H
            ·obtain ⟨LMc47, H⟩ := il_ H
             obtain ⟨y513, hy513⟩ : ∃ y_ : List Int, y_ = (x9_2 ++ [rd t497 x32_2]) := ⟨_, rfl⟩
             replace H : (impl_AltsOf.l0 k2 a2 a3 y513 t497 (t497.length : Int) (wrap64 (x32_2 + 1)) a0_0 l0_1 l0_2) = some r := ry hy513 H
             have Ny513 := am hy513
             clear hy513
             have H' := am H
             clear H
             have p500 : 0 ≤ (x32_2 : Int) := sa
             have q500 : x32_2 < (t497.length : Int) := sa
             obtain ⟨ad500, e500, hx500_0⟩ := Kd.at_int (Kd.R_reads' HO_30.out).2.2 x32_2 p500 q500
             cases e500
             replace p500 := eq_true p500
             replace q500 := eq_true q500
             try go_wp2
             replace HO_9 := am (Kd.R_drew HO_9.out)
             replace HO_30 := am (Kd.R_drew HO_30.out)
             replace BK491 := am (blk_drew BK491.out)
             replace HB := am (below_drew1 HB.out)
             obtain ⟨p501, q501, ad501, e501, hw501_0, hx501_0⟩ := at_i HR0_2 HB a3
             cases e501
             obtain ⟨p510, q510, ad510, e510, hw510_0, hx510_0⟩ := at_i HR0_1 HB (rd t497 x32_2)
             cases e510
             obtain ⟨p511, q511, ad511, e511, hw511_0, hx511_0⟩ := at_i HR0_1 HB (rd t497 x32_2)
             obtain rfl : ad510 = ad511 := (by injection e511)
             obtain ⟨p512, q512, ad512, e512, hw512_0, hx512_0⟩ := at_i HR0_1 HB a3
             obtain rfl : ad510 = ad512 := (by injection e512)
             refine start_ (n := 46) (S := fun w' => w'.cell? ⟨gb491, 0, none⟩ = some (.int .i64 a0_0) ∧ w'.cell? ⟨gb491, 1, none⟩ = some (.slice (some ad510) l0_1.length c0_1) ∧ w'.cell? ⟨gb491, 2, none⟩ = some (.slice (some ad501) l0_2.length c0_2) ∧ w'.cell? (ad501.add (a3).toNat) = some (.int .i64 (rd l0_2 a3)) ∧ w'.cell? (ad510.add ((rd t497 x32_2)).toNat) = some (.int .i64 (rd l0_1 (rd t497 x32_2))) ∧ w'.cell? (ad510.add ((rd t497 x32_2)).toNat) = some (.int .i64 (rd l0_1 (rd t497 x32_2))) ∧ w'.cell? (ad510.add (a3).toNat) = some (.int .i64 (rd l0_1 a3))) (ds := []) #[false, false, false, false, false, false, false, false, false, false, false, false, false, false, false, false, false, false, false, false, false, false, false, false, false, false, false, false, false, false, false, false, false, false, false, false, false, false, false, false, false, false, false, false, false, false] (by kernel_rfl) rfl rfl ⟨bc0 BK491, bc1 BK491, bc2 BK491, (hb_ HB hw501_0), (hb_ HB hw510_0), (hb_ HB hw511_0), (hb_ HB hw512_0)⟩ (fun hHeld => ?_); refine with_tabW impl_AltsOf.tab7 impl_AltsOf.bits7 (fun HT_ HW_ => ?_)
             generalize wr.drew = w48 at HO_9 HO_30 BK491 HB hx501_0 hx510_0 hx511_0 hx512_0 hHeld ⊢
             refine put 0 36 (bt 46 1) HT_ ?_
             refine put 1 37 (bt 46 3) HT_ ?_
             refine put 3 39 (bt 46 11) HT_ ?_
             refine tat7 2 38 (bt 46 15) HT_ HW_ hHeld ?_
             refine put 4 40 (bt 46 31) HT_ ?_
             refine tat7 5 41 (bt 46 63) HT_ HW_ hHeld ?_
             refine put 6 42 (bt 46 127) HT_ ?_
             refine put 7 43 (bt 46 255) HT_ ?_
             refine put 8 44 (bt 46 511) HT_ ?_
             refine put 9 45 (bt 46 1023) HT_ ?_
             refine put 10 46 (bt 46 2047) HT_ ?_
             refine put 11 47 (bt 46 4095) HT_ ?_
             refine put 12 48 (bt 46 8191) HT_ ?_
             refine put 13 49 (bt 46 16383) HT_ ?_
             refine tat7 14 50 (bt 46 32767) HT_ HW_ hHeld ?_
             refine put 15 51 (bt 46 65535) HT_ ?_
             refine put 16 52 (bt 46 131071) HT_ ?_
             refine put 17 53 (bt 46 262143) HT_ ?_
             refine put 18 54 (bt 46 524287) HT_ ?_
             refine put 19 55 (bt 46 1048575) HT_ ?_
             refine put 20 56 (bt 46 2097151) HT_ ?_
             refine tat7 21 57 (bt 46 4194303) HT_ HW_ hHeld ?_
             refine put 22 58 (bt 46 8388607) HT_ ?_
             refine on 23 59 (bt 46 16777215) HT_ (fun K hK => ?_)
             refine goes_ Try.func32 (by kernel_rfl) rfl #[.int .i64 (rd t497 x32_2), .int .i64 (l0_1.length : Int)] (by rfl) rfl rfl sl ?_
             with_reducible refine (impl_isIndex.calls (rd t497 x32_2) (l0_1.length : Int) true _ A40.out).mono ?_
             rintro e w' ⟨rfl, ⟨nd, rfl⟩⟩
             refine ⟨_, rfl, ?_⟩
             refine hK.out _ _ ⟨bc0 BK491, bc1 BK491, bc2 BK491, (hb_ ⟨sb⟩ hw501_0), (hb_ ⟨sb⟩ hw510_0), (hb_ ⟨sb⟩ hw511_0), (hb_ ⟨sb⟩ hw512_0)⟩ (fun hHeld => ?_)
             clear hK K
             refine nm 59 ?_
             refine put 24 60 (bt 46 33554431) HT_ ?_
             refine put 25 61 (bt 46 67108863) HT_ ?_
             refine put 26 62 (bt 46 134217727) HT_ ?_
             refine put 28 64 (bt 46 402653183) HT_ ?_
             refine tat7 27 63 (bt 46 536870911) HT_ HW_ hHeld ?_
             refine put 29 65 (bt 46 1073741823) HT_ ?_
             refine tat7 30 66 (bt 46 2147483647) HT_ HW_ hHeld ?_
             refine put 31 67 (bt 46 4294967295) HT_ ?_
             refine put 32 68 (bt 46 8589934591) HT_ ?_
             refine put 33 69 (bt 46 17179869183) HT_ ?_
             refine put 34 70 (bt 46 34359738367) HT_ ?_
             refine put 36 72 (bt 46 103079215103) HT_ ?_
             refine put 39 75 (bt 46 652835028991) HT_ ?_
             refine put 41 77 (bt 46 2851858284543) HT_ ?_
             refine tat7 35 71 (bt 46 2886218022911) HT_ HW_ hHeld ?_
             refine put 37 73 (bt 46 3023656976383) HT_ ?_
             refine tat7 38 74 (bt 46 3298534883327) HT_ HW_ hHeld ?_
             refine tat7 40 76 (bt 46 4398046511103) HT_ HW_ hHeld ?_
             refine put 42 78 (bt 46 8796093022207) HT_ ?_
             refine tat7 43 79 (bt 46 17592186044415) HT_ HW_ hHeld ?_
             refine put 44 80 (bt 46 35184372088831) HT_ ?_
             refine put 45 81 (bt 46 70368744177663) HT_ ?_
             refine done_ (done_of HT_.out (by kernel_rfl)) ?_
             try go_wp2_with (first | ((with_reducible refine gate_builtin (b := .append) (xs := #[.tmp 82, .tmp 84]) rfl ?_); (try (refine gate_guard (by rfl) ?_; dsimp only)); at_builtin; refine Kd.R_append (Kd.int .i64) (w0 := w) w.heap.size rfl (.tmp 82) (.tmp 84) 22 3 (.int .i64 0) 8 rfl Try.underlying22 info3 rfl (by decide) (by omega) u9 x9_2 (rd t497 x32_2) [.int .i64 (rd t497 x32_2)] (fun k_ => some k_ ≠ (.slice (some ad500) t497.length co17 : Value).ownBlock) (fun _ => False) rfl rfl ?aP (fun _ hk => hk.elim) ?aF ?aO ?aB ?aS ?aL ?_; (case aP => exact rfl); (case aB => exact (sbw)); (case aF => exact (fun k_ hk => Kd.fresh' (Kd.R_lt (sr HO_30)) k_ hk)); (case aO => exact (sr HO_9)); (case aS => exact (below_size (sbw))); (case aL => have := LMc47.out; omega); intro v514 w49 ho hb hg hat; rw [← Ny513.out] at ho; replace HO_30 := am (Kd.R_after (ok := (fun _ => True)) (by exact rm HO_30 (fun _ hk => ⟨trivial, hk⟩)) hg hat); replace BK491 := am (blk_grown (g := gb491) (o := .cells #[.int .i64 a0_0, .slice (some ad510) l0_1.length c0_1, .slice (some ad501) l0_2.length c0_2] 29 (0, 0)) (sk BK491) hg (Kd.R_ne HO_9.out BK491.out (by decide))); replace HB := am hb; have HO515 := am ho; clear HO_9; clear ho hb hg hat))
             go_roundg k2
             case measure => have := HJ4.out; have := HK2.out; omega
             case rel => exact ⟨(y513), (wrap64 (x32_2 + 1)), sc, H', ⟨a12_0⟩, ⟨sr HO515⟩, ⟨by exact rm HO_30 (fun _ hk => hk.2)⟩, ⟨sk BK491⟩, ⟨sbw⟩⟩
            ·have H' := am H
             clear H
             have p500 : 0 ≤ (x32_2 : Int) := sa
             have q500 : x32_2 < (t497.length : Int) := sa
             obtain ⟨ad500, e500, hx500_0⟩ := Kd.at_int (Kd.R_reads' HO_30.out).2.2 x32_2 p500 q500
             cases e500
             replace p500 := eq_true p500
             replace q500 := eq_true q500
             try go_wp2
             replace HO_9 := am (Kd.R_drew HO_9.out)
             replace HO_30 := am (Kd.R_drew HO_30.out)
             replace BK491 := am (blk_drew BK491.out)
             replace HB := am (below_drew1 HB.out)
             obtain ⟨p501, q501, ad501, e501, hw501_0, hx501_0⟩ := at_i HR0_2 HB a3
             cases e501
             obtain ⟨p510, q510, ad510, e510, hw510_0, hx510_0⟩ := at_i HR0_1 HB (rd t497 x32_2)
             cases e510
             obtain ⟨p511, q511, ad511, e511, hw511_0, hx511_0⟩ := at_i HR0_1 HB (rd t497 x32_2)
             obtain rfl : ad510 = ad511 := (by injection e511)
             obtain ⟨p512, q512, ad512, e512, hw512_0, hx512_0⟩ := at_i HR0_1 HB a3
             obtain rfl : ad510 = ad512 := (by injection e512)
             refine start_ (n := 46) (S := fun w' => w'.cell? ⟨gb491, 0, none⟩ = some (.int .i64 a0_0) ∧ w'.cell? ⟨gb491, 1, none⟩ = some (.slice (some ad510) l0_1.length c0_1) ∧ w'.cell? ⟨gb491, 2, none⟩ = some (.slice (some ad501) l0_2.length c0_2) ∧ w'.cell? (ad501.add (a3).toNat) = some (.int .i64 (rd l0_2 a3)) ∧ w'.cell? (ad510.add ((rd t497 x32_2)).toNat) = some (.int .i64 (rd l0_1 (rd t497 x32_2))) ∧ w'.cell? (ad510.add ((rd t497 x32_2)).toNat) = some (.int .i64 (rd l0_1 (rd t497 x32_2))) ∧ w'.cell? (ad510.add (a3).toNat) = some (.int .i64 (rd l0_1 a3))) (ds := []) #[false, false, false, false, false, false, false, false, false, false, false, false, false, false, false, false, false, false, false, false, false, false, false, false, false, false, false, false, false, false, false, false, false, false, false, false, false, false, false, false, false, false, false, false, false, false] (by kernel_rfl) rfl rfl ⟨bc0 BK491, bc1 BK491, bc2 BK491, (hb_ HB hw501_0), (hb_ HB hw510_0), (hb_ HB hw511_0), (hb_ HB hw512_0)⟩ (fun hHeld => ?_); refine with_tabW impl_AltsOf.tab7 impl_AltsOf.bits7 (fun HT_ HW_ => ?_)
             generalize wr.drew = w50 at HO_9 HO_30 BK491 HB hx501_0 hx510_0 hx511_0 hx512_0 hHeld ⊢
             refine put 0 36 (bt 46 1) HT_ ?_
             refine put 1 37 (bt 46 3) HT_ ?_
             refine put 3 39 (bt 46 11) HT_ ?_
             refine tat7 2 38 (bt 46 15) HT_ HW_ hHeld ?_
             refine put 4 40 (bt 46 31) HT_ ?_
             refine tat7 5 41 (bt 46 63) HT_ HW_ hHeld ?_
             refine put 6 42 (bt 46 127) HT_ ?_
             refine put 7 43 (bt 46 255) HT_ ?_
             refine put 8 44 (bt 46 511) HT_ ?_
             refine put 9 45 (bt 46 1023) HT_ ?_
             refine put 10 46 (bt 46 2047) HT_ ?_
             refine put 11 47 (bt 46 4095) HT_ ?_
             refine put 12 48 (bt 46 8191) HT_ ?_
             refine put 13 49 (bt 46 16383) HT_ ?_
             refine tat7 14 50 (bt 46 32767) HT_ HW_ hHeld ?_
             refine put 15 51 (bt 46 65535) HT_ ?_
             refine put 16 52 (bt 46 131071) HT_ ?_
             refine put 17 53 (bt 46 262143) HT_ ?_
             refine put 18 54 (bt 46 524287) HT_ ?_
             refine put 19 55 (bt 46 1048575) HT_ ?_
             refine put 20 56 (bt 46 2097151) HT_ ?_
             refine tat7 21 57 (bt 46 4194303) HT_ HW_ hHeld ?_
             refine put 22 58 (bt 46 8388607) HT_ ?_
             refine on 23 59 (bt 46 16777215) HT_ (fun K hK => ?_)
             refine goes_ Try.func32 (by kernel_rfl) rfl #[.int .i64 (rd t497 x32_2), .int .i64 (l0_1.length : Int)] (by rfl) rfl rfl sl ?_
             with_reducible refine (impl_isIndex.calls (rd t497 x32_2) (l0_1.length : Int) true _ A40.out).mono ?_
             rintro e w' ⟨rfl, ⟨nd, rfl⟩⟩
             refine ⟨_, rfl, ?_⟩
             refine hK.out _ _ ⟨bc0 BK491, bc1 BK491, bc2 BK491, (hb_ ⟨sb⟩ hw501_0), (hb_ ⟨sb⟩ hw510_0), (hb_ ⟨sb⟩ hw511_0), (hb_ ⟨sb⟩ hw512_0)⟩ (fun hHeld => ?_)
             clear hK K
             refine nm 59 ?_
             refine put 24 60 (bt 46 33554431) HT_ ?_
             refine put 25 61 (bt 46 67108863) HT_ ?_
             refine put 26 62 (bt 46 134217727) HT_ ?_
             refine put 28 64 (bt 46 402653183) HT_ ?_
             refine tat7 27 63 (bt 46 536870911) HT_ HW_ hHeld ?_
             refine put 29 65 (bt 46 1073741823) HT_ ?_
             refine tat7 30 66 (bt 46 2147483647) HT_ HW_ hHeld ?_
             refine put 31 67 (bt 46 4294967295) HT_ ?_
             refine put 32 68 (bt 46 8589934591) HT_ ?_
             refine put 33 69 (bt 46 17179869183) HT_ ?_
             refine put 34 70 (bt 46 34359738367) HT_ ?_
             refine put 36 72 (bt 46 103079215103) HT_ ?_
             refine put 39 75 (bt 46 652835028991) HT_ ?_
             refine put 41 77 (bt 46 2851858284543) HT_ ?_
             refine tat7 35 71 (bt 46 2886218022911) HT_ HW_ hHeld ?_
             refine put 37 73 (bt 46 3023656976383) HT_ ?_
             refine tat7 38 74 (bt 46 3298534883327) HT_ HW_ hHeld ?_
             refine tat7 40 76 (bt 46 4398046511103) HT_ HW_ hHeld ?_
             refine put 42 78 (bt 46 8796093022207) HT_ ?_
             refine tat7 43 79 (bt 46 17592186044415) HT_ HW_ hHeld ?_
             refine put 44 80 (bt 46 35184372088831) HT_ ?_
             refine put 45 81 (bt 46 70368744177663) HT_ ?_
             refine done_ (done_of HT_.out (by kernel_rfl)) ?_
             try go_wp2
             go_roundg k2
             case measure => have := HJ4.out; have := HK2.out; omega
             case rel => exact ⟨(x9_2), (wrap64 (x32_2 + 1)), sc, H', ⟨a12_0⟩, ⟨sr HO_9⟩, ⟨sr HO_30⟩, ⟨sk BK491⟩, ⟨sbw⟩⟩
           ·have H' := am H
            clear H
            have p500 : 0 ≤ (x32_2 : Int) := sa
            have q500 : x32_2 < (t497.length : Int) := sa
            obtain ⟨ad500, e500, hx500_0⟩ := Kd.at_int (Kd.R_reads' HO_30.out).2.2 x32_2 p500 q500
            cases e500
            replace p500 := eq_true p500
            replace q500 := eq_true q500
            try go_wp2
            replace HO_9 := am (Kd.R_drew HO_9.out)
            replace HO_30 := am (Kd.R_drew HO_30.out)
            replace BK491 := am (blk_drew BK491.out)
            replace HB := am (below_drew1 HB.out)
            obtain ⟨p501, q501, ad501, e501, hw501_0, hx501_0⟩ := at_i HR0_2 HB a3
            cases e501
            obtain ⟨p510, q510, ad510, e510, hw510_0, hx510_0⟩ := at_i HR0_1 HB (rd t497 x32_2)
            cases e510
            refine start_ (n := 46) (S := fun w' => w'.cell? ⟨gb491, 0, none⟩ = some (.int .i64 a0_0) ∧ w'.cell? ⟨gb491, 1, none⟩ = some (.slice (some ad510) l0_1.length c0_1) ∧ w'.cell? ⟨gb491, 2, none⟩ = some (.slice (some ad501) l0_2.length c0_2) ∧ w'.cell? (ad501.add (a3).toNat) = some (.int .i64 (rd l0_2 a3)) ∧ w'.cell? (ad510.add ((rd t497 x32_2)).toNat) = some (.int .i64 (rd l0_1 (rd t497 x32_2)))) (ds := []) #[false, false, false, false, false, false, false, false, false, false, false, false, false, false, false, false, false, false, false, false, false, false, false, false, false, false, false, false, false, false, false, false, false, false, false, false, false, false, false, false, false, false, false, false, false, false] (by kernel_rfl) rfl rfl ⟨bc0 BK491, bc1 BK491, bc2 BK491, (hb_ HB hw501_0), (hb_ HB hw510_0)⟩ (fun hHeld => ?_); refine with_tabW impl_AltsOf.tab7 impl_AltsOf.bits7 (fun HT_ HW_ => ?_)
            generalize wr.drew = w51 at HO_9 HO_30 BK491 HB hx501_0 hx510_0 hHeld ⊢
            refine put 0 36 (bt 46 1) HT_ ?_
            refine put 1 37 (bt 46 3) HT_ ?_
            refine put 3 39 (bt 46 11) HT_ ?_
            refine tat5 2 38 (bt 46 15) HT_ HW_ hHeld ?_
            refine put 4 40 (bt 46 31) HT_ ?_
            refine tat5 5 41 (bt 46 63) HT_ HW_ hHeld ?_
            refine put 6 42 (bt 46 127) HT_ ?_
            refine put 7 43 (bt 46 255) HT_ ?_
            refine put 8 44 (bt 46 511) HT_ ?_
            refine put 9 45 (bt 46 1023) HT_ ?_
            refine put 10 46 (bt 46 2047) HT_ ?_
            refine put 11 47 (bt 46 4095) HT_ ?_
            refine put 12 48 (bt 46 8191) HT_ ?_
            refine put 13 49 (bt 46 16383) HT_ ?_
            refine tat5 14 50 (bt 46 32767) HT_ HW_ hHeld ?_
            refine put 15 51 (bt 46 65535) HT_ ?_
            refine put 16 52 (bt 46 131071) HT_ ?_
            refine put 17 53 (bt 46 262143) HT_ ?_
            refine put 18 54 (bt 46 524287) HT_ ?_
            refine put 19 55 (bt 46 1048575) HT_ ?_
            refine put 20 56 (bt 46 2097151) HT_ ?_
            refine tat5 21 57 (bt 46 4194303) HT_ HW_ hHeld ?_
            refine put 22 58 (bt 46 8388607) HT_ ?_
            refine on 23 59 (bt 46 16777215) HT_ (fun K hK => ?_)
            refine goes_ Try.func32 (by kernel_rfl) rfl #[.int .i64 (rd t497 x32_2), .int .i64 (l0_1.length : Int)] (by rfl) rfl rfl sl ?_
            with_reducible refine (impl_isIndex.calls (rd t497 x32_2) (l0_1.length : Int) true _ A40.out).mono ?_
            rintro e w' ⟨rfl, ⟨nd, rfl⟩⟩
            refine ⟨_, rfl, ?_⟩
            refine hK.out _ _ ⟨bc0 BK491, bc1 BK491, bc2 BK491, (hb_ ⟨sb⟩ hw501_0), (hb_ ⟨sb⟩ hw510_0)⟩ (fun hHeld => ?_)
            clear hK K
            refine nm 59 ?_
            refine put 24 60 (bt 46 33554431) HT_ ?_
            refine put 25 61 (bt 46 67108863) HT_ ?_
            refine put 26 62 (bt 46 134217727) HT_ ?_
            refine put 28 64 (bt 46 402653183) HT_ ?_
            refine tat5 27 63 (bt 46 536870911) HT_ HW_ hHeld ?_
            refine put 29 65 (bt 46 1073741823) HT_ ?_
            refine tat5 30 66 (bt 46 2147483647) HT_ HW_ hHeld ?_
            refine put 31 67 (bt 46 4294967295) HT_ ?_
            refine put 32 68 (bt 46 8589934591) HT_ ?_
            refine put 33 69 (bt 46 17179869183) HT_ ?_
            refine pn 34 70 (bt 46 34359738367) HT_ ?_
            refine pn 35 71 (bt 46 68719476735) HT_ ?_
            refine pn 36 72 (bt 46 137438953471) HT_ ?_
            refine pn 37 73 (bt 46 274877906943) HT_ ?_
            refine pn 38 74 (bt 46 549755813887) HT_ ?_
            refine pn 39 75 (bt 46 1099511627775) HT_ ?_
            refine pn 40 76 (bt 46 2199023255551) HT_ ?_
            refine pn 41 77 (bt 46 4398046511103) HT_ ?_
            refine pn 42 78 (bt 46 8796093022207) HT_ ?_
            refine pn 43 79 (bt 46 17592186044415) HT_ ?_
            refine pn 44 80 (bt 46 35184372088831) HT_ ?_
            refine put 45 81 (bt 46 70368744177663) HT_ ?_
            refine done_ (done_of HT_.out (by kernel_rfl)) ?_
            try go_wp2
            go_roundg k2
            case measure => have := HJ4.out; have := HK2.out; omega
            case rel => exact ⟨(x9_2), (wrap64 (x32_2 + 1)), sc, H', ⟨a12_0⟩, ⟨sr HO_9⟩, ⟨sr HO_30⟩, ⟨sk BK491⟩, ⟨sbw⟩⟩
          ·replace H := im H
           have H' := am H
           clear H
           have p500 : 0 ≤ (x32_2 : Int) := sa
           have q500 : x32_2 < (t497.length : Int) := sa
           obtain ⟨ad500, e500, hx500_0⟩ := Kd.at_int (Kd.R_reads' HO_30.out).2.2 x32_2 p500 q500
           cases e500
           replace p500 := eq_true p500
           replace q500 := eq_true q500
           try go_wp2
           replace HO_9 := am (Kd.R_drew HO_9.out)
           replace HO_30 := am (Kd.R_drew HO_30.out)
           replace BK491 := am (blk_drew BK491.out)
           replace HB := am (below_drew1 HB.out)
           obtain ⟨p501, q501, ad501, e501, hw501_0, hx501_0⟩ := at_i HR0_2 HB a3
           cases e501
           refine start_ (n := 46) (S := fun w' => w'.cell? ⟨gb491, 0, none⟩ = some (.int .i64 a0_0) ∧ w'.cell? ⟨gb491, 1, none⟩ = some (.slice A0_1 l0_1.length c0_1) ∧ w'.cell? ⟨gb491, 2, none⟩ = some (.slice (some ad501) l0_2.length c0_2) ∧ w'.cell? (ad501.add (a3).toNat) = some (.int .i64 (rd l0_2 a3))) (ds := []) #[false, false, false, false, false, false, false, false, false, false, false, false, false, false, false, false, false, false, false, false, false, false, false, false, false, false, false, false, false, false, false, false, false, false, false, false, false, false, false, false, false, false, false, false, false, false] (by kernel_rfl) rfl rfl ⟨bc0 BK491, bc1 BK491, bc2 BK491, (hb_ HB hw501_0)⟩ (fun hHeld => ?_); refine with_tabW impl_AltsOf.tab7 impl_AltsOf.bits7 (fun HT_ HW_ => ?_)
           generalize wr.drew = w52 at HO_9 HO_30 BK491 HB hx501_0 hHeld ⊢
           refine put 0 36 (bt 46 1) HT_ ?_
           refine put 1 37 (bt 46 3) HT_ ?_
           refine put 3 39 (bt 46 11) HT_ ?_
           refine tat4 2 38 (bt 46 15) HT_ HW_ hHeld ?_
           refine put 4 40 (bt 46 31) HT_ ?_
           refine tat4 5 41 (bt 46 63) HT_ HW_ hHeld ?_
           refine put 6 42 (bt 46 127) HT_ ?_
           refine put 7 43 (bt 46 255) HT_ ?_
           refine put 8 44 (bt 46 511) HT_ ?_
           refine put 9 45 (bt 46 1023) HT_ ?_
           refine put 10 46 (bt 46 2047) HT_ ?_
           refine put 11 47 (bt 46 4095) HT_ ?_
           refine put 12 48 (bt 46 8191) HT_ ?_
           refine put 13 49 (bt 46 16383) HT_ ?_
           refine tat4 14 50 (bt 46 32767) HT_ HW_ hHeld ?_
           refine put 15 51 (bt 46 65535) HT_ ?_
           refine put 16 52 (bt 46 131071) HT_ ?_
           refine put 17 53 (bt 46 262143) HT_ ?_
           refine put 18 54 (bt 46 524287) HT_ ?_
           refine put 19 55 (bt 46 1048575) HT_ ?_
           refine put 20 56 (bt 46 2097151) HT_ ?_
           refine tat4 21 57 (bt 46 4194303) HT_ HW_ hHeld ?_
           refine put 22 58 (bt 46 8388607) HT_ ?_
           refine on 23 59 (bt 46 16777215) HT_ (fun K hK => ?_)
           refine goes_ Try.func32 (by kernel_rfl) rfl #[.int .i64 (rd t497 x32_2), .int .i64 (l0_1.length : Int)] (by rfl) rfl rfl sl ?_
           with_reducible refine (impl_isIndex.calls (rd t497 x32_2) (l0_1.length : Int) false _ A40.out).mono ?_
           rintro e w' ⟨rfl, ⟨nd, rfl⟩⟩
           refine ⟨_, rfl, ?_⟩
           refine hK.out _ _ ⟨bc0 BK491, bc1 BK491, bc2 BK491, (hb_ ⟨sb⟩ hw501_0)⟩ (fun hHeld => ?_)
           clear hK K
           refine nm 59 ?_
           refine put 24 60 (bt 46 33554431) HT_ ?_
           refine put 25 61 (bt 46 67108863) HT_ ?_
           refine pn 26 62 (bt 46 134217727) HT_ ?_
           refine pn 27 63 (bt 46 268435455) HT_ ?_
           refine pn 28 64 (bt 46 536870911) HT_ ?_
           refine pn 29 65 (bt 46 1073741823) HT_ ?_
           refine pn 30 66 (bt 46 2147483647) HT_ ?_
           refine pn 31 67 (bt 46 4294967295) HT_ ?_
           refine put 32 68 (bt 46 8589934591) HT_ ?_
           refine put 33 69 (bt 46 17179869183) HT_ ?_
           refine pn 34 70 (bt 46 34359738367) HT_ ?_
           refine pn 35 71 (bt 46 68719476735) HT_ ?_
           refine pn 36 72 (bt 46 137438953471) HT_ ?_
           refine pn 37 73 (bt 46 274877906943) HT_ ?_
           refine pn 38 74 (bt 46 549755813887) HT_ ?_
           refine pn 39 75 (bt 46 1099511627775) HT_ ?_
           refine pn 40 76 (bt 46 2199023255551) HT_ ?_
           refine pn 41 77 (bt 46 4398046511103) HT_ ?_
           refine pn 42 78 (bt 46 8796093022207) HT_ ?_
           refine pn 43 79 (bt 46 17592186044415) HT_ ?_
           refine pn 44 80 (bt 46 35184372088831) HT_ ?_
           refine put 45 81 (bt 46 70368744177663) HT_ ?_
           refine done_ (done_of HT_.out (by kernel_rfl)) ?_
           try go_wp2
           go_roundg k2
           case measure => have := HJ4.out; have := HK2.out; omega
           case rel => exact ⟨(x9_2), (wrap64 (x32_2 + 1)), sc, H', ⟨a12_0⟩, ⟨sr HO_9⟩, ⟨sr HO_30⟩, ⟨sk BK491⟩, ⟨sbw⟩⟩
         ·have H' := am H
          clear H
          have p500 : 0 ≤ (x32_2 : Int) := sa
          have q500 : x32_2 < (t497.length : Int) := sa
          obtain ⟨ad500, e500, hx500_0⟩ := Kd.at_int (Kd.R_reads' HO_30.out).2.2 x32_2 p500 q500
          cases e500
          replace p500 := eq_true p500
          replace q500 := eq_true q500
          try go_wp2
          replace HO_9 := am (Kd.R_drew HO_9.out)
          replace HO_30 := am (Kd.R_drew HO_30.out)
          replace BK491 := am (blk_drew BK491.out)
          replace HB := am (below_drew1 HB.out)
          obtain ⟨p501, q501, ad501, e501, hw501_0, hx501_0⟩ := at_i HR0_2 HB a3
          cases e501
          refine start_ (n := 46) (S := fun w' => w'.cell? ⟨gb491, 0, none⟩ = some (.int .i64 a0_0) ∧ w'.cell? ⟨gb491, 1, none⟩ = some (.slice A0_1 l0_1.length c0_1) ∧ w'.cell? ⟨gb491, 2, none⟩ = some (.slice (some ad501) l0_2.length c0_2) ∧ w'.cell? (ad501.add (a3).toNat) = some (.int .i64 (rd l0_2 a3))) (ds := []) #[false, false, false, false, false, false, false, false, false, false, false, false, false, false, false, false, false, false, false, false, false, false, false, false, false, false, false, false, false, false, false, false, false, false, false, false, false, false, false, false, false, false, false, false, false, false] (by kernel_rfl) rfl rfl ⟨bc0 BK491, bc1 BK491, bc2 BK491, (hb_ HB hw501_0)⟩ (fun hHeld => ?_); refine with_tabW impl_AltsOf.tab7 impl_AltsOf.bits7 (fun HT_ HW_ => ?_)
          generalize wr.drew = w53 at HO_9 HO_30 BK491 HB hx501_0 hHeld ⊢
          refine put 0 36 (bt 46 1) HT_ ?_
          refine put 1 37 (bt 46 3) HT_ ?_
          refine put 3 39 (bt 46 11) HT_ ?_
          refine tat4 2 38 (bt 46 15) HT_ HW_ hHeld ?_
          refine put 4 40 (bt 46 31) HT_ ?_
          refine tat4 5 41 (bt 46 63) HT_ HW_ hHeld ?_
          refine put 6 42 (bt 46 127) HT_ ?_
          refine put 7 43 (bt 46 255) HT_ ?_
          refine put 8 44 (bt 46 511) HT_ ?_
          refine put 9 45 (bt 46 1023) HT_ ?_
          refine put 10 46 (bt 46 2047) HT_ ?_
          refine put 11 47 (bt 46 4095) HT_ ?_
          refine put 12 48 (bt 46 8191) HT_ ?_
          refine put 13 49 (bt 46 16383) HT_ ?_
          refine tat4 14 50 (bt 46 32767) HT_ HW_ hHeld ?_
          refine put 15 51 (bt 46 65535) HT_ ?_
          refine put 16 52 (bt 46 131071) HT_ ?_
          refine put 17 53 (bt 46 262143) HT_ ?_
          refine put 18 54 (bt 46 524287) HT_ ?_
          refine pn 19 55 (bt 46 1048575) HT_ ?_
          refine pn 20 56 (bt 46 2097151) HT_ ?_
          refine pn 21 57 (bt 46 4194303) HT_ ?_
          refine pn 22 58 (bt 46 8388607) HT_ ?_
          refine pn 23 59 (bt 46 16777215) HT_ ?_
          refine put 24 60 (bt 46 33554431) HT_ ?_
          refine put 25 61 (bt 46 67108863) HT_ ?_
          refine pn 26 62 (bt 46 134217727) HT_ ?_
          refine pn 27 63 (bt 46 268435455) HT_ ?_
          refine pn 28 64 (bt 46 536870911) HT_ ?_
          refine pn 29 65 (bt 46 1073741823) HT_ ?_
          refine pn 30 66 (bt 46 2147483647) HT_ ?_
          refine pn 31 67 (bt 46 4294967295) HT_ ?_
          refine put 32 68 (bt 46 8589934591) HT_ ?_
          refine put 33 69 (bt 46 17179869183) HT_ ?_
          refine pn 34 70 (bt 46 34359738367) HT_ ?_
          refine pn 35 71 (bt 46 68719476735) HT_ ?_
          refine pn 36 72 (bt 46 137438953471) HT_ ?_
          refine pn 37 73 (bt 46 274877906943) HT_ ?_
          refine pn 38 74 (bt 46 549755813887) HT_ ?_
          refine pn 39 75 (bt 46 1099511627775) HT_ ?_
          refine pn 40 76 (bt 46 2199023255551) HT_ ?_
          refine pn 41 77 (bt 46 4398046511103) HT_ ?_
          refine pn 42 78 (bt 46 8796093022207) HT_ ?_
          refine pn 43 79 (bt 46 17592186044415) HT_ ?_
          refine pn 44 80 (bt 46 35184372088831) HT_ ?_
          refine put 45 81 (bt 46 70368744177663) HT_ ?_
          refine done_ (done_of HT_.out (by kernel_rfl)) ?_
          try go_wp2
          go_roundg k2
          case measure => have := HJ4.out; have := HK2.out; omega
          case rel => exact ⟨(x9_2), (wrap64 (x32_2 + 1)), sc, H', ⟨a12_0⟩, ⟨sr HO_9⟩, ⟨sr HO_30⟩, ⟨sk BK491⟩, ⟨sbw⟩⟩
      ·obtain ⟨t516, A54, H⟩ := bnd H
       obtain rfl := Option.some.inj H
       obtain ⟨Ao55, co55, eo55⟩ := Kd.R_slice HO_9.out
       subst eo55
       go_wp2_with (first | ((with_reducible refine gc 34 rfl ?_); refine gL (some 89) Try.func34 #[.slice Ao55 x9_2.length co55, .func (.func 35) #[] #[.pointer (some ⟨gb491, 0, none⟩)]] ?_; (with_reducible refine (slices_SortStableFunc_int_int.calls gb491 a0_0 A0_1 c0_1 l0_1 (.slice A0_2 l0_2.length c0_2) (fun k_ => some k_ = (.slice Ao55 x9_2.length co55 : Value).ownBlock) (.slice Ao55 x9_2.length co55) x9_2 0 t516 w _ ?side1 HR0_1.out GE491.out ?sideb ?side2 A54.out).mono ?_); (case sideb => (with_reducible repeat (first | refine blk_drewN ?_ _ | refine blk_drew ?_ | refine blk_alloc ?_ _)); exact BK491.out); (case side1 => repeat (first | (with_reducible first | exact HB.out | apply below_alloc | apply pw_below_drewN | apply below_drew1 | refine below_set ?_ GE491.out) | exact HB.out)); (case side2 => exact Kd.R_tight rfl HO_9.out); rintro e w56 ⟨rfl, hy0, hb, hkp⟩; refine ⟨_, rfl, ?_⟩; replace HO_30 := am (Kd.R_mono (ok' := fun k_ => some k_ ≠ (.slice Ao55 x9_2.length co55 : Value).ownBlock) (Kd.R_keptB (HO_30.out) hkp (fun k_ hk_ hs_ => (hk_) hs_)) (fun k_ hk_ => hk_.1)); replace BK491 := am (blk_kept (sk BK491) hkp (fun hs_ => (fun e_ => (Kd.R_ne HO_9.out BK491.out (by decide)) e_) hs_)); replace HO_9 := am (Kd.R_reok rfl hy0 (fun k_ e_ => HO_9.out.1 k_ e_)); replace HB := am hb; (try clear hb); (try clear hkp); (try clear hy0)))
       go_ret
       exact ⟨_, se, by exact rm HO_9 (fun _ hk => trivial), sbw⟩

end Go.Proofs.Ytohbccekdmdmbaa.QFnExactRepairHop
