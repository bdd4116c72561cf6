/- Printed by a program of the session. Conditions: none. (squeezed). -/
import Derived.Test.YtiihaabhjphaeaaVFnNoLoopsQFnNoLoopsx13
namespace Go.Proofs.Ytiihaabhjphaeaa.QFnNoLoops
set_option maxHeartbeats 8000000
set_option maxRecDepth 100000
open Go.RowKit Go.Proofs.YtiihaabhjphaeaaW.PrintWords Go.Proofs.YtiihaabhjphaeaaW.PrintLast Go.Proofs.YtiihaabhjphaeaaW.PrintMore Go.Proofs.Ytiihaabhjphaeaa.Open Go.Proofs.Ytiihaabhjphaeaa.Sq
attribute [local go_sem] max2_int min2_int max_two min_two max_three min_three max_four min_four   -- for this text's walks alone
attribute [local go_sem] isSome_set
set_option linter.unusedVariables false
set_option linter.unusedSimpArgs false

theorem a14_7 {P : Prop} (h : P := by rw [hg]; exact (keep_size (w := w) (g := g) (row := none) (by exact kp HK))) : P := h
theorem a14_6 {P : Prop} (h : P := by repeat (first | (with_reducible first | exact HB.out | apply below_alloc | apply pw_below_drewN | apply below_drew1 | refine below_set ?_ (IsS152.ge HI496.out) | refine below_set ?_ GE492.out | refine below_set ?_ GE505.out) | exact HB.out)) : P := h
theorem a14_5 {P : Prop} (h : P := by repeat (first | (with_reducible first | exact HI496.out | apply IsS152.alloc | apply IsS152.drewN | apply IsS152.drew | apply IsS152.set_1 | apply IsS152.set_2 | refine IsS152.far ?_ NB496_492.out _) | exact HI496.out)) : P := h
theorem a14_4 {P : Prop} (h : P := by repeat (first | (with_reducible first | exact HB.out | apply below_alloc | apply pw_below_drewN | apply below_drew1 | refine below_set ?_ (IsS152.ge HI496.out) | refine below_set ?_ GE492.out) | exact HB.out)) : P := h
theorem a14_3 {P : Prop} (h : P := by repeat (first | (with_reducible first | exact HI496.out | apply IsS152.alloc | apply IsS152.drewN | apply IsS152.drew | apply IsS152.set_1 | apply IsS152.set_2 | refine IsS152.far ?_ NB496_492.out _ | refine IsS152.far ?_ NB496_505.out _) | exact HI496.out)) : P := h
theorem a14_2 {P : Prop} (h : P := by repeat (first | (with_reducible first | exact HB.out | apply below_alloc | apply pw_below_drewN | apply below_drew1 | refine below_set ?_ (IsS152.ge HI0.out) | refine below_set ?_ GE468.out) | exact HB.out)) : P := h
theorem a14_1 {P : Prop} (h : P := by repeat (first | (with_reducible first | exact HK.out | apply KeepBut.set_ | apply keep_drewN | apply keep_drew | apply keep_alloc | refine keep_far ?_ GW468.out _) | exact HK.out)) : P := h
theorem a14_0 {P : Prop} (h : P := by repeat (first | (with_reducible first | exact HI0.out | apply IsS152.alloc | apply IsS152.drewN | apply IsS152.drew | apply IsS152.set_1 | apply IsS152.set_2 | refine IsS152.far ?_ NB0_468.out _) | exact HI0.out)) : P := h
def spec_l19Offsets.l0 : Nat → List Int → Int → List Int → Int → Int → Int → Int → Int → List (S105) → Option (List Int × Int × Int)
  | 0, _, _, _, _, _, _, _, _, _ => none
  | k + 1, x5, x6, x1000, x1001, x1002, x469000, x469001, x469002, x469003 => if x6 < x469000 then ((spec_Min.f 5 x469002).bind fun t472 => ((spec_Max.f 0 t472).bind fun t473 => ((spec_l1Below.f x1000 x1001 x1002 (wrap64 ((wrap64 (2 * t473)) + 1))).bind fun bt474 => ((spec_Min.f 5 x469002).bind fun t477 => ((spec_Max.f 0 t477).bind fun t478 => (if x5.length < 17592186044416 then (spec_l19Offsets.l0 k (x5 ++ [wrap64 (bt474.1 - t478)]) (wrap64 (x6 + 1)) x1000 bt474.2.1 bt474.2.2 x469000 x469001 x469002 x469003) else (none))))))) else (if (x5.length : Int) > 0 then ((spec_l1Once.f x1000 x1001 x1002 12).bind fun bt482 => (if bt482.1 = true then ((spec_l1Int.f x1000 bt482.2.1 bt482.2.2 (([(-6), 6, 9223372036854775807] : List Int))).bind fun bt488 => (if 0 < (x5.length : Int) then (some ((x5.set (0 : Int).toNat bt488.1), bt488.2.1, bt488.2.2)) else (none))) else (some (x5, bt482.2.1, bt482.2.2)))) else (some (x5, x1001, x1002)))
def spec_l19Offsets.f (k : Nat) (s0_0 : List Int) (s0_1 : Int) (s0_2 : Int) (a1_0 : Int) (a1_1 : Int) (a1_2 : Int) (l1_3 : List (S105)) : Option (List Int × Int × Int) := spec_l19Offsets.l0 k (([] : List Int)) 0 s0_0 s0_1 s0_2 a1_0 a1_1 a1_2 l1_3
theorem spec_l19Offsets.mono_l : ∀ k, (∀ y0 y1 y2 y3 y4 y5 y6 y7 y8, LeO (spec_l19Offsets.l0 k y0 y1 y2 y3 y4 y5 y6 y7 y8) (spec_l19Offsets.l0 (k + 1) y0 y1 y2 y3 y4 y5 y6 y7 y8))
  | 0 => fun _ _ _ _ _ _ _ _ _ r h => by simp [spec_l19Offsets.l0] at h
  | k + 1 => by
    have ih0 := spec_l19Offsets.mono_l k
    · intro y0 y1 y2 y3 y4 y5 y6 y7 y8
      unfold spec_l19Offsets.l0
      exact mo
theorem spec_l19Offsets.mono : ∀ a0 a1 a2 a3 a4 a5 a6 k, LeO (spec_l19Offsets.f k a0 a1 a2 a3 a4 a5 a6) (spec_l19Offsets.f (k + 1) a0 a1 a2 a3 a4 a5 a6) := by
  intro a0 a1 a2 a3 a4 a5 a6 k
  have ih0 := spec_l19Offsets.mono_l k
  unfold spec_l19Offsets.f
  exact mo
def spec_l19Offsets.T5 : Bool × List (List Nat × List Nat) := (true, [([], []), ([], []), ([], []), ([2], [2]), ([3], [3]), ([4, 4], [4]), ([5], [5]), ([6], [6]), ([1, 7, 5], [1, 7]), ([], []), ([9], [9]), ([10, 8], [10]), ([11, 11], [11]), ([8, 12], [8, 12]), ([13], [13]), ([0, 14, 12], [0, 14]), ([15, 15, 0, 1, 2, 3, 4, 5, 6, 7, 8, 9, 10, 11, 12, 13, 14, 15], [0, 15])])
def spec_l19Offsets.B5 : List Nat := [0, 0, 0, 4, 12, 28, 60, 124, 254, 0, 512, 2046, 4094, 8190, 16382, 32767, 65535]
theorem spec_l19Offsets.tab5 : rtab .any (opsOf Try.f82 5) = spec_l19Offsets.T5 := by kernel_rfl
theorem spec_l19Offsets.bits5 : waitsOk spec_l19Offsets.T5.2 spec_l19Offsets.B5 = true := by kernel_rfl
theorem spec_l19Offsets.calls (k : Nat) (g : Nat) (s0_0 : List Int) (s0_1 : Int) (s0_2 : Int) (a1_0 : Int) (a1_1 : Int) (a1_2 : Int) (A1_3 : Option Addr) (c1_3 : Nat) (l1_3 : List (S105)) (r1 : List Int) (r2 : Int) (r3 : Int) (w0 w : World) (hI : IsS152 w0 w g s0_0 s0_1 s0_2) (hB : Below w0.heap.size w0 w) (hr1_3 : ∀ W_, KeepBut w W_ g none → Kd.C k105 W_ A1_3 l1_3.length l1_3) (hc1_3 : l1_3.length ≤ c1_3) (h : spec_l19Offsets.f k s0_0 s0_1 s0_2 a1_0 a1_1 a1_2 l1_3 = some (r1, r2, r3)) :
    Calls Try.prog 82 #[.pointer (some ⟨g, 0, none⟩), .agg #[.int .i64 a1_0, .int .i64 a1_1, .int .i64 a1_2, .slice A1_3 l1_3.length c1_3]] w fun e w' => ∃ v0_ : Value, e = .returned (v0_) ∧ Kd.R (Kd.int .i64) 3 w' w.heap.size (fun _ => True) v0_ r1 ∧ IsS152 w0 w' g s0_0 r2 r3 ∧ Below w0.heap.size w0 w' ∧ KeepBut w w' g none := by
 have hu31 := Try.underlying31
 have HR1_3 := am hr1_3
 have HC1_3 := am hc1_3
 clear hr1_3 hc1_3
 have HI0 := am hI
 have HK := am (KeepBut.refl w g none)
 have HL := am hB.size
 clear hI
 have HW0 := am hB.size
 have HB := am hB
 clear hB
 have H := h; unfold spec_l19Offsets.f at H
 clear h
 obtain ⟨y469, hy469⟩ : ∃ y_ : List Int, y_ = (([] : List Int)) := ⟨_, rfl⟩
 replace H : (spec_l19Offsets.l0 k y469 0 s0_0 s0_1 s0_2 a1_0 a1_1 a1_2 l1_3) = some (r1, r2, r3) := ry hy469 H
 have Ny469 := am hy469
 clear hy469
 have H' := am H
 clear H
 go_enter Try.func82, Try.ntmps82
 go_wp2_with (first | ((with_reducible refine gd 3 rfl ?_); refine bx 3 #[.int .i64 a1_0, .int .i64 a1_1, .int .i64 a1_2, .slice A1_3 l1_3.length c1_3] 31 ?_; intro gb468 hg w3 hbox hb; replace HB := am (below_step (by exact sj152 HB HI0) hb); have BK468 := am hbox; have GW468 := am ((a14_7 : w.heap.size ≤ gb468)); have GE468 := am ((Nat.le_trans HW0.out (a14_7 : w.heap.size ≤ gb468) : w0.heap.size ≤ gb468)); replace HK := am (KeepBut.trans (by exact kp HK) (KeepBut.of_below hb g none) (.inl rfl)); have NB0_468 := am ((by rw [hg]; exact Nat.ne_of_lt (IsS152.lt (show IsS152 w0 _ g s0_0 s0_1 s0_2 from by exact si152 HI0)) : g ≠ gb468)); have NB468_0 := am ((by rw [hg]; exact Nat.ne_of_gt (IsS152.lt (show IsS152 w0 _ g s0_0 s0_1 s0_2 from by exact si152 HI0)) : gb468 ≠ g)); replace HI0 := am (IsS152.below (by exact si152 HI0) hb); clear hb hbox hg) | ((with_reducible refine gd 7 rfl ?_); refine Kd.R_lit (Kd.int .i64) _ 3 ?hg (N := 7) ?hd (xs := ([] : List Int)) (inner := []) (ok := fun _ => True) (okp := fun _ => True) ?hr ?hp (fun _ hk => hk) trivial (Below.refl _ _) (Nat.le_refl _) (by simp) ?_; (case hd => rfl); (case hg => rfl); (case hr => first | (go_simp; done) | (go_simp; rfl)); (case hp => exact (Reps.none _ _)); intro v470 w4 ho5 hb hg_ hnew_; clear hg_ hnew_; (first | rw [← Ny469.out] at ho5 | (simp only [Int.reduceToNat] at ho5; rw [← Ny469.out] at ho5)); have HO471 := am (Kd.R_lower ho5 (keep_size (w := w) (g := g) (row := none) a14_1)); replace BK468 := bb BK468 hb; replace HK := am (KeepBut.trans a14_1 (KeepBut.of_below hb g none) (.inl rfl)); replace HB := am (below_step a14_2 hb); replace HI0 := am (IsS152.below a14_0 hb); clear hb ho5))
 go_loopg [5, 6] k (fun kq v5 v6 w' => ∃ (x5_1 : List Int) (x6_1 : Int) (x1001_1 : Int) (x1002_1 : Int), v6 = .int .i64 x6_1 ∧ Aside0 (spec_l19Offsets.l0 kq x5_1 x6_1 s0_0 x1001_1 x1002_1 a1_0 a1_1 a1_2 l1_3 = some (r1, r2, r3)) ∧ Aside0 (kq ≤ k) ∧ Aside0 (Kd.R (Kd.int .i64) 3 w' w.heap.size (fun _ => True) v5 x5_1) ∧ Aside0 (w'.heap[gb468]? = some (.cells #[.int .i64 a1_0, .int .i64 a1_1, .int .i64 a1_2, (.slice A1_3 l1_3.length c1_3)] 31 (0, 0))) ∧ Aside0 (IsS152 w0 w' g s0_0 x1001_1 x1002_1) ∧ Aside0 (KeepBut w w' g none) ∧ Aside0 (Below w0.heap.size w0 w'))
 case atStart => exact ⟨(y469), (0), (s0_1), (s0_2), sc, H', kk0, ⟨sr HO471⟩, ⟨sk BK468⟩, ⟨a14_0⟩, ⟨a14_1⟩, ⟨a14_2⟩⟩
 case round =>
  clear H'
  obtain ⟨x5_1, x6_1, x1001_1, x1002_1, rfl, HA, HK1, HO_5, BK468, HI0, HK, HB⟩ := hrel
  cases gk with
  | zero => exact absurd HA.out (by simp [spec_l19Offsets.l0])
  | succ k1 =>
   have H := HA.out
   clear HA
   simp only [spec_l19Offsets.l0] at H
   obtain ⟨-, c6b0, H⟩ | ⟨-, c6b0, H⟩ := ic_ H
   ·obtain ⟨t472, A7, H⟩ := bnd H
    obtain ⟨t473, A8, H⟩ := bnd H
    obtain ⟨⟨t474, t475, t476⟩, A9, H⟩ := bnd H
    try dsimp only at H
    obtain ⟨t477, A10, H⟩ := bnd H
    obtain ⟨t478, A11, H⟩ := bnd H
    obtain ⟨LMc12, H⟩ := il_ H
    obtain ⟨y479, hy479⟩ : ∃ y_ : List Int, y_ = (x5_1 ++ [wrap64 (t474 - t478)]) := ⟨_, rfl⟩
    replace H : (spec_l19Offsets.l0 k1 y479 (wrap64 (x6_1 + 1)) s0_0 t475 t476 a1_0 a1_1 a1_2 l1_3) = some (r1, r2, r3) := ry hy479 H
    have Ny479 := am hy479
    clear hy479
    have H' := am H
    clear H
    have hnb13 := NB468_0.out
    have hnc13 := NB0_468.out
    obtain ⟨hcz14_0, hcz14_1, hcz14_2, hcz14_3, hfz14_0, hfz14_1, hfz14_2, hfz14_3⟩ := cc4 BK468
    try go_wp2
    replace HO_5 := am (Kd.R_drew HO_5.out)
    replace BK468 := am (blk_drew BK468.out)
    replace HI0 := am (IsS152.drew HI0.out)
    replace HK := am (keep_drew HK.out)
    replace HB := am (below_drew1 HB.out)
    refine start_ (n := 17) (S := fun w' => w'.cell? ⟨gb468, 0, none⟩ = some (.int .i64 a1_0) ∧ w'.cell? ⟨gb468, 1, none⟩ = some (.int .i64 a1_1) ∧ w'.cell? ⟨gb468, 2, none⟩ = some (.int .i64 a1_2) ∧ w'.cell? ⟨gb468, 3, none⟩ = some (.slice A1_3 l1_3.length c1_3)) (ds := []) #[false, false, false, false, false, false, false, false, false, false, false, false, false, false, false, false, false] (by kernel_rfl) rfl rfl ⟨bc0 BK468, bc1 BK468, bc2 BK468, bc3 BK468⟩ (fun hHeld => ?_); refine with_tabW spec_l19Offsets.tab5 spec_l19Offsets.bits5 (fun HT_ HW_ => ?_)
    generalize wr.drew = w15 at HO_5 BK468 HI0 HK HB hHeld ⊢
    refine put 0 14 (bt 17 1) HT_ ?_
    refine put 1 15 (bt 17 3) HT_ ?_
    refine put 2 16 (bt 17 7) HT_ ?_
    refine put 9 23 (bt 17 519) HT_ ?_
    refine tat4 3 17 (bt 17 527) HT_ HW_ hHeld ?_
    refine tat4 10 24 (bt 17 1551) HT_ HW_ hHeld ?_
    refine on 4 18 (bt 17 1567) HT_ (fun K hK => ?_)
    refine goes_ Try.func139 (by kernel_rfl) rfl #[.int .i64 5, .int .i64 a1_2] (by rfl) rfl rfl sl ?_
    with_reducible refine (spec_Min.calls 5 a1_2 t472 _ A7.out).mono ?_
    rintro e w' ⟨rfl, ⟨nd, rfl⟩⟩
    refine ⟨_, rfl, ?_⟩
    refine hK.out _ _ ⟨bc0 BK468, bc1 BK468, bc2 BK468, bc3 BK468⟩ (fun hHeld => ?_)
    clear hK K
    refine nm 18 ?_
    refine on 5 19 (bt 17 1599) HT_ (fun K hK => ?_)
    refine goes_ Try.func138 (by kernel_rfl) rfl #[.int .i64 0, .int .i64 t472] (by rfl) rfl rfl sl ?_
    with_reducible refine (spec_Max.calls 0 t472 t473 _ A8.out).mono ?_
    rintro e w' ⟨rfl, ⟨nd, rfl⟩⟩
    refine ⟨_, rfl, ?_⟩
    refine hK.out _ _ ⟨bc0 BK468, bc1 BK468, bc2 BK468, bc3 BK468⟩ (fun hHeld => ?_)
    clear hK K
    refine nm 19 ?_
    refine put 6 20 (bt 17 1663) HT_ ?_
    refine put 7 21 (bt 17 1791) HT_ ?_
    refine on 8 22 (bt 17 2047) HT_ (fun K hK => ?_)
    refine goes_ Try.func76 (by kernel_rfl) rfl #[.pointer (some ⟨g, 0, none⟩), .int .i64 (wrap64 ((wrap64 (2 * t473)) + 1))] (by rfl) rfl rfl sl ?_
    with_reducible refine (spec_l1Below.calls g s0_0 x1001_1 x1002_1 (wrap64 ((wrap64 (2 * t473)) + 1)) t474 t475 t476 w0 _ ?side1 ?side2 A9.out).mono ?_
    (case side1 => repeat (first | (with_reducible first | exact HI0.out | apply IsS152.alloc | apply IsS152.drewN | apply IsS152.drew | apply IsS152.set_1 | apply IsS152.set_2 | refine IsS152.far ?_ NB0_468.out _) | exact HI0.out))
    (case side2 => repeat (first | (with_reducible first | exact HB.out | apply below_alloc | apply pw_below_drewN | apply below_drew1 | refine below_set ?_ (IsS152.ge HI0.out) | refine below_set ?_ GE468.out) | exact HB.out))
    rintro e w16 ⟨rfl, hi, hb, hk⟩
    refine ⟨_, rfl, ?_⟩
    replace HO_5 := am (Kd.R_mono (Kd.R_keep (IsS152.apart (show IsS152 w0 _ g s0_0 x1001_1 x1002_1 from a14_0) (sr HO_5) (by decide)) hk (fun _ h => h.2)) (fun _ h => h.1))
    replace BK468 := am (KeepBut.blk hk (g' := gb468) (o := .cells #[.int .i64 a1_0, .int .i64 a1_1, .int .i64 a1_2, .slice A1_3 l1_3.length c1_3] 31 (0, 0)) (sk BK468) NB468_0.out (by simp))
    replace HK := am (KeepBut.trans a14_1 hk (.inl rfl))
    replace HB := am hb
    replace HI0 := am hi
    (try clear hb)
    (try clear hb2)
    (try clear hk)
    (try clear hi)
    refine hK.out _ _ ⟨bc0 BK468, bc1 BK468, bc2 BK468, bc3 BK468⟩ (fun hHeld => ?_)
    clear hK K
    refine nm 22 ?_
    refine on 11 25 (bt 17 4095) HT_ (fun K hK => ?_)
    refine goes_ Try.func139 (by kernel_rfl) rfl #[.int .i64 5, .int .i64 a1_2] (by rfl) rfl rfl sl ?_
    with_reducible refine (spec_Min.calls 5 a1_2 t477 _ A10.out).mono ?_
    rintro e w' ⟨rfl, ⟨nd, rfl⟩⟩
    refine ⟨_, rfl, ?_⟩
    refine hK.out _ _ ⟨bc0 BK468, bc1 BK468, bc2 BK468, bc3 BK468⟩ (fun hHeld => ?_)
    clear hK K
    refine nm 25 ?_
    refine on 12 26 (bt 17 8191) HT_ (fun K hK => ?_)
    refine goes_ Try.func138 (by kernel_rfl) rfl #[.int .i64 0, .int .i64 t477] (by rfl) rfl rfl sl ?_
    with_reducible refine (spec_Max.calls 0 t477 t478 _ A11.out).mono ?_
    rintro e w' ⟨rfl, ⟨nd, rfl⟩⟩
    refine ⟨_, rfl, ?_⟩
    refine hK.out _ _ ⟨bc0 BK468, bc1 BK468, bc2 BK468, bc3 BK468⟩ (fun hHeld => ?_)
    clear hK K
    refine nm 26 ?_
    refine put 13 27 (bt 17 16383) HT_ ?_
    refine on 14 28 (bt 17 32767) HT_ (fun K hK => ?_)
    refine value_ (w1 := ?_) (v := ?_) (by rfl) rfl ?_ ?_
    rotate_left 2
    ·go_simp
     constructor
     ·rfl
     ·rfl
    refine hK.out _ _ ⟨(blk_cell (blk_alloc BK468.out _) 0).trans rfl, (blk_cell (blk_alloc BK468.out _) 1).trans rfl, (blk_cell (blk_alloc BK468.out _) 2).trans rfl, (blk_cell (blk_alloc BK468.out _) 3).trans rfl⟩ (fun hHeld => ?_)
    clear hK K
    refine nm 28 ?_
    refine on 15 29 (bt 17 65535) HT_ (fun K hK => ?_)
    refine Kd.R_append_step (Kd.int .i64) w.heap.size (by rfl) (.tmp 14) (.tmp 28) 28 3 (.int .i64 0) 8 rfl Try.underlying28 info3 rfl (by decide) (by omega) u5 x5_1 (wrap64 (t474 - t478)) [.int .i64 (wrap64 (t474 - t478))] (fun _ => True) (fun _ => False) rfl rfl ?aP (fun _ hk => hk.elim) ?aF ?aO (Below.refl _ _) ?aS ?aL ?_
    (case aP => exact rfl)
    (case aF => exact (fun _ _ => trivial))
    (case aO => exact (sr HO_5))
    (case aS => exact (keep_size (w := w) (g := g) (row := none) a14_1))
    (case aL => have := LMc12.out; omega)
    intro v480 w17 ho hb hg hat
    rw [← Ny479.out] at ho
    replace BK468 := am (blk_grown (g := gb468) (o := .cells #[.int .i64 a1_0, .int .i64 a1_1, .int .i64 a1_2, .slice A1_3 l1_3.length c1_3] 31 (0, 0)) (sk BK468) hg (Kd.R_ne HO_5.out BK468.out (by decide)))
    replace HB := am (below_weaken a14_2 HL.out hb)
    replace HI0 := am (IsS152.grown a14_0 hg (IsS152.own_ne HI0.out HO_5.out (by decide)))
    replace HK := am (KeepBut.trans a14_1 (KeepBut.of_grown hg g) (Kd.R_base2 HO_5.out))
    have HO481 := am ho
    clear HO_5 ho hb hg hat
    refine hK.out _ _ ⟨bc0 BK468, bc1 BK468, bc2 BK468, bc3 BK468⟩ (fun hHeld => ?_)
    clear hK K
    refine nm 29 ?_
    refine put 16 5 (bt 17 131071) HT_ ?_
    refine done_ (done_of HT_.out (by kernel_rfl)) ?_
    try go_wp2
    go_roundg k1
    case measure => have := HK1.out; omega
    case rel => exact ⟨(y479), (wrap64 (x6_1 + 1)), (t475), (t476), sc, H', kk1, ⟨sr HO481⟩, ⟨sk BK468⟩, ⟨a14_0⟩, ⟨a14_1⟩, ⟨a14_2⟩⟩
   ·obtain ⟨c18, c18b0, H⟩ | ⟨c18, c18b0, H⟩ := ic_ H
    ·have c18b1 : decide (0 < x5_1.length) = true := decide_eq_true (by omega)
     clear c18
     obtain ⟨⟨t482, t483, t484⟩, A19, H⟩ := bnd H
     try dsimp only at H
     obtain rfl | rfl := tt t482
     ·replace H := ip H
      obtain ⟨y485, hy485⟩ : ∃ y_ : List Int, y_ = (([(-6), 6, 9223372036854775807] : List Int)) := ⟨_, rfl⟩
      replace H : ((spec_l1Int.f s0_0 t483 t484 y485).bind fun bt488 => (if 0 < (x5_1.length : Int) then (some ((x5_1.set (0 : Int).toNat bt488.1), bt488.2.1, bt488.2.2)) else (none))) = some (r1, r2, r3) := ry hy485 H
      have Ny485 := am hy485
      clear hy485
      obtain ⟨⟨t488, t489, t490⟩, A21, H⟩ := bnd H
      try dsimp only at H
      obtain ⟨c22, H⟩ := ia_ H
      have c22b0 := decide_eq_true c22
      have c22b1 : decide (0 < x5_1.length) = true := decide_eq_true (by omega)
      clear c22
      obtain ⟨y491, hy491⟩ : ∃ y_ : List Int, y_ = (x5_1.set (0 : Int).toNat t488) := ⟨_, rfl⟩
      replace H : (some (y491, t489, t490)) = some (r1, r2, r3) := ry hy491 H
      have Ny491 := am hy491
      clear hy491
      simp only [Option.some.injEq, Prod.mk.injEq] at H
      obtain ⟨rfl, rfl, rfl⟩ := H
      have hnb24 := NB468_0.out
      have hnc24 := NB0_468.out
      obtain ⟨hcz25_0, hcz25_1, hcz25_2, hcz25_3, hfz25_0, hfz25_1, hfz25_2, hfz25_3⟩ := cc4 BK468
      obtain ⟨Ao26, co26, eo26⟩ := Kd.R_slice HO_5.out
      subst eo26
      go_wp2_with (first | (go_at_call 107; (with_reducible refine (spec_l1Once.calls g s0_0 x1001_1 x1002_1 12 true t483 t484 w0 _ ?side1 ?side2 A19.out).mono ?_); (case side1 => repeat (first | (with_reducible first | exact HI0.out | apply IsS152.alloc | apply IsS152.drewN | apply IsS152.drew | apply IsS152.set_1 | apply IsS152.set_2 | refine IsS152.far ?_ NB0_468.out _) | exact HI0.out)); (case side2 => repeat (first | (with_reducible first | exact HB.out | apply below_alloc | apply pw_below_drewN | apply below_drew1 | refine below_set ?_ (IsS152.ge HI0.out) | refine below_set ?_ GE468.out) | exact HB.out)); rintro e w27 ⟨rfl, hi, hb, hk⟩; replace HO_5 := am (Kd.R_mono (Kd.R_keep (IsS152.apart (show IsS152 w0 _ g s0_0 x1001_1 x1002_1 from a14_0) (sr HO_5) (by decide)) hk (fun _ h => h.2)) (fun _ h => h.1)); replace BK468 := am (KeepBut.blk hk (g' := gb468) (o := .cells #[.int .i64 a1_0, .int .i64 a1_1, .int .i64 a1_2, .slice A1_3 l1_3.length c1_3] 31 (0, 0)) (sk BK468) NB468_0.out (by simp)); replace HK := am (KeepBut.trans a14_1 hk (.inl rfl)); replace HB := am hb; replace HI0 := am hi; (try clear hb); (try clear hk); (try clear hi)) | ((with_reducible refine gd 39 rfl ?_); refine Kd.R_lit (Kd.int .i64) _ 3 ?hg (N := 39) ?hd (xs := ([(-6), 6, 9223372036854775807] : List Int)) (inner := [.int .i64 (-6), .int .i64 6, .int .i64 9223372036854775807]) (ok := fun _ => True) (okp := fun _ => True) ?hr ?hp (fun _ hk => hk) trivial (Below.refl _ _) (Nat.le_refl _) (by simp) ?_; (case hd => rfl); (case hg => rfl); (case hr => first | (go_simp; done) | (go_simp; rfl)); (case hp => exact (Reps.one (show Kd.M (Kd.int .i64) _ _ _ (-6) [.int .i64 (-6)] from rfl) (Reps.one (show Kd.M (Kd.int .i64) _ _ _ 6 [.int .i64 6] from rfl) (Reps.one (show Kd.M (Kd.int .i64) _ _ _ 9223372036854775807 [.int .i64 9223372036854775807] from rfl) (Reps.none _ _))))); intro v486 w28 ho29 hb hg_ hnew_; clear hg_ hnew_; (first | rw [← Ny485.out] at ho29 | (simp only [Int.reduceToNat] at ho29; rw [← Ny485.out] at ho29)); have HO487 := am (Kd.R_lower (Kd.R_new' ho29 (Kd.R_lt (sr HO_5))) (keep_size (w := w) (g := g) (row := none) a14_1)); replace HO_5 := am (Kd.R_elder' (sr HO_5) (Kd.R_base ho29) hb); replace BK468 := bb BK468 hb; replace HK := am (KeepBut.trans a14_1 (KeepBut.of_below hb g none) (.inl rfl)); replace HB := am (below_step a14_2 hb); replace HI0 := am (IsS152.below a14_0 hb); clear hb ho29; obtain ⟨Ao30, co30, eo30⟩ := Kd.R_slice HO487.out; subst eo30) | ((with_reducible refine gc 109 rfl ?_); refine gL (some 40) Try.func109 #[.pointer (some ⟨g, 0, none⟩), .slice Ao30 y485.length co30] ?_; (with_reducible refine (spec_l1Int.calls g s0_0 t483 t484 _ _ y485 t488 t489 t490 w0 _ ?side1 ?side2 ?side3 ?side4 ?side5 A21.out).mono ?_); (case side1 => repeat (first | (with_reducible first | exact HI0.out | apply IsS152.alloc | apply IsS152.drewN | apply IsS152.drew | apply IsS152.set_1 | apply IsS152.set_2 | refine IsS152.far ?_ NB0_468.out _) | exact HI0.out)); (case side2 => repeat (first | (with_reducible first | exact HB.out | apply below_alloc | apply pw_below_drewN | apply below_drew1 | refine below_set ?_ (IsS152.ge HI0.out) | refine below_set ?_ GE468.out) | exact HB.out)); (case side3 => exact cr HO487); (case side4 => exact (Kd.R_reads' HO487.out).2.1); (case side5 => exact far_slice (IsS152.own_ne HI0.out HO487.out (by decide))); rintro e w31 ⟨rfl, hi, hb, hk⟩; refine ⟨_, rfl, ?_⟩; replace HO_5 := am (Kd.R_mono (Kd.R_keep (IsS152.apart (show IsS152 w0 _ g s0_0 t483 t484 from a14_0) (sr HO_5) (by decide)) hk (fun _ h => h.2)) (fun _ h => h.1)); replace BK468 := am (KeepBut.blk hk (g' := gb468) (o := .cells #[.int .i64 a1_0, .int .i64 a1_1, .int .i64 a1_2, .slice A1_3 l1_3.length c1_3] 31 (0, 0)) (sk BK468) NB468_0.out (by simp)); replace HO487 := am (Kd.R_mono (Kd.R_keep (IsS152.apart (show IsS152 w0 _ g s0_0 t483 t484 from a14_0) (sr HO487) (by decide)) hk (fun _ h => h.2)) (fun _ h => h.1)); replace HK := am (KeepBut.trans a14_1 hk (.inl rfl)); replace HB := am hb; replace HI0 := am hi; (try clear hb); (try clear hk); (try clear hi); have p23 : 0 ≤ (0 : Int) := (by omega); have q23 : (0 : Int) < ((x5_1.length : Int) : Int) := sa; have qi23 : (0 < x5_1.length) = True := eq_true (by omega); obtain ⟨go23, co23, eo23, gb23, gl23, cl23, HG23⟩ := Kd.R_form HO_5.out (by omega); (first | cases eo23 | (injection eo23 with ea_ en_ ec_; (first | subst ea_ | (injection ea_ with ea_; subst ea_)); subst ec_; clear en_)); have GB23 := am gb23; have GG23 := am HG23; clear gb23 gl23 HG23; obtain ⟨hx23_0, hf23_0⟩ := Kd.R_celln 0 HO_5.out (0 : Int) p23 q23; (try rw [show ((0 : Int)).toNat = 0 from rfl] at hx23_0); (try simp only [Nat.reduceMul, Nat.zero_mul, Nat.zero_add, Nat.reduceAdd] at hx23_0); (try rw [show ((0 : Int)).toNat = 0 from rfl] at hf23_0); (try simp only [Nat.reduceMul, Nat.zero_mul, Nat.zero_add, Nat.reduceAdd] at hf23_0); replace p23 := eq_true p23; replace q23 := eq_true q23; have n_ := am (Kd.R_mono (ok' := (fun k_ => some k_ ≠ (.slice Ao30 y485.length co30 : Value).ownBlock)) HO_5.out (fun k_ hk => hk.2)); clear HO_5; have HO_5 := n_; clear n_; obtain ⟨hy32_, hz32_⟩ := Kd.R_celln 0 HO_5.out (0 : Int) (by omega) (sa); (try simp only [Int.reduceToNat, Int.toNat_zero, Int.toNat_ofNat, Nat.reduceMul, Nat.zero_mul, Nat.zero_add] at hy32_ hz32_); (try rw [show ((0 : Int)).toNat = 0 from rfl] at hy32_); (try rw [show ((0 : Int)).toNat = 0 from rfl] at hz32_); have HP32 := Kd.R_putg HO_5.out (0 : Int) t488) | ((with_reducible refine gate_store (t := 3) (p := 41) rfl ?_); refine store_event (t := 3) (p := 41) (v := ?vo_w33) (w1 := (w31.setCell ⟨go23, (0 : Int).toNat, none⟩ (.int .i64 t488))) ?hg ?ho ?hn ?hr ?_; (case ho => rfl); (case hg => rfl); (case hn => rfl); (case hr => first | (go_simp; done) | (go_simp; rfl)); intro w33 hw; have hg : w31.grownBy w33 (some go23) := (by rw [hw]; exact HP32.2); have hp_ : Kd.R (Kd.int .i64) 3 w33 w.heap.size (fun k_ => some k_ ≠ (.slice Ao30 y485.length co30 : Value).ownBlock) (.slice (some ⟨go23, 0, none⟩) x5_1.length co26) y491 := (by rw [hw, Ny491.out]; exact HP32.1); clear HP32; replace BK468 := am (blk_grown (g := gb468) (o := .cells #[.int .i64 a1_0, .int .i64 a1_1, .int .i64 a1_2, .slice A1_3 l1_3.length c1_3] 31 (0, 0)) (sk BK468) hg (Kd.R_ne HO_5.out BK468.out (by decide))); replace HI0 := am (IsS152.grown a14_0 hg (IsS152.own_ne HI0.out HO_5.out (by decide))); replace HO487 := am (Kd.R_after (v := (.slice (some ⟨go23, 0, none⟩) x5_1.length co26)) (v1 := (.slice (some ⟨go23, 0, none⟩) x5_1.length co26)) (ok := (fun _ => True)) (sr HO487) hg (.inl rfl)); replace HB := am ((by rw [hw]; exact below_set (HB.out) (Nat.le_trans HL.out GB23.out) : Below w0.heap.size w0 w33)); replace HK := am (KeepBut.trans a14_1 (KeepBut.of_grown hg g) (Kd.R_base2 HO_5.out)); replace HO_5 := am hp_; clear hg hw hp_))
      go_ret
      exact ⟨_, se, by exact rm HO_5 (fun _ hk => trivial), a14_0, a14_2, a14_1⟩
     ·replace H := im H
      simp only [Option.some.injEq, Prod.mk.injEq] at H
      obtain ⟨rfl, rfl, rfl⟩ := H
      have hnb34 := NB468_0.out
      have hnc34 := NB0_468.out
      obtain ⟨hcz35_0, hcz35_1, hcz35_2, hcz35_3, hfz35_0, hfz35_1, hfz35_2, hfz35_3⟩ := cc4 BK468
      obtain ⟨Ao36, co36, eo36⟩ := Kd.R_slice HO_5.out
      subst eo36
      go_wp2_with (first | (go_at_call 107; (with_reducible refine (spec_l1Once.calls g s0_0 x1001_1 x1002_1 12 false t483 t484 w0 _ ?side1 ?side2 A19.out).mono ?_); (case side1 => repeat (first | (with_reducible first | exact HI0.out | apply IsS152.alloc | apply IsS152.drewN | apply IsS152.drew | apply IsS152.set_1 | apply IsS152.set_2 | refine IsS152.far ?_ NB0_468.out _) | exact HI0.out)); (case side2 => repeat (first | (with_reducible first | exact HB.out | apply below_alloc | apply pw_below_drewN | apply below_drew1 | refine below_set ?_ (IsS152.ge HI0.out) | refine below_set ?_ GE468.out) | exact HB.out)); rintro e w37 ⟨rfl, hi, hb, hk⟩; replace HO_5 := am (Kd.R_mono (Kd.R_keep (IsS152.apart (show IsS152 w0 _ g s0_0 x1001_1 x1002_1 from a14_0) (sr HO_5) (by decide)) hk (fun _ h => h.2)) (fun _ h => h.1)); replace BK468 := am (KeepBut.blk hk (g' := gb468) (o := .cells #[.int .i64 a1_0, .int .i64 a1_1, .int .i64 a1_2, .slice A1_3 l1_3.length c1_3] 31 (0, 0)) (sk BK468) NB468_0.out (by simp)); replace HK := am (KeepBut.trans a14_1 hk (.inl rfl)); replace HB := am hb; replace HI0 := am hi; (try clear hb); (try clear hk); (try clear hi)))
      go_ret
      exact ⟨_, se, sr HO_5, a14_0, a14_2, a14_1⟩
    ·have c18b1 : decide (0 < x5_1.length) = false := decide_eq_false (by omega)
     clear c18
     simp only [Option.some.injEq, Prod.mk.injEq] at H
     obtain ⟨rfl, rfl, rfl⟩ := H
     have hnb38 := NB468_0.out
     have hnc38 := NB0_468.out
     obtain ⟨hcz39_0, hcz39_1, hcz39_2, hcz39_3, hfz39_0, hfz39_1, hfz39_2, hfz39_3⟩ := cc4 BK468
     obtain ⟨Ao40, co40, eo40⟩ := Kd.R_slice HO_5.out
     subst eo40
     go_wp2
     go_ret
     exact ⟨_, se, sr HO_5, a14_0, a14_2, a14_1⟩

def spec_DrawNextsAt.f (k : Nat) (l0 : List Int) : Option (Int × Int × Int × (List (S105)) × Int × Int × List Int) := (spec_l1New.f k l0).bind fun bt493 => ((spec_l17Any.f k bt493.1 bt493.2.1 bt493.2.2).bind fun bt497 => ((spec_l1Below.f bt493.1 bt497.2.2.2.2.1 bt497.2.2.2.2.2 6).bind fun bt506 => ((spec_l1Below.f bt493.1 bt506.2.1 bt506.2.2 26).bind fun bt509 => ((spec_l19Offsets.f k bt493.1 bt509.2.1 bt509.2.2 bt497.1 bt497.2.1 bt497.2.2.1 bt497.2.2.2.1).bind fun bt512 => (some (bt497.1, bt497.2.1, bt497.2.2.1, bt497.2.2.2.1, bt506.1, wrap64 (bt509.1 - 1), bt512.1))))))
theorem spec_DrawNextsAt.mono : ∀ a0 k, LeO (spec_DrawNextsAt.f k a0) (spec_DrawNextsAt.f (k + 1) a0) := by
  intro a0 k
  unfold spec_DrawNextsAt.f
  have m0 := @spec_l17Any.mono
  have m1 := @spec_l19Offsets.mono
  have m2 := @spec_l1New.mono
  exact mo
def spec_DrawNextsAt.T5 : Bool × List (List Nat × List Nat) := (true, [([], []), ([], []), ([], []), ([], []), ([], []), ([3, 4], [3, 4]), ([0, 5, 0], [0]), ([1, 6, 0, 1, 6], [1]), ([2, 7, 0, 1, 2, 6, 7], [2]), ([5, 8, 0, 1, 2, 3, 4, 5, 6, 7, 8], [5])])
def spec_DrawNextsAt.B5 : List Nat := [0, 0, 0, 0, 0, 24, 57, 123, 255, 511]
theorem spec_DrawNextsAt.tab5 : rtab .any (opsOf Try.f22 5) = spec_DrawNextsAt.T5 := by kernel_rfl
theorem spec_DrawNextsAt.bits5 : waitsOk spec_DrawNextsAt.T5.2 spec_DrawNextsAt.B5 = true := by kernel_rfl
theorem spec_DrawNextsAt.calls (k : Nat) (A0 : Option Addr) (c0 : Nat) (l0 : List Int) (r1 : Int) (r2 : Int) (r3 : Int) (r4 : List (S105)) (r5 : Int) (r6 : Int) (r7 : List Int) (w : World) (hr0 : Kd.C (Kd.int .u8) w A0 l0.length l0) (hc0 : l0.length ≤ c0) (h : spec_DrawNextsAt.f k l0 = some (r1, r2, r3, r4, r5, r6, r7)) :
    Calls Try.prog 22 #[.slice A0 l0.length c0] w fun e w' => ∃ v3_ v6_ : Value, e = .returned (.tuple #[.agg #[.int .i64 r1, .int .i64 r2, .int .i64 r3, v3_], .int .i64 r5, .int .i64 r6, v6_]) ∧ Kd.S k105 105 w' w.heap.size (fun k_ => some k_ ≠ (v6_ : Value).ownBlock) v3_ r4 ∧ Kd.R (Kd.int .i64) 3 w' w.heap.size (fun _ => True) v6_ r7 ∧ Below w.heap.size w w' := by
 have hu31 := Try.underlying31
 have HR0 := am hr0
 have HC0 := am hc0
 clear hr0 hc0
 have HB := am (Below.refl w.heap.size w)
 have H := h; unfold spec_DrawNextsAt.f at H
 clear h
 obtain ⟨⟨t493, t494, t495⟩, A2, H⟩ := bnd H
 try dsimp only at H
 obtain ⟨⟨t497, t498, t499, t500, t503, t504⟩, A3, H⟩ := bnd H
 try dsimp only at H
 obtain ⟨⟨t506, t507, t508⟩, A4, H⟩ := bnd H
 try dsimp only at H
 obtain ⟨⟨t509, t510, t511⟩, A5, H⟩ := bnd H
 try dsimp only at H
 obtain ⟨⟨t512, t515, t516⟩, A6, H⟩ := bnd H
 try dsimp only at H
 simp only [Option.some.injEq, Prod.mk.injEq] at H
 obtain ⟨rfl, rfl, rfl, rfl, rfl, rfl, rfl⟩ := H
 go_enter Try.func22, Try.ntmps22
 try go_wp2_with (first | ((with_reducible refine gd 2 rfl ?_); refine bx 2 #[.int .i64 0, .int .i64 0, .int .i64 0, .slice none 0 0] 31 ?_; intro gb492 hg w7 hbox hb; have GW492 := bz w hg; have GE492 := bz w hg; replace HB := bs hb; have BK492 := am hbox; clear hb hbox hg) | ((with_reducible refine gc 75 rfl ?_); refine gL (some 11) Try.func75 #[.slice A0 l0.length c0] ?_; (with_reducible refine (spec_l1New.calls k _ _ l0 t493 t494 t495 w _ ?side1 ?side2 ?side3 A2.out).mono ?_); (case side1 => repeat (first | (with_reducible first | exact HB.out | apply below_alloc | apply pw_below_drewN | apply below_drew1 | refine below_set ?_ GE492.out) | exact HB.out)); (case side2 => exact HR0.out); (case side3 => exact HC0.out); rintro e w8 ⟨g496, rfl, hi, hb, hb2⟩; refine ⟨_, rfl, ?_⟩; replace HB := am hb; have HI496 := am hi; have NB496_492 := am (IsS152.ne_blk hi (blk_below (g := gb492) (o := .cells #[.int .i64 0, .int .i64 0, .int .i64 0, .slice none 0 0] 31 (0, 0)) (sk BK492) hb2) (by decide)); have NB492_496 := am (Ne.symm (IsS152.ne_blk hi (blk_below (g := gb492) (o := .cells #[.int .i64 0, .int .i64 0, .int .i64 0, .slice none 0 0] 31 (0, 0)) (sk BK492) hb2) (by decide))); replace BK492 := bb BK492 hb2; (try clear hb); (try clear hb2); (try clear hk); (try clear hi)) | ((with_reducible refine gc 78 rfl ?_); refine gL (some 13) Try.func78 #[.pointer (some ⟨g496, 0, none⟩)] ?_; (with_reducible refine (spec_l17Any.calls k g496 t493 t494 t495 t497 t498 t499 t500 t503 t504 w _ ?side1 ?side2 A3.out).mono ?_); (case side1 => repeat (first | (with_reducible first | exact HI496.out | apply IsS152.alloc | apply IsS152.drewN | apply IsS152.drew | apply IsS152.set_1 | apply IsS152.set_2 | refine IsS152.far ?_ NB496_492.out _) | exact HI496.out)); (case side2 => repeat (first | (with_reducible first | exact HB.out | apply below_alloc | apply pw_below_drewN | apply below_drew1 | refine below_set ?_ (IsS152.ge HI496.out) | refine below_set ?_ GE492.out) | exact HB.out)); rintro e w9 ⟨v501, rfl, ho0, hi, hb, hk⟩; refine ⟨_, rfl, ?_⟩; replace BK492 := am (KeepBut.blk hk (g' := gb492) (o := .cells #[.int .i64 0, .int .i64 0, .int .i64 0, .slice none 0 0] 31 (0, 0)) (sk BK492) NB492_496.out (by simp)); have HO502 := am (Kd.S_lower ho0 (below_size a14_4)); replace HB := am hb; replace HI496 := am hi; (try clear hb); (try clear hb2); (try clear hk); (try clear hi); (try clear ho0)) | ((with_reducible refine gd 7 rfl ?_); refine bx 7 #[.int .i64 0, .int .i64 0, .int .i64 0, .slice none 0 0] 31 ?_; intro gb505 hg w10 hbox hb; replace HO502 := am (Kd.S_below (ss HO502) hb); have BK505 := am hbox; have GW505 := am ((by rw [hg]; exact (below_size a14_4) : w.heap.size ≤ gb505)); have GE505 := am ((by rw [hg]; exact (below_size a14_4) : w.heap.size ≤ gb505)); replace HB := am (below_step a14_4 hb); have NB492_505 := nl BK492 hg; have NB505_492 := ng BK492 hg; replace BK492 := bb BK492 hb; have NB496_505 := am ((by rw [hg]; exact Nat.ne_of_lt (IsS152.lt (show IsS152 w _ g496 t493 t503 t504 from a14_5)) : g496 ≠ gb505)); have NB505_496 := am ((by rw [hg]; exact Nat.ne_of_gt (IsS152.lt (show IsS152 w _ g496 t493 t503 t504 from a14_5)) : gb505 ≠ g496)); replace HI496 := am (IsS152.below a14_5 hb); clear hb hbox hg; have hnb11 := NB505_492.out; have hnc11 := NB492_505.out; have hnb12 := NB505_496.out; have hnc12 := NB496_505.out; obtain ⟨hcz13_0, hcz13_1, hcz13_2, hcz13_3, hfz13_0, hfz13_1, hfz13_2, hfz13_3⟩ := cc4 BK505; obtain ⟨Ao14, co14, eo14⟩ := Kd.S_slice HO502.out; subst eo14) | ((with_reducible refine gc 76 rfl ?_); refine gL (some 15) Try.func76 #[.pointer (some ⟨g496, 0, none⟩), .int .i64 6] ?_; (with_reducible refine (spec_l1Below.calls g496 t493 t503 t504 6 t506 t507 t508 w _ ?side1 ?side2 A4.out).mono ?_); (case side1 => repeat (first | (with_reducible first | exact HI496.out | apply IsS152.alloc | apply IsS152.drewN | apply IsS152.drew | apply IsS152.set_1 | apply IsS152.set_2 | refine IsS152.far ?_ NB496_492.out _ | refine IsS152.far ?_ NB496_505.out _) | exact HI496.out)); (case side2 => repeat (first | (with_reducible first | exact HB.out | apply below_alloc | apply pw_below_drewN | apply below_drew1 | refine below_set ?_ (IsS152.ge HI496.out) | refine below_set ?_ GE492.out | refine below_set ?_ GE505.out) | exact HB.out)); rintro e w15 ⟨rfl, hi, hb, hk⟩; refine ⟨_, rfl, ?_⟩; replace BK492 := am (KeepBut.blk hk (g' := gb492) (o := .cells #[.int .i64 0, .int .i64 0, .int .i64 0, .slice none 0 0] 31 (0, 0)) (sp BK492) NB492_496.out (by simp)); replace HO502 := am (Kd.S_mono (Kd.S_keep (IsS152.apartS (show IsS152 w _ g496 t493 t503 t504 from a14_3) (by (with_reducible repeat (first | apply Kd.S_alloc | apply Kd.S_drewN | apply Kd.S_drew)); exact (Kd.S_mono (Kd.S_far (p := ⟨gb505, 3, none⟩) (Kd.S_far (p := ⟨gb505, 2, none⟩) (Kd.S_far (p := ⟨gb505, 1, none⟩) (Kd.S_far (p := ⟨gb505, 0, none⟩) (Kd.S_types HO502.out BK505.out (by decide)) (fun _ hk => hk.2) (.int .i64 t497)) (fun _ hk => hk.2) (.int .i64 t498)) (fun _ hk => hk.2) (.int .i64 t499)) (fun _ hk => hk.2) (.slice Ao14 t500.length co14)) (fun _ h_ => h_.1))) (by decide)) hk (fun _ h => h.2)) (fun _ h => h.1)); replace BK505 := am (KeepBut.blk hk (g' := gb505) (o := .cells #[.int .i64 t497, .int .i64 t498, .int .i64 t499, .slice Ao14 t500.length co14] 31 (0, 0)) (sp BK505) NB505_496.out (by simp)); replace HB := am hb; replace HI496 := am hi; (try clear hb); (try clear hb2); (try clear hk); (try clear hi)) | ((with_reducible refine gc 76 rfl ?_); refine gL (some 17) Try.func76 #[.pointer (some ⟨g496, 0, none⟩), .int .i64 26] ?_; (with_reducible refine (spec_l1Below.calls g496 t493 t507 t508 26 t509 t510 t511 w _ ?side1 ?side2 A5.out).mono ?_); (case side1 => repeat (first | (with_reducible first | exact HI496.out | apply IsS152.alloc | apply IsS152.drewN | apply IsS152.drew | apply IsS152.set_1 | apply IsS152.set_2 | refine IsS152.far ?_ NB496_492.out _ | refine IsS152.far ?_ NB496_505.out _) | exact HI496.out)); (case side2 => repeat (first | (with_reducible first | exact HB.out | apply below_alloc | apply pw_below_drewN | apply below_drew1 | refine below_set ?_ (IsS152.ge HI496.out) | refine below_set ?_ GE492.out | refine below_set ?_ GE505.out) | exact HB.out)); rintro e w16 ⟨rfl, hi, hb, hk⟩; refine ⟨_, rfl, ?_⟩; replace BK492 := am (KeepBut.blk hk (g' := gb492) (o := .cells #[.int .i64 0, .int .i64 0, .int .i64 0, .slice none 0 0] 31 (0, 0)) (sk BK492) NB492_496.out (by simp)); replace HO502 := am (Kd.S_mono (Kd.S_keep (IsS152.apartS (show IsS152 w _ g496 t493 t507 t508 from a14_3) (ss HO502) (by decide)) hk (fun _ h => h.2)) (fun _ h => h.1)); replace BK505 := am (KeepBut.blk hk (g' := gb505) (o := .cells #[.int .i64 t497, .int .i64 t498, .int .i64 t499, .slice Ao14 t500.length co14] 31 (0, 0)) (sk BK505) NB505_496.out (by simp)); replace HB := am hb; replace HI496 := am hi; (try clear hb); (try clear hb2); (try clear hk); (try clear hi)))
 replace HO502 := am (Kd.S_drew HO502.out)
 replace BK492 := am (blk_drew BK492.out)
 replace BK505 := am (blk_drew BK505.out)
 replace HI496 := am (IsS152.drew HI496.out)
 replace HB := am (below_drew1 HB.out)
 refine start_ (n := 10) (S := fun w' => w'.cell? ⟨gb505, 0, none⟩ = some (.int .i64 t497) ∧ w'.cell? ⟨gb505, 1, none⟩ = some (.int .i64 t498) ∧ w'.cell? ⟨gb505, 2, none⟩ = some (.int .i64 t499) ∧ w'.cell? ⟨gb505, 3, none⟩ = some (.slice Ao14 t500.length co14)) (ds := []) #[false, false, false, false, false, false, false, false, false, false] (by kernel_rfl) rfl rfl ⟨bc0 BK505, bc1 BK505, bc2 BK505, bc3 BK505⟩ (fun hHeld => ?_); refine with_tabW spec_DrawNextsAt.tab5 spec_DrawNextsAt.bits5 (fun HT_ HW_ => ?_)
 generalize w16.drew = w17 at HO502 BK492 BK505 HI496 HB hHeld ⊢
 refine put 1 20 (bt 10 2) HT_ ?_
 refine put 2 21 (bt 10 6) HT_ ?_
 refine put 3 22 (bt 10 14) HT_ ?_
 refine tat4 0 19 (bt 10 15) HT_ HW_ hHeld ?_
 refine tat4 4 23 (bt 10 31) HT_ HW_ hHeld ?_
 refine on 5 24 (bt 10 63) HT_ (fun K hK => ?_)
 refine goes_ Try.func82 (by kernel_rfl) rfl #[.pointer (some ⟨g496, 0, none⟩), .agg #[.int .i64 t497, .int .i64 t498, .int .i64 t499, .slice Ao14 t500.length co14]] (by rfl) rfl rfl sl ?_
 with_reducible refine (spec_l19Offsets.calls k g496 t493 t510 t511 t497 t498 t499 _ _ t500 t512 t515 t516 w _ ?side1 ?side2 ?side3 ?side4 A6.out).mono ?_
 (case side1 => repeat (first | (with_reducible first | exact HI496.out | apply IsS152.alloc | apply IsS152.drewN | apply IsS152.drew | apply IsS152.set_1 | apply IsS152.set_2 | refine IsS152.far ?_ NB496_492.out _ | refine IsS152.far ?_ NB496_505.out _) | exact HI496.out))
 (case side2 => repeat (first | (with_reducible first | exact HB.out | apply below_alloc | apply pw_below_drewN | apply below_drew1 | refine below_set ?_ (IsS152.ge HI496.out) | refine below_set ?_ GE492.out | refine below_set ?_ GE505.out) | exact HB.out))
 (case side3 => exact Kd.C_foot_own ((Kd.S_R (IsS152.apartS (show IsS152 w _ g496 t493 t510 t511 from a14_3) (ss HO502) (by decide)))) (fun _ h_ => h_.2))
 (case side4 => exact (Kd.S_reads' HO502.out).2.1)
 rintro e w18 ⟨v513, rfl, ho0, hi, hb, hk⟩
 refine ⟨_, rfl, ?_⟩
 replace BK492 := am (KeepBut.blk hk (g' := gb492) (o := .cells #[.int .i64 0, .int .i64 0, .int .i64 0, .slice none 0 0] 31 (0, 0)) (sk BK492) NB492_496.out (by simp))
 replace HO502 := am (Kd.S_mono (Kd.S_told (Kd.S_oldK (IsS152.apartS (show IsS152 w _ g496 t493 t510 t511 from a14_3) (ss HO502) (by decide)) hk) (Kd.R_base ho0)) (fun _ h_ => h_.1))
 replace BK505 := am (KeepBut.blk hk (g' := gb505) (o := .cells #[.int .i64 t497, .int .i64 t498, .int .i64 t499, .slice Ao14 t500.length co14] 31 (0, 0)) (sk BK505) NB505_496.out (by simp))
 have HO514 := am (Kd.R_lower ho0 (below_size a14_6))
 replace HB := am hb
 replace HI496 := am hi
 (try clear hb)
 (try clear hb2)
 (try clear hk)
 (try clear hi)
 (try clear ho0)
 refine hK.out _ _ ⟨bc0 BK505, bc1 BK505, bc2 BK505, bc3 BK505⟩ (fun hHeld => ?_)
 clear hK K
 refine nm 24 ?_
 refine one_ (i := 6) (N := none) (bt 10 127) rfl rfl (one_of HT_.out (by kernel_rfl)) (by decide) (fun K hK => ?_)
 obtain ⟨hs19, hfs19⟩ := cc1 BK492
 have hns19_1 := NB505_492.out
 have hms19_1 := NB492_505.out
 have hs20 := bc1 BK492
 have hfs20 := bf BK492 1
 have hns20_1 := NB505_492.out
 have hms20_1 := NB492_505.out
 have hs21 := bc2 BK492
 have hfs21 := bf BK492 2
 have hns21_1 := NB505_492.out
 have hms21_1 := NB492_505.out
 have hs22 := bc3 BK492
 have hfs22 := bf BK492 3
 have hns22_1 := NB505_492.out
 have hms22_1 := NB492_505.out
 refine skip_ (w1 := ?_) (by rfl) rfl ?_ ?_
 rotate_left
 ·go_simp
  rfl
 refine hK.out _ _ ⟨((cell_far (p := ⟨gb492, _, none⟩) NB505_492.out _).trans (((cell_far (p := ⟨gb492, _, none⟩) NB505_492.out _).trans (((cell_far (p := ⟨gb492, _, none⟩) NB505_492.out _).trans (((cell_far (p := ⟨gb492, _, none⟩) NB505_492.out _).trans (hHeld.1)))))))), ((cell_far (p := ⟨gb492, _, none⟩) NB505_492.out _).trans (((cell_far (p := ⟨gb492, _, none⟩) NB505_492.out _).trans (((cell_far (p := ⟨gb492, _, none⟩) NB505_492.out _).trans (((cell_far (p := ⟨gb492, _, none⟩) NB505_492.out _).trans (hHeld.2.1)))))))), ((cell_far (p := ⟨gb492, _, none⟩) NB505_492.out _).trans (((cell_far (p := ⟨gb492, _, none⟩) NB505_492.out _).trans (((cell_far (p := ⟨gb492, _, none⟩) NB505_492.out _).trans (((cell_far (p := ⟨gb492, _, none⟩) NB505_492.out _).trans (hHeld.2.2.1)))))))), ((cell_far (p := ⟨gb492, _, none⟩) NB505_492.out _).trans (((cell_far (p := ⟨gb492, _, none⟩) NB505_492.out _).trans (((cell_far (p := ⟨gb492, _, none⟩) NB505_492.out _).trans (((cell_far (p := ⟨gb492, _, none⟩) NB505_492.out _).trans (hHeld.2.2.2))))))))⟩ (fun hHeld => ?_)
 clear hK K
 refine put 7 3 (bt 10 255) HT_ ?_
 refine put 8 4 (bt 10 511) HT_ ?_
 refine put 9 5 (bt 10 1023) HT_ ?_
 refine done_ (done_of HT_.out (by kernel_rfl)) ?_
 try go_wp2
 refine bodyPost_ret (results_list (rs := [.cell 2 31, .tmp 3, .tmp 4, .tmp 5]) rfl (by simp) (.cell gb492 31 #[.int .i64 t497, .int .i64 t498, .int .i64 t499, .slice Ao14 t500.length co14] (0, 0) _ rfl (sp BK492) Try.underlying31 rfl (by kernel_rfl) (.tmp (.tmp (.tmp .nil))))) rfl ?_
 exact ⟨_, _, se, by (with_reducible repeat (first | apply Kd.S_alloc | apply Kd.S_drewN | apply Kd.S_drew)); exact Kd.S_mono (Kd.S_far (p := ⟨gb492, 3, none⟩) (Kd.S_far (p := ⟨gb492, 2, none⟩) (Kd.S_far (p := ⟨gb492, 1, none⟩) (Kd.S_far (p := ⟨gb492, 0, none⟩) (Kd.S_types HO502.out BK492.out (by decide)) (fun _ hk => hk.2) (.int .i64 t497)) (fun _ hk => hk.2) (.int .i64 t498)) (fun _ hk => hk.2) (.int .i64 t499)) (fun _ hk => hk.2) (.slice Ao14 t500.length co14)) (fun _ hk => hk.1.2), by (with_reducible repeat (first | apply Kd.R_alloc | apply Kd.R_drewN | apply Kd.R_drew)); exact Kd.R_mono (Kd.R_far (p := ⟨gb492, 3, none⟩) (h3 HO514 BK492) (fun _ hk => hk.2) (.slice Ao14 t500.length co14)) (fun _ hk => trivial), a14_6⟩

def impl_IsSpan.f (a0_0 : Int) (a0_1 : Int) : Option (Bool) := if a0_0 ≥ 0 then (if a0_1 ≤ 1000 then (some (decide (a0_0 < a0_1))) else (some false)) else (some false)
theorem e14_0 {P : Prop} (h : P := by
 obtain rfl := Option.some.inj H
 go_enter Try.func79, Try.ntmps79
 go_wp2_with (first | ((with_reducible refine gd 1 rfl ?_); refine bx 1 #[.int .i64 a0_0, .int .i64 a0_1] 102 ?_; intro gb517 hg w4 hbox hb; have GW517 := bz w hg; have GE517 := bz w hg; replace HB := bs hb; have BK517 := am hbox; clear hb hbox hg; obtain ⟨hcz5_0, hcz5_1, hfz5_0, hfz5_1⟩ := cc2 BK517))
 first
 | have _ := c3b0
   go_ret
   exact ⟨se, sbw⟩
 | go_ret
   exact ⟨se, sbw⟩
   ) : P := h
theorem impl_IsSpan.calls (a0_0 : Int) (a0_1 : Int) (r : Bool) (w : World) (h : impl_IsSpan.f a0_0 a0_1 = some r) :
    Calls Try.prog 79 #[.agg #[.int .i64 a0_0, .int .i64 a0_1]] w fun e w' => e = .returned (.bool r) ∧ Below w.heap.size w w' := by
 have hu102 := Try.underlying102
 have HB := am (Below.refl w.heap.size w)
 have H := h; unfold impl_IsSpan.f at H
 clear h
 obtain ⟨-, c2b0, H⟩ | ⟨-, c2b0, H⟩ := ic_ H
 ·obtain ⟨-, c3b0, H⟩ | ⟨-, c3b0, H⟩ := ic_ H
  ·exact e14_0
  ·exact e14_0
 ·exact e14_0
end Go.Proofs.Ytiihaabhjphaeaa.QFnNoLoops
