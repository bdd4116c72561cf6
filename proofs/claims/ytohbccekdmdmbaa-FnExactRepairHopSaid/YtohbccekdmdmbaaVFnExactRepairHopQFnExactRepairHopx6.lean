/- Printed by a program of the session. Conditions: none. (squeezed). -/
import Derived.Test.YtohbccekdmdmbaaVFnExactRepairHopQFnExactRepairHopx4
import Derived.Test.YtohbccekdmdmbaaVFnExactRepairHopQFnExactRepairHopx5
namespace Go.Proofs.Ytohbccekdmdmbaa.QFnExactRepairHop
set_option maxHeartbeats 8000000
set_option maxRecDepth 100000
open Go.RowKit Go.Proofs.YtohbccekdmdmbaaW.PrintWords Go.Proofs.YtohbccekdmdmbaaW.PrintLast Go.Proofs.YtohbccekdmdmbaaW.PrintMore Go.Proofs.Ytohbccekdmdmbaa.Open Go.Proofs.Ytohbccekdmdmbaa.Sq
attribute [local go_sem] max2_int min2_int max_two min_two max_three min_three max_four min_four   -- for this text's walks alone
attribute [local go_sem] isSome_set
set_option linter.unusedVariables false
set_option linter.unusedSimpArgs false

theorem a6_3 {P : Prop} (h : P := by exact rm HO_10 (fun _ hk => ⟨hk.1.2, hk.2⟩)) : P := h
theorem a6_2 {P : Prop} (h : P := by simp only [putAll, Act.put, List.setIfInBounds_toArray, List.set_cons_zero, List.set_cons_succ]) : P := h
theorem a6_1 {P : Prop} (h : P := by (with_reducible repeat (first | apply Kd.S_alloc | apply Kd.S_drewN | apply Kd.S_drew)); exact Kd.S_mono HO_9.out (fun _ hk => ⟨hk.1.2, ⟨hk.2, hk.1.1⟩⟩)) : P := h
theorem a6_0 {P : Prop} (h : P := by first | exact Kd.own_blk (Kd.R_ne HO_10.out BK349.out (by decide)) | (rw [add_block]; exact Kd.own_blk (Kd.R_ne HO_10.out BK349.out (by decide))) | (show (Addr.add _ _).block ≠ _; rw [add_block]; exact Kd.own_blk (Kd.R_ne HO_10.out BK349.out (by decide))) | (dsimp only; exact Kd.own_blk (Kd.R_ne HO_10.out BK349.out (by decide)))) : P := h
def spec_IsSafeMix.l0 : Nat → Int → List (List Int) → List Int → Int → Int → Int → Int → List (S75) → Option (Bool)
  | 0, _, _, _, _, _, _, _, _ => none
  | k + 1, x1, x9, x10, x11, x334000, x334001, x334002, x334003 => if x11 < (x10.length : Int) then (if 0 ≤ x11 then ((spec_TableIn.f x334000 x334001 x334002 x334003 (rd x10 x11) x1).bind fun bt341 => (if bt341.2.2.2 = true then (if x9.length < 5864062014805 then (spec_IsSafeMix.l0 k x1 (x9 ++ [bt341.2.2.1]) x10 (wrap64 (x11 + 1)) x334000 x334001 x334002 x334003) else (none)) else (spec_IsSafeMix.l0 k x1 x9 x10 (wrap64 (x11 + 1)) x334000 x334001 x334002 x334003))) else (none)) else ((spec_UnionHasLoop.f k x9).bind fun t353 => (some (!t353)))
def spec_IsSafeMix.f (k : Nat) (a0_0 : Int) (a0_1 : Int) (a0_2 : Int) (l0_3 : List (S75)) (a1 : Int) (a2 : Int) (a3 : Int) : Option (Bool) := (spec_PiecesIn.f k a0_0 a0_1 a0_2 l0_3 a2 a3).bind fun t337 => (spec_IsSafeMix.l0 k a1 (([] : List (List Int))) t337 0 a0_0 a0_1 a0_2 l0_3)
theorem spec_IsSafeMix.mono_l : ∀ k, (∀ y0 y1 y2 y3 y4 y5 y6 y7, LeO (spec_IsSafeMix.l0 k y0 y1 y2 y3 y4 y5 y6 y7) (spec_IsSafeMix.l0 (k + 1) y0 y1 y2 y3 y4 y5 y6 y7))
  | 0 => fun _ _ _ _ _ _ _ _ r h => by simp [spec_IsSafeMix.l0] at h
  | k + 1 => by
    have ih0 := spec_IsSafeMix.mono_l k
    · intro y0 y1 y2 y3 y4 y5 y6 y7
      unfold spec_IsSafeMix.l0
      have m0 := @spec_PiecesIn.mono
      have m1 := @spec_UnionHasLoop.mono
      exact mo
theorem spec_IsSafeMix.mono : ∀ a0 a1 a2 a3 a4 a5 a6 k, LeO (spec_IsSafeMix.f k a0 a1 a2 a3 a4 a5 a6) (spec_IsSafeMix.f (k + 1) a0 a1 a2 a3 a4 a5 a6) := by
  intro a0 a1 a2 a3 a4 a5 a6 k
  have ih0 := spec_IsSafeMix.mono_l k
  unfold spec_IsSafeMix.f
  have m0 := @spec_PiecesIn.mono
  have m1 := @spec_UnionHasLoop.mono
  exact mo
def spec_IsSafeMix.T6 : Bool × List (List Nat × List Nat) := (true, [([], []), ([], []), ([], []), ([1, 2], [1, 2]), ([3], [3]), ([], []), ([0, 4, 5], [0, 4, 5]), ([6], [6]), ([7], [7]), ([7], [7]), ([], []), ([10, 8, 6, 0, 1, 2, 3, 4, 5, 6, 7, 8, 10], [8, 10]), ([9, 11, 0, 1, 2, 3, 4, 5, 6, 7, 8, 9, 10, 11], [9])])
def spec_IsSafeMix.B6 : List Nat := [0, 0, 0, 6, 14, 0, 63, 127, 255, 255, 0, 1535, 4095]
theorem spec_IsSafeMix.tab6 : rtab .any (opsOf Try.f55 6) = spec_IsSafeMix.T6 := by kernel_rfl
theorem spec_IsSafeMix.bits6 : waitsOk spec_IsSafeMix.T6.2 spec_IsSafeMix.B6 = true := by kernel_rfl
theorem spec_IsSafeMix.calls (k : Nat) (a0_0 : Int) (a0_1 : Int) (a0_2 : Int) (A0_3 : Option Addr) (c0_3 : Nat) (l0_3 : List (S75)) (a1 : Int) (a2 : Int) (a3 : Int) (r : Bool) (w : World) (hr0_3 : Kd.C k75 w A0_3 l0_3.length l0_3) (hc0_3 : l0_3.length ≤ c0_3) (h : spec_IsSafeMix.f k a0_0 a0_1 a0_2 l0_3 a1 a2 a3 = some r) :
    Calls Try.prog 55 #[.agg #[.int .i64 a0_0, .int .i64 a0_1, .int .i64 a0_2, .slice A0_3 l0_3.length c0_3], .int .i64 a1, .int .i64 a2, .int .i64 a3] w fun e w' => e = .returned (.bool r) ∧ Below w.heap.size w w' := by
 have hu49 := Try.underlying49
 have hu29 := Try.underlying29
 have HR0_3 := am hr0_3
 have HC0_3 := am hc0_3
 clear hr0_3 hc0_3
 have HB := am (Below.refl w.heap.size w)
 have H := h; unfold spec_IsSafeMix.f at H
 clear h
 obtain ⟨y334, hy334⟩ : ∃ y_ : List (List Int), y_ = (([] : List (List Int))) := ⟨_, rfl⟩
 replace H : ((spec_PiecesIn.f k a0_0 a0_1 a0_2 l0_3 a2 a3).bind fun t337 => (spec_IsSafeMix.l0 k a1 y334 t337 0 a0_0 a0_1 a0_2 l0_3)) = some r := ry hy334 H
 have Ny334 := am hy334
 clear hy334
 obtain ⟨t337, A5, H⟩ := bnd H
 have H' := am H
 clear H
 go_enter Try.func55, Try.ntmps55
 go_wp2_with (first | ((with_reducible refine gd 4 rfl ?_); refine bx 4 #[.int .i64 a0_0, .int .i64 a0_1, .int .i64 a0_2, .slice A0_3 l0_3.length c0_3] 49 ?_; intro gb333 hg w6 hbox hb; have GW333 := bz w hg; have GE333 := bz w hg; replace HB := bs hb; have BK333 := am hbox; clear hb hbox hg) | ((with_reducible refine gd 14 rfl ?_); refine Kd.S_lit (Kd.slice 3 (Kd.int .i64)) _ 22 ?hg (N := 14) ?hd (xs := ([] : List (List Int))) (inner := []) (ok := fun _ => True) (okp := fun _ => True) ?hr ?hp (fun _ hk => hk) trivial (Below.refl _ _) (Nat.le_refl _) (by simp) ?_; (case hd => rfl); (case hg => rfl); (case hr => first | (go_simp; done) | (go_simp; rfl)); (case hp => exact (Reps.none _ _)); intro v335 w7 ho8 hb hg_ hnew_; clear hg_ hnew_; (first | rw [← Ny334.out] at ho8 | (simp only [Int.reduceToNat] at ho8; rw [← Ny334.out] at ho8)); have HO336 := am (Kd.S_lower ho8 (below_size (sbw))); replace BK333 := bb BK333 hb; replace HB := bsw hb; clear hb ho8; obtain ⟨hcz9_0, hcz9_1, hcz9_2, hcz9_3, hfz9_0, hfz9_1, hfz9_2, hfz9_3⟩ := cc4 BK333) | ((with_reducible refine gc 59 rfl ?_); refine gL (some 18) Try.func59 #[.agg #[.int .i64 a0_0, .int .i64 a0_1, .int .i64 a0_2, .slice A0_3 l0_3.length c0_3], .int .i64 a2, .int .i64 a3] ?_; (with_reducible refine (spec_PiecesIn.calls k a0_0 a0_1 a0_2 _ _ l0_3 a2 a3 t337 _ ?side1 ?side2 A5.out).mono ?_); (case side1 => exact cb HR0_3); (case side2 => exact HC0_3.out); rintro e w10 ⟨v338, rfl, ho0, hb⟩; refine ⟨_, rfl, ?_⟩; replace HO336 := am (Kd.S_elder' (ss HO336) (Kd.R_base ho0) hb); have HO339 := am (Kd.R_lower ho0 (below_size (sbw))); replace BK333 := bb BK333 hb; replace HB := bsw hb; (try clear hb); (try clear hk); (try clear ho0)))
 go_loopg [9, 11] k (fun kq v9 v11 w' => ∃ (x9_1 : List (List Int)) (x11_1 : Int), v11 = .int .i64 x11_1 ∧ Aside0 (spec_IsSafeMix.l0 kq a1 x9_1 t337 x11_1 a0_0 a0_1 a0_2 l0_3 = some r) ∧ Aside0 (kq ≤ k) ∧ Aside0 (Kd.S (Kd.slice 3 (Kd.int .i64)) 22 w' w.heap.size (fun k_ => some k_ ≠ (v338 : Value).ownBlock) v9 x9_1) ∧ Aside0 (Kd.R (Kd.int .i64) 3 w' w.heap.size (fun _ => True) v338 t337) ∧ Aside0 (w'.heap[gb333]? = some (.cells #[.int .i64 a0_0, .int .i64 a0_1, .int .i64 a0_2, (.slice A0_3 l0_3.length c0_3)] 49 (0, 0))) ∧ Aside0 (Below w.heap.size w w'))
 case atStart => exact ⟨(y334), (0), sc, H', kk0, ⟨by (with_reducible repeat (first | apply Kd.S_alloc | apply Kd.S_drewN | apply Kd.S_drew)); exact Kd.S_mono HO336.out (fun _ hk => hk.2)⟩, ⟨sr HO339⟩, ⟨sk BK333⟩, ⟨sbw⟩⟩
 case round =>
  clear H'
  obtain ⟨x9_1, x11_1, rfl, HA, HK1, HO_9, HO_10, BK333, HB⟩ := hrel
  cases gk with
  | zero => exact absurd HA.out (by simp [spec_IsSafeMix.l0])
  | succ k1 =>
   have H := HA.out
   clear HA
   simp only [spec_IsSafeMix.l0] at H
   obtain ⟨-, c11b0, H⟩ | ⟨-, c11b0, H⟩ := ic_ H
   ·obtain ⟨c12b0, H⟩ := id_ H
    obtain ⟨⟨t341, t342, t345, t348⟩, A13, H⟩ := bnd H
    try dsimp only at H
    obtain rfl | rfl := tt t348
    ·replace H := ip H
     obtain ⟨LMc15, H⟩ := il_ H
     obtain ⟨y350, hy350⟩ : ∃ y_ : List (List Int), y_ = (x9_1 ++ [t345]) := ⟨_, rfl⟩
     replace H : (spec_IsSafeMix.l0 k1 a1 y350 t337 (wrap64 (x11_1 + 1)) a0_0 a0_1 a0_2 l0_3) = some r := ry hy350 H
     have Ny350 := am hy350
     clear hy350
     have H' := am H
     clear H
     obtain ⟨Ao16, co16, eo16⟩ := Kd.R_slice HO_10.out
     subst eo16
     try go_wp2
     replace HO_9 := am (Kd.S_drew HO_9.out)
     replace HO_10 := am (Kd.R_drew HO_10.out)
     replace BK333 := am (blk_drew BK333.out)
     replace HB := am (below_drew1 HB.out)
     have p340 : 0 ≤ (x11_1 : Int) := sa
     have q340 : x11_1 < (t337.length : Int) := sa
     obtain ⟨ad340, e340, hx340_0⟩ := Kd.at_int (Kd.R_reads' HO_10.out).2.2 x11_1 p340 q340
     cases e340
     replace p340 := eq_true p340
     replace q340 := eq_true q340
     refine start_ (n := 13) (S := fun w' => w'.cell? ⟨gb333, 0, none⟩ = some (.int .i64 a0_0) ∧ w'.cell? ⟨gb333, 1, none⟩ = some (.int .i64 a0_1) ∧ w'.cell? ⟨gb333, 2, none⟩ = some (.int .i64 a0_2) ∧ w'.cell? ⟨gb333, 3, none⟩ = some (.slice A0_3 l0_3.length c0_3) ∧ w'.cell? (ad340.add (x11_1).toNat) = some (.int .i64 (rd t337 x11_1))) (ds := []) #[false, false, false, false, false, false, false, false, false, false, false, false, false] (by kernel_rfl) rfl rfl ⟨bc0 BK333, bc1 BK333, bc2 BK333, bc3 BK333, hx340_0⟩ (fun hHeld => ?_); refine with_tabW spec_IsSafeMix.tab6 spec_IsSafeMix.bits6 (fun HT_ HW_ => ?_)
     generalize wr.drew = w17 at HO_9 HO_10 BK333 HB hx340_0 hHeld ⊢
     refine put 1 27 (bt 13 2) HT_ ?_
     refine put 2 28 (bt 13 6) HT_ ?_
     refine put 3 29 (bt 13 14) HT_ ?_
     refine put 5 31 (bt 13 46) HT_ ?_
     refine tat5 0 26 (bt 13 47) HT_ HW_ hHeld ?_
     refine tat5 4 30 (bt 13 63) HT_ HW_ hHeld ?_
     refine join_ (σ := Value × Value × Nat) 2 (bt 13 2047) (fun s_ => [(32, .tuple #[.agg #[.int .i64 t341, s_.1, s_.2.1], .bool true]), (12, .pointer (some ⟨s_.2.2, 0, none⟩)), (25, .tuple #[.agg #[.int .i64 t341, s_.1, s_.2.1], .bool true]), (33, .agg #[.int .i64 t341, s_.1, s_.2.1]), (34, .bool true)]) (fun s_ w' => (w'.cell? ⟨gb333, 0, none⟩ = some (.int .i64 a0_0) ∧ w'.cell? ⟨gb333, 1, none⟩ = some (.int .i64 a0_1) ∧ w'.cell? ⟨gb333, 2, none⟩ = some (.int .i64 a0_2) ∧ w'.cell? ⟨gb333, 3, none⟩ = some (.slice A0_3 l0_3.length c0_3) ∧ w'.cell? (ad340.add (x11_1).toNat) = some (.int .i64 (rd t337 x11_1))) ∧ (Kd.R (Kd.int .i64) 3 w' w.heap.size (fun k_ => some k_ ≠ (s_.2.1 : Value).ownBlock ∧ some k_ ≠ (.slice (some ad340) t337.length co16 : Value).ownBlock) s_.1 t342) ∧ (Kd.R (Kd.int .i64) 3 w' w.heap.size (fun k_ => some k_ ≠ (s_.1 : Value).ownBlock ∧ some k_ ≠ (.slice (some ad340) t337.length co16 : Value).ownBlock) s_.2.1 t345) ∧ (Kd.R (Kd.int .i64) 3 w' w.heap.size (fun k_ => some k_ ≠ (s_.1 : Value).ownBlock ∧ some k_ ≠ (s_.2.1 : Value).ownBlock) (.slice (some ad340) t337.length co16) t337) ∧ (Kd.S (Kd.slice 3 (Kd.int .i64)) 22 w' w.heap.size (fun k_ => some k_ ≠ (s_.1 : Value).ownBlock ∧ some k_ ≠ (s_.2.1 : Value).ownBlock ∧ some k_ ≠ (.slice (some ad340) t337.length co16 : Value).ownBlock) u9 x9_1) ∧ (w'.heap[gb333]? = some (.cells #[.int .i64 a0_0, .int .i64 a0_1, .int .i64 a0_2, .slice A0_3 l0_3.length c0_3] 49 (0, 0))) ∧ (w'.heap[s_.2.2]? = some (.cells #[.int .i64 0, .slice none 0 0, .slice none 0 0] 29 (0, 0))) ∧ (w.heap.size ≤ s_.2.2) ∧ (w.heap.size ≤ s_.2.2) ∧ (gb333 ≠ s_.2.2) ∧ (s_.2.2 ≠ gb333) ∧ (Below w.heap.size w w')) ?_ ?_
     rotate_left
     ·intro hCont
      refine two_ (i := 6) (j := 10) (Ni := some 32) (Nj := some 12) (bt 13 127) (bt 13 1087) rfl rfl rfl rfl (two_of HT_.out (by kernel_rfl)) (by decide) (by decide) (fun K hK => ?_) (fun K hK => ?_)
      ·skip
       refine goes_ Try.func41 (by kernel_rfl) rfl #[.agg #[.int .i64 a0_0, .int .i64 a0_1, .int .i64 a0_2, .slice A0_3 l0_3.length c0_3], .int .i64 (rd t337 x11_1), .int .i64 a1] (by rfl) rfl rfl sl ?_
       with_reducible refine (spec_TableIn.calls a0_0 a0_1 a0_2 _ _ l0_3 (rd t337 x11_1) a1 t341 t342 t345 true _ ?side1 ?side2 A13.out).mono ?_
       (case side1 => exact cb HR0_3)
       (case side2 => exact HC0_3.out)
       rintro e w18 ⟨v343, v346, rfl, ho0, ho1, hb⟩
       have HS4_ := (hb.cell (World.block_lt_of_cell? _ _ (hHeld.2.2.2.2))).trans (hHeld.2.2.2.2)
       refine ⟨_, rfl, ?_⟩
       replace HO_9 := am (Kd.S_mono (Kd.S_told (Kd.S_told (Kd.S_old (ss HO_9) hb) (Kd.R_base ho0)) (Kd.R_base ho1)) (fun _ h_ => h_.1))
       have HO344 := am (Kd.R_lower (Kd.R_new' ho0 (Kd.R_lt (sr HO_10))) (below_size (sbw)))
       have HO347 := am (Kd.R_lower (Kd.R_new' ho1 (Kd.R_lt (sr HO_10))) (below_size (sbw)))
       replace HO_10 := am (Kd.R_mono (Kd.R_told (Kd.R_told (Kd.R_old (sr HO_10) hb) (Kd.R_base ho0)) (Kd.R_base ho1)) (fun _ h_ => h_.1))
       replace BK333 := bb BK333 hb
       replace HB := bsw hb
       (try clear hb)
       (try clear hb2)
       (try clear hk)
       (try clear hi)
       (try clear ho0)
       (try clear ho1)
       refine hK.out _ _ ⟨bc0 BK333, bc1 BK333, bc2 BK333, bc3 BK333, HS4_⟩ (fun hHeld => ?_)
       clear hK K
       refine nm 32 ?_
       refine put 7 25 (bt 13 255) HT_ ?_
       refine put 8 33 (bt 13 511) HT_ ?_
       refine put 9 34 (bt 13 1023) HT_ ?_
       refine on 10 12 (bt 13 2047) HT_ (fun K hK => ?_)
       refine box_step ?hg (N := 12) ?hd (cs := #[.int .i64 0, .slice none 0 0, .slice none 0 0]) (t := 29) ?hr ?_; (case hd => rfl); (case hg => rfl); (case hr => first | (go_simp; done) | (go_simp; rfl))
       intro gb349 hg w19 hbox hb
       have HS4_ := (hb.cell (World.block_lt_of_cell? _ _ (hHeld.2.2.2.2))).trans (hHeld.2.2.2.2)
       replace HO_9 := am (Kd.S_below (ss HO_9) hb)
       replace HO_10 := rb HO_10 hb
       replace HO344 := rb HO344 hb
       replace HO347 := rb HO347 hb
       have GW349 := bzw w hg
       have GE349 := bzw w hg
       replace HB := bsw hb
       have BK349 := am hbox
       have NB333_349 := nl BK333 hg
       have NB349_333 := ng BK333 hg
       replace BK333 := bb BK333 hb
       clear hb hbox hg
       refine hK.out _ _ ⟨bc0 BK333, bc1 BK333, bc2 BK333, bc3 BK333, HS4_⟩ (fun hHeld => ?_)
       clear hK K
       refine nm 12 ?_
       exact norm_ a6_2 (hCont (v343, v346, gb349) _ ⟨hHeld, (sr HO344), (sr HO347), a6_3, a6_1, (sk BK333), (sk BK349), GW349.out, GE349.out, NB333_349.out, NB349_333.out, (sbw)⟩)
      ·skip
       refine box_step ?hg (N := 12) ?hd (cs := #[.int .i64 0, .slice none 0 0, .slice none 0 0]) (t := 29) ?hr ?_; (case hd => rfl); (case hg => rfl); (case hr => first | (go_simp; done) | (go_simp; rfl))
       intro gb349 hg w18 hbox hb
       have HS4_ := (hb.cell (World.block_lt_of_cell? _ _ (hHeld.2.2.2.2))).trans (hHeld.2.2.2.2)
       replace HO_9 := am (Kd.S_below (ss HO_9) hb)
       replace HO_10 := rb HO_10 hb
       have GW349 := bzw w hg
       have GE349 := bzw w hg
       replace HB := bsw hb
       have BK349 := am hbox
       have NB333_349 := nl BK333 hg
       have NB349_333 := ng BK333 hg
       replace BK333 := bb BK333 hb
       clear hb hbox hg
       refine hK.out _ _ ⟨bc0 BK333, bc1 BK333, bc2 BK333, bc3 BK333, HS4_⟩ (fun hHeld => ?_)
       clear hK K
       refine nm 12 ?_
       refine on 6 32 (bt 13 1151) HT_ (fun K hK => ?_)
       refine goes_ Try.func41 (by kernel_rfl) rfl #[.agg #[.int .i64 a0_0, .int .i64 a0_1, .int .i64 a0_2, .slice A0_3 l0_3.length c0_3], .int .i64 (rd t337 x11_1), .int .i64 a1] (by rfl) rfl rfl sl ?_
       with_reducible refine (spec_TableIn.calls a0_0 a0_1 a0_2 _ _ l0_3 (rd t337 x11_1) a1 t341 t342 t345 true _ ?side1 ?side2 A13.out).mono ?_
       (case side1 => exact cb HR0_3)
       (case side2 => exact HC0_3.out)
       rintro e w19 ⟨v343, v346, rfl, ho0, ho1, hb⟩
       have HS4_ := (hb.cell (World.block_lt_of_cell? _ _ (hHeld.2.2.2.2))).trans (hHeld.2.2.2.2)
       refine ⟨_, rfl, ?_⟩
       replace HO_9 := am (Kd.S_mono (Kd.S_told (Kd.S_told (Kd.S_old (ss HO_9) hb) (Kd.R_base ho0)) (Kd.R_base ho1)) (fun _ h_ => h_.1))
       have HO344 := am (Kd.R_lower (Kd.R_new' ho0 (Kd.R_lt (sr HO_10))) (below_size (sbw)))
       have HO347 := am (Kd.R_lower (Kd.R_new' ho1 (Kd.R_lt (sr HO_10))) (below_size (sbw)))
       replace HO_10 := am (Kd.R_mono (Kd.R_told (Kd.R_told (Kd.R_old (sr HO_10) hb) (Kd.R_base ho0)) (Kd.R_base ho1)) (fun _ h_ => h_.1))
       replace BK333 := bb BK333 hb
       replace BK349 := bb BK349 hb
       replace HB := bsw hb
       (try clear hb)
       (try clear hb2)
       (try clear hk)
       (try clear hi)
       (try clear ho0)
       (try clear ho1)
       refine hK.out _ _ ⟨bc0 BK333, bc1 BK333, bc2 BK333, bc3 BK333, HS4_⟩ (fun hHeld => ?_)
       clear hK K
       refine nm 32 ?_
       refine put 7 25 (bt 13 1279) HT_ ?_
       refine put 8 33 (bt 13 1535) HT_ ?_
       refine put 9 34 (bt 13 2047) HT_ ?_
       exact norm_ a6_2 (hCont (v343, v346, gb349) _ ⟨hHeld, (sr HO344), (sr HO347), a6_3, a6_1, (sk BK333), (sk BK349), GW349.out, GE349.out, NB333_349.out, NB349_333.out, (sbw)⟩)
     rintro ⟨v343, v346, gb349⟩ w20 ⟨hS_, h0_, h1_, h2_, h3_, h4_, h5_, h6_, h7_, h8_, h9_, h10_⟩
     have HO344 : Aside0 (Kd.R (Kd.int .i64) 3 w20 w.heap.size (fun k_ => some k_ ≠ (v346 : Value).ownBlock ∧ some k_ ≠ (.slice (some ad340) t337.length co16 : Value).ownBlock) v343 t342) := ⟨h0_⟩
     have HO347 : Aside0 (Kd.R (Kd.int .i64) 3 w20 w.heap.size (fun k_ => some k_ ≠ (v343 : Value).ownBlock ∧ some k_ ≠ (.slice (some ad340) t337.length co16 : Value).ownBlock) v346 t345) := ⟨h1_⟩
     replace HO_10 : Aside0 (Kd.R (Kd.int .i64) 3 w20 w.heap.size (fun k_ => some k_ ≠ (v343 : Value).ownBlock ∧ some k_ ≠ (v346 : Value).ownBlock) (.slice (some ad340) t337.length co16) t337) := ⟨h2_⟩
     replace HO_9 : Aside0 (Kd.S (Kd.slice 3 (Kd.int .i64)) 22 w20 w.heap.size (fun k_ => some k_ ≠ (v343 : Value).ownBlock ∧ some k_ ≠ (v346 : Value).ownBlock ∧ some k_ ≠ (.slice (some ad340) t337.length co16 : Value).ownBlock) u9 x9_1) := ⟨h3_⟩
     replace BK333 : Aside0 (w20.heap[gb333]? = some (.cells #[.int .i64 a0_0, .int .i64 a0_1, .int .i64 a0_2, .slice A0_3 l0_3.length c0_3] 49 (0, 0))) := ⟨h4_⟩
     have BK349 : Aside0 (w20.heap[gb349]? = some (.cells #[.int .i64 0, .slice none 0 0, .slice none 0 0] 29 (0, 0))) := ⟨h5_⟩
     have GW349 : Aside0 (w.heap.size ≤ gb349) := ⟨h6_⟩
     have GE349 : Aside0 (w.heap.size ≤ gb349) := ⟨h7_⟩
     have NB333_349 : Aside0 (gb333 ≠ gb349) := ⟨h8_⟩
     have NB349_333 : Aside0 (gb349 ≠ gb333) := ⟨h9_⟩
     replace HB : Aside0 (Below w.heap.size w w20) := ⟨h10_⟩
     clear h0_ h1_ h2_ h3_ h4_ h5_ h6_ h7_ h8_ h9_ h10_
     have hHeld : w20.cell? ⟨gb333, 0, none⟩ = some (.int .i64 a0_0) ∧ w20.cell? ⟨gb333, 1, none⟩ = some (.int .i64 a0_1) ∧ w20.cell? ⟨gb333, 2, none⟩ = some (.int .i64 a0_2) ∧ w20.cell? ⟨gb333, 3, none⟩ = some (.slice A0_3 l0_3.length c0_3) ∧ w20.cell? (ad340.add (x11_1).toNat) = some (.int .i64 (rd t337 x11_1)) := hS_
     obtain ⟨Ao22, co22, eo22⟩ := Kd.R_slice HO344.out
     (first | subst eo22 | (injection eo22 with f1_ f2_ f3_; have f4_ := f1_.symm; have f5_ := f3_.symm; clear f1_ f2_ f3_; subst f4_; subst f5_))
     obtain ⟨Ao24, co24, eo24⟩ := Kd.R_slice HO347.out
     (first | subst eo24 | (injection eo24 with f1_ f2_ f3_; have f4_ := f1_.symm; have f5_ := f3_.symm; clear f1_ f2_ f3_; subst f4_; subst f5_))
     refine norm_ (a' := ?_) ?_ ?_
     rotate_left
     ·simp only [putAll, Act.put, List.setIfInBounds_toArray, List.set_cons_zero, List.set_cons_succ]
      rfl
     refine one_ (i := 11) (N := none) (bt 13 4095) rfl rfl (one_of HT_.out (by kernel_rfl)) (by decide) (fun K hK => ?_)
     obtain ⟨hs21, hfs21⟩ := cc1 BK349
     have hns21_0 := NB333_349.out
     have hms21_0 := NB349_333.out
     have hs23 := bc1 BK349
     have hfs23 := bf BK349 1
     have hns23_0 := NB333_349.out
     have hms23_0 := NB349_333.out
     have hs25 := bc2 BK349
     have hfs25 := bf BK349 2
     have hns25_0 := NB333_349.out
     have hms25_0 := NB349_333.out
     refine skip_ (w1 := ?_) (by rfl) rfl ?_ ?_
     rotate_left
     ·go_simp
      rfl
     refine hK.out _ _ ⟨((cell_far (p := ⟨gb349, _, none⟩) NB333_349.out _).trans (((cell_far (p := ⟨gb349, _, none⟩) NB333_349.out _).trans (((cell_far (p := ⟨gb349, _, none⟩) NB333_349.out _).trans (hHeld.1)))))), ((cell_far (p := ⟨gb349, _, none⟩) NB333_349.out _).trans (((cell_far (p := ⟨gb349, _, none⟩) NB333_349.out _).trans (((cell_far (p := ⟨gb349, _, none⟩) NB333_349.out _).trans (hHeld.2.1)))))), ((cell_far (p := ⟨gb349, _, none⟩) NB333_349.out _).trans (((cell_far (p := ⟨gb349, _, none⟩) NB333_349.out _).trans (((cell_far (p := ⟨gb349, _, none⟩) NB333_349.out _).trans (hHeld.2.2.1)))))), ((cell_far (p := ⟨gb349, _, none⟩) NB333_349.out _).trans (((cell_far (p := ⟨gb349, _, none⟩) NB333_349.out _).trans (((cell_far (p := ⟨gb349, _, none⟩) NB333_349.out _).trans (hHeld.2.2.2.1)))))), ((cell_far (p := ⟨gb349, _, none⟩) a6_0 _).trans (((cell_far (p := ⟨gb349, _, none⟩) a6_0 _).trans (((cell_far (p := ⟨gb349, _, none⟩) a6_0 _).trans (hHeld.2.2.2.2))))))⟩ (fun hHeld => ?_)
     clear hK K
     refine put 12 13 (bt 13 8191) HT_ ?_
     refine done_ (done_of HT_.out (by kernel_rfl)) ?_
     have n0_ : Aside0 (Kd.S (Kd.slice 3 (Kd.int .i64)) 22 (((w20.setCell ⟨gb349, 0, none⟩ (.int .i64 t341)).setCell ⟨gb349, 1, none⟩ (.slice Ao22 t342.length co22)).setCell ⟨gb349, 2, none⟩ (.slice Ao24 t345.length co24)) w.heap.size (fun k_ => some k_ ≠ (.slice (some ad340) t337.length co16 : Value).ownBlock ∧ some k_ ≠ (.slice Ao22 t342.length co22 : Value).ownBlock ∧ some k_ ≠ (.slice Ao24 t345.length co24 : Value).ownBlock) u9 x9_1) := ⟨by (with_reducible repeat (first | apply Kd.S_alloc | apply Kd.S_drewN | apply Kd.S_drew)); exact Kd.S_mono (Kd.S_far (p := ⟨gb349, 2, none⟩) (Kd.S_far (p := ⟨gb349, 1, none⟩) (Kd.S_far (p := ⟨gb349, 0, none⟩) (Kd.S_types HO_9.out BK349.out (by decide)) (fun _ hk => hk.2) (.int .i64 t341)) (fun _ hk => hk.2) (.slice Ao22 t342.length co22)) (fun _ hk => hk.2) (.slice Ao24 t345.length co24)) (fun _ hk => ⟨hk.1.2.2, ⟨hk.1.1, hk.1.2.1⟩⟩)⟩
     have n1_ : Aside0 (Kd.R (Kd.int .i64) 3 (((w20.setCell ⟨gb349, 0, none⟩ (.int .i64 t341)).setCell ⟨gb349, 1, none⟩ (.slice Ao22 t342.length co22)).setCell ⟨gb349, 2, none⟩ (.slice Ao24 t345.length co24)) w.heap.size (fun k_ => some k_ ≠ (.slice Ao22 t342.length co22 : Value).ownBlock ∧ some k_ ≠ (.slice Ao24 t345.length co24 : Value).ownBlock) (.slice (some ad340) t337.length co16) t337) := ⟨by (with_reducible repeat (first | apply Kd.R_alloc | apply Kd.R_drewN | apply Kd.R_drew)); exact Kd.R_mono (h3 HO_10 BK349) (fun _ hk => ⟨hk.1.1, hk.1.2⟩)⟩
     have n2_ : Aside0 (Kd.R (Kd.int .i64) 3 (((w20.setCell ⟨gb349, 0, none⟩ (.int .i64 t341)).setCell ⟨gb349, 1, none⟩ (.slice Ao22 t342.length co22)).setCell ⟨gb349, 2, none⟩ (.slice Ao24 t345.length co24)) w.heap.size (fun k_ => some k_ ≠ (.slice (some ad340) t337.length co16 : Value).ownBlock ∧ some k_ ≠ (.slice Ao24 t345.length co24 : Value).ownBlock) (.slice Ao22 t342.length co22) t342) := ⟨by (with_reducible repeat (first | apply Kd.R_alloc | apply Kd.R_drewN | apply Kd.R_drew)); exact Kd.R_mono (h3 HO344 BK349) (fun _ hk => ⟨hk.1.2, hk.1.1⟩)⟩
     have n3_ : Aside0 (Kd.R (Kd.int .i64) 3 (((w20.setCell ⟨gb349, 0, none⟩ (.int .i64 t341)).setCell ⟨gb349, 1, none⟩ (.slice Ao22 t342.length co22)).setCell ⟨gb349, 2, none⟩ (.slice Ao24 t345.length co24)) w.heap.size (fun k_ => some k_ ≠ (.slice (some ad340) t337.length co16 : Value).ownBlock ∧ some k_ ≠ (.slice Ao22 t342.length co22 : Value).ownBlock) (.slice Ao24 t345.length co24) t345) := ⟨by (with_reducible repeat (first | apply Kd.R_alloc | apply Kd.R_drewN | apply Kd.R_drew)); exact Kd.R_mono (h3 HO347 BK349) (fun _ hk => ⟨hk.1.2, hk.1.1⟩)⟩
     have n4_ : Aside0 ((((w20.setCell ⟨gb349, 0, none⟩ (.int .i64 t341)).setCell ⟨gb349, 1, none⟩ (.slice Ao22 t342.length co22)).setCell ⟨gb349, 2, none⟩ (.slice Ao24 t345.length co24)).heap[gb333]? = some (.cells #[.int .i64 a0_0, .int .i64 a0_1, .int .i64 a0_2, .slice A0_3 l0_3.length c0_3] 49 (0, 0))) := ⟨sp BK333⟩
     have n5_ : Aside0 ((((w20.setCell ⟨gb349, 0, none⟩ (.int .i64 t341)).setCell ⟨gb349, 1, none⟩ (.slice Ao22 t342.length co22)).setCell ⟨gb349, 2, none⟩ (.slice Ao24 t345.length co24)).heap[gb349]? = some (.cells #[.int .i64 t341, .slice Ao22 t342.length co22, .slice Ao24 t345.length co24] 29 (0, 0))) := ⟨sp BK349⟩
     have n6_ : Aside0 (Below w.heap.size w (((w20.setCell ⟨gb349, 0, none⟩ (.int .i64 t341)).setCell ⟨gb349, 1, none⟩ (.slice Ao22 t342.length co22)).setCell ⟨gb349, 2, none⟩ (.slice Ao24 t345.length co24))) := ⟨sbw⟩
     (try clear HO_9)
     (try clear HO_10)
     (try clear HO344)
     (try clear HO347)
     (try clear BK333)
     (try clear BK349)
     (try clear HB)
     generalize (((w20.setCell ⟨gb349, 0, none⟩ (.int .i64 t341)).setCell ⟨gb349, 1, none⟩ (.slice Ao22 t342.length co22)).setCell ⟨gb349, 2, none⟩ (.slice Ao24 t345.length co24)) = w26 at n0_ n1_ n2_ n3_ n4_ n5_ n6_ ⊢
     have HO_9 := n0_
     have HO_10 := n1_
     have HO344 := n2_
     have HO347 := n3_
     have BK333 := n4_
     have BK349 := n5_
     have HB := n6_
     clear n0_ n1_ n2_ n3_ n4_ n5_ n6_
     have hnb27 := NB349_333.out
     have hnc27 := NB333_349.out
     obtain ⟨hcz28_0, hcz28_1, hcz28_2, hfz28_0, hfz28_1, hfz28_2⟩ := cc3 BK349
     try go_wp2_with (first | ((with_reducible refine gate_builtin (b := .append) (xs := #[.tmp 36, .tmp 39]) rfl ?_); at_builtin; refine Kd.S_append (Kd.slice 3 (Kd.int .i64)) (w0 := w) w.heap.size rfl (.tmp 36) (.tmp 39) 102 22 (.slice none 0 0) 24 rfl Try.underlying102 info22 rfl (by decide) (by omega) u9 x9_1 t345 [.slice Ao24 t345.length co24] (fun k_ => some k_ ≠ (.slice (some ad340) t337.length co16 : Value).ownBlock ∧ some k_ ≠ (.slice Ao22 t342.length co22 : Value).ownBlock) (fun k_ => some k_ = (.slice Ao24 t345.length co24 : Value).ownBlock) rfl rfl ?aP (fun k_ hk_ => ((Kd.R_mono (ok' := fun k_ => ((fun k_ => some k_ ≠ (.slice (some ad340) t337.length co16 : Value).ownBlock ∧ some k_ ≠ (.slice Ao22 t342.length co22 : Value).ownBlock)) k_ ∧ some k_ ≠ (u9 : Value).ownBlock) (Kd.R_apart' (HO347.out) (Kd.S_typed HO_9.out) (by decide)) (fun k_ hk => ⟨⟨hk.1.1, hk.1.2⟩, hk.2⟩))).1 k_ hk_.symm) ?aF ?aO ?aB ?aS ?aL ?_; (case aP => exact Kd.M_row (Kd.R_mono (Kd.R_tight rfl (Kd.R_mono (ok' := fun k_ => ((fun k_ => some k_ ≠ (.slice (some ad340) t337.length co16 : Value).ownBlock ∧ some k_ ≠ (.slice Ao22 t342.length co22 : Value).ownBlock)) k_ ∧ some k_ ≠ (u9 : Value).ownBlock) (Kd.R_apart' (HO347.out) (Kd.S_typed HO_9.out) (by decide)) (fun k_ hk => ⟨⟨hk.1.1, hk.1.2⟩, hk.2⟩))) (fun _ h_ => h_))); (case aB => exact (sbw)); (case aF => exact (fun k_ hk => ⟨Kd.fresh' (Kd.R_lt (sr HO_10)) k_ hk, Kd.fresh' (Kd.R_lt (sr HO344)) k_ hk⟩)); (case aO => exact (by (with_reducible repeat (first | apply Kd.S_alloc | apply Kd.S_drewN | apply Kd.S_drew)); exact Kd.S_mono HO_9.out (fun k_ hk => ⟨⟨hk.1, hk.2.1⟩, fun e_ => hk.2.2 e_⟩))); (case aS => exact (below_size (sbw))); (case aL => have := LMc15.out; omega); intro v351 w29 ho hb hg hat; rw [← Ny350.out] at ho; replace HO_10 := am (Kd.R_over' (sr HO_10) (Kd.S_typed (ss HO_9)) (by decide) hg); replace BK333 := am (blk_grown (g := gb333) (o := .cells #[.int .i64 a0_0, .int .i64 a0_1, .int .i64 a0_2, .slice A0_3 l0_3.length c0_3] 49 (0, 0)) (sk BK333) hg (Kd.S_ne HO_9.out BK333.out (by decide))); replace HO344 := am (Kd.R_over' (sr HO344) (Kd.S_typed (ss HO_9)) (by decide) hg); replace BK349 := am (blk_grown (g := gb349) (o := .cells #[.int .i64 t341, .slice Ao22 t342.length co22, .slice Ao24 t345.length co24] 29 (0, 0)) (sk BK349) hg (Kd.S_ne HO_9.out BK349.out (by decide))); replace HB := am hb; have HO352 := am ho; clear HO_9 HO347; clear ho hb hg hat))
     go_roundg k1
     case measure => have := HK1.out; omega
     case rel => exact ⟨(y350), (wrap64 (x11_1 + 1)), sc, H', kk1, ⟨by (with_reducible repeat (first | apply Kd.S_alloc | apply Kd.S_drewN | apply Kd.S_drew)); exact Kd.S_mono HO352.out (fun _ hk => hk.1)⟩, ⟨by exact rm HO_10 (fun _ hk => trivial)⟩, ⟨sk BK333⟩, ⟨sbw⟩⟩
    ·replace H := im H
     have H' := am H
     clear H
     obtain ⟨Ao30, co30, eo30⟩ := Kd.R_slice HO_10.out
     subst eo30
     try go_wp2
     replace HO_9 := am (Kd.S_drew HO_9.out)
     replace HO_10 := am (Kd.R_drew HO_10.out)
     replace BK333 := am (blk_drew BK333.out)
     replace HB := am (below_drew1 HB.out)
     have p340 : 0 ≤ (x11_1 : Int) := sa
     have q340 : x11_1 < (t337.length : Int) := sa
     obtain ⟨ad340, e340, hx340_0⟩ := Kd.at_int (Kd.R_reads' HO_10.out).2.2 x11_1 p340 q340
     cases e340
     replace p340 := eq_true p340
     replace q340 := eq_true q340
     refine start_ (n := 13) (S := fun w' => w'.cell? ⟨gb333, 0, none⟩ = some (.int .i64 a0_0) ∧ w'.cell? ⟨gb333, 1, none⟩ = some (.int .i64 a0_1) ∧ w'.cell? ⟨gb333, 2, none⟩ = some (.int .i64 a0_2) ∧ w'.cell? ⟨gb333, 3, none⟩ = some (.slice A0_3 l0_3.length c0_3) ∧ w'.cell? (ad340.add (x11_1).toNat) = some (.int .i64 (rd t337 x11_1))) (ds := []) #[false, false, false, false, false, false, false, false, false, false, false, false, false] (by kernel_rfl) rfl rfl ⟨bc0 BK333, bc1 BK333, bc2 BK333, bc3 BK333, hx340_0⟩ (fun hHeld => ?_); refine with_tabW spec_IsSafeMix.tab6 spec_IsSafeMix.bits6 (fun HT_ HW_ => ?_)
     generalize wr.drew = w31 at HO_9 HO_10 BK333 HB hx340_0 hHeld ⊢
     refine put 1 27 (bt 13 2) HT_ ?_
     refine put 2 28 (bt 13 6) HT_ ?_
     refine put 3 29 (bt 13 14) HT_ ?_
     refine put 5 31 (bt 13 46) HT_ ?_
     refine tat5 0 26 (bt 13 47) HT_ HW_ hHeld ?_
     refine tat5 4 30 (bt 13 63) HT_ HW_ hHeld ?_
     refine join_ (σ := Value × Value × Nat) 2 (bt 13 2047) (fun s_ => [(32, .tuple #[.agg #[.int .i64 t341, s_.1, s_.2.1], .bool false]), (12, .pointer (some ⟨s_.2.2, 0, none⟩)), (25, .tuple #[.agg #[.int .i64 t341, s_.1, s_.2.1], .bool false]), (33, .agg #[.int .i64 t341, s_.1, s_.2.1]), (34, .bool false)]) (fun s_ w' => (w'.cell? ⟨gb333, 0, none⟩ = some (.int .i64 a0_0) ∧ w'.cell? ⟨gb333, 1, none⟩ = some (.int .i64 a0_1) ∧ w'.cell? ⟨gb333, 2, none⟩ = some (.int .i64 a0_2) ∧ w'.cell? ⟨gb333, 3, none⟩ = some (.slice A0_3 l0_3.length c0_3) ∧ w'.cell? (ad340.add (x11_1).toNat) = some (.int .i64 (rd t337 x11_1))) ∧ (Kd.R (Kd.int .i64) 3 w' w.heap.size (fun k_ => some k_ ≠ (s_.2.1 : Value).ownBlock ∧ some k_ ≠ (.slice (some ad340) t337.length co30 : Value).ownBlock) s_.1 t342) ∧ (Kd.R (Kd.int .i64) 3 w' w.heap.size (fun k_ => some k_ ≠ (s_.1 : Value).ownBlock ∧ some k_ ≠ (.slice (some ad340) t337.length co30 : Value).ownBlock) s_.2.1 t345) ∧ (Kd.R (Kd.int .i64) 3 w' w.heap.size (fun k_ => some k_ ≠ (s_.1 : Value).ownBlock ∧ some k_ ≠ (s_.2.1 : Value).ownBlock) (.slice (some ad340) t337.length co30) t337) ∧ (Kd.S (Kd.slice 3 (Kd.int .i64)) 22 w' w.heap.size (fun k_ => some k_ ≠ (s_.1 : Value).ownBlock ∧ some k_ ≠ (s_.2.1 : Value).ownBlock ∧ some k_ ≠ (.slice (some ad340) t337.length co30 : Value).ownBlock) u9 x9_1) ∧ (w'.heap[gb333]? = some (.cells #[.int .i64 a0_0, .int .i64 a0_1, .int .i64 a0_2, .slice A0_3 l0_3.length c0_3] 49 (0, 0))) ∧ (w'.heap[s_.2.2]? = some (.cells #[.int .i64 0, .slice none 0 0, .slice none 0 0] 29 (0, 0))) ∧ (w.heap.size ≤ s_.2.2) ∧ (w.heap.size ≤ s_.2.2) ∧ (gb333 ≠ s_.2.2) ∧ (s_.2.2 ≠ gb333) ∧ (Below w.heap.size w w')) ?_ ?_
     rotate_left
     ·intro hCont
      refine two_ (i := 6) (j := 10) (Ni := some 32) (Nj := some 12) (bt 13 127) (bt 13 1087) rfl rfl rfl rfl (two_of HT_.out (by kernel_rfl)) (by decide) (by decide) (fun K hK => ?_) (fun K hK => ?_)
      ·skip
       refine goes_ Try.func41 (by kernel_rfl) rfl #[.agg #[.int .i64 a0_0, .int .i64 a0_1, .int .i64 a0_2, .slice A0_3 l0_3.length c0_3], .int .i64 (rd t337 x11_1), .int .i64 a1] (by rfl) rfl rfl sl ?_
       with_reducible refine (spec_TableIn.calls a0_0 a0_1 a0_2 _ _ l0_3 (rd t337 x11_1) a1 t341 t342 t345 false _ ?side1 ?side2 A13.out).mono ?_
       (case side1 => exact cb HR0_3)
       (case side2 => exact HC0_3.out)
       rintro e w32 ⟨v343, v346, rfl, ho0, ho1, hb⟩
       have HS4_ := (hb.cell (World.block_lt_of_cell? _ _ (hHeld.2.2.2.2))).trans (hHeld.2.2.2.2)
       refine ⟨_, rfl, ?_⟩
       replace HO_9 := am (Kd.S_mono (Kd.S_told (Kd.S_told (Kd.S_old (ss HO_9) hb) (Kd.R_base ho0)) (Kd.R_base ho1)) (fun _ h_ => h_.1))
       have HO344 := am (Kd.R_lower (Kd.R_new' ho0 (Kd.R_lt (sr HO_10))) (below_size (sbw)))
       have HO347 := am (Kd.R_lower (Kd.R_new' ho1 (Kd.R_lt (sr HO_10))) (below_size (sbw)))
       replace HO_10 := am (Kd.R_mono (Kd.R_told (Kd.R_told (Kd.R_old (sr HO_10) hb) (Kd.R_base ho0)) (Kd.R_base ho1)) (fun _ h_ => h_.1))
       replace BK333 := bb BK333 hb
       replace HB := bsw hb
       (try clear hb)
       (try clear hb2)
       (try clear hk)
       (try clear hi)
       (try clear ho0)
       (try clear ho1)
       refine hK.out _ _ ⟨bc0 BK333, bc1 BK333, bc2 BK333, bc3 BK333, HS4_⟩ (fun hHeld => ?_)
       clear hK K
       refine nm 32 ?_
       refine put 7 25 (bt 13 255) HT_ ?_
       refine put 8 33 (bt 13 511) HT_ ?_
       refine put 9 34 (bt 13 1023) HT_ ?_
       refine on 10 12 (bt 13 2047) HT_ (fun K hK => ?_)
       refine box_step ?hg (N := 12) ?hd (cs := #[.int .i64 0, .slice none 0 0, .slice none 0 0]) (t := 29) ?hr ?_; (case hd => rfl); (case hg => rfl); (case hr => first | (go_simp; done) | (go_simp; rfl))
       intro gb349 hg w33 hbox hb
       have HS4_ := (hb.cell (World.block_lt_of_cell? _ _ (hHeld.2.2.2.2))).trans (hHeld.2.2.2.2)
       replace HO_9 := am (Kd.S_below (ss HO_9) hb)
       replace HO_10 := rb HO_10 hb
       replace HO344 := rb HO344 hb
       replace HO347 := rb HO347 hb
       have GW349 := bzw w hg
       have GE349 := bzw w hg
       replace HB := bsw hb
       have BK349 := am hbox
       have NB333_349 := nl BK333 hg
       have NB349_333 := ng BK333 hg
       replace BK333 := bb BK333 hb
       clear hb hbox hg
       refine hK.out _ _ ⟨bc0 BK333, bc1 BK333, bc2 BK333, bc3 BK333, HS4_⟩ (fun hHeld => ?_)
       clear hK K
       refine nm 12 ?_
       exact norm_ a6_2 (hCont (v343, v346, gb349) _ ⟨hHeld, (sr HO344), (sr HO347), a6_3, a6_1, (sk BK333), (sk BK349), GW349.out, GE349.out, NB333_349.out, NB349_333.out, (sbw)⟩)
      ·skip
       refine box_step ?hg (N := 12) ?hd (cs := #[.int .i64 0, .slice none 0 0, .slice none 0 0]) (t := 29) ?hr ?_; (case hd => rfl); (case hg => rfl); (case hr => first | (go_simp; done) | (go_simp; rfl))
       intro gb349 hg w32 hbox hb
       have HS4_ := (hb.cell (World.block_lt_of_cell? _ _ (hHeld.2.2.2.2))).trans (hHeld.2.2.2.2)
       replace HO_9 := am (Kd.S_below (ss HO_9) hb)
       replace HO_10 := rb HO_10 hb
       have GW349 := bzw w hg
       have GE349 := bzw w hg
       replace HB := bsw hb
       have BK349 := am hbox
       have NB333_349 := nl BK333 hg
       have NB349_333 := ng BK333 hg
       replace BK333 := bb BK333 hb
       clear hb hbox hg
       refine hK.out _ _ ⟨bc0 BK333, bc1 BK333, bc2 BK333, bc3 BK333, HS4_⟩ (fun hHeld => ?_)
       clear hK K
       refine nm 12 ?_
       refine on 6 32 (bt 13 1151) HT_ (fun K hK => ?_)
       refine goes_ Try.func41 (by kernel_rfl) rfl #[.agg #[.int .i64 a0_0, .int .i64 a0_1, .int .i64 a0_2, .slice A0_3 l0_3.length c0_3], .int .i64 (rd t337 x11_1), .int .i64 a1] (by rfl) rfl rfl sl ?_
       with_reducible refine (spec_TableIn.calls a0_0 a0_1 a0_2 _ _ l0_3 (rd t337 x11_1) a1 t341 t342 t345 false _ ?side1 ?side2 A13.out).mono ?_
       (case side1 => exact cb HR0_3)
       (case side2 => exact HC0_3.out)
       rintro e w33 ⟨v343, v346, rfl, ho0, ho1, hb⟩
       have HS4_ := (hb.cell (World.block_lt_of_cell? _ _ (hHeld.2.2.2.2))).trans (hHeld.2.2.2.2)
       refine ⟨_, rfl, ?_⟩
       replace HO_9 := am (Kd.S_mono (Kd.S_told (Kd.S_told (Kd.S_old (ss HO_9) hb) (Kd.R_base ho0)) (Kd.R_base ho1)) (fun _ h_ => h_.1))
       have HO344 := am (Kd.R_lower (Kd.R_new' ho0 (Kd.R_lt (sr HO_10))) (below_size (sbw)))
       have HO347 := am (Kd.R_lower (Kd.R_new' ho1 (Kd.R_lt (sr HO_10))) (below_size (sbw)))
       replace HO_10 := am (Kd.R_mono (Kd.R_told (Kd.R_told (Kd.R_old (sr HO_10) hb) (Kd.R_base ho0)) (Kd.R_base ho1)) (fun _ h_ => h_.1))
       replace BK333 := bb BK333 hb
       replace BK349 := bb BK349 hb
       replace HB := bsw hb
       (try clear hb)
       (try clear hb2)
       (try clear hk)
       (try clear hi)
       (try clear ho0)
       (try clear ho1)
       refine hK.out _ _ ⟨bc0 BK333, bc1 BK333, bc2 BK333, bc3 BK333, HS4_⟩ (fun hHeld => ?_)
       clear hK K
       refine nm 32 ?_
       refine put 7 25 (bt 13 1279) HT_ ?_
       refine put 8 33 (bt 13 1535) HT_ ?_
       refine put 9 34 (bt 13 2047) HT_ ?_
       exact norm_ a6_2 (hCont (v343, v346, gb349) _ ⟨hHeld, (sr HO344), (sr HO347), a6_3, a6_1, (sk BK333), (sk BK349), GW349.out, GE349.out, NB333_349.out, NB349_333.out, (sbw)⟩)
     rintro ⟨v343, v346, gb349⟩ w34 ⟨hS_, h0_, h1_, h2_, h3_, h4_, h5_, h6_, h7_, h8_, h9_, h10_⟩
     have HO344 : Aside0 (Kd.R (Kd.int .i64) 3 w34 w.heap.size (fun k_ => some k_ ≠ (v346 : Value).ownBlock ∧ some k_ ≠ (.slice (some ad340) t337.length co30 : Value).ownBlock) v343 t342) := ⟨h0_⟩
     have HO347 : Aside0 (Kd.R (Kd.int .i64) 3 w34 w.heap.size (fun k_ => some k_ ≠ (v343 : Value).ownBlock ∧ some k_ ≠ (.slice (some ad340) t337.length co30 : Value).ownBlock) v346 t345) := ⟨h1_⟩
     replace HO_10 : Aside0 (Kd.R (Kd.int .i64) 3 w34 w.heap.size (fun k_ => some k_ ≠ (v343 : Value).ownBlock ∧ some k_ ≠ (v346 : Value).ownBlock) (.slice (some ad340) t337.length co30) t337) := ⟨h2_⟩
     replace HO_9 : Aside0 (Kd.S (Kd.slice 3 (Kd.int .i64)) 22 w34 w.heap.size (fun k_ => some k_ ≠ (v343 : Value).ownBlock ∧ some k_ ≠ (v346 : Value).ownBlock ∧ some k_ ≠ (.slice (some ad340) t337.length co30 : Value).ownBlock) u9 x9_1) := ⟨h3_⟩
     replace BK333 : Aside0 (w34.heap[gb333]? = some (.cells #[.int .i64 a0_0, .int .i64 a0_1, .int .i64 a0_2, .slice A0_3 l0_3.length c0_3] 49 (0, 0))) := ⟨h4_⟩
     have BK349 : Aside0 (w34.heap[gb349]? = some (.cells #[.int .i64 0, .slice none 0 0, .slice none 0 0] 29 (0, 0))) := ⟨h5_⟩
     have GW349 : Aside0 (w.heap.size ≤ gb349) := ⟨h6_⟩
     have GE349 : Aside0 (w.heap.size ≤ gb349) := ⟨h7_⟩
     have NB333_349 : Aside0 (gb333 ≠ gb349) := ⟨h8_⟩
     have NB349_333 : Aside0 (gb349 ≠ gb333) := ⟨h9_⟩
     replace HB : Aside0 (Below w.heap.size w w34) := ⟨h10_⟩
     clear h0_ h1_ h2_ h3_ h4_ h5_ h6_ h7_ h8_ h9_ h10_
     have hHeld : w34.cell? ⟨gb333, 0, none⟩ = some (.int .i64 a0_0) ∧ w34.cell? ⟨gb333, 1, none⟩ = some (.int .i64 a0_1) ∧ w34.cell? ⟨gb333, 2, none⟩ = some (.int .i64 a0_2) ∧ w34.cell? ⟨gb333, 3, none⟩ = some (.slice A0_3 l0_3.length c0_3) ∧ w34.cell? (ad340.add (x11_1).toNat) = some (.int .i64 (rd t337 x11_1)) := hS_
     obtain ⟨Ao36, co36, eo36⟩ := Kd.R_slice HO344.out
     (first | subst eo36 | (injection eo36 with f1_ f2_ f3_; have f4_ := f1_.symm; have f5_ := f3_.symm; clear f1_ f2_ f3_; subst f4_; subst f5_))
     obtain ⟨Ao38, co38, eo38⟩ := Kd.R_slice HO347.out
     (first | subst eo38 | (injection eo38 with f1_ f2_ f3_; have f4_ := f1_.symm; have f5_ := f3_.symm; clear f1_ f2_ f3_; subst f4_; subst f5_))
     refine norm_ (a' := ?_) ?_ ?_
     rotate_left
     ·simp only [putAll, Act.put, List.setIfInBounds_toArray, List.set_cons_zero, List.set_cons_succ]
      rfl
     refine one_ (i := 11) (N := none) (bt 13 4095) rfl rfl (one_of HT_.out (by kernel_rfl)) (by decide) (fun K hK => ?_)
     obtain ⟨hs35, hfs35⟩ := cc1 BK349
     have hns35_0 := NB333_349.out
     have hms35_0 := NB349_333.out
     have hs37 := bc1 BK349
     have hfs37 := bf BK349 1
     have hns37_0 := NB333_349.out
     have hms37_0 := NB349_333.out
     have hs39 := bc2 BK349
     have hfs39 := bf BK349 2
     have hns39_0 := NB333_349.out
     have hms39_0 := NB349_333.out
     refine skip_ (w1 := ?_) (by rfl) rfl ?_ ?_
     rotate_left
     ·go_simp
      rfl
     refine hK.out _ _ ⟨((cell_far (p := ⟨gb349, _, none⟩) NB333_349.out _).trans (((cell_far (p := ⟨gb349, _, none⟩) NB333_349.out _).trans (((cell_far (p := ⟨gb349, _, none⟩) NB333_349.out _).trans (hHeld.1)))))), ((cell_far (p := ⟨gb349, _, none⟩) NB333_349.out _).trans (((cell_far (p := ⟨gb349, _, none⟩) NB333_349.out _).trans (((cell_far (p := ⟨gb349, _, none⟩) NB333_349.out _).trans (hHeld.2.1)))))), ((cell_far (p := ⟨gb349, _, none⟩) NB333_349.out _).trans (((cell_far (p := ⟨gb349, _, none⟩) NB333_349.out _).trans (((cell_far (p := ⟨gb349, _, none⟩) NB333_349.out _).trans (hHeld.2.2.1)))))), ((cell_far (p := ⟨gb349, _, none⟩) NB333_349.out _).trans (((cell_far (p := ⟨gb349, _, none⟩) NB333_349.out _).trans (((cell_far (p := ⟨gb349, _, none⟩) NB333_349.out _).trans (hHeld.2.2.2.1)))))), ((cell_far (p := ⟨gb349, _, none⟩) a6_0 _).trans (((cell_far (p := ⟨gb349, _, none⟩) a6_0 _).trans (((cell_far (p := ⟨gb349, _, none⟩) a6_0 _).trans (hHeld.2.2.2.2))))))⟩ (fun hHeld => ?_)
     clear hK K
     refine put 12 13 (bt 13 8191) HT_ ?_
     refine done_ (done_of HT_.out (by kernel_rfl)) ?_
     try go_wp2
     go_roundg k1
     case measure => have := HK1.out; omega
     case rel => exact ⟨(x9_1), (wrap64 (x11_1 + 1)), sc, H', kk1, ⟨by (with_reducible repeat (first | apply Kd.S_alloc | apply Kd.S_drewN | apply Kd.S_drew)); exact Kd.S_mono (Kd.S_far (p := ⟨gb349, 2, none⟩) (Kd.S_far (p := ⟨gb349, 1, none⟩) (Kd.S_far (p := ⟨gb349, 0, none⟩) (Kd.S_types HO_9.out BK349.out (by decide)) (fun _ hk => hk.2) (.int .i64 t341)) (fun _ hk => hk.2) (.slice Ao36 t342.length co36)) (fun _ hk => hk.2) (.slice Ao38 t345.length co38)) (fun _ hk => hk.1.2.2)⟩, ⟨by (with_reducible repeat (first | apply Kd.R_alloc | apply Kd.R_drewN | apply Kd.R_drew)); exact Kd.R_mono (h3 HO_10 BK349) (fun _ hk => trivial)⟩, ⟨sp BK333⟩, ⟨sbw⟩⟩
   ·obtain ⟨t353, A40, H⟩ := bnd H
    obtain rfl := Option.some.inj H
    obtain ⟨Ao41, co41, eo41⟩ := Kd.R_slice HO_10.out
    subst eo41
    obtain ⟨Ao42, co42, eo42⟩ := Kd.S_slice HO_9.out
    subst eo42
    go_wp2_with (first | ((with_reducible refine gc 76 rfl ?_); refine gL (some 42) Try.func76 #[.slice Ao42 x9_1.length co42] ?_; (with_reducible refine (spec_UnionHasLoop.calls k1 _ _ x9_1 t353 _ ?side1 ?side2 A40.out).mono ?_); (case side1 => repeat (first | exact (Kd.S_reads' HO_9.out).2.2 | (with_reducible refine Kd.C_alloc ?_ _) | (with_reducible refine Kd.C_drewN ?_ _) | (with_reducible refine Kd.C_drew ?_))); (case side2 => exact (Kd.S_reads' HO_9.out).2.1); rintro e w43 ⟨rfl, hb⟩; refine ⟨_, rfl, ?_⟩; replace HO_9 := am (Kd.S_below (ss HO_9) hb); replace HO_10 := rb HO_10 hb; replace BK333 := bb BK333 hb; replace HB := bsw hb; (try clear hb)))
    go_ret
    exact ⟨se, sbw⟩

end Go.Proofs.Ytohbccekdmdmbaa.QFnExactRepairHop
