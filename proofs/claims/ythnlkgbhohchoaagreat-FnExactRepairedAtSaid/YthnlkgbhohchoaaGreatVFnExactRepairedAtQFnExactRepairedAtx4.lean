/- Printed by a program of the session. Conditions: none. (squeezed). -/
import Derived.Test.YthnlkgbhohchoaaGreatVFnExactRepairedAtQFnExactRepairedAtx2
import Derived.Test.YthnlkgbhohchoaaGreatVFnExactRepairedAtQFnExactRepairedAtx3
namespace Go.Proofs.YthnlkgbhohchoaaGreat.QFnExactRepairedAt
set_option maxHeartbeats 8000000
set_option maxRecDepth 100000
open Go.RowKit Go.Proofs.YthnlkgbhohchoaaGreatW.PrintWords Go.Proofs.YthnlkgbhohchoaaGreatW.PrintLast Go.Proofs.YthnlkgbhohchoaaGreatW.PrintMore Go.Proofs.YthnlkgbhohchoaaGreat.Open Go.Proofs.YthnlkgbhohchoaaGreat.Sq
attribute [local go_sem] max2_int min2_int max_two min_two max_three min_three max_four min_four   -- for this text's walks alone
attribute [local go_sem] isSome_set
set_option linter.unusedVariables false
set_option linter.unusedSimpArgs false

theorem a4_3 {P : Prop} (h : P := by exact rm HO_10 (fun _ hk => ⟨hk.1.2, hk.2⟩)) : P := h
theorem a4_2 {P : Prop} (h : P := by simp only [putAll, Act.put, List.setIfInBounds_toArray, List.set_cons_zero, List.set_cons_succ]) : P := h
theorem a4_1 {P : Prop} (h : P := by (with_reducible repeat (first | apply Kd.S_alloc | apply Kd.S_drewN | apply Kd.S_drew)); exact Kd.S_mono HO_9.out (fun _ hk => ⟨hk.1.2, ⟨hk.2, hk.1.1⟩⟩)) : P := h
theorem a4_0 {P : Prop} (h : P := by first | exact Kd.own_blk (Kd.R_ne HO_10.out BK207.out (by decide)) | (rw [add_block]; exact Kd.own_blk (Kd.R_ne HO_10.out BK207.out (by decide))) | (show (Addr.add _ _).block ≠ _; rw [add_block]; exact Kd.own_blk (Kd.R_ne HO_10.out BK207.out (by decide))) | (dsimp only; exact Kd.own_blk (Kd.R_ne HO_10.out BK207.out (by decide)))) : P := h
def spec_IsSafeMix.l0 : Nat → Int → List (List Int) → List Int → Int → Int → Int → Int → List (S76) → Option (Bool)
  | 0, _, _, _, _, _, _, _, _ => none
  | k + 1, x1, x9, x10, x11, x192000, x192001, x192002, x192003 => if x11 < (x10.length : Int) then (if 0 ≤ x11 then ((spec_TableIn.f x192000 x192001 x192002 x192003 (rd x10 x11) x1).bind fun bt199 => (if bt199.2.2.2 = true then (if x9.length < 5864062014805 then (spec_IsSafeMix.l0 k x1 (x9 ++ [bt199.2.2.1]) x10 (wrap64 (x11 + 1)) x192000 x192001 x192002 x192003) else (none)) else (spec_IsSafeMix.l0 k x1 x9 x10 (wrap64 (x11 + 1)) x192000 x192001 x192002 x192003))) else (none)) else ((spec_UnionHasLoop.f k x9).bind fun t211 => (some (!t211)))
def spec_IsSafeMix.f (k : Nat) (a0_0 : Int) (a0_1 : Int) (a0_2 : Int) (l0_3 : List (S76)) (a1 : Int) (a2 : Int) (a3 : Int) : Option (Bool) := (spec_PiecesIn.f k a0_0 a0_1 a0_2 l0_3 a2 a3).bind fun t195 => (spec_IsSafeMix.l0 k a1 (([] : List (List Int))) t195 0 a0_0 a0_1 a0_2 l0_3)
theorem spec_IsSafeMix.mono_l : ∀ k, (∀ y0 y1 y2 y3 y4 y5 y6 y7, LeO (spec_IsSafeMix.l0 k y0 y1 y2 y3 y4 y5 y6 y7) (spec_IsSafeMix.l0 (k + 1) y0 y1 y2 y3 y4 y5 y6 y7))
  | 0 => fun _ _ _ _ _ _ _ _ r h => by simp [spec_IsSafeMix.l0] at h
  | k + 1 => by
    have ih0 := spec_IsSafeMix.mono_l k
    · intro y0 y1 y2 y3 y4 y5 y6 y7
      unfold spec_IsSafeMix.l0
      have m0 := @spec_PiecesIn.mono
      have m1 := @spec_UnionHasLoop.mono
      exact mo
theorem spec_IsSafeMix.mono : ∀ a0 a1 a2 a3 a4 a5 a6 k, LeO (spec_IsSafeMix.f k a0 a1 a2 a3 a4 a5 a6) (spec_IsSafeMix.f (k + 1) a0 a1 a2 a3 a4 a5 a6) := by
  intro a0 a1 a2 a3 a4 a5 a6 k
  have ih0 := spec_IsSafeMix.mono_l k
  unfold spec_IsSafeMix.f
  have m0 := @spec_PiecesIn.mono
  have m1 := @spec_UnionHasLoop.mono
  exact mo
def spec_IsSafeMix.T6 : Bool × List (List Nat × List Nat) := (true, [([], []), ([], []), ([], []), ([1, 2], [1, 2]), ([3], [3]), ([], []), ([0, 4, 5], [0, 4, 5]), ([6], [6]), ([7], [7]), ([7], [7]), ([], []), ([10, 8, 6, 0, 1, 2, 3, 4, 5, 6, 7, 8, 10], [8, 10]), ([9, 11, 0, 1, 2, 3, 4, 5, 6, 7, 8, 9, 10, 11], [9])])
def spec_IsSafeMix.B6 : List Nat := [0, 0, 0, 6, 14, 0, 63, 127, 255, 255, 0, 1535, 4095]
theorem spec_IsSafeMix.tab6 : rtab .any (opsOf Tryz.f97 6) = spec_IsSafeMix.T6 := by kernel_rfl
theorem spec_IsSafeMix.bits6 : waitsOk spec_IsSafeMix.T6.2 spec_IsSafeMix.B6 = true := by kernel_rfl
theorem spec_IsSafeMix.calls (k : Nat) (a0_0 : Int) (a0_1 : Int) (a0_2 : Int) (A0_3 : Option Addr) (c0_3 : Nat) (l0_3 : List (S76)) (a1 : Int) (a2 : Int) (a3 : Int) (r : Bool) (w : World) (hr0_3 : Kd.C k76 w A0_3 l0_3.length l0_3) (hc0_3 : l0_3.length ≤ c0_3) (h : spec_IsSafeMix.f k a0_0 a0_1 a0_2 l0_3 a1 a2 a3 = some r) :
    Calls Tryz.prog 97 #[.agg #[.int .i64 a0_0, .int .i64 a0_1, .int .i64 a0_2, .slice A0_3 l0_3.length c0_3], .int .i64 a1, .int .i64 a2, .int .i64 a3] w fun e w' => e = .returned (.bool r) ∧ Below w.heap.size w w' := by
 have hu32 := Tryz.underlying32
 have hu50 := Tryz.underlying50
 have HR0_3 := am hr0_3
 have HC0_3 := am hc0_3
 clear hr0_3 hc0_3
 have HB := am (Below.refl w.heap.size w)
 have H := h; unfold spec_IsSafeMix.f at H
 clear h
 obtain ⟨y192, hy192⟩ : ∃ y_ : List (List Int), y_ = (([] : List (List Int))) := ⟨_, rfl⟩
 replace H : ((spec_PiecesIn.f k a0_0 a0_1 a0_2 l0_3 a2 a3).bind fun t195 => (spec_IsSafeMix.l0 k a1 y192 t195 0 a0_0 a0_1 a0_2 l0_3)) = some r := ry hy192 H
 have Ny192 := am hy192
 clear hy192
 obtain ⟨t195, A5, H⟩ := bnd H
 have H' := am H
 clear H
 go_enter Tryz.func97, Tryz.ntmps97
 go_wp2_with (first | ((with_reducible refine gd 4 rfl ?_); refine bx 4 #[.int .i64 a0_0, .int .i64 a0_1, .int .i64 a0_2, .slice A0_3 l0_3.length c0_3] 32 ?_; intro gb191 hg w6 hbox hb; have GW191 := bz w hg; have GE191 := bz w hg; replace HB := bs hb; have BK191 := am hbox; clear hb hbox hg) | ((with_reducible refine gd 14 rfl ?_); refine Kd.S_lit (Kd.slice 3 (Kd.int .i64)) _ 25 ?hg (N := 14) ?hd (xs := ([] : List (List Int))) (inner := []) (ok := fun _ => True) (okp := fun _ => True) ?hr ?hp (fun _ hk => hk) trivial (Below.refl _ _) (Nat.le_refl _) (by simp) ?_; (case hd => rfl); (case hg => rfl); (case hr => first | (go_simp; done) | (go_simp; rfl)); (case hp => exact (Reps.none _ _)); intro v193 w7 ho8 hb hg_ hnew_; clear hg_ hnew_; (first | rw [← Ny192.out] at ho8 | (simp only [Int.reduceToNat] at ho8; rw [← Ny192.out] at ho8)); have HO194 := am (Kd.S_lower ho8 (below_size (sbw))); replace BK191 := bb BK191 hb; replace HB := bsw hb; clear hb ho8; obtain ⟨_, _, _, _, _, _, _, _⟩ := cc4 BK191) | ((with_reducible refine gc 101 rfl ?_); refine gL (some 18) Tryz.func101 #[.agg #[.int .i64 a0_0, .int .i64 a0_1, .int .i64 a0_2, .slice A0_3 l0_3.length c0_3], .int .i64 a2, .int .i64 a3] ?_; (with_reducible refine (spec_PiecesIn.calls k a0_0 a0_1 a0_2 _ _ l0_3 a2 a3 t195 _ ?side1 ?side2 A5.out).mono ?_); (case side1 => exact cb HR0_3); (case side2 => exact HC0_3.out); rintro e w10 ⟨v196, rfl, ho0, hb⟩; refine ⟨_, rfl, ?_⟩; replace HO194 := am (Kd.S_elder' (ss HO194) (Kd.R_base ho0) hb); have HO197 := am (Kd.R_lower ho0 (below_size (sbw))); replace BK191 := bb BK191 hb; replace HB := bsw hb; (try clear hb); (try clear hk); (try clear ho0)))
 go_loopg [9, 11] k (fun kq v9 v11 w' => ∃ (x9_1 : List (List Int)) (x11_1 : Int), v11 = .int .i64 x11_1 ∧ Aside0 (spec_IsSafeMix.l0 kq a1 x9_1 t195 x11_1 a0_0 a0_1 a0_2 l0_3 = some r) ∧ Aside0 (kq ≤ k) ∧ Aside0 (Kd.S (Kd.slice 3 (Kd.int .i64)) 25 w' w.heap.size (fun k_ => some k_ ≠ (v196 : Value).ownBlock) v9 x9_1) ∧ Aside0 (Kd.R (Kd.int .i64) 3 w' w.heap.size (fun _ => True) v196 t195) ∧ Aside0 (w'.heap[gb191]? = some (.cells #[.int .i64 a0_0, .int .i64 a0_1, .int .i64 a0_2, (.slice A0_3 l0_3.length c0_3)] 32 (0, 0))) ∧ Aside0 (Below w.heap.size w w'))
 case atStart => exact ⟨(y192), (0), sc, H', kk0, ⟨by (with_reducible repeat (first | apply Kd.S_alloc | apply Kd.S_drewN | apply Kd.S_drew)); exact Kd.S_mono HO194.out (fun _ hk => hk.2)⟩, ⟨sr HO197⟩, ⟨sk BK191⟩, ⟨sbw⟩⟩
 case round =>
  clear H'
  obtain ⟨x9_1, x11_1, rfl, HA, HK1, HO_9, HO_10, BK191, HB⟩ := hrel
  cases gk with
  | zero => exact absurd HA.out (by simp [spec_IsSafeMix.l0])
  | succ k1 =>
   have H := HA.out
   clear HA
   simp only [spec_IsSafeMix.l0] at H
   obtain ⟨-, c11b0, H⟩ | ⟨-, c11b0, H⟩ := ic_ H
   ·obtain ⟨c12b0, H⟩ := id_ H
    obtain ⟨⟨t199, t200, t203, t206⟩, A13, H⟩ := bnd H
    try dsimp only at H
    obtain rfl | rfl := tt t206
    ·replace H := ip H
     obtain ⟨LMc15, H⟩ := il_ H
     obtain ⟨y208, hy208⟩ : ∃ y_ : List (List Int), y_ = (x9_1 ++ [t203]) := ⟨_, rfl⟩
     replace H : (spec_IsSafeMix.l0 k1 a1 y208 t195 (wrap64 (x11_1 + 1)) a0_0 a0_1 a0_2 l0_3) = some r := ry hy208 H
     have Ny208 := am hy208
     clear hy208
     have H' := am H
     clear H
     obtain ⟨Ao16, co16, eo16⟩ := Kd.R_slice HO_10.out
     subst eo16
     try go_wp2
     replace HO_9 := am (Kd.S_drew HO_9.out)
     replace HO_10 := am (Kd.R_drew HO_10.out)
     replace BK191 := am (blk_drew BK191.out)
     replace HB := am (below_drew1 HB.out)
     have p198 : 0 ≤ (x11_1 : Int) := sa
     have q198 : x11_1 < (t195.length : Int) := sa
     obtain ⟨ad198, e198, hx198_0⟩ := Kd.at_int (Kd.R_reads' HO_10.out).2.2 x11_1 p198 q198
     cases e198
     replace p198 := eq_true p198
     replace q198 := eq_true q198
     refine start_ (n := 13) (S := fun w' => w'.cell? ⟨gb191, 0, none⟩ = some (.int .i64 a0_0) ∧ w'.cell? ⟨gb191, 1, none⟩ = some (.int .i64 a0_1) ∧ w'.cell? ⟨gb191, 2, none⟩ = some (.int .i64 a0_2) ∧ w'.cell? ⟨gb191, 3, none⟩ = some (.slice A0_3 l0_3.length c0_3) ∧ w'.cell? (ad198.add (x11_1).toNat) = some (.int .i64 (rd t195 x11_1))) (ds := []) (bt 13 0) (by kernel_rfl) rfl (by kernel_rfl) ⟨bc0 BK191, bc1 BK191, bc2 BK191, bc3 BK191, hx198_0⟩ (fun hHeld => ?_); refine with_tabW spec_IsSafeMix.tab6 spec_IsSafeMix.bits6 (fun HT_ HW_ => ?_)
     generalize wr.drew = w17 at HO_9 HO_10 BK191 HB hx198_0 hHeld ⊢
     refine r4_ 1 2 3 5 ?_
     refine tv_ 0 ?_
     refine tv_ 4 ?_
     refine join_ (σ := Value × Value × Nat) 2 (bt 13 2047) (fun s_ => [(32, .tuple #[.agg #[.int .i64 t199, s_.1, s_.2.1], .bool true]), (12, .pointer (some ⟨s_.2.2, 0, none⟩)), (25, .tuple #[.agg #[.int .i64 t199, s_.1, s_.2.1], .bool true]), (33, .agg #[.int .i64 t199, s_.1, s_.2.1]), (34, .bool true)]) (fun s_ w' => (w'.cell? ⟨gb191, 0, none⟩ = some (.int .i64 a0_0) ∧ w'.cell? ⟨gb191, 1, none⟩ = some (.int .i64 a0_1) ∧ w'.cell? ⟨gb191, 2, none⟩ = some (.int .i64 a0_2) ∧ w'.cell? ⟨gb191, 3, none⟩ = some (.slice A0_3 l0_3.length c0_3) ∧ w'.cell? (ad198.add (x11_1).toNat) = some (.int .i64 (rd t195 x11_1))) ∧ (Kd.R (Kd.int .i64) 3 w' w.heap.size (fun k_ => some k_ ≠ (s_.2.1 : Value).ownBlock ∧ some k_ ≠ (.slice (some ad198) t195.length co16 : Value).ownBlock) s_.1 t200) ∧ (Kd.R (Kd.int .i64) 3 w' w.heap.size (fun k_ => some k_ ≠ (s_.1 : Value).ownBlock ∧ some k_ ≠ (.slice (some ad198) t195.length co16 : Value).ownBlock) s_.2.1 t203) ∧ (Kd.R (Kd.int .i64) 3 w' w.heap.size (fun k_ => some k_ ≠ (s_.1 : Value).ownBlock ∧ some k_ ≠ (s_.2.1 : Value).ownBlock) (.slice (some ad198) t195.length co16) t195) ∧ (Kd.S (Kd.slice 3 (Kd.int .i64)) 25 w' w.heap.size (fun k_ => some k_ ≠ (s_.1 : Value).ownBlock ∧ some k_ ≠ (s_.2.1 : Value).ownBlock ∧ some k_ ≠ (.slice (some ad198) t195.length co16 : Value).ownBlock) u9 x9_1) ∧ (w'.heap[gb191]? = some (.cells #[.int .i64 a0_0, .int .i64 a0_1, .int .i64 a0_2, .slice A0_3 l0_3.length c0_3] 32 (0, 0))) ∧ (w'.heap[s_.2.2]? = some (.cells #[.int .i64 0, .slice none 0 0, .slice none 0 0] 50 (0, 0))) ∧ (w.heap.size ≤ s_.2.2) ∧ (w.heap.size ≤ s_.2.2) ∧ (gb191 ≠ s_.2.2) ∧ (s_.2.2 ≠ gb191) ∧ (Below w.heap.size w w')) ?_ ?_
     rotate_left
     ·intro hCont
      refine tw_ 6 10 (fun K hK => ?_) (fun K hK => ?_)
      ·skip
       refine goes_ Tryz.func65 (by kernel_rfl) rfl #[.agg #[.int .i64 a0_0, .int .i64 a0_1, .int .i64 a0_2, .slice A0_3 l0_3.length c0_3], .int .i64 (rd t195 x11_1), .int .i64 a1] (by rfl) rfl rfl sl ?_
       with_reducible refine (spec_TableIn.calls a0_0 a0_1 a0_2 _ _ l0_3 (rd t195 x11_1) a1 t199 t200 t203 true _ ?side1 ?side2 A13.out).mono ?_
       (case side1 => exact cb HR0_3)
       (case side2 => exact HC0_3.out)
       rintro e w18 ⟨v201, v204, rfl, ho0, ho1, hb⟩
       have HS4_ := (hb.cell (World.block_lt_of_cell? _ _ (hHeld.2.2.2.2))).trans (hHeld.2.2.2.2)
       refine ⟨_, rfl, ?_⟩
       replace HO_9 := am (Kd.S_mono (Kd.S_told (Kd.S_told (Kd.S_old (ss HO_9) hb) (Kd.R_base ho0)) (Kd.R_base ho1)) (fun _ h_ => h_.1))
       have HO202 := am (Kd.R_lower (Kd.R_new' ho0 (Kd.R_lt (sr HO_10))) (below_size (sbw)))
       have HO205 := am (Kd.R_lower (Kd.R_new' ho1 (Kd.R_lt (sr HO_10))) (below_size (sbw)))
       replace HO_10 := am (Kd.R_mono (Kd.R_told (Kd.R_told (Kd.R_old (sr HO_10) hb) (Kd.R_base ho0)) (Kd.R_base ho1)) (fun _ h_ => h_.1))
       replace BK191 := bb BK191 hb
       replace HB := bsw hb
       (try clear hb)
       (try clear ho0)
       (try clear ho1)
       refine hw_ hK ⟨bc0 BK191, bc1 BK191, bc2 BK191, bc3 BK191, HS4_⟩ (fun hHeld => ?_)
       clear hK K
       refine r3_ 7 8 9 ?_
       refine ow_ 10 (fun K hK => ?_)
       refine box_step ?hg (N := 12) ?hd (cs := #[.int .i64 0, .slice none 0 0, .slice none 0 0]) (t := 50) ?hr ?_; (case hd => rfl); (case hg => rfl); (case hr => first | (go_simp; done) | (go_simp; rfl))
       intro gb207 hg w19 hbox hb
       have HS4_ := (hb.cell (World.block_lt_of_cell? _ _ (hHeld.2.2.2.2))).trans (hHeld.2.2.2.2)
       replace HO_9 := am (Kd.S_below (ss HO_9) hb)
       replace HO_10 := rb HO_10 hb
       replace HO202 := rb HO202 hb
       replace HO205 := rb HO205 hb
       have GW207 := bzw w hg
       have GE207 := bzw w hg
       replace HB := bsw hb
       have BK207 := am hbox
       have NB191_207 := nl BK191 hg
       have NB207_191 := ng BK191 hg
       replace BK191 := bb BK191 hb
       clear hb hbox hg
       refine hw_ hK ⟨bc0 BK191, bc1 BK191, bc2 BK191, bc3 BK191, HS4_⟩ (fun hHeld => ?_)
       clear hK K
       exact norm_ a4_2 (hCont (v201, v204, gb207) _ ⟨hHeld, (sr HO202), (sr HO205), a4_3, a4_1, (sk BK191), (sk BK207), GW207.out, GE207.out, NB191_207.out, NB207_191.out, (sbw)⟩)
      ·skip
       refine box_step ?hg (N := 12) ?hd (cs := #[.int .i64 0, .slice none 0 0, .slice none 0 0]) (t := 50) ?hr ?_; (case hd => rfl); (case hg => rfl); (case hr => first | (go_simp; done) | (go_simp; rfl))
       intro gb207 hg w18 hbox hb
       have HS4_ := (hb.cell (World.block_lt_of_cell? _ _ (hHeld.2.2.2.2))).trans (hHeld.2.2.2.2)
       replace HO_9 := am (Kd.S_below (ss HO_9) hb)
       replace HO_10 := rb HO_10 hb
       have GW207 := bzw w hg
       have GE207 := bzw w hg
       replace HB := bsw hb
       have BK207 := am hbox
       have NB191_207 := nl BK191 hg
       have NB207_191 := ng BK191 hg
       replace BK191 := bb BK191 hb
       clear hb hbox hg
       refine hw_ hK ⟨bc0 BK191, bc1 BK191, bc2 BK191, bc3 BK191, HS4_⟩ (fun hHeld => ?_)
       clear hK K
       refine ow_ 6 (fun K hK => ?_)
       refine goes_ Tryz.func65 (by kernel_rfl) rfl #[.agg #[.int .i64 a0_0, .int .i64 a0_1, .int .i64 a0_2, .slice A0_3 l0_3.length c0_3], .int .i64 (rd t195 x11_1), .int .i64 a1] (by rfl) rfl rfl sl ?_
       with_reducible refine (spec_TableIn.calls a0_0 a0_1 a0_2 _ _ l0_3 (rd t195 x11_1) a1 t199 t200 t203 true _ ?side1 ?side2 A13.out).mono ?_
       (case side1 => exact cb HR0_3)
       (case side2 => exact HC0_3.out)
       rintro e w19 ⟨v201, v204, rfl, ho0, ho1, hb⟩
       have HS4_ := (hb.cell (World.block_lt_of_cell? _ _ (hHeld.2.2.2.2))).trans (hHeld.2.2.2.2)
       refine ⟨_, rfl, ?_⟩
       replace HO_9 := am (Kd.S_mono (Kd.S_told (Kd.S_told (Kd.S_old (ss HO_9) hb) (Kd.R_base ho0)) (Kd.R_base ho1)) (fun _ h_ => h_.1))
       have HO202 := am (Kd.R_lower (Kd.R_new' ho0 (Kd.R_lt (sr HO_10))) (below_size (sbw)))
       have HO205 := am (Kd.R_lower (Kd.R_new' ho1 (Kd.R_lt (sr HO_10))) (below_size (sbw)))
       replace HO_10 := am (Kd.R_mono (Kd.R_told (Kd.R_told (Kd.R_old (sr HO_10) hb) (Kd.R_base ho0)) (Kd.R_base ho1)) (fun _ h_ => h_.1))
       replace BK191 := bb BK191 hb
       replace BK207 := bb BK207 hb
       replace HB := bsw hb
       (try clear hb)
       (try clear ho0)
       (try clear ho1)
       refine hw_ hK ⟨bc0 BK191, bc1 BK191, bc2 BK191, bc3 BK191, HS4_⟩ (fun hHeld => ?_)
       clear hK K
       refine r3_ 7 8 9 ?_
       exact norm_ a4_2 (hCont (v201, v204, gb207) _ ⟨hHeld, (sr HO202), (sr HO205), a4_3, a4_1, (sk BK191), (sk BK207), GW207.out, GE207.out, NB191_207.out, NB207_191.out, (sbw)⟩)
     rintro ⟨v201, v204, gb207⟩ w20 ⟨hS_, h0_, h1_, h2_, h3_, h4_, h5_, h6_, h7_, h8_, h9_, h10_⟩
     have HO202 : Aside0 (Kd.R (Kd.int .i64) 3 w20 w.heap.size (fun k_ => some k_ ≠ (v204 : Value).ownBlock ∧ some k_ ≠ (.slice (some ad198) t195.length co16 : Value).ownBlock) v201 t200) := ⟨h0_⟩
     have HO205 : Aside0 (Kd.R (Kd.int .i64) 3 w20 w.heap.size (fun k_ => some k_ ≠ (v201 : Value).ownBlock ∧ some k_ ≠ (.slice (some ad198) t195.length co16 : Value).ownBlock) v204 t203) := ⟨h1_⟩
     replace HO_10 : Aside0 (Kd.R (Kd.int .i64) 3 w20 w.heap.size (fun k_ => some k_ ≠ (v201 : Value).ownBlock ∧ some k_ ≠ (v204 : Value).ownBlock) (.slice (some ad198) t195.length co16) t195) := ⟨h2_⟩
     replace HO_9 : Aside0 (Kd.S (Kd.slice 3 (Kd.int .i64)) 25 w20 w.heap.size (fun k_ => some k_ ≠ (v201 : Value).ownBlock ∧ some k_ ≠ (v204 : Value).ownBlock ∧ some k_ ≠ (.slice (some ad198) t195.length co16 : Value).ownBlock) u9 x9_1) := ⟨h3_⟩
     replace BK191 : Aside0 (w20.heap[gb191]? = some (.cells #[.int .i64 a0_0, .int .i64 a0_1, .int .i64 a0_2, .slice A0_3 l0_3.length c0_3] 32 (0, 0))) := ⟨h4_⟩
     have BK207 : Aside0 (w20.heap[gb207]? = some (.cells #[.int .i64 0, .slice none 0 0, .slice none 0 0] 50 (0, 0))) := ⟨h5_⟩
     have GW207 : Aside0 (w.heap.size ≤ gb207) := ⟨h6_⟩
     have GE207 : Aside0 (w.heap.size ≤ gb207) := ⟨h7_⟩
     have NB191_207 : Aside0 (gb191 ≠ gb207) := ⟨h8_⟩
     have NB207_191 : Aside0 (gb207 ≠ gb191) := ⟨h9_⟩
     replace HB : Aside0 (Below w.heap.size w w20) := ⟨h10_⟩
     clear h0_ h1_ h2_ h3_ h4_ h5_ h6_ h7_ h8_ h9_ h10_
     have hHeld : w20.cell? ⟨gb191, 0, none⟩ = some (.int .i64 a0_0) ∧ w20.cell? ⟨gb191, 1, none⟩ = some (.int .i64 a0_1) ∧ w20.cell? ⟨gb191, 2, none⟩ = some (.int .i64 a0_2) ∧ w20.cell? ⟨gb191, 3, none⟩ = some (.slice A0_3 l0_3.length c0_3) ∧ w20.cell? (ad198.add (x11_1).toNat) = some (.int .i64 (rd t195 x11_1)) := hS_
     obtain ⟨Ao22, co22, eo22⟩ := Kd.R_slice HO202.out
     (first | subst eo22 | (injection eo22 with f1_ f2_ f3_; have f4_ := f1_.symm; have f5_ := f3_.symm; clear f1_ f2_ f3_; subst f4_; subst f5_))
     obtain ⟨Ao24, co24, eo24⟩ := Kd.R_slice HO205.out
     (first | subst eo24 | (injection eo24 with f1_ f2_ f3_; have f4_ := f1_.symm; have f5_ := f3_.symm; clear f1_ f2_ f3_; subst f4_; subst f5_))
     refine norm_ (a' := ?_) ?_ ?_
     rotate_left
     ·simp only [putAll, Act.put, List.setIfInBounds_toArray, List.set_cons_zero, List.set_cons_succ]
      rfl
     refine one_ (i := 11) (N := none) (bt 13 4095) rfl rfl (one_of HT_.out (by kernel_rfl)) (by decide) (fun K hK => ?_)
     obtain ⟨hs21, hfs21⟩ := cc1 BK207
     have hns21_0 := NB191_207.out
     have hms21_0 := NB207_191.out
     have hs23 := bc1 BK207
     have hfs23 := bf BK207 1
     have hns23_0 := NB191_207.out
     have hms23_0 := NB207_191.out
     have hs25 := bc2 BK207
     have hfs25 := bf BK207 2
     have hns25_0 := NB191_207.out
     have hms25_0 := NB207_191.out
     refine skip_ (w1 := ?_) (by rfl) rfl ?_ ?_
     rotate_left
     ·go_simp
      rfl
     refine hK.out _ _ ⟨((cell_far (p := ⟨gb207, _, none⟩) NB191_207.out _).trans (((cell_far (p := ⟨gb207, _, none⟩) NB191_207.out _).trans (((cell_far (p := ⟨gb207, _, none⟩) NB191_207.out _).trans (hHeld.1)))))), ((cell_far (p := ⟨gb207, _, none⟩) NB191_207.out _).trans (((cell_far (p := ⟨gb207, _, none⟩) NB191_207.out _).trans (((cell_far (p := ⟨gb207, _, none⟩) NB191_207.out _).trans (hHeld.2.1)))))), ((cell_far (p := ⟨gb207, _, none⟩) NB191_207.out _).trans (((cell_far (p := ⟨gb207, _, none⟩) NB191_207.out _).trans (((cell_far (p := ⟨gb207, _, none⟩) NB191_207.out _).trans (hHeld.2.2.1)))))), ((cell_far (p := ⟨gb207, _, none⟩) NB191_207.out _).trans (((cell_far (p := ⟨gb207, _, none⟩) NB191_207.out _).trans (((cell_far (p := ⟨gb207, _, none⟩) NB191_207.out _).trans (hHeld.2.2.2.1)))))), ((cell_far (p := ⟨gb207, _, none⟩) a4_0 _).trans (((cell_far (p := ⟨gb207, _, none⟩) a4_0 _).trans (((cell_far (p := ⟨gb207, _, none⟩) a4_0 _).trans (hHeld.2.2.2.2))))))⟩ (fun hHeld => ?_)
     clear hK K
     refine r1_ 12 ?_
     refine done_ (done_of HT_.out (by kernel_rfl)) ?_
     have n0_ : Aside0 (Kd.S (Kd.slice 3 (Kd.int .i64)) 25 (((w20.setCell ⟨gb207, 0, none⟩ (.int .i64 t199)).setCell ⟨gb207, 1, none⟩ (.slice Ao22 t200.length co22)).setCell ⟨gb207, 2, none⟩ (.slice Ao24 t203.length co24)) w.heap.size (fun k_ => some k_ ≠ (.slice (some ad198) t195.length co16 : Value).ownBlock ∧ some k_ ≠ (.slice Ao22 t200.length co22 : Value).ownBlock ∧ some k_ ≠ (.slice Ao24 t203.length co24 : Value).ownBlock) u9 x9_1) := ⟨by (with_reducible repeat (first | apply Kd.S_alloc | apply Kd.S_drewN | apply Kd.S_drew)); exact Kd.S_mono (Kd.S_far (p := ⟨gb207, 2, none⟩) (Kd.S_far (p := ⟨gb207, 1, none⟩) (Kd.S_far (p := ⟨gb207, 0, none⟩) (Kd.S_types HO_9.out BK207.out (by decide)) (fun _ hk => hk.2) (.int .i64 t199)) (fun _ hk => hk.2) (.slice Ao22 t200.length co22)) (fun _ hk => hk.2) (.slice Ao24 t203.length co24)) (fun _ hk => ⟨hk.1.2.2, ⟨hk.1.1, hk.1.2.1⟩⟩)⟩
     have n1_ : Aside0 (Kd.R (Kd.int .i64) 3 (((w20.setCell ⟨gb207, 0, none⟩ (.int .i64 t199)).setCell ⟨gb207, 1, none⟩ (.slice Ao22 t200.length co22)).setCell ⟨gb207, 2, none⟩ (.slice Ao24 t203.length co24)) w.heap.size (fun k_ => some k_ ≠ (.slice Ao22 t200.length co22 : Value).ownBlock ∧ some k_ ≠ (.slice Ao24 t203.length co24 : Value).ownBlock) (.slice (some ad198) t195.length co16) t195) := ⟨by (with_reducible repeat (first | apply Kd.R_alloc | apply Kd.R_drewN | apply Kd.R_drew)); exact Kd.R_mono (h3 HO_10 BK207) (fun _ hk => ⟨hk.1.1, hk.1.2⟩)⟩
     have n2_ : Aside0 (Kd.R (Kd.int .i64) 3 (((w20.setCell ⟨gb207, 0, none⟩ (.int .i64 t199)).setCell ⟨gb207, 1, none⟩ (.slice Ao22 t200.length co22)).setCell ⟨gb207, 2, none⟩ (.slice Ao24 t203.length co24)) w.heap.size (fun k_ => some k_ ≠ (.slice (some ad198) t195.length co16 : Value).ownBlock ∧ some k_ ≠ (.slice Ao24 t203.length co24 : Value).ownBlock) (.slice Ao22 t200.length co22) t200) := ⟨by (with_reducible repeat (first | apply Kd.R_alloc | apply Kd.R_drewN | apply Kd.R_drew)); exact Kd.R_mono (h3 HO202 BK207) (fun _ hk => ⟨hk.1.2, hk.1.1⟩)⟩
     have n3_ : Aside0 (Kd.R (Kd.int .i64) 3 (((w20.setCell ⟨gb207, 0, none⟩ (.int .i64 t199)).setCell ⟨gb207, 1, none⟩ (.slice Ao22 t200.length co22)).setCell ⟨gb207, 2, none⟩ (.slice Ao24 t203.length co24)) w.heap.size (fun k_ => some k_ ≠ (.slice (some ad198) t195.length co16 : Value).ownBlock ∧ some k_ ≠ (.slice Ao22 t200.length co22 : Value).ownBlock) (.slice Ao24 t203.length co24) t203) := ⟨by (with_reducible repeat (first | apply Kd.R_alloc | apply Kd.R_drewN | apply Kd.R_drew)); exact Kd.R_mono (h3 HO205 BK207) (fun _ hk => ⟨hk.1.2, hk.1.1⟩)⟩
     have n4_ : Aside0 ((((w20.setCell ⟨gb207, 0, none⟩ (.int .i64 t199)).setCell ⟨gb207, 1, none⟩ (.slice Ao22 t200.length co22)).setCell ⟨gb207, 2, none⟩ (.slice Ao24 t203.length co24)).heap[gb191]? = some (.cells #[.int .i64 a0_0, .int .i64 a0_1, .int .i64 a0_2, .slice A0_3 l0_3.length c0_3] 32 (0, 0))) := ⟨sp BK191⟩
     have n5_ : Aside0 ((((w20.setCell ⟨gb207, 0, none⟩ (.int .i64 t199)).setCell ⟨gb207, 1, none⟩ (.slice Ao22 t200.length co22)).setCell ⟨gb207, 2, none⟩ (.slice Ao24 t203.length co24)).heap[gb207]? = some (.cells #[.int .i64 t199, .slice Ao22 t200.length co22, .slice Ao24 t203.length co24] 50 (0, 0))) := ⟨sp BK207⟩
     have n6_ : Aside0 (Below w.heap.size w (((w20.setCell ⟨gb207, 0, none⟩ (.int .i64 t199)).setCell ⟨gb207, 1, none⟩ (.slice Ao22 t200.length co22)).setCell ⟨gb207, 2, none⟩ (.slice Ao24 t203.length co24))) := ⟨sbw⟩
     (try clear HO_9)
     (try clear HO_10)
     (try clear HO202)
     (try clear HO205)
     (try clear BK191)
     (try clear BK207)
     (try clear HB)
     generalize (((w20.setCell ⟨gb207, 0, none⟩ (.int .i64 t199)).setCell ⟨gb207, 1, none⟩ (.slice Ao22 t200.length co22)).setCell ⟨gb207, 2, none⟩ (.slice Ao24 t203.length co24)) = w26 at n0_ n1_ n2_ n3_ n4_ n5_ n6_ ⊢
     have HO_9 := n0_
     have HO_10 := n1_
     have HO202 := n2_
     have HO205 := n3_
     have BK191 := n4_
     have BK207 := n5_
     have HB := n6_
     clear n0_ n1_ n2_ n3_ n4_ n5_ n6_
     have hnb27 := NB207_191.out
     have hnc27 := NB191_207.out
     obtain ⟨_, _, _, _, _, _⟩ := cc3 BK207
     try go_wp2_with (first | ((with_reducible refine gate_builtin (b := .append) (xs := #[.tmp 36, .tmp 39]) rfl ?_); at_builtin; refine Kd.S_append (Kd.slice 3 (Kd.int .i64)) (w0 := w) w.heap.size rfl (.tmp 36) (.tmp 39) 26 25 (.slice none 0 0) 24 rfl Tryz.underlying26 info25 rfl (by decide) (by omega) u9 x9_1 t203 [.slice Ao24 t203.length co24] (fun k_ => some k_ ≠ (.slice (some ad198) t195.length co16 : Value).ownBlock ∧ some k_ ≠ (.slice Ao22 t200.length co22 : Value).ownBlock) (fun k_ => some k_ = (.slice Ao24 t203.length co24 : Value).ownBlock) rfl rfl ?aP (fun k_ hk_ => ((Kd.R_mono (ok' := fun k_ => ((fun k_ => some k_ ≠ (.slice (some ad198) t195.length co16 : Value).ownBlock ∧ some k_ ≠ (.slice Ao22 t200.length co22 : Value).ownBlock)) k_ ∧ some k_ ≠ (u9 : Value).ownBlock) (Kd.R_apart' (HO205.out) (Kd.S_typed HO_9.out) (by decide)) (fun k_ hk => ⟨⟨hk.1.1, hk.1.2⟩, hk.2⟩))).1 k_ hk_.symm) ?aF ?aO ?aB ?aS ?aL ?_; (case aP => exact Kd.M_row (Kd.R_mono (Kd.R_tight rfl (Kd.R_mono (ok' := fun k_ => ((fun k_ => some k_ ≠ (.slice (some ad198) t195.length co16 : Value).ownBlock ∧ some k_ ≠ (.slice Ao22 t200.length co22 : Value).ownBlock)) k_ ∧ some k_ ≠ (u9 : Value).ownBlock) (Kd.R_apart' (HO205.out) (Kd.S_typed HO_9.out) (by decide)) (fun k_ hk => ⟨⟨hk.1.1, hk.1.2⟩, hk.2⟩))) (fun _ h_ => h_))); (case aB => exact (sbw)); (case aF => exact (fun k_ hk => ⟨Kd.fresh' (Kd.R_lt (sr HO_10)) k_ hk, Kd.fresh' (Kd.R_lt (sr HO202)) k_ hk⟩)); (case aO => exact (by (with_reducible repeat (first | apply Kd.S_alloc | apply Kd.S_drewN | apply Kd.S_drew)); exact Kd.S_mono HO_9.out (fun k_ hk => ⟨⟨hk.1, hk.2.1⟩, fun e_ => hk.2.2 e_⟩))); (case aS => exact (below_size (sbw))); (case aL => have := LMc15.out; omega); intro v209 w29 ho hb hg hat; rw [← Ny208.out] at ho; replace HO_10 := am (Kd.R_over' (sr HO_10) (Kd.S_typed (ss HO_9)) (by decide) hg); replace BK191 := am (blk_grown (g := gb191) (o := .cells #[.int .i64 a0_0, .int .i64 a0_1, .int .i64 a0_2, .slice A0_3 l0_3.length c0_3] 32 (0, 0)) (sk BK191) hg (Kd.S_ne HO_9.out BK191.out (by decide))); replace HO202 := am (Kd.R_over' (sr HO202) (Kd.S_typed (ss HO_9)) (by decide) hg); replace BK207 := am (blk_grown (g := gb207) (o := .cells #[.int .i64 t199, .slice Ao22 t200.length co22, .slice Ao24 t203.length co24] 50 (0, 0)) (sk BK207) hg (Kd.S_ne HO_9.out BK207.out (by decide))); replace HB := am hb; have HO210 := am ho; clear HO_9 HO205; clear ho hb hg hat))
     go_roundg k1
     case measure => have := HK1.out; omega
     case rel => exact ⟨(y208), (wrap64 (x11_1 + 1)), sc, H', kk1, ⟨by (with_reducible repeat (first | apply Kd.S_alloc | apply Kd.S_drewN | apply Kd.S_drew)); exact Kd.S_mono HO210.out (fun _ hk => hk.1)⟩, ⟨by exact rm HO_10 (fun _ hk => trivial)⟩, ⟨sk BK191⟩, ⟨sbw⟩⟩
    ·replace H := im H
     have H' := am H
     clear H
     obtain ⟨Ao30, co30, eo30⟩ := Kd.R_slice HO_10.out
     subst eo30
     try go_wp2
     replace HO_9 := am (Kd.S_drew HO_9.out)
     replace HO_10 := am (Kd.R_drew HO_10.out)
     replace BK191 := am (blk_drew BK191.out)
     replace HB := am (below_drew1 HB.out)
     have p198 : 0 ≤ (x11_1 : Int) := sa
     have q198 : x11_1 < (t195.length : Int) := sa
     obtain ⟨ad198, e198, hx198_0⟩ := Kd.at_int (Kd.R_reads' HO_10.out).2.2 x11_1 p198 q198
     cases e198
     replace p198 := eq_true p198
     replace q198 := eq_true q198
     refine start_ (n := 13) (S := fun w' => w'.cell? ⟨gb191, 0, none⟩ = some (.int .i64 a0_0) ∧ w'.cell? ⟨gb191, 1, none⟩ = some (.int .i64 a0_1) ∧ w'.cell? ⟨gb191, 2, none⟩ = some (.int .i64 a0_2) ∧ w'.cell? ⟨gb191, 3, none⟩ = some (.slice A0_3 l0_3.length c0_3) ∧ w'.cell? (ad198.add (x11_1).toNat) = some (.int .i64 (rd t195 x11_1))) (ds := []) (bt 13 0) (by kernel_rfl) rfl (by kernel_rfl) ⟨bc0 BK191, bc1 BK191, bc2 BK191, bc3 BK191, hx198_0⟩ (fun hHeld => ?_); refine with_tabW spec_IsSafeMix.tab6 spec_IsSafeMix.bits6 (fun HT_ HW_ => ?_)
     generalize wr.drew = w31 at HO_9 HO_10 BK191 HB hx198_0 hHeld ⊢
     refine r4_ 1 2 3 5 ?_
     refine tv_ 0 ?_
     refine tv_ 4 ?_
     refine join_ (σ := Value × Value × Nat) 2 (bt 13 2047) (fun s_ => [(32, .tuple #[.agg #[.int .i64 t199, s_.1, s_.2.1], .bool false]), (12, .pointer (some ⟨s_.2.2, 0, none⟩)), (25, .tuple #[.agg #[.int .i64 t199, s_.1, s_.2.1], .bool false]), (33, .agg #[.int .i64 t199, s_.1, s_.2.1]), (34, .bool false)]) (fun s_ w' => (w'.cell? ⟨gb191, 0, none⟩ = some (.int .i64 a0_0) ∧ w'.cell? ⟨gb191, 1, none⟩ = some (.int .i64 a0_1) ∧ w'.cell? ⟨gb191, 2, none⟩ = some (.int .i64 a0_2) ∧ w'.cell? ⟨gb191, 3, none⟩ = some (.slice A0_3 l0_3.length c0_3) ∧ w'.cell? (ad198.add (x11_1).toNat) = some (.int .i64 (rd t195 x11_1))) ∧ (Kd.R (Kd.int .i64) 3 w' w.heap.size (fun k_ => some k_ ≠ (s_.2.1 : Value).ownBlock ∧ some k_ ≠ (.slice (some ad198) t195.length co30 : Value).ownBlock) s_.1 t200) ∧ (Kd.R (Kd.int .i64) 3 w' w.heap.size (fun k_ => some k_ ≠ (s_.1 : Value).ownBlock ∧ some k_ ≠ (.slice (some ad198) t195.length co30 : Value).ownBlock) s_.2.1 t203) ∧ (Kd.R (Kd.int .i64) 3 w' w.heap.size (fun k_ => some k_ ≠ (s_.1 : Value).ownBlock ∧ some k_ ≠ (s_.2.1 : Value).ownBlock) (.slice (some ad198) t195.length co30) t195) ∧ (Kd.S (Kd.slice 3 (Kd.int .i64)) 25 w' w.heap.size (fun k_ => some k_ ≠ (s_.1 : Value).ownBlock ∧ some k_ ≠ (s_.2.1 : Value).ownBlock ∧ some k_ ≠ (.slice (some ad198) t195.length co30 : Value).ownBlock) u9 x9_1) ∧ (w'.heap[gb191]? = some (.cells #[.int .i64 a0_0, .int .i64 a0_1, .int .i64 a0_2, .slice A0_3 l0_3.length c0_3] 32 (0, 0))) ∧ (w'.heap[s_.2.2]? = some (.cells #[.int .i64 0, .slice none 0 0, .slice none 0 0] 50 (0, 0))) ∧ (w.heap.size ≤ s_.2.2) ∧ (w.heap.size ≤ s_.2.2) ∧ (gb191 ≠ s_.2.2) ∧ (s_.2.2 ≠ gb191) ∧ (Below w.heap.size w w')) ?_ ?_
     rotate_left
     ·intro hCont
      refine tw_ 6 10 (fun K hK => ?_) (fun K hK => ?_)
      ·skip
       refine goes_ Tryz.func65 (by kernel_rfl) rfl #[.agg #[.int .i64 a0_0, .int .i64 a0_1, .int .i64 a0_2, .slice A0_3 l0_3.length c0_3], .int .i64 (rd t195 x11_1), .int .i64 a1] (by rfl) rfl rfl sl ?_
       with_reducible refine (spec_TableIn.calls a0_0 a0_1 a0_2 _ _ l0_3 (rd t195 x11_1) a1 t199 t200 t203 false _ ?side1 ?side2 A13.out).mono ?_
       (case side1 => exact cb HR0_3)
       (case side2 => exact HC0_3.out)
       rintro e w32 ⟨v201, v204, rfl, ho0, ho1, hb⟩
       have HS4_ := (hb.cell (World.block_lt_of_cell? _ _ (hHeld.2.2.2.2))).trans (hHeld.2.2.2.2)
       refine ⟨_, rfl, ?_⟩
       replace HO_9 := am (Kd.S_mono (Kd.S_told (Kd.S_told (Kd.S_old (ss HO_9) hb) (Kd.R_base ho0)) (Kd.R_base ho1)) (fun _ h_ => h_.1))
       have HO202 := am (Kd.R_lower (Kd.R_new' ho0 (Kd.R_lt (sr HO_10))) (below_size (sbw)))
       have HO205 := am (Kd.R_lower (Kd.R_new' ho1 (Kd.R_lt (sr HO_10))) (below_size (sbw)))
       replace HO_10 := am (Kd.R_mono (Kd.R_told (Kd.R_told (Kd.R_old (sr HO_10) hb) (Kd.R_base ho0)) (Kd.R_base ho1)) (fun _ h_ => h_.1))
       replace BK191 := bb BK191 hb
       replace HB := bsw hb
       (try clear hb)
       (try clear ho0)
       (try clear ho1)
       refine hw_ hK ⟨bc0 BK191, bc1 BK191, bc2 BK191, bc3 BK191, HS4_⟩ (fun hHeld => ?_)
       clear hK K
       refine r3_ 7 8 9 ?_
       refine ow_ 10 (fun K hK => ?_)
       refine box_step ?hg (N := 12) ?hd (cs := #[.int .i64 0, .slice none 0 0, .slice none 0 0]) (t := 50) ?hr ?_; (case hd => rfl); (case hg => rfl); (case hr => first | (go_simp; done) | (go_simp; rfl))
       intro gb207 hg w33 hbox hb
       have HS4_ := (hb.cell (World.block_lt_of_cell? _ _ (hHeld.2.2.2.2))).trans (hHeld.2.2.2.2)
       replace HO_9 := am (Kd.S_below (ss HO_9) hb)
       replace HO_10 := rb HO_10 hb
       replace HO202 := rb HO202 hb
       replace HO205 := rb HO205 hb
       have GW207 := bzw w hg
       have GE207 := bzw w hg
       replace HB := bsw hb
       have BK207 := am hbox
       have NB191_207 := nl BK191 hg
       have NB207_191 := ng BK191 hg
       replace BK191 := bb BK191 hb
       clear hb hbox hg
       refine hw_ hK ⟨bc0 BK191, bc1 BK191, bc2 BK191, bc3 BK191, HS4_⟩ (fun hHeld => ?_)
       clear hK K
       exact norm_ a4_2 (hCont (v201, v204, gb207) _ ⟨hHeld, (sr HO202), (sr HO205), a4_3, a4_1, (sk BK191), (sk BK207), GW207.out, GE207.out, NB191_207.out, NB207_191.out, (sbw)⟩)
      ·skip
       refine box_step ?hg (N := 12) ?hd (cs := #[.int .i64 0, .slice none 0 0, .slice none 0 0]) (t := 50) ?hr ?_; (case hd => rfl); (case hg => rfl); (case hr => first | (go_simp; done) | (go_simp; rfl))
       intro gb207 hg w32 hbox hb
       have HS4_ := (hb.cell (World.block_lt_of_cell? _ _ (hHeld.2.2.2.2))).trans (hHeld.2.2.2.2)
       replace HO_9 := am (Kd.S_below (ss HO_9) hb)
       replace HO_10 := rb HO_10 hb
       have GW207 := bzw w hg
       have GE207 := bzw w hg
       replace HB := bsw hb
       have BK207 := am hbox
       have NB191_207 := nl BK191 hg
       have NB207_191 := ng BK191 hg
       replace BK191 := bb BK191 hb
       clear hb hbox hg
       refine hw_ hK ⟨bc0 BK191, bc1 BK191, bc2 BK191, bc3 BK191, HS4_⟩ (fun hHeld => ?_)
       clear hK K
       refine ow_ 6 (fun K hK => ?_)
       refine goes_ Tryz.func65 (by kernel_rfl) rfl #[.agg #[.int .i64 a0_0, .int .i64 a0_1, .int .i64 a0_2, .slice A0_3 l0_3.length c0_3], .int .i64 (rd t195 x11_1), .int .i64 a1] (by rfl) rfl rfl sl ?_
       with_reducible refine (spec_TableIn.calls a0_0 a0_1 a0_2 _ _ l0_3 (rd t195 x11_1) a1 t199 t200 t203 false _ ?side1 ?side2 A13.out).mono ?_
       (case side1 => exact cb HR0_3)
       (case side2 => exact HC0_3.out)
       rintro e w33 ⟨v201, v204, rfl, ho0, ho1, hb⟩
       have HS4_ := (hb.cell (World.block_lt_of_cell? _ _ (hHeld.2.2.2.2))).trans (hHeld.2.2.2.2)
       refine ⟨_, rfl, ?_⟩
       replace HO_9 := am (Kd.S_mono (Kd.S_told (Kd.S_told (Kd.S_old (ss HO_9) hb) (Kd.R_base ho0)) (Kd.R_base ho1)) (fun _ h_ => h_.1))
       have HO202 := am (Kd.R_lower (Kd.R_new' ho0 (Kd.R_lt (sr HO_10))) (below_size (sbw)))
       have HO205 := am (Kd.R_lower (Kd.R_new' ho1 (Kd.R_lt (sr HO_10))) (below_size (sbw)))
       replace HO_10 := am (Kd.R_mono (Kd.R_told (Kd.R_told (Kd.R_old (sr HO_10) hb) (Kd.R_base ho0)) (Kd.R_base ho1)) (fun _ h_ => h_.1))
       replace BK191 := bb BK191 hb
       replace BK207 := bb BK207 hb
       replace HB := bsw hb
       (try clear hb)
       (try clear ho0)
       (try clear ho1)
       refine hw_ hK ⟨bc0 BK191, bc1 BK191, bc2 BK191, bc3 BK191, HS4_⟩ (fun hHeld => ?_)
       clear hK K
       refine r3_ 7 8 9 ?_
       exact norm_ a4_2 (hCont (v201, v204, gb207) _ ⟨hHeld, (sr HO202), (sr HO205), a4_3, a4_1, (sk BK191), (sk BK207), GW207.out, GE207.out, NB191_207.out, NB207_191.out, (sbw)⟩)
     rintro ⟨v201, v204, gb207⟩ w34 ⟨hS_, h0_, h1_, h2_, h3_, h4_, h5_, h6_, h7_, h8_, h9_, h10_⟩
     have HO202 : Aside0 (Kd.R (Kd.int .i64) 3 w34 w.heap.size (fun k_ => some k_ ≠ (v204 : Value).ownBlock ∧ some k_ ≠ (.slice (some ad198) t195.length co30 : Value).ownBlock) v201 t200) := ⟨h0_⟩
     have HO205 : Aside0 (Kd.R (Kd.int .i64) 3 w34 w.heap.size (fun k_ => some k_ ≠ (v201 : Value).ownBlock ∧ some k_ ≠ (.slice (some ad198) t195.length co30 : Value).ownBlock) v204 t203) := ⟨h1_⟩
     replace HO_10 : Aside0 (Kd.R (Kd.int .i64) 3 w34 w.heap.size (fun k_ => some k_ ≠ (v201 : Value).ownBlock ∧ some k_ ≠ (v204 : Value).ownBlock) (.slice (some ad198) t195.length co30) t195) := ⟨h2_⟩
     replace HO_9 : Aside0 (Kd.S (Kd.slice 3 (Kd.int .i64)) 25 w34 w.heap.size (fun k_ => some k_ ≠ (v201 : Value).ownBlock ∧ some k_ ≠ (v204 : Value).ownBlock ∧ some k_ ≠ (.slice (some ad198) t195.length co30 : Value).ownBlock) u9 x9_1) := ⟨h3_⟩
     replace BK191 : Aside0 (w34.heap[gb191]? = some (.cells #[.int .i64 a0_0, .int .i64 a0_1, .int .i64 a0_2, .slice A0_3 l0_3.length c0_3] 32 (0, 0))) := ⟨h4_⟩
     have BK207 : Aside0 (w34.heap[gb207]? = some (.cells #[.int .i64 0, .slice none 0 0, .slice none 0 0] 50 (0, 0))) := ⟨h5_⟩
     have GW207 : Aside0 (w.heap.size ≤ gb207) := ⟨h6_⟩
     have GE207 : Aside0 (w.heap.size ≤ gb207) := ⟨h7_⟩
     have NB191_207 : Aside0 (gb191 ≠ gb207) := ⟨h8_⟩
     have NB207_191 : Aside0 (gb207 ≠ gb191) := ⟨h9_⟩
     replace HB : Aside0 (Below w.heap.size w w34) := ⟨h10_⟩
     clear h0_ h1_ h2_ h3_ h4_ h5_ h6_ h7_ h8_ h9_ h10_
     have hHeld : w34.cell? ⟨gb191, 0, none⟩ = some (.int .i64 a0_0) ∧ w34.cell? ⟨gb191, 1, none⟩ = some (.int .i64 a0_1) ∧ w34.cell? ⟨gb191, 2, none⟩ = some (.int .i64 a0_2) ∧ w34.cell? ⟨gb191, 3, none⟩ = some (.slice A0_3 l0_3.length c0_3) ∧ w34.cell? (ad198.add (x11_1).toNat) = some (.int .i64 (rd t195 x11_1)) := hS_
     obtain ⟨Ao36, co36, eo36⟩ := Kd.R_slice HO202.out
     (first | subst eo36 | (injection eo36 with f1_ f2_ f3_; have f4_ := f1_.symm; have f5_ := f3_.symm; clear f1_ f2_ f3_; subst f4_; subst f5_))
     obtain ⟨Ao38, co38, eo38⟩ := Kd.R_slice HO205.out
     (first | subst eo38 | (injection eo38 with f1_ f2_ f3_; have f4_ := f1_.symm; have f5_ := f3_.symm; clear f1_ f2_ f3_; subst f4_; subst f5_))
     refine norm_ (a' := ?_) ?_ ?_
     rotate_left
     ·simp only [putAll, Act.put, List.setIfInBounds_toArray, List.set_cons_zero, List.set_cons_succ]
      rfl
     refine one_ (i := 11) (N := none) (bt 13 4095) rfl rfl (one_of HT_.out (by kernel_rfl)) (by decide) (fun K hK => ?_)
     obtain ⟨hs35, hfs35⟩ := cc1 BK207
     have hns35_0 := NB191_207.out
     have hms35_0 := NB207_191.out
     have hs37 := bc1 BK207
     have hfs37 := bf BK207 1
     have hns37_0 := NB191_207.out
     have hms37_0 := NB207_191.out
     have hs39 := bc2 BK207
     have hfs39 := bf BK207 2
     have hns39_0 := NB191_207.out
     have hms39_0 := NB207_191.out
     refine skip_ (w1 := ?_) (by rfl) rfl ?_ ?_
     rotate_left
     ·go_simp
      rfl
     refine hK.out _ _ ⟨((cell_far (p := ⟨gb207, _, none⟩) NB191_207.out _).trans (((cell_far (p := ⟨gb207, _, none⟩) NB191_207.out _).trans (((cell_far (p := ⟨gb207, _, none⟩) NB191_207.out _).trans (hHeld.1)))))), ((cell_far (p := ⟨gb207, _, none⟩) NB191_207.out _).trans (((cell_far (p := ⟨gb207, _, none⟩) NB191_207.out _).trans (((cell_far (p := ⟨gb207, _, none⟩) NB191_207.out _).trans (hHeld.2.1)))))), ((cell_far (p := ⟨gb207, _, none⟩) NB191_207.out _).trans (((cell_far (p := ⟨gb207, _, none⟩) NB191_207.out _).trans (((cell_far (p := ⟨gb207, _, none⟩) NB191_207.out _).trans (hHeld.2.2.1)))))), ((cell_far (p := ⟨gb207, _, none⟩) NB191_207.out _).trans (((cell_far (p := ⟨gb207, _, none⟩) NB191_207.out _).trans (((cell_far (p := ⟨gb207, _, none⟩) NB191_207.out _).trans (hHeld.2.2.2.1)))))), ((cell_far (p := ⟨gb207, _, none⟩) a4_0 _).trans (((cell_far (p := ⟨gb207, _, none⟩) a4_0 _).trans (((cell_far (p := ⟨gb207, _, none⟩) a4_0 _).trans (hHeld.2.2.2.2))))))⟩ (fun hHeld => ?_)
     clear hK K
     refine r1_ 12 ?_
     refine done_ (done_of HT_.out (by kernel_rfl)) ?_
     try go_wp2
     go_roundg k1
     case measure => have := HK1.out; omega
     case rel => exact ⟨(x9_1), (wrap64 (x11_1 + 1)), sc, H', kk1, ⟨by (with_reducible repeat (first | apply Kd.S_alloc | apply Kd.S_drewN | apply Kd.S_drew)); exact Kd.S_mono (Kd.S_far (p := ⟨gb207, 2, none⟩) (Kd.S_far (p := ⟨gb207, 1, none⟩) (Kd.S_far (p := ⟨gb207, 0, none⟩) (Kd.S_types HO_9.out BK207.out (by decide)) (fun _ hk => hk.2) (.int .i64 t199)) (fun _ hk => hk.2) (.slice Ao36 t200.length co36)) (fun _ hk => hk.2) (.slice Ao38 t203.length co38)) (fun _ hk => hk.1.2.2)⟩, ⟨by (with_reducible repeat (first | apply Kd.R_alloc | apply Kd.R_drewN | apply Kd.R_drew)); exact Kd.R_mono (h3 HO_10 BK207) (fun _ hk => trivial)⟩, ⟨sp BK191⟩, ⟨sbw⟩⟩
   ·obtain ⟨t211, A40, H⟩ := bnd H
    obtain rfl := Option.some.inj H
    obtain ⟨Ao41, co41, eo41⟩ := Kd.R_slice HO_10.out
    subst eo41
    obtain ⟨Ao42, co42, eo42⟩ := Kd.S_slice HO_9.out
    subst eo42
    go_wp2_with (first | ((with_reducible refine gc 144 rfl ?_); refine gL (some 42) Tryz.func144 #[.slice Ao42 x9_1.length co42] ?_; (with_reducible refine (spec_UnionHasLoop.calls k1 _ _ x9_1 t211 _ ?side1 ?side2 A40.out).mono ?_); (case side1 => repeat (first | exact (Kd.S_reads' HO_9.out).2.2 | (with_reducible refine Kd.C_alloc ?_ _) | (with_reducible refine Kd.C_drewN ?_ _) | (with_reducible refine Kd.C_drew ?_))); (case side2 => exact (Kd.S_reads' HO_9.out).2.1); rintro e w43 ⟨rfl, hb⟩; refine ⟨_, rfl, ?_⟩; replace HO_9 := am (Kd.S_below (ss HO_9) hb); replace HO_10 := rb HO_10 hb; replace BK191 := bb BK191 hb; replace HB := bsw hb; (try clear hb)))
    go_ret
    exact ⟨se, sbw⟩

end Go.Proofs.YthnlkgbhohchoaaGreat.QFnExactRepairedAt
