/- What the Go functions of the law FnExactNextsAt come to, as Lean functions, and that they do: by a program of the session, out of the kit's printer. Conditions: none. (squeezed). -/
import Derived.Test.YtlakjlolahjphaaVFnExactNextsAtSq
import Derived.Test.YtlakjlolahjphaaVFnExactNextsAtQFnExactNextsAtx0
import Derived.Test.YtlakjlolahjphaaVFnExactNextsAtQFnExactNextsAtx5
import Derived.Test.YtlakjlolahjphaaVFnExactNextsAtQFnExactNextsAtx6
import Derived.Test.YtlakjlolahjphaaVFnExactNextsAtQFnExactNextsAtx7
namespace Go.Proofs.Ytlakjlolahjphaa.QFnExactNextsAt
open Go.RowKit Go.Proofs.YtlakjlolahjphaaW.PrintWords Go.Proofs.YtlakjlolahjphaaW.PrintLast Go.Proofs.YtlakjlolahjphaaW.PrintMore Go.Proofs.Ytlakjlolahjphaa.Open Go.Proofs.Ytlakjlolahjphaa.Sq
attribute [local go_sem] max2_int min2_int max_two min_two max_three min_three max_four min_four   -- for this text's walks alone
attribute [local go_sem] isSome_set
set_option linter.unusedVariables false
set_option linter.unusedSimpArgs false

/-! ### spec_IsSafeMix: function 64 -/
def spec_IsSafeMix.l0 : Nat → Int → List (List Int) → List Int → Int → Int → Int → Int → List (S106) → Option (Bool)
  | 0, _, _, _, _, _, _, _, _ => none
  | k + 1, x1, x9, x10, x11, x286000, x286001, x286002, x286003 => if x11 < (x10.length : Int) then (if 0 ≤ x11 then ((spec_TableIn.f x286000 x286001 x286002 x286003 (rd x10 x11) x1).bind fun bt293 => (if bt293.2.2.2 = true then (if x9.length < 5864062014805 then (spec_IsSafeMix.l0 k x1 (x9 ++ [bt293.2.2.1]) x10 (wrap64 (x11 + 1)) x286000 x286001 x286002 x286003) else (none)) else (spec_IsSafeMix.l0 k x1 x9 x10 (wrap64 (x11 + 1)) x286000 x286001 x286002 x286003))) else (none)) else ((spec_UnionHasLoop.f k x9).bind fun t305 => (some (!t305)))
def spec_IsSafeMix.f (k : Nat) (a0_0 : Int) (a0_1 : Int) (a0_2 : Int) (l0_3 : List (S106)) (a1 : Int) (a2 : Int) (a3 : Int) : Option (Bool) := (spec_PiecesIn.f k a0_0 a0_1 a0_2 l0_3 a2 a3).bind fun t289 => (spec_IsSafeMix.l0 k a1 (([] : List (List Int))) t289 0 a0_0 a0_1 a0_2 l0_3)
theorem spec_IsSafeMix.mono_l : ∀ k, (∀ y0 y1 y2 y3 y4 y5 y6 y7, LeO (spec_IsSafeMix.l0 k y0 y1 y2 y3 y4 y5 y6 y7) (spec_IsSafeMix.l0 (k + 1) y0 y1 y2 y3 y4 y5 y6 y7))
  | 0 => fun _ _ _ _ _ _ _ _ r h => by simp [spec_IsSafeMix.l0] at h
  | k + 1 => by
    have ih0 := spec_IsSafeMix.mono_l k
    · intro y0 y1 y2 y3 y4 y5 y6 y7
      unfold spec_IsSafeMix.l0
      have m0 := @spec_PiecesIn.mono
      have m1 := @spec_UnionHasLoop.mono
      exact mo
theorem spec_IsSafeMix.mono : ∀ a0 a1 a2 a3 a4 a5 a6 k, LeO (spec_IsSafeMix.f k a0 a1 a2 a3 a4 a5 a6) (spec_IsSafeMix.f (k + 1) a0 a1 a2 a3 a4 a5 a6) := by
  intro a0 a1 a2 a3 a4 a5 a6 k
  have ih0 := spec_IsSafeMix.mono_l k
  unfold spec_IsSafeMix.f
  have m0 := @spec_PiecesIn.mono
  have m1 := @spec_UnionHasLoop.mono
  exact mo
def spec_IsSafeMix.T6 : Bool × List (List Nat × List Nat) := (true, [([], []), ([], []), ([], []), ([1, 2], [1, 2]), ([3], [3]), ([], []), ([0, 4, 5], [0, 4, 5]), ([6], [6]), ([7], [7]), ([7], [7]), ([], []), ([10, 8, 6, 0, 1, 2, 3, 4, 5, 6, 7, 8, 10], [8, 10]), ([9, 11, 0, 1, 2, 3, 4, 5, 6, 7, 8, 9, 10, 11], [9])])
def spec_IsSafeMix.B6 : List Nat := [0, 0, 0, 6, 14, 0, 63, 127, 255, 255, 0, 1535, 4095]
theorem spec_IsSafeMix.tab6 : rtab .any (opsOf Try.f64 6) = spec_IsSafeMix.T6 := by kernel_rfl
theorem spec_IsSafeMix.bits6 : waitsOk spec_IsSafeMix.T6.2 spec_IsSafeMix.B6 = true := by kernel_rfl
set_option maxHeartbeats 8000000 in
set_option maxRecDepth 100000 in
theorem spec_IsSafeMix.calls (k : Nat) (a0_0 : Int) (a0_1 : Int) (a0_2 : Int) (A0_3 : Option Addr) (c0_3 : Nat) (l0_3 : List (S106)) (a1 : Int) (a2 : Int) (a3 : Int) (r : Bool) (w : World) (hr0_3 : Kd.C k106 w A0_3 l0_3.length l0_3) (hc0_3 : l0_3.length ≤ c0_3) (h : spec_IsSafeMix.f k a0_0 a0_1 a0_2 l0_3 a1 a2 a3 = some r) :
    Calls Try.prog 64 #[.agg #[.int .i64 a0_0, .int .i64 a0_1, .int .i64 a0_2, .slice A0_3 l0_3.length c0_3], .int .i64 a1, .int .i64 a2, .int .i64 a3] w fun e w' => e = .returned (.bool r) ∧ Below w.heap.size w w' := by
 have hu29 := Try.underlying29
 have hu65 := Try.underlying65
 have HR0_3 := Aside0.mk hr0_3
 have HC0_3 := Aside0.mk hc0_3
 clear hr0_3 hc0_3
 have HB := Aside0.mk (Below.refl w.heap.size w)
 have H : ((spec_PiecesIn.f k a0_0 a0_1 a0_2 l0_3 a2 a3).bind fun t289 => (spec_IsSafeMix.l0 k a1 (([] : List (List Int))) t289 0 a0_0 a0_1 a0_2 l0_3)) = some r := h
 clear h
 obtain ⟨y286, hy286⟩ : ∃ y_ : List (List Int), y_ = (([] : List (List Int))) := ⟨_, rfl⟩
 replace H : ((spec_PiecesIn.f k a0_0 a0_1 a0_2 l0_3 a2 a3).bind fun t289 => (spec_IsSafeMix.l0 k a1 y286 t289 0 a0_0 a0_1 a0_2 l0_3)) = some r := by first | (rw [hy286]; with_reducible exact H) | (have H2_ := (Option.bind_some _ _).symm.trans H; rw [hy286]; with_reducible exact H2_) | (have H2_ := (Option.bind_some _ _).symm.trans H; with_reducible exact H2_) | with_reducible exact H | (rw [hy286]; exact H) | exact H
 have Ny286 := Aside0.mk hy286
 clear hy286
 obtain ⟨t289, A5, H⟩ := bnd H
 have H' := Aside0.mk H
 clear H
 go_enter Try.func64, Try.ntmps64
 go_wp2_with (first | ((with_reducible refine gate_dst (N := 4) rfl ?_); refine bx 4 #[.int .i64 a0_0, .int .i64 a0_1, .int .i64 a0_2, .slice A0_3 l0_3.length c0_3] 29 ?_; intro gb285 hg w6 hbox hb; have BK285 := Aside0.mk hbox; have GW285 := bz w hg; have GE285 := bz w hg; replace HB := bs hb; clear hb hbox hg) | ((with_reducible refine gate_dst (N := 14) rfl ?_); refine Kd.S_lit (Kd.slice 3 (Kd.int .i64)) _ 40 ?hg (N := 14) ?hd (xs := ([] : List (List Int))) (inner := []) (ok := fun _ => True) (okp := fun _ => True) ?hr ?hp (fun _ hk => hk) trivial (Below.refl _ _) (Nat.le_refl _) (by simp) ?_; (case hd => rfl); (case hg => rfl); (case hr => first | (go_simp; done) | (go_simp; rfl)); (case hp => exact (Reps.none _ _)); intro v287 w7 ho8 hb hg_ hnew_; clear hg_ hnew_; (first | rw [← Ny286.out] at ho8 | (simp only [Int.reduceToNat] at ho8; rw [← Ny286.out] at ho8)); have HO288 := Aside0.mk (Kd.S_lower ho8 (below_size (sbw))); replace BK285 := bb BK285 hb; replace HB := bsw hb; clear hb ho8; obtain ⟨hcz9_0, hcz9_1, hcz9_2, hcz9_3, hfz9_0, hfz9_1, hfz9_2, hfz9_3⟩ := cc4 BK285) | ((with_reducible refine gate_callee (f := 127) rfl ?_); refine gL (some 18) Try.func127 #[.agg #[.int .i64 a0_0, .int .i64 a0_1, .int .i64 a0_2, .slice A0_3 l0_3.length c0_3], .int .i64 a2, .int .i64 a3] ?_; (with_reducible refine (spec_PiecesIn.calls k a0_0 a0_1 a0_2 _ _ l0_3 a2 a3 t289 _ ?side1 ?side2 A5.out).mono ?_); (case side1 => exact cb HR0_3); (case side2 => exact HC0_3.out); rintro e w10 ⟨v290, rfl, ho0, hb⟩; refine ⟨_, rfl, ?_⟩; replace HO288 := Aside0.mk (Kd.S_elder' (ss HO288) (Kd.R_base ho0) hb); have HO291 := Aside0.mk (Kd.R_lower ho0 (below_size (sbw))); replace BK285 := bb BK285 hb; replace HB := bsw hb; (try clear hb); (try clear hb2); (try clear hk); (try clear hi); (try clear ho0)))
 go_loopg [9, 11] k (fun kq v9 v11 w' => ∃ (x9_1 : List (List Int)) (x11_1 : Int), v11 = .int .i64 x11_1 ∧ Aside0 (spec_IsSafeMix.l0 kq a1 x9_1 t289 x11_1 a0_0 a0_1 a0_2 l0_3 = some r) ∧ Aside0 (kq ≤ k) ∧ Aside0 (Kd.S (Kd.slice 3 (Kd.int .i64)) 40 w' w.heap.size (fun k_ => some k_ ≠ (v290 : Value).ownBlock) v9 x9_1) ∧ Aside0 (Kd.R (Kd.int .i64) 3 w' w.heap.size (fun _ => True) v290 t289) ∧ Aside0 (w'.heap[gb285]? = some (.cells #[.int .i64 a0_0, .int .i64 a0_1, .int .i64 a0_2, (.slice A0_3 l0_3.length c0_3)] 29 (0, 0))) ∧ Aside0 (Below w.heap.size w w'))
 case atStart => exact ⟨(y286), (0), sc, H', kk0, ⟨by (with_reducible repeat (first | apply Kd.S_alloc | apply Kd.S_drewN | apply Kd.S_drew)); exact Kd.S_mono HO288.out (fun _ hk => hk.2)⟩, ⟨sr HO291⟩, ⟨sk BK285⟩, ⟨sbw⟩⟩
 case round =>
  clear H'
  obtain ⟨x9_1, x11_1, rfl, HA, HK1, HO_9, HO_10, BK285, HB⟩ := hrel
  cases gk with
  | zero => exact absurd HA.out (by simp [spec_IsSafeMix.l0])
  | succ k1 =>
   have H := HA.out
   clear HA
   simp only [spec_IsSafeMix.l0] at H
   obtain ⟨c11, H⟩ | ⟨c11, H⟩ := ie_ H
   ·have c11b0 := decide_eq_true c11
    clear c11
    obtain ⟨c12b0, H⟩ := id_ H
    obtain ⟨⟨t293, t294, t297, t300⟩, A13, H⟩ := bnd H
    replace H : (if t300 = true then (if x9_1.length < 5864062014805 then (spec_IsSafeMix.l0 k1 a1 (x9_1 ++ [t297]) t289 (wrap64 (x11_1 + 1)) a0_0 a0_1 a0_2 l0_3) else (none)) else (spec_IsSafeMix.l0 k1 a1 x9_1 t289 (wrap64 (x11_1 + 1)) a0_0 a0_1 a0_2 l0_3)) = some r := H
    obtain rfl | rfl := tt t300
    ·replace H := ip H
     obtain ⟨LMc15, H⟩ := il_ H
     obtain ⟨y302, hy302⟩ : ∃ y_ : List (List Int), y_ = (x9_1 ++ [t297]) := ⟨_, rfl⟩
     replace H : (spec_IsSafeMix.l0 k1 a1 y302 t289 (wrap64 (x11_1 + 1)) a0_0 a0_1 a0_2 l0_3) = some r := by first | (rw [hy302]; with_reducible exact H) | (have H2_ := (Option.bind_some _ _).symm.trans H; rw [hy302]; with_reducible exact H2_) | (have H2_ := (Option.bind_some _ _).symm.trans H; with_reducible exact H2_) | with_reducible exact H | (rw [hy302]; exact H) | exact H
     have Ny302 := Aside0.mk hy302
     clear hy302
     have H' := Aside0.mk H
     clear H
     obtain ⟨Ao16, co16, eo16⟩ := Kd.R_slice HO_10.out
     subst eo16
     try go_wp2
     replace HO_9 := Aside0.mk (Kd.S_drew HO_9.out)
     replace HO_10 := Aside0.mk (Kd.R_drew HO_10.out)
     replace BK285 := Aside0.mk (blk_drew BK285.out)
     replace HB := Aside0.mk (below_drew1 HB.out)
     have p292 : 0 ≤ (x11_1 : Int) := sa
     have q292 : x11_1 < (t289.length : Int) := sa
     obtain ⟨ad292, e292, hx292_0⟩ := Kd.at_int (Kd.R_reads' HO_10.out).2.2 x11_1 p292 q292
     cases e292
     replace p292 := eq_true p292
     replace q292 := eq_true q292
     refine start_ (n := 13) (S := fun w' => w'.cell? ⟨gb285, 0, none⟩ = some (.int .i64 a0_0) ∧ w'.cell? ⟨gb285, 1, none⟩ = some (.int .i64 a0_1) ∧ w'.cell? ⟨gb285, 2, none⟩ = some (.int .i64 a0_2) ∧ w'.cell? ⟨gb285, 3, none⟩ = some (.slice A0_3 l0_3.length c0_3) ∧ w'.cell? (ad292.add (x11_1).toNat) = some (.int .i64 (rd t289 x11_1))) (ds := []) #[false, false, false, false, false, false, false, false, false, false, false, false, false] (by kernel_rfl) rfl rfl ⟨bc0 BK285, bc1 BK285, bc2 BK285, bc3 BK285, hx292_0⟩ (fun hHeld => ?_); refine with_tabW spec_IsSafeMix.tab6 spec_IsSafeMix.bits6 (fun HT_ HW_ => ?_)
     generalize wr.drew = w17 at HO_9 HO_10 BK285 HB hx292_0 hHeld ⊢
     refine put 1 27 #[false, true, false, false, false, false, false, false, false, false, false, false, false] HT_ ?_
     refine put 2 28 #[false, true, true, false, false, false, false, false, false, false, false, false, false] HT_ ?_
     refine put 3 29 #[false, true, true, true, false, false, false, false, false, false, false, false, false] HT_ ?_
     refine put 5 31 #[false, true, true, true, false, true, false, false, false, false, false, false, false] HT_ ?_
     refine tat5 0 26 #[true, true, true, true, false, true, false, false, false, false, false, false, false] HT_ HW_ hHeld ?_
     refine tat5 4 30 #[true, true, true, true, true, true, false, false, false, false, false, false, false] HT_ HW_ hHeld ?_
     refine join_ (σ := Value × Value × Nat) 2 #[true, true, true, true, true, true, true, true, true, true, true, false, false] (fun s_ => [(32, .tuple #[.agg #[.int .i64 t293, s_.1, s_.2.1], .bool true]), (12, .pointer (some ⟨s_.2.2, 0, none⟩)), (25, .tuple #[.agg #[.int .i64 t293, s_.1, s_.2.1], .bool true]), (33, .agg #[.int .i64 t293, s_.1, s_.2.1]), (34, .bool true)]) (fun s_ w' => (w'.cell? ⟨gb285, 0, none⟩ = some (.int .i64 a0_0) ∧ w'.cell? ⟨gb285, 1, none⟩ = some (.int .i64 a0_1) ∧ w'.cell? ⟨gb285, 2, none⟩ = some (.int .i64 a0_2) ∧ w'.cell? ⟨gb285, 3, none⟩ = some (.slice A0_3 l0_3.length c0_3) ∧ w'.cell? (ad292.add (x11_1).toNat) = some (.int .i64 (rd t289 x11_1))) ∧ (Kd.R (Kd.int .i64) 3 w' w.heap.size (fun k_ => some k_ ≠ (s_.2.1 : Value).ownBlock ∧ some k_ ≠ (.slice (some ad292) t289.length co16 : Value).ownBlock) s_.1 t294) ∧ (Kd.R (Kd.int .i64) 3 w' w.heap.size (fun k_ => some k_ ≠ (s_.1 : Value).ownBlock ∧ some k_ ≠ (.slice (some ad292) t289.length co16 : Value).ownBlock) s_.2.1 t297) ∧ (Kd.R (Kd.int .i64) 3 w' w.heap.size (fun k_ => some k_ ≠ (s_.1 : Value).ownBlock ∧ some k_ ≠ (s_.2.1 : Value).ownBlock) (.slice (some ad292) t289.length co16) t289) ∧ (Kd.S (Kd.slice 3 (Kd.int .i64)) 40 w' w.heap.size (fun k_ => some k_ ≠ (s_.1 : Value).ownBlock ∧ some k_ ≠ (s_.2.1 : Value).ownBlock ∧ some k_ ≠ (.slice (some ad292) t289.length co16 : Value).ownBlock) u9 x9_1) ∧ (w'.heap[gb285]? = some (.cells #[.int .i64 a0_0, .int .i64 a0_1, .int .i64 a0_2, .slice A0_3 l0_3.length c0_3] 29 (0, 0))) ∧ (w'.heap[s_.2.2]? = some (.cells #[.int .i64 0, .slice none 0 0, .slice none 0 0] 65 (0, 0))) ∧ (w.heap.size ≤ s_.2.2) ∧ (w.heap.size ≤ s_.2.2) ∧ (gb285 ≠ s_.2.2) ∧ (s_.2.2 ≠ gb285) ∧ (Below w.heap.size w w')) ?_ ?_
     rotate_left
     ·intro hCont
      refine two_ (i := 6) (j := 10) (Ni := some 32) (Nj := some 12) #[true, true, true, true, true, true, true, false, false, false, false, false, false] #[true, true, true, true, true, true, false, false, false, false, true, false, false] rfl rfl rfl rfl (two_of HT_.out (by kernel_rfl)) (by decide) (by decide) (fun K hK => ?_) (fun K hK => ?_)
      ·skip
       refine goes_ Try.func104 (by kernel_rfl) rfl #[.agg #[.int .i64 a0_0, .int .i64 a0_1, .int .i64 a0_2, .slice A0_3 l0_3.length c0_3], .int .i64 (rd t289 x11_1), .int .i64 a1] (by rfl) rfl rfl sl ?_
       with_reducible refine (spec_TableIn.calls a0_0 a0_1 a0_2 _ _ l0_3 (rd t289 x11_1) a1 t293 t294 t297 true _ ?side1 ?side2 A13.out).mono ?_
       (case side1 => exact cb HR0_3)
       (case side2 => exact HC0_3.out)
       rintro e w18 ⟨v295, v298, rfl, ho0, ho1, hb⟩
       have HS4_ := (hb.cell (World.block_lt_of_cell? _ _ (hHeld.2.2.2.2))).trans (hHeld.2.2.2.2)
       refine ⟨_, rfl, ?_⟩
       replace HO_9 := Aside0.mk (Kd.S_mono (Kd.S_told (Kd.S_told (Kd.S_old (ss HO_9) hb) (Kd.R_base ho0)) (Kd.R_base ho1)) (fun _ h_ => h_.1))
       have HO296 := Aside0.mk (Kd.R_lower (Kd.R_new' ho0 (Kd.R_lt (sr HO_10))) (below_size (sbw)))
       have HO299 := Aside0.mk (Kd.R_lower (Kd.R_new' ho1 (Kd.R_lt (sr HO_10))) (below_size (sbw)))
       replace HO_10 := Aside0.mk (Kd.R_mono (Kd.R_told (Kd.R_told (Kd.R_old (sr HO_10) hb) (Kd.R_base ho0)) (Kd.R_base ho1)) (fun _ h_ => h_.1))
       replace BK285 := bb BK285 hb
       replace HB := bsw hb
       (try clear hb)
       (try clear hb2)
       (try clear hk)
       (try clear hi)
       (try clear ho0)
       (try clear ho1)
       refine hK.out _ _ ⟨bc0 BK285, bc1 BK285, bc2 BK285, bc3 BK285, HS4_⟩ (fun hHeld => ?_)
       clear hK K
       refine norm_ (a' := ?_) ?_ ?_
       rotate_left
       ·show Act.put _ (some 32) _ = _
        simp only [Act.put, List.setIfInBounds_toArray, List.set_cons_zero, List.set_cons_succ, i64_w, i32_w]
        rfl
       refine put 7 25 #[true, true, true, true, true, true, true, true, false, false, false, false, false] HT_ ?_
       refine put 8 33 #[true, true, true, true, true, true, true, true, true, false, false, false, false] HT_ ?_
       refine put 9 34 #[true, true, true, true, true, true, true, true, true, true, false, false, false] HT_ ?_
       refine one_ (i := 10) (N := some 12) #[true, true, true, true, true, true, true, true, true, true, true, false, false] rfl rfl (one_of HT_.out (by kernel_rfl)) (by decide) (fun K hK => ?_)
       refine box_step ?hg (N := 12) ?hd (cs := #[.int .i64 0, .slice none 0 0, .slice none 0 0]) (t := 65) ?hr ?_; (case hd => rfl); (case hg => rfl); (case hr => first | (go_simp; done) | (go_simp; rfl))
       intro gb301 hg w19 hbox hb
       have HS4_ := (hb.cell (World.block_lt_of_cell? _ _ (hHeld.2.2.2.2))).trans (hHeld.2.2.2.2)
       replace HO_9 := Aside0.mk (Kd.S_below (ss HO_9) hb)
       replace HO_10 := Aside0.mk (Kd.R_below (sr HO_10) hb)
       replace HO296 := Aside0.mk (Kd.R_below (sr HO296) hb)
       replace HO299 := Aside0.mk (Kd.R_below (sr HO299) hb)
       have BK301 := Aside0.mk hbox
       have GW301 := bzw w hg
       have GE301 := bzw w hg
       replace HB := bsw hb
       have NB285_301 := nl BK285 hg
       have NB301_285 := ng BK285 hg
       replace BK285 := bb BK285 hb
       clear hb hbox hg
       refine hK.out _ _ ⟨bc0 BK285, bc1 BK285, bc2 BK285, bc3 BK285, HS4_⟩ (fun hHeld => ?_)
       clear hK K
       refine norm_ (a' := ?_) ?_ ?_
       rotate_left
       ·show Act.put _ (some 12) _ = _
        simp only [Act.put, List.setIfInBounds_toArray, List.set_cons_zero, List.set_cons_succ, i64_w, i32_w]
        rfl
       exact norm_ (by simp only [putAll, Act.put, List.setIfInBounds_toArray, List.set_cons_zero, List.set_cons_succ]) (hCont (v295, v298, gb301) _ ⟨hHeld, (sr HO296), (sr HO299), (by (with_reducible repeat (first | apply Kd.R_alloc | apply Kd.R_drewN | apply Kd.R_drew)); exact Kd.R_mono HO_10.out (fun _ hk => ⟨hk.1.2, hk.2⟩)), (by (with_reducible repeat (first | apply Kd.S_alloc | apply Kd.S_drewN | apply Kd.S_drew)); exact Kd.S_mono HO_9.out (fun _ hk => ⟨hk.1.2, ⟨hk.2, hk.1.1⟩⟩)), (sk BK285), (sk BK301), GW301.out, GE301.out, NB285_301.out, NB301_285.out, (sbw)⟩)
      ·skip
       refine box_step ?hg (N := 12) ?hd (cs := #[.int .i64 0, .slice none 0 0, .slice none 0 0]) (t := 65) ?hr ?_; (case hd => rfl); (case hg => rfl); (case hr => first | (go_simp; done) | (go_simp; rfl))
       intro gb301 hg w18 hbox hb
       have HS4_ := (hb.cell (World.block_lt_of_cell? _ _ (hHeld.2.2.2.2))).trans (hHeld.2.2.2.2)
       replace HO_9 := Aside0.mk (Kd.S_below (ss HO_9) hb)
       replace HO_10 := Aside0.mk (Kd.R_below (sr HO_10) hb)
       have BK301 := Aside0.mk hbox
       have GW301 := bzw w hg
       have GE301 := bzw w hg
       replace HB := bsw hb
       have NB285_301 := nl BK285 hg
       have NB301_285 := ng BK285 hg
       replace BK285 := bb BK285 hb
       clear hb hbox hg
       refine hK.out _ _ ⟨bc0 BK285, bc1 BK285, bc2 BK285, bc3 BK285, HS4_⟩ (fun hHeld => ?_)
       clear hK K
       refine norm_ (a' := ?_) ?_ ?_
       rotate_left
       ·show Act.put _ (some 12) _ = _
        simp only [Act.put, List.setIfInBounds_toArray, List.set_cons_zero, List.set_cons_succ, i64_w, i32_w]
        rfl
       refine one_ (i := 6) (N := some 32) #[true, true, true, true, true, true, true, false, false, false, true, false, false] rfl rfl (one_of HT_.out (by kernel_rfl)) (by decide) (fun K hK => ?_)
       refine goes_ Try.func104 (by kernel_rfl) rfl #[.agg #[.int .i64 a0_0, .int .i64 a0_1, .int .i64 a0_2, .slice A0_3 l0_3.length c0_3], .int .i64 (rd t289 x11_1), .int .i64 a1] (by rfl) rfl rfl sl ?_
       with_reducible refine (spec_TableIn.calls a0_0 a0_1 a0_2 _ _ l0_3 (rd t289 x11_1) a1 t293 t294 t297 true _ ?side1 ?side2 A13.out).mono ?_
       (case side1 => exact cb HR0_3)
       (case side2 => exact HC0_3.out)
       rintro e w19 ⟨v295, v298, rfl, ho0, ho1, hb⟩
       have HS4_ := (hb.cell (World.block_lt_of_cell? _ _ (hHeld.2.2.2.2))).trans (hHeld.2.2.2.2)
       refine ⟨_, rfl, ?_⟩
       replace HO_9 := Aside0.mk (Kd.S_mono (Kd.S_told (Kd.S_told (Kd.S_old (ss HO_9) hb) (Kd.R_base ho0)) (Kd.R_base ho1)) (fun _ h_ => h_.1))
       have HO296 := Aside0.mk (Kd.R_lower (Kd.R_new' ho0 (Kd.R_lt (sr HO_10))) (below_size (sbw)))
       have HO299 := Aside0.mk (Kd.R_lower (Kd.R_new' ho1 (Kd.R_lt (sr HO_10))) (below_size (sbw)))
       replace HO_10 := Aside0.mk (Kd.R_mono (Kd.R_told (Kd.R_told (Kd.R_old (sr HO_10) hb) (Kd.R_base ho0)) (Kd.R_base ho1)) (fun _ h_ => h_.1))
       replace BK285 := bb BK285 hb
       replace BK301 := bb BK301 hb
       replace HB := bsw hb
       (try clear hb)
       (try clear hb2)
       (try clear hk)
       (try clear hi)
       (try clear ho0)
       (try clear ho1)
       refine hK.out _ _ ⟨bc0 BK285, bc1 BK285, bc2 BK285, bc3 BK285, HS4_⟩ (fun hHeld => ?_)
       clear hK K
       refine norm_ (a' := ?_) ?_ ?_
       rotate_left
       ·show Act.put _ (some 32) _ = _
        simp only [Act.put, List.setIfInBounds_toArray, List.set_cons_zero, List.set_cons_succ, i64_w, i32_w]
        rfl
       refine put 7 25 #[true, true, true, true, true, true, true, true, false, false, true, false, false] HT_ ?_
       refine put 8 33 #[true, true, true, true, true, true, true, true, true, false, true, false, false] HT_ ?_
       refine put 9 34 #[true, true, true, true, true, true, true, true, true, true, true, false, false] HT_ ?_
       exact norm_ (by simp only [putAll, Act.put, List.setIfInBounds_toArray, List.set_cons_zero, List.set_cons_succ]) (hCont (v295, v298, gb301) _ ⟨hHeld, (sr HO296), (sr HO299), (by (with_reducible repeat (first | apply Kd.R_alloc | apply Kd.R_drewN | apply Kd.R_drew)); exact Kd.R_mono HO_10.out (fun _ hk => ⟨hk.1.2, hk.2⟩)), (by (with_reducible repeat (first | apply Kd.S_alloc | apply Kd.S_drewN | apply Kd.S_drew)); exact Kd.S_mono HO_9.out (fun _ hk => ⟨hk.1.2, ⟨hk.2, hk.1.1⟩⟩)), (sk BK285), (sk BK301), GW301.out, GE301.out, NB285_301.out, NB301_285.out, (sbw)⟩)
     rintro ⟨v295, v298, gb301⟩ w20 ⟨hS_, h0_, h1_, h2_, h3_, h4_, h5_, h6_, h7_, h8_, h9_, h10_⟩
     have HO296 : Aside0 (Kd.R (Kd.int .i64) 3 w20 w.heap.size (fun k_ => some k_ ≠ (v298 : Value).ownBlock ∧ some k_ ≠ (.slice (some ad292) t289.length co16 : Value).ownBlock) v295 t294) := ⟨h0_⟩
     have HO299 : Aside0 (Kd.R (Kd.int .i64) 3 w20 w.heap.size (fun k_ => some k_ ≠ (v295 : Value).ownBlock ∧ some k_ ≠ (.slice (some ad292) t289.length co16 : Value).ownBlock) v298 t297) := ⟨h1_⟩
     replace HO_10 : Aside0 (Kd.R (Kd.int .i64) 3 w20 w.heap.size (fun k_ => some k_ ≠ (v295 : Value).ownBlock ∧ some k_ ≠ (v298 : Value).ownBlock) (.slice (some ad292) t289.length co16) t289) := ⟨h2_⟩
     replace HO_9 : Aside0 (Kd.S (Kd.slice 3 (Kd.int .i64)) 40 w20 w.heap.size (fun k_ => some k_ ≠ (v295 : Value).ownBlock ∧ some k_ ≠ (v298 : Value).ownBlock ∧ some k_ ≠ (.slice (some ad292) t289.length co16 : Value).ownBlock) u9 x9_1) := ⟨h3_⟩
     replace BK285 : Aside0 (w20.heap[gb285]? = some (.cells #[.int .i64 a0_0, .int .i64 a0_1, .int .i64 a0_2, .slice A0_3 l0_3.length c0_3] 29 (0, 0))) := ⟨h4_⟩
     have BK301 : Aside0 (w20.heap[gb301]? = some (.cells #[.int .i64 0, .slice none 0 0, .slice none 0 0] 65 (0, 0))) := ⟨h5_⟩
     have GW301 : Aside0 (w.heap.size ≤ gb301) := ⟨h6_⟩
     have GE301 : Aside0 (w.heap.size ≤ gb301) := ⟨h7_⟩
     have NB285_301 : Aside0 (gb285 ≠ gb301) := ⟨h8_⟩
     have NB301_285 : Aside0 (gb301 ≠ gb285) := ⟨h9_⟩
     replace HB : Aside0 (Below w.heap.size w w20) := ⟨h10_⟩
     clear h0_ h1_ h2_ h3_ h4_ h5_ h6_ h7_ h8_ h9_ h10_
     have hHeld : w20.cell? ⟨gb285, 0, none⟩ = some (.int .i64 a0_0) ∧ w20.cell? ⟨gb285, 1, none⟩ = some (.int .i64 a0_1) ∧ w20.cell? ⟨gb285, 2, none⟩ = some (.int .i64 a0_2) ∧ w20.cell? ⟨gb285, 3, none⟩ = some (.slice A0_3 l0_3.length c0_3) ∧ w20.cell? (ad292.add (x11_1).toNat) = some (.int .i64 (rd t289 x11_1)) := hS_
     obtain ⟨Ao22, co22, eo22⟩ := Kd.R_slice HO296.out
     (first | subst eo22 | (injection eo22 with f1_ f2_ f3_; have f4_ := f1_.symm; have f5_ := f3_.symm; clear f1_ f2_ f3_; subst f4_; subst f5_))
     obtain ⟨Ao24, co24, eo24⟩ := Kd.R_slice HO299.out
     (first | subst eo24 | (injection eo24 with f1_ f2_ f3_; have f4_ := f1_.symm; have f5_ := f3_.symm; clear f1_ f2_ f3_; subst f4_; subst f5_))
     refine norm_ (a' := ?_) ?_ ?_
     rotate_left
     ·simp only [putAll, Act.put, List.setIfInBounds_toArray, List.set_cons_zero, List.set_cons_succ]
      rfl
     refine one_ (i := 11) (N := none) #[true, true, true, true, true, true, true, true, true, true, true, true, false] rfl rfl (one_of HT_.out (by kernel_rfl)) (by decide) (fun K hK => ?_)
     obtain ⟨hs21, hfs21⟩ := cc1 BK301
     have hns21_0 := NB285_301.out
     have hms21_0 := NB301_285.out
     have hs23 := bc1 BK301
     have hfs23 := bf BK301 1
     have hns23_0 := NB285_301.out
     have hms23_0 := NB301_285.out
     have hs25 := bc2 BK301
     have hfs25 := bf BK301 2
     have hns25_0 := NB285_301.out
     have hms25_0 := NB301_285.out
     refine skip_ (w1 := ?_) (by rfl) rfl ?_ ?_
     rotate_left
     ·go_simp
      rfl
     refine hK.out _ _ ⟨((cell_far (p := ⟨gb301, _, none⟩) NB285_301.out _).trans (((cell_far (p := ⟨gb301, _, none⟩) NB285_301.out _).trans (((cell_far (p := ⟨gb301, _, none⟩) NB285_301.out _).trans (hHeld.1)))))), ((cell_far (p := ⟨gb301, _, none⟩) NB285_301.out _).trans (((cell_far (p := ⟨gb301, _, none⟩) NB285_301.out _).trans (((cell_far (p := ⟨gb301, _, none⟩) NB285_301.out _).trans (hHeld.2.1)))))), ((cell_far (p := ⟨gb301, _, none⟩) NB285_301.out _).trans (((cell_far (p := ⟨gb301, _, none⟩) NB285_301.out _).trans (((cell_far (p := ⟨gb301, _, none⟩) NB285_301.out _).trans (hHeld.2.2.1)))))), ((cell_far (p := ⟨gb301, _, none⟩) NB285_301.out _).trans (((cell_far (p := ⟨gb301, _, none⟩) NB285_301.out _).trans (((cell_far (p := ⟨gb301, _, none⟩) NB285_301.out _).trans (hHeld.2.2.2.1)))))), ((cell_far (p := ⟨gb301, _, none⟩) (by first | exact Kd.own_blk (Kd.R_ne HO_10.out BK301.out (by decide)) | (rw [add_block]; exact Kd.own_blk (Kd.R_ne HO_10.out BK301.out (by decide))) | (show (Addr.add _ _).block ≠ _; rw [add_block]; exact Kd.own_blk (Kd.R_ne HO_10.out BK301.out (by decide))) | (dsimp only; exact Kd.own_blk (Kd.R_ne HO_10.out BK301.out (by decide)))) _).trans (((cell_far (p := ⟨gb301, _, none⟩) (by first | exact Kd.own_blk (Kd.R_ne HO_10.out BK301.out (by decide)) | (rw [add_block]; exact Kd.own_blk (Kd.R_ne HO_10.out BK301.out (by decide))) | (show (Addr.add _ _).block ≠ _; rw [add_block]; exact Kd.own_blk (Kd.R_ne HO_10.out BK301.out (by decide))) | (dsimp only; exact Kd.own_blk (Kd.R_ne HO_10.out BK301.out (by decide)))) _).trans (((cell_far (p := ⟨gb301, _, none⟩) (by first | exact Kd.own_blk (Kd.R_ne HO_10.out BK301.out (by decide)) | (rw [add_block]; exact Kd.own_blk (Kd.R_ne HO_10.out BK301.out (by decide))) | (show (Addr.add _ _).block ≠ _; rw [add_block]; exact Kd.own_blk (Kd.R_ne HO_10.out BK301.out (by decide))) | (dsimp only; exact Kd.own_blk (Kd.R_ne HO_10.out BK301.out (by decide)))) _).trans (hHeld.2.2.2.2))))))⟩ (fun hHeld => ?_)
     clear hK K
     refine put 12 13 #[true, true, true, true, true, true, true, true, true, true, true, true, true] HT_ ?_
     refine done_ (done_of HT_.out (by kernel_rfl)) ?_
     have n0_ : Aside0 (Kd.S (Kd.slice 3 (Kd.int .i64)) 40 (((w20.setCell ⟨gb301, 0, none⟩ (.int .i64 t293)).setCell ⟨gb301, 1, none⟩ (.slice Ao22 t294.length co22)).setCell ⟨gb301, 2, none⟩ (.slice Ao24 t297.length co24)) w.heap.size (fun k_ => some k_ ≠ (.slice (some ad292) t289.length co16 : Value).ownBlock ∧ some k_ ≠ (.slice Ao22 t294.length co22 : Value).ownBlock ∧ some k_ ≠ (.slice Ao24 t297.length co24 : Value).ownBlock) u9 x9_1) := ⟨by (with_reducible repeat (first | apply Kd.S_alloc | apply Kd.S_drewN | apply Kd.S_drew)); exact Kd.S_mono (Kd.S_far (p := ⟨gb301, 2, none⟩) (Kd.S_far (p := ⟨gb301, 1, none⟩) (Kd.S_far (p := ⟨gb301, 0, none⟩) (Kd.S_types HO_9.out BK301.out (by decide)) (fun _ hk => hk.2) (.int .i64 t293)) (fun _ hk => hk.2) (.slice Ao22 t294.length co22)) (fun _ hk => hk.2) (.slice Ao24 t297.length co24)) (fun _ hk => ⟨hk.1.2.2, ⟨hk.1.1, hk.1.2.1⟩⟩)⟩
     have n1_ : Aside0 (Kd.R (Kd.int .i64) 3 (((w20.setCell ⟨gb301, 0, none⟩ (.int .i64 t293)).setCell ⟨gb301, 1, none⟩ (.slice Ao22 t294.length co22)).setCell ⟨gb301, 2, none⟩ (.slice Ao24 t297.length co24)) w.heap.size (fun k_ => some k_ ≠ (.slice Ao22 t294.length co22 : Value).ownBlock ∧ some k_ ≠ (.slice Ao24 t297.length co24 : Value).ownBlock) (.slice (some ad292) t289.length co16) t289) := ⟨by (with_reducible repeat (first | apply Kd.R_alloc | apply Kd.R_drewN | apply Kd.R_drew)); exact Kd.R_mono (Kd.R_far (p := ⟨gb301, 2, none⟩) (Kd.R_far (p := ⟨gb301, 1, none⟩) (Kd.R_far (p := ⟨gb301, 0, none⟩) (Kd.R_types HO_10.out BK301.out (by decide)) (fun _ hk => hk.2) (.int .i64 t293)) (fun _ hk => hk.2) (.slice Ao22 t294.length co22)) (fun _ hk => hk.2) (.slice Ao24 t297.length co24)) (fun _ hk => ⟨hk.1.1, hk.1.2⟩)⟩
     have n2_ : Aside0 (Kd.R (Kd.int .i64) 3 (((w20.setCell ⟨gb301, 0, none⟩ (.int .i64 t293)).setCell ⟨gb301, 1, none⟩ (.slice Ao22 t294.length co22)).setCell ⟨gb301, 2, none⟩ (.slice Ao24 t297.length co24)) w.heap.size (fun k_ => some k_ ≠ (.slice (some ad292) t289.length co16 : Value).ownBlock ∧ some k_ ≠ (.slice Ao24 t297.length co24 : Value).ownBlock) (.slice Ao22 t294.length co22) t294) := ⟨by (with_reducible repeat (first | apply Kd.R_alloc | apply Kd.R_drewN | apply Kd.R_drew)); exact Kd.R_mono (Kd.R_far (p := ⟨gb301, 2, none⟩) (Kd.R_far (p := ⟨gb301, 1, none⟩) (Kd.R_far (p := ⟨gb301, 0, none⟩) (Kd.R_types HO296.out BK301.out (by decide)) (fun _ hk => hk.2) (.int .i64 t293)) (fun _ hk => hk.2) (.slice Ao22 t294.length co22)) (fun _ hk => hk.2) (.slice Ao24 t297.length co24)) (fun _ hk => ⟨hk.1.2, hk.1.1⟩)⟩
     have n3_ : Aside0 (Kd.R (Kd.int .i64) 3 (((w20.setCell ⟨gb301, 0, none⟩ (.int .i64 t293)).setCell ⟨gb301, 1, none⟩ (.slice Ao22 t294.length co22)).setCell ⟨gb301, 2, none⟩ (.slice Ao24 t297.length co24)) w.heap.size (fun k_ => some k_ ≠ (.slice (some ad292) t289.length co16 : Value).ownBlock ∧ some k_ ≠ (.slice Ao22 t294.length co22 : Value).ownBlock) (.slice Ao24 t297.length co24) t297) := ⟨by (with_reducible repeat (first | apply Kd.R_alloc | apply Kd.R_drewN | apply Kd.R_drew)); exact Kd.R_mono (Kd.R_far (p := ⟨gb301, 2, none⟩) (Kd.R_far (p := ⟨gb301, 1, none⟩) (Kd.R_far (p := ⟨gb301, 0, none⟩) (Kd.R_types HO299.out BK301.out (by decide)) (fun _ hk => hk.2) (.int .i64 t293)) (fun _ hk => hk.2) (.slice Ao22 t294.length co22)) (fun _ hk => hk.2) (.slice Ao24 t297.length co24)) (fun _ hk => ⟨hk.1.2, hk.1.1⟩)⟩
     have n4_ : Aside0 ((((w20.setCell ⟨gb301, 0, none⟩ (.int .i64 t293)).setCell ⟨gb301, 1, none⟩ (.slice Ao22 t294.length co22)).setCell ⟨gb301, 2, none⟩ (.slice Ao24 t297.length co24)).heap[gb285]? = some (.cells #[.int .i64 a0_0, .int .i64 a0_1, .int .i64 a0_2, .slice A0_3 l0_3.length c0_3] 29 (0, 0))) := ⟨sp BK285⟩
     have n5_ : Aside0 ((((w20.setCell ⟨gb301, 0, none⟩ (.int .i64 t293)).setCell ⟨gb301, 1, none⟩ (.slice Ao22 t294.length co22)).setCell ⟨gb301, 2, none⟩ (.slice Ao24 t297.length co24)).heap[gb301]? = some (.cells #[.int .i64 t293, .slice Ao22 t294.length co22, .slice Ao24 t297.length co24] 65 (0, 0))) := ⟨sp BK301⟩
     have n6_ : Aside0 (Below w.heap.size w (((w20.setCell ⟨gb301, 0, none⟩ (.int .i64 t293)).setCell ⟨gb301, 1, none⟩ (.slice Ao22 t294.length co22)).setCell ⟨gb301, 2, none⟩ (.slice Ao24 t297.length co24))) := ⟨sbw⟩
     (try clear HO_9)
     (try clear HO_10)
     (try clear HO296)
     (try clear HO299)
     (try clear BK285)
     (try clear BK301)
     (try clear HB)
     generalize (((w20.setCell ⟨gb301, 0, none⟩ (.int .i64 t293)).setCell ⟨gb301, 1, none⟩ (.slice Ao22 t294.length co22)).setCell ⟨gb301, 2, none⟩ (.slice Ao24 t297.length co24)) = w26 at n0_ n1_ n2_ n3_ n4_ n5_ n6_ ⊢
     have HO_9 := n0_
     have HO_10 := n1_
     have HO296 := n2_
     have HO299 := n3_
     have BK285 := n4_
     have BK301 := n5_
     have HB := n6_
     clear n0_ n1_ n2_ n3_ n4_ n5_ n6_
     have hnb27 := NB301_285.out
     have hnc27 := NB285_301.out
     obtain ⟨hcz28_0, hcz28_1, hcz28_2, hfz28_0, hfz28_1, hfz28_2⟩ := cc3 BK301
     try go_wp2_with (first | ((with_reducible refine gate_builtin (b := .append) (xs := #[.tmp 36, .tmp 39]) rfl ?_); at_builtin; refine Kd.S_append (Kd.slice 3 (Kd.int .i64)) (w0 := w) w.heap.size rfl (.tmp 36) (.tmp 39) 100 40 (.slice none 0 0) 24 rfl Try.underlying100 info40 rfl (by decide) (by omega) u9 x9_1 t297 [.slice Ao24 t297.length co24] (fun k_ => some k_ ≠ (.slice (some ad292) t289.length co16 : Value).ownBlock ∧ some k_ ≠ (.slice Ao22 t294.length co22 : Value).ownBlock) (fun k_ => some k_ = (.slice Ao24 t297.length co24 : Value).ownBlock) rfl rfl ?aP (fun k_ hk_ => ((Kd.R_mono (ok' := fun k_ => ((fun k_ => some k_ ≠ (.slice (some ad292) t289.length co16 : Value).ownBlock ∧ some k_ ≠ (.slice Ao22 t294.length co22 : Value).ownBlock)) k_ ∧ some k_ ≠ (u9 : Value).ownBlock) (Kd.R_apart' (HO299.out) (Kd.S_typed HO_9.out) (by decide)) (fun k_ hk => ⟨⟨hk.1.1, hk.1.2⟩, hk.2⟩))).1 k_ hk_.symm) ?aF ?aO ?aB ?aS ?aL ?_; (case aP => exact Kd.M_row (Kd.R_mono (Kd.R_tight rfl (Kd.R_mono (ok' := fun k_ => ((fun k_ => some k_ ≠ (.slice (some ad292) t289.length co16 : Value).ownBlock ∧ some k_ ≠ (.slice Ao22 t294.length co22 : Value).ownBlock)) k_ ∧ some k_ ≠ (u9 : Value).ownBlock) (Kd.R_apart' (HO299.out) (Kd.S_typed HO_9.out) (by decide)) (fun k_ hk => ⟨⟨hk.1.1, hk.1.2⟩, hk.2⟩))) (fun _ h_ => h_))); (case aB => exact (sbw)); (case aF => exact (fun k_ hk => ⟨Kd.fresh' (Kd.R_lt (sr HO_10)) k_ hk, Kd.fresh' (Kd.R_lt (sr HO296)) k_ hk⟩)); (case aO => exact (by (with_reducible repeat (first | apply Kd.S_alloc | apply Kd.S_drewN | apply Kd.S_drew)); exact Kd.S_mono HO_9.out (fun k_ hk => ⟨⟨hk.1, hk.2.1⟩, fun e_ => hk.2.2 e_⟩))); (case aS => exact (below_size (sbw))); (case aL => have := LMc15.out; omega); intro v303 w29 ho hb hg hat; rw [← Ny302.out] at ho; replace HO_10 := Aside0.mk (Kd.R_over' (sr HO_10) (Kd.S_typed (ss HO_9)) (by decide) hg); replace BK285 := Aside0.mk (blk_grown (g := gb285) (o := .cells #[.int .i64 a0_0, .int .i64 a0_1, .int .i64 a0_2, .slice A0_3 l0_3.length c0_3] 29 (0, 0)) (sk BK285) hg (Kd.S_ne HO_9.out BK285.out (by decide))); replace HO296 := Aside0.mk (Kd.R_over' (sr HO296) (Kd.S_typed (ss HO_9)) (by decide) hg); replace BK301 := Aside0.mk (blk_grown (g := gb301) (o := .cells #[.int .i64 t293, .slice Ao22 t294.length co22, .slice Ao24 t297.length co24] 65 (0, 0)) (sk BK301) hg (Kd.S_ne HO_9.out BK301.out (by decide))); replace HB := Aside0.mk hb; have HO304 := Aside0.mk ho; clear HO_9 HO299; clear ho hb hg hat))
     go_roundg k1
     case measure => have := HK1.out; omega
     case rel => exact ⟨(y302), (wrap64 (x11_1 + 1)), sc, H', kk1, ⟨by (with_reducible repeat (first | apply Kd.S_alloc | apply Kd.S_drewN | apply Kd.S_drew)); exact Kd.S_mono HO304.out (fun _ hk => hk.1)⟩, ⟨by (with_reducible repeat (first | apply Kd.R_alloc | apply Kd.R_drewN | apply Kd.R_drew)); exact Kd.R_mono HO_10.out (fun _ hk => trivial)⟩, ⟨sk BK285⟩, ⟨sbw⟩⟩
    ·replace H := im H
     have H' := Aside0.mk H
     clear H
     obtain ⟨Ao30, co30, eo30⟩ := Kd.R_slice HO_10.out
     subst eo30
     try go_wp2
     replace HO_9 := Aside0.mk (Kd.S_drew HO_9.out)
     replace HO_10 := Aside0.mk (Kd.R_drew HO_10.out)
     replace BK285 := Aside0.mk (blk_drew BK285.out)
     replace HB := Aside0.mk (below_drew1 HB.out)
     have p292 : 0 ≤ (x11_1 : Int) := sa
     have q292 : x11_1 < (t289.length : Int) := sa
     obtain ⟨ad292, e292, hx292_0⟩ := Kd.at_int (Kd.R_reads' HO_10.out).2.2 x11_1 p292 q292
     cases e292
     replace p292 := eq_true p292
     replace q292 := eq_true q292
     refine start_ (n := 13) (S := fun w' => w'.cell? ⟨gb285, 0, none⟩ = some (.int .i64 a0_0) ∧ w'.cell? ⟨gb285, 1, none⟩ = some (.int .i64 a0_1) ∧ w'.cell? ⟨gb285, 2, none⟩ = some (.int .i64 a0_2) ∧ w'.cell? ⟨gb285, 3, none⟩ = some (.slice A0_3 l0_3.length c0_3) ∧ w'.cell? (ad292.add (x11_1).toNat) = some (.int .i64 (rd t289 x11_1))) (ds := []) #[false, false, false, false, false, false, false, false, false, false, false, false, false] (by kernel_rfl) rfl rfl ⟨bc0 BK285, bc1 BK285, bc2 BK285, bc3 BK285, hx292_0⟩ (fun hHeld => ?_); refine with_tabW spec_IsSafeMix.tab6 spec_IsSafeMix.bits6 (fun HT_ HW_ => ?_)
     generalize wr.drew = w31 at HO_9 HO_10 BK285 HB hx292_0 hHeld ⊢
     refine put 1 27 #[false, true, false, false, false, false, false, false, false, false, false, false, false] HT_ ?_
     refine put 2 28 #[false, true, true, false, false, false, false, false, false, false, false, false, false] HT_ ?_
     refine put 3 29 #[false, true, true, true, false, false, false, false, false, false, false, false, false] HT_ ?_
     refine put 5 31 #[false, true, true, true, false, true, false, false, false, false, false, false, false] HT_ ?_
     refine tat5 0 26 #[true, true, true, true, false, true, false, false, false, false, false, false, false] HT_ HW_ hHeld ?_
     refine tat5 4 30 #[true, true, true, true, true, true, false, false, false, false, false, false, false] HT_ HW_ hHeld ?_
     refine join_ (σ := Value × Value × Nat) 2 #[true, true, true, true, true, true, true, true, true, true, true, false, false] (fun s_ => [(32, .tuple #[.agg #[.int .i64 t293, s_.1, s_.2.1], .bool false]), (12, .pointer (some ⟨s_.2.2, 0, none⟩)), (25, .tuple #[.agg #[.int .i64 t293, s_.1, s_.2.1], .bool false]), (33, .agg #[.int .i64 t293, s_.1, s_.2.1]), (34, .bool false)]) (fun s_ w' => (w'.cell? ⟨gb285, 0, none⟩ = some (.int .i64 a0_0) ∧ w'.cell? ⟨gb285, 1, none⟩ = some (.int .i64 a0_1) ∧ w'.cell? ⟨gb285, 2, none⟩ = some (.int .i64 a0_2) ∧ w'.cell? ⟨gb285, 3, none⟩ = some (.slice A0_3 l0_3.length c0_3) ∧ w'.cell? (ad292.add (x11_1).toNat) = some (.int .i64 (rd t289 x11_1))) ∧ (Kd.R (Kd.int .i64) 3 w' w.heap.size (fun k_ => some k_ ≠ (s_.2.1 : Value).ownBlock ∧ some k_ ≠ (.slice (some ad292) t289.length co30 : Value).ownBlock) s_.1 t294) ∧ (Kd.R (Kd.int .i64) 3 w' w.heap.size (fun k_ => some k_ ≠ (s_.1 : Value).ownBlock ∧ some k_ ≠ (.slice (some ad292) t289.length co30 : Value).ownBlock) s_.2.1 t297) ∧ (Kd.R (Kd.int .i64) 3 w' w.heap.size (fun k_ => some k_ ≠ (s_.1 : Value).ownBlock ∧ some k_ ≠ (s_.2.1 : Value).ownBlock) (.slice (some ad292) t289.length co30) t289) ∧ (Kd.S (Kd.slice 3 (Kd.int .i64)) 40 w' w.heap.size (fun k_ => some k_ ≠ (s_.1 : Value).ownBlock ∧ some k_ ≠ (s_.2.1 : Value).ownBlock ∧ some k_ ≠ (.slice (some ad292) t289.length co30 : Value).ownBlock) u9 x9_1) ∧ (w'.heap[gb285]? = some (.cells #[.int .i64 a0_0, .int .i64 a0_1, .int .i64 a0_2, .slice A0_3 l0_3.length c0_3] 29 (0, 0))) ∧ (w'.heap[s_.2.2]? = some (.cells #[.int .i64 0, .slice none 0 0, .slice none 0 0] 65 (0, 0))) ∧ (w.heap.size ≤ s_.2.2) ∧ (w.heap.size ≤ s_.2.2) ∧ (gb285 ≠ s_.2.2) ∧ (s_.2.2 ≠ gb285) ∧ (Below w.heap.size w w')) ?_ ?_
     rotate_left
     ·intro hCont
      refine two_ (i := 6) (j := 10) (Ni := some 32) (Nj := some 12) #[true, true, true, true, true, true, true, false, false, false, false, false, false] #[true, true, true, true, true, true, false, false, false, false, true, false, false] rfl rfl rfl rfl (two_of HT_.out (by kernel_rfl)) (by decide) (by decide) (fun K hK => ?_) (fun K hK => ?_)
      ·skip
       refine goes_ Try.func104 (by kernel_rfl) rfl #[.agg #[.int .i64 a0_0, .int .i64 a0_1, .int .i64 a0_2, .slice A0_3 l0_3.length c0_3], .int .i64 (rd t289 x11_1), .int .i64 a1] (by rfl) rfl rfl sl ?_
       with_reducible refine (spec_TableIn.calls a0_0 a0_1 a0_2 _ _ l0_3 (rd t289 x11_1) a1 t293 t294 t297 false _ ?side1 ?side2 A13.out).mono ?_
       (case side1 => exact cb HR0_3)
       (case side2 => exact HC0_3.out)
       rintro e w32 ⟨v295, v298, rfl, ho0, ho1, hb⟩
       have HS4_ := (hb.cell (World.block_lt_of_cell? _ _ (hHeld.2.2.2.2))).trans (hHeld.2.2.2.2)
       refine ⟨_, rfl, ?_⟩
       replace HO_9 := Aside0.mk (Kd.S_mono (Kd.S_told (Kd.S_told (Kd.S_old (ss HO_9) hb) (Kd.R_base ho0)) (Kd.R_base ho1)) (fun _ h_ => h_.1))
       have HO296 := Aside0.mk (Kd.R_lower (Kd.R_new' ho0 (Kd.R_lt (sr HO_10))) (below_size (sbw)))
       have HO299 := Aside0.mk (Kd.R_lower (Kd.R_new' ho1 (Kd.R_lt (sr HO_10))) (below_size (sbw)))
       replace HO_10 := Aside0.mk (Kd.R_mono (Kd.R_told (Kd.R_told (Kd.R_old (sr HO_10) hb) (Kd.R_base ho0)) (Kd.R_base ho1)) (fun _ h_ => h_.1))
       replace BK285 := bb BK285 hb
       replace HB := bsw hb
       (try clear hb)
       (try clear hb2)
       (try clear hk)
       (try clear hi)
       (try clear ho0)
       (try clear ho1)
       refine hK.out _ _ ⟨bc0 BK285, bc1 BK285, bc2 BK285, bc3 BK285, HS4_⟩ (fun hHeld => ?_)
       clear hK K
       refine norm_ (a' := ?_) ?_ ?_
       rotate_left
       ·show Act.put _ (some 32) _ = _
        simp only [Act.put, List.setIfInBounds_toArray, List.set_cons_zero, List.set_cons_succ, i64_w, i32_w]
        rfl
       refine put 7 25 #[true, true, true, true, true, true, true, true, false, false, false, false, false] HT_ ?_
       refine put 8 33 #[true, true, true, true, true, true, true, true, true, false, false, false, false] HT_ ?_
       refine put 9 34 #[true, true, true, true, true, true, true, true, true, true, false, false, false] HT_ ?_
       refine one_ (i := 10) (N := some 12) #[true, true, true, true, true, true, true, true, true, true, true, false, false] rfl rfl (one_of HT_.out (by kernel_rfl)) (by decide) (fun K hK => ?_)
       refine box_step ?hg (N := 12) ?hd (cs := #[.int .i64 0, .slice none 0 0, .slice none 0 0]) (t := 65) ?hr ?_; (case hd => rfl); (case hg => rfl); (case hr => first | (go_simp; done) | (go_simp; rfl))
       intro gb301 hg w33 hbox hb
       have HS4_ := (hb.cell (World.block_lt_of_cell? _ _ (hHeld.2.2.2.2))).trans (hHeld.2.2.2.2)
       replace HO_9 := Aside0.mk (Kd.S_below (ss HO_9) hb)
       replace HO_10 := Aside0.mk (Kd.R_below (sr HO_10) hb)
       replace HO296 := Aside0.mk (Kd.R_below (sr HO296) hb)
       replace HO299 := Aside0.mk (Kd.R_below (sr HO299) hb)
       have BK301 := Aside0.mk hbox
       have GW301 := bzw w hg
       have GE301 := bzw w hg
       replace HB := bsw hb
       have NB285_301 := nl BK285 hg
       have NB301_285 := ng BK285 hg
       replace BK285 := bb BK285 hb
       clear hb hbox hg
       refine hK.out _ _ ⟨bc0 BK285, bc1 BK285, bc2 BK285, bc3 BK285, HS4_⟩ (fun hHeld => ?_)
       clear hK K
       refine norm_ (a' := ?_) ?_ ?_
       rotate_left
       ·show Act.put _ (some 12) _ = _
        simp only [Act.put, List.setIfInBounds_toArray, List.set_cons_zero, List.set_cons_succ, i64_w, i32_w]
        rfl
       exact norm_ (by simp only [putAll, Act.put, List.setIfInBounds_toArray, List.set_cons_zero, List.set_cons_succ]) (hCont (v295, v298, gb301) _ ⟨hHeld, (sr HO296), (sr HO299), (by (with_reducible repeat (first | apply Kd.R_alloc | apply Kd.R_drewN | apply Kd.R_drew)); exact Kd.R_mono HO_10.out (fun _ hk => ⟨hk.1.2, hk.2⟩)), (by (with_reducible repeat (first | apply Kd.S_alloc | apply Kd.S_drewN | apply Kd.S_drew)); exact Kd.S_mono HO_9.out (fun _ hk => ⟨hk.1.2, ⟨hk.2, hk.1.1⟩⟩)), (sk BK285), (sk BK301), GW301.out, GE301.out, NB285_301.out, NB301_285.out, (sbw)⟩)
      ·skip
       refine box_step ?hg (N := 12) ?hd (cs := #[.int .i64 0, .slice none 0 0, .slice none 0 0]) (t := 65) ?hr ?_; (case hd => rfl); (case hg => rfl); (case hr => first | (go_simp; done) | (go_simp; rfl))
       intro gb301 hg w32 hbox hb
       have HS4_ := (hb.cell (World.block_lt_of_cell? _ _ (hHeld.2.2.2.2))).trans (hHeld.2.2.2.2)
       replace HO_9 := Aside0.mk (Kd.S_below (ss HO_9) hb)
       replace HO_10 := Aside0.mk (Kd.R_below (sr HO_10) hb)
       have BK301 := Aside0.mk hbox
       have GW301 := bzw w hg
       have GE301 := bzw w hg
       replace HB := bsw hb
       have NB285_301 := nl BK285 hg
       have NB301_285 := ng BK285 hg
       replace BK285 := bb BK285 hb
       clear hb hbox hg
       refine hK.out _ _ ⟨bc0 BK285, bc1 BK285, bc2 BK285, bc3 BK285, HS4_⟩ (fun hHeld => ?_)
       clear hK K
       refine norm_ (a' := ?_) ?_ ?_
       rotate_left
       ·show Act.put _ (some 12) _ = _
        simp only [Act.put, List.setIfInBounds_toArray, List.set_cons_zero, List.set_cons_succ, i64_w, i32_w]
        rfl
       refine one_ (i := 6) (N := some 32) #[true, true, true, true, true, true, true, false, false, false, true, false, false] rfl rfl (one_of HT_.out (by kernel_rfl)) (by decide) (fun K hK => ?_)
       refine goes_ Try.func104 (by kernel_rfl) rfl #[.agg #[.int .i64 a0_0, .int .i64 a0_1, .int .i64 a0_2, .slice A0_3 l0_3.length c0_3], .int .i64 (rd t289 x11_1), .int .i64 a1] (by rfl) rfl rfl sl ?_
       with_reducible refine (spec_TableIn.calls a0_0 a0_1 a0_2 _ _ l0_3 (rd t289 x11_1) a1 t293 t294 t297 false _ ?side1 ?side2 A13.out).mono ?_
       (case side1 => exact cb HR0_3)
       (case side2 => exact HC0_3.out)
       rintro e w33 ⟨v295, v298, rfl, ho0, ho1, hb⟩
       have HS4_ := (hb.cell (World.block_lt_of_cell? _ _ (hHeld.2.2.2.2))).trans (hHeld.2.2.2.2)
       refine ⟨_, rfl, ?_⟩
       replace HO_9 := Aside0.mk (Kd.S_mono (Kd.S_told (Kd.S_told (Kd.S_old (ss HO_9) hb) (Kd.R_base ho0)) (Kd.R_base ho1)) (fun _ h_ => h_.1))
       have HO296 := Aside0.mk (Kd.R_lower (Kd.R_new' ho0 (Kd.R_lt (sr HO_10))) (below_size (sbw)))
       have HO299 := Aside0.mk (Kd.R_lower (Kd.R_new' ho1 (Kd.R_lt (sr HO_10))) (below_size (sbw)))
       replace HO_10 := Aside0.mk (Kd.R_mono (Kd.R_told (Kd.R_told (Kd.R_old (sr HO_10) hb) (Kd.R_base ho0)) (Kd.R_base ho1)) (fun _ h_ => h_.1))
       replace BK285 := bb BK285 hb
       replace BK301 := bb BK301 hb
       replace HB := bsw hb
       (try clear hb)
       (try clear hb2)
       (try clear hk)
       (try clear hi)
       (try clear ho0)
       (try clear ho1)
       refine hK.out _ _ ⟨bc0 BK285, bc1 BK285, bc2 BK285, bc3 BK285, HS4_⟩ (fun hHeld => ?_)
       clear hK K
       refine norm_ (a' := ?_) ?_ ?_
       rotate_left
       ·show Act.put _ (some 32) _ = _
        simp only [Act.put, List.setIfInBounds_toArray, List.set_cons_zero, List.set_cons_succ, i64_w, i32_w]
        rfl
       refine put 7 25 #[true, true, true, true, true, true, true, true, false, false, true, false, false] HT_ ?_
       refine put 8 33 #[true, true, true, true, true, true, true, true, true, false, true, false, false] HT_ ?_
       refine put 9 34 #[true, true, true, true, true, true, true, true, true, true, true, false, false] HT_ ?_
       exact norm_ (by simp only [putAll, Act.put, List.setIfInBounds_toArray, List.set_cons_zero, List.set_cons_succ]) (hCont (v295, v298, gb301) _ ⟨hHeld, (sr HO296), (sr HO299), (by (with_reducible repeat (first | apply Kd.R_alloc | apply Kd.R_drewN | apply Kd.R_drew)); exact Kd.R_mono HO_10.out (fun _ hk => ⟨hk.1.2, hk.2⟩)), (by (with_reducible repeat (first | apply Kd.S_alloc | apply Kd.S_drewN | apply Kd.S_drew)); exact Kd.S_mono HO_9.out (fun _ hk => ⟨hk.1.2, ⟨hk.2, hk.1.1⟩⟩)), (sk BK285), (sk BK301), GW301.out, GE301.out, NB285_301.out, NB301_285.out, (sbw)⟩)
     rintro ⟨v295, v298, gb301⟩ w34 ⟨hS_, h0_, h1_, h2_, h3_, h4_, h5_, h6_, h7_, h8_, h9_, h10_⟩
     have HO296 : Aside0 (Kd.R (Kd.int .i64) 3 w34 w.heap.size (fun k_ => some k_ ≠ (v298 : Value).ownBlock ∧ some k_ ≠ (.slice (some ad292) t289.length co30 : Value).ownBlock) v295 t294) := ⟨h0_⟩
     have HO299 : Aside0 (Kd.R (Kd.int .i64) 3 w34 w.heap.size (fun k_ => some k_ ≠ (v295 : Value).ownBlock ∧ some k_ ≠ (.slice (some ad292) t289.length co30 : Value).ownBlock) v298 t297) := ⟨h1_⟩
     replace HO_10 : Aside0 (Kd.R (Kd.int .i64) 3 w34 w.heap.size (fun k_ => some k_ ≠ (v295 : Value).ownBlock ∧ some k_ ≠ (v298 : Value).ownBlock) (.slice (some ad292) t289.length co30) t289) := ⟨h2_⟩
     replace HO_9 : Aside0 (Kd.S (Kd.slice 3 (Kd.int .i64)) 40 w34 w.heap.size (fun k_ => some k_ ≠ (v295 : Value).ownBlock ∧ some k_ ≠ (v298 : Value).ownBlock ∧ some k_ ≠ (.slice (some ad292) t289.length co30 : Value).ownBlock) u9 x9_1) := ⟨h3_⟩
     replace BK285 : Aside0 (w34.heap[gb285]? = some (.cells #[.int .i64 a0_0, .int .i64 a0_1, .int .i64 a0_2, .slice A0_3 l0_3.length c0_3] 29 (0, 0))) := ⟨h4_⟩
     have BK301 : Aside0 (w34.heap[gb301]? = some (.cells #[.int .i64 0, .slice none 0 0, .slice none 0 0] 65 (0, 0))) := ⟨h5_⟩
     have GW301 : Aside0 (w.heap.size ≤ gb301) := ⟨h6_⟩
     have GE301 : Aside0 (w.heap.size ≤ gb301) := ⟨h7_⟩
     have NB285_301 : Aside0 (gb285 ≠ gb301) := ⟨h8_⟩
     have NB301_285 : Aside0 (gb301 ≠ gb285) := ⟨h9_⟩
     replace HB : Aside0 (Below w.heap.size w w34) := ⟨h10_⟩
     clear h0_ h1_ h2_ h3_ h4_ h5_ h6_ h7_ h8_ h9_ h10_
     have hHeld : w34.cell? ⟨gb285, 0, none⟩ = some (.int .i64 a0_0) ∧ w34.cell? ⟨gb285, 1, none⟩ = some (.int .i64 a0_1) ∧ w34.cell? ⟨gb285, 2, none⟩ = some (.int .i64 a0_2) ∧ w34.cell? ⟨gb285, 3, none⟩ = some (.slice A0_3 l0_3.length c0_3) ∧ w34.cell? (ad292.add (x11_1).toNat) = some (.int .i64 (rd t289 x11_1)) := hS_
     obtain ⟨Ao36, co36, eo36⟩ := Kd.R_slice HO296.out
     (first | subst eo36 | (injection eo36 with f1_ f2_ f3_; have f4_ := f1_.symm; have f5_ := f3_.symm; clear f1_ f2_ f3_; subst f4_; subst f5_))
     obtain ⟨Ao38, co38, eo38⟩ := Kd.R_slice HO299.out
     (first | subst eo38 | (injection eo38 with f1_ f2_ f3_; have f4_ := f1_.symm; have f5_ := f3_.symm; clear f1_ f2_ f3_; subst f4_; subst f5_))
     refine norm_ (a' := ?_) ?_ ?_
     rotate_left
     ·simp only [putAll, Act.put, List.setIfInBounds_toArray, List.set_cons_zero, List.set_cons_succ]
      rfl
     refine one_ (i := 11) (N := none) #[true, true, true, true, true, true, true, true, true, true, true, true, false] rfl rfl (one_of HT_.out (by kernel_rfl)) (by decide) (fun K hK => ?_)
     obtain ⟨hs35, hfs35⟩ := cc1 BK301
     have hns35_0 := NB285_301.out
     have hms35_0 := NB301_285.out
     have hs37 := bc1 BK301
     have hfs37 := bf BK301 1
     have hns37_0 := NB285_301.out
     have hms37_0 := NB301_285.out
     have hs39 := bc2 BK301
     have hfs39 := bf BK301 2
     have hns39_0 := NB285_301.out
     have hms39_0 := NB301_285.out
     refine skip_ (w1 := ?_) (by rfl) rfl ?_ ?_
     rotate_left
     ·go_simp
      rfl
     refine hK.out _ _ ⟨((cell_far (p := ⟨gb301, _, none⟩) NB285_301.out _).trans (((cell_far (p := ⟨gb301, _, none⟩) NB285_301.out _).trans (((cell_far (p := ⟨gb301, _, none⟩) NB285_301.out _).trans (hHeld.1)))))), ((cell_far (p := ⟨gb301, _, none⟩) NB285_301.out _).trans (((cell_far (p := ⟨gb301, _, none⟩) NB285_301.out _).trans (((cell_far (p := ⟨gb301, _, none⟩) NB285_301.out _).trans (hHeld.2.1)))))), ((cell_far (p := ⟨gb301, _, none⟩) NB285_301.out _).trans (((cell_far (p := ⟨gb301, _, none⟩) NB285_301.out _).trans (((cell_far (p := ⟨gb301, _, none⟩) NB285_301.out _).trans (hHeld.2.2.1)))))), ((cell_far (p := ⟨gb301, _, none⟩) NB285_301.out _).trans (((cell_far (p := ⟨gb301, _, none⟩) NB285_301.out _).trans (((cell_far (p := ⟨gb301, _, none⟩) NB285_301.out _).trans (hHeld.2.2.2.1)))))), ((cell_far (p := ⟨gb301, _, none⟩) (by first | exact Kd.own_blk (Kd.R_ne HO_10.out BK301.out (by decide)) | (rw [add_block]; exact Kd.own_blk (Kd.R_ne HO_10.out BK301.out (by decide))) | (show (Addr.add _ _).block ≠ _; rw [add_block]; exact Kd.own_blk (Kd.R_ne HO_10.out BK301.out (by decide))) | (dsimp only; exact Kd.own_blk (Kd.R_ne HO_10.out BK301.out (by decide)))) _).trans (((cell_far (p := ⟨gb301, _, none⟩) (by first | exact Kd.own_blk (Kd.R_ne HO_10.out BK301.out (by decide)) | (rw [add_block]; exact Kd.own_blk (Kd.R_ne HO_10.out BK301.out (by decide))) | (show (Addr.add _ _).block ≠ _; rw [add_block]; exact Kd.own_blk (Kd.R_ne HO_10.out BK301.out (by decide))) | (dsimp only; exact Kd.own_blk (Kd.R_ne HO_10.out BK301.out (by decide)))) _).trans (((cell_far (p := ⟨gb301, _, none⟩) (by first | exact Kd.own_blk (Kd.R_ne HO_10.out BK301.out (by decide)) | (rw [add_block]; exact Kd.own_blk (Kd.R_ne HO_10.out BK301.out (by decide))) | (show (Addr.add _ _).block ≠ _; rw [add_block]; exact Kd.own_blk (Kd.R_ne HO_10.out BK301.out (by decide))) | (dsimp only; exact Kd.own_blk (Kd.R_ne HO_10.out BK301.out (by decide)))) _).trans (hHeld.2.2.2.2))))))⟩ (fun hHeld => ?_)
     clear hK K
     refine put 12 13 #[true, true, true, true, true, true, true, true, true, true, true, true, true] HT_ ?_
     refine done_ (done_of HT_.out (by kernel_rfl)) ?_
     try go_wp2
     go_roundg k1
     case measure => have := HK1.out; omega
     case rel => exact ⟨(x9_1), (wrap64 (x11_1 + 1)), sc, H', kk1, ⟨by (with_reducible repeat (first | apply Kd.S_alloc | apply Kd.S_drewN | apply Kd.S_drew)); exact Kd.S_mono (Kd.S_far (p := ⟨gb301, 2, none⟩) (Kd.S_far (p := ⟨gb301, 1, none⟩) (Kd.S_far (p := ⟨gb301, 0, none⟩) (Kd.S_types HO_9.out BK301.out (by decide)) (fun _ hk => hk.2) (.int .i64 t293)) (fun _ hk => hk.2) (.slice Ao36 t294.length co36)) (fun _ hk => hk.2) (.slice Ao38 t297.length co38)) (fun _ hk => hk.1.2.2)⟩, ⟨by (with_reducible repeat (first | apply Kd.R_alloc | apply Kd.R_drewN | apply Kd.R_drew)); exact Kd.R_mono (Kd.R_far (p := ⟨gb301, 2, none⟩) (Kd.R_far (p := ⟨gb301, 1, none⟩) (Kd.R_far (p := ⟨gb301, 0, none⟩) (Kd.R_types HO_10.out BK301.out (by decide)) (fun _ hk => hk.2) (.int .i64 t293)) (fun _ hk => hk.2) (.slice Ao36 t294.length co36)) (fun _ hk => hk.2) (.slice Ao38 t297.length co38)) (fun _ hk => trivial)⟩, ⟨sp BK285⟩, ⟨sbw⟩⟩
   ·have c11b0 := decide_eq_false c11
    clear c11
    obtain ⟨t305, A40, H⟩ := bnd H
    obtain rfl := Option.some.inj H
    obtain ⟨Ao41, co41, eo41⟩ := Kd.R_slice HO_10.out
    subst eo41
    obtain ⟨Ao42, co42, eo42⟩ := Kd.S_slice HO_9.out
    subst eo42
    go_wp2_with (first | ((with_reducible refine gate_callee (f := 128) rfl ?_); refine gL (some 42) Try.func128 #[.slice Ao42 x9_1.length co42] ?_; (with_reducible refine (spec_UnionHasLoop.calls k1 _ _ x9_1 t305 _ ?side1 ?side2 A40.out).mono ?_); (case side1 => repeat (first | exact (Kd.S_reads' HO_9.out).2.2 | (with_reducible refine Kd.C_alloc ?_ _) | (with_reducible refine Kd.C_drewN ?_ _) | (with_reducible refine Kd.C_drew ?_))); (case side2 => exact (Kd.S_reads' HO_9.out).2.1); rintro e w43 ⟨rfl, hb⟩; refine ⟨_, rfl, ?_⟩; replace HO_9 := Aside0.mk (Kd.S_below (ss HO_9) hb); replace HO_10 := Aside0.mk (Kd.R_below (sr HO_10) hb); replace BK285 := bb BK285 hb; replace HB := bsw hb; (try clear hb); (try clear hb2); (try clear hk); (try clear hi)))
    go_ret
    exact ⟨se, sbw⟩

end Go.Proofs.Ytlakjlolahjphaa.QFnExactNextsAt
